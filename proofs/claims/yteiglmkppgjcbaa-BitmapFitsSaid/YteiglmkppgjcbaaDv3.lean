/-
  A part of the proof: own texts, laid together by a tool of our own: DvDraw DvReg DvGc DvRange DvVc.
-/
import Derived.Test.YteiglmkppgjcbaaDv2
import Derived.Orders
import Derived.TacticsIn
import Derived.OrdersIn
import Derived.RangeFuncCalls
import Derived.ControlIn
section
/-
  A region whose order is open: what is reckoned in the text's order holds in every order that its edges allow.
-/
set_option linter.unusedSimpArgs false
namespace Go.Dv
open Go.RowKit

theorem nbeq {a b : Nat} (h : a ≠ b) : Nat.beq a b = false := by
  cases hb : Nat.beq a b with
  | false => rfl
  | true => exact absurd (Nat.eq_of_beq_eq_true hb) h

theorem look_eq (p : Nat) (K : AV → Prop) (e : Env) : look p K e = K (lookF p e) := by
  induction e with
  | nil => rfl
  | cons hd e ih =>
    obtain ⟨q, v⟩ := hd
    show Bool.rec (motive := fun _ => Prop) (look p K e) (K v) (Nat.beq q p) = K (bif Nat.beq q p then v else lookF p e)
    cases Nat.beq q p with
    | true => rfl
    | false => exact ih

theorem ev_eq (env : Env) (o : Operand) (K : AV → Prop) : ev env o K = K (evF env o) := by
  cases o with
  | tmp t => exact look_eq t K env
  | _ => rfl

theorem evs_eq (env : Env) (l : List Operand) : ∀ (K : List AV → Prop), evs env l K = K (l.map (evF env)) := by
  induction l with
  | nil => intro K; rfl
  | cons o l ih =>
    intro K
    show (ev env o fun a => evs env l fun l => K (a :: l)) = _
    rw [ev_eq, ih]; rfl

theorem evO_eq (env : Env) (o : Option Operand) (K : Option AV → Prop) : evO env o K = K (o.map (evF env)) := by
  cases o with
  | none => rfl
  | some x => exact ev_eq env x _

theorem evParts_eq (env : Env) (l : List (Nat × Nat × Operand)) : ∀ (K : List (Nat × Nat × AV) → Prop), evParts env l K = K (l.map fun p => (p.1, p.2.1, evF env p.2.2)) := by
  induction l with
  | nil => intro K; rfl
  | cons o l ih =>
    intro K
    show (ev env o.2.2 fun a => evParts env l fun l => K ((o.1, o.2.1, a) :: l)) = _
    rw [ev_eq, ih]; rfl

section
variable {Γ : Ctx} {σ : Sto}

theorem evF_congr {env env' : Env} {o : Operand} (h : ∀ t ∈ rdOp o, lookF t env' = lookF t env) : evF env' o = evF env o := by
  cases o with
  | tmp t => exact h t (by simp [rdOp])
  | _ => rfl

theorem map_evF_congr {env env' : Env} {l : List Operand} (h : ∀ t ∈ l.flatMap rdOp, lookF t env' = lookF t env) : l.map (evF env') = l.map (evF env) :=
  List.map_congr_left fun o ho => evF_congr fun t ht => h t (List.mem_flatMap.2 ⟨o, ho, ht⟩)

theorem evFO_congr {env env' : Env} {o : Option Operand} (h : ∀ t ∈ rdO o, lookF t env' = lookF t env) : o.map (evF env') = o.map (evF env) := by
  cases o with
  | none => rfl
  | some x => exact congrArg some (evF_congr h)

theorem evK_congr {env env' : Env} {k : PK} {K : AV → Sto → Prop} (h : ∀ t ∈ k.reads, lookF t env' = lookF t env) : evK Γ env' σ k K = evK Γ env σ k K := by
  cases k with
  | mv x => simp only [evK, ev_eq, evF_congr (o := x) h]
  | nilS sz => rfl
  | nilR e sz => rfl
  | pick c a b =>
    have h1 := evF_congr (o := c) (env := env) (env' := env') fun t ht => h t (by simp [PK.reads, ht])
    have h2 := evF_congr (o := a) (env := env) (env' := env') fun t ht => h t (by simp [PK.reads, ht])
    have h3 := evF_congr (o := b) (env := env) (env' := env') fun t ht => h t (by simp [PK.reads, ht])
    simp only [evK, ev_eq, h1, h2, h3]
  | bin op x y =>
    have h1 := evF_congr (o := x) (env := env) (env' := env') fun t ht => h t (by simp [PK.reads, ht])
    have h2 := evF_congr (o := y) (env := env) (env' := env') fun t ht => h t (by simp [PK.reads, ht])
    simp only [evK, ev_eq, h1, h2]
  | eqb neg x y =>
    have h1 := evF_congr (o := x) (env := env) (env' := env') fun t ht => h t (by simp [PK.reads, ht])
    have h2 := evF_congr (o := y) (env := env) (env' := env') fun t ht => h t (by simp [PK.reads, ht])
    simp only [evK, ev_eq, h1, h2]
  | eqs neg n x y =>
    have h1 := evF_congr (o := x) (env := env) (env' := env') fun t ht => h t (by simp [PK.reads, ht])
    have h2 := evF_congr (o := y) (env := env) (env' := env') fun t ht => h t (by simp [PK.reads, ht])
    simp only [evK, ev_eq, h1, h2]
  | un op x => simp only [evK, ev_eq, evF_congr (o := x) h]
  | conv c x => simp only [evK, ev_eq, evF_congr (o := x) h]
  | lenS x => simp only [evK, ev_eq, evF_congr (o := x) h]
  | lenR x => simp only [evK, ev_eq, evF_congr (o := x) h]
  | lenN x => simp only [evK, ev_eq, evF_congr (o := x) h]
  | mm mx x y =>
    have h1 := evF_congr (o := x) (env := env) (env' := env') fun t ht => h t (by simp [PK.reads, ht])
    have h2 := evF_congr (o := y) (env := env) (env' := env') fun t ht => h t (by simp [PK.reads, ht])
    simp only [evK, ev_eq, h1, h2]
  | idx x y =>
    have h1 := evF_congr (o := x) (env := env) (env' := env') fun t ht => h t (by simp [PK.reads, ht])
    have h2 := evF_congr (o := y) (env := env) (env' := env') fun t ht => h t (by simp [PK.reads, ht])
    simp only [evK, ev_eq, h1, h2]
  | slcS x lo hi =>
    have h1 := evF_congr (o := x) (env := env) (env' := env') fun t ht => h t (by simp [PK.reads, ht])
    have h2 := evFO_congr (o := lo) (env := env) (env' := env') fun t ht => h t (by simp [PK.reads, ht])
    have h3 := evFO_congr (o := hi) (env := env) (env' := env') fun t ht => h t (by simp [PK.reads, ht])
    simp only [evK, ev_eq, evO_eq, h1, h2, h3]
  | slcR sz x lo hi =>
    have h1 := evF_congr (o := x) (env := env) (env' := env') fun t ht => h t (by simp [PK.reads, ht])
    have h2 := evFO_congr (o := lo) (env := env) (env' := env') fun t ht => h t (by simp [PK.reads, ht])
    have h3 := evFO_congr (o := hi) (env := env) (env' := env') fun t ht => h t (by simp [PK.reads, ht])
    simp only [evK, ev_eq, evO_eq, h1, h2, h3]
  | idxA sz x y =>
    have h1 := evF_congr (o := x) (env := env) (env' := env') fun t ht => h t (by simp [PK.reads, ht])
    have h2 := evF_congr (o := y) (env := env) (env' := env') fun t ht => h t (by simp [PK.reads, ht])
    simp only [evK, ev_eq, h1, h2]
  | fldA off x => simp only [evK, ev_eq, evF_congr (o := x) h]
  | fld off ag n x => simp only [evK, ev_eq, evF_congr (o := x) h]
  | load ag n x => simp only [evK, ev_eq, evF_congr (o := x) h]
  | store n x y =>
    have h1 := evF_congr (o := x) (env := env) (env' := env') fun t ht => h t (by simp [PK.reads, ht])
    have h2 := evF_congr (o := y) (env := env) (env' := env') fun t ht => h t (by simp [PK.reads, ht])
    simp only [evK, ev_eq, h1, h2]
  | alloc e z => rfl
  | box e x => simp only [evK, ev_eq, evF_congr (o := x) h]
  | build z ps =>
    have h1 : ps.map (fun p => (p.1, p.2.1, evF env' p.2.2)) = ps.map (fun p => (p.1, p.2.1, evF env p.2.2)) := by
      apply List.map_congr_left
      intro p hp
      rw [evF_congr fun t ht => h t (by simp only [PK.reads]; exact List.mem_flatMap.2 ⟨p, hp, ht⟩)]
    simp only [evK, evParts_eq, h1]
  | bslice e sz l =>
    have h1 := map_evF_congr (l := l) (env := env) (env' := env') h
    simp only [evK, evs_eq, h1]
  | bslP e sz l =>
    have h1 := map_evF_congr (l := l) (env := env) (env' := env') h
    simp only [evK, evs_eq, h1]
  | app e sz b x y =>
    have h1 := evF_congr (o := x) (env := env) (env' := env') fun t ht => h t (by simp [PK.reads, ht])
    have h2 := evF_congr (o := y) (env := env) (env' := env') fun t ht => h t (by simp [PK.reads, ht])
    simp only [evK, ev_eq, h1, h2]
  | appS e b x y =>
    have h1 := evF_congr (o := x) (env := env) (env' := env') fun t ht => h t (by simp [PK.reads, ht])
    have h2 := evF_congr (o := y) (env := env) (env' := env') fun t ht => h t (by simp [PK.reads, ht])
    simp only [evK, ev_eq, h1, h2]
  | mksl e sz b z x y =>
    have h1 := evF_congr (o := x) (env := env) (env' := env') fun t ht => h t (by simp [PK.reads, ht])
    have h2 := evF_congr (o := y) (env := env) (env' := env') fun t ht => h t (by simp [PK.reads, ht])
    simp only [evK, ev_eq, h1, h2]
  | call f l =>
    have h1 := map_evF_congr (l := l) (env := env) (env' := env') h
    simp only [evK, evs_eq, h1]
  | ext x i => simp only [evK, ev_eq, evF_congr (o := x) h]
  | nilck x => simp only [evK, ev_eq, evF_congr (o := x) h]
  | mkf f l =>
    have h1 := map_evF_congr (l := l) (env := env) (env' := env') h
    simp only [evK, evs_eq, h1]
  | callv x l =>
    have h1 := evF_congr (o := x) (env := env) (env' := env') fun t ht => h t (by simp [PK.reads, ht])
    have h2 := map_evF_congr (l := l) (env := env) (env' := env') fun t ht => h t (by
      show t ∈ rdOp x ++ l.flatMap rdOp
      exact List.mem_append_right _ ht)
    simp only [evK, ev_eq, evs_eq, h1, h2]
  | fail => rfl
  | junk => rfl
  | cpy sz x y =>
    have h1 := evF_congr (o := x) (env := env) (env' := env') fun t ht => h t (by simp [PK.reads, ht])
    have h2 := evF_congr (o := y) (env := env) (env' := env') fun t ht => h t (by simp [PK.reads, ht])
    simp only [evK, ev_eq, h1, h2]
  | cpyS x y =>
    have h1 := evF_congr (o := x) (env := env) (env' := env') fun t ht => h t (by simp [PK.reads, ht])
    have h2 := evF_congr (o := y) (env := env) (env' := env') fun t ht => h t (by simp [PK.reads, ht])
    simp only [evK, ev_eq, h1, h2]
  | clr sz z x => simp only [evK, ev_eq, evF_congr (o := x) h]
  | mkarr e sz z n => rfl
  | idxAr n sz x y =>
    have h1 := evF_congr (o := x) (env := env) (env' := env') fun t ht => h t (by simp [PK.reads, ht])
    have h2 := evF_congr (o := y) (env := env) (env' := env') fun t ht => h t (by simp [PK.reads, ht])
    simp only [evK, ev_eq, h1, h2]
  | slcA n sz x lo hi =>
    have h1 := evF_congr (o := x) (env := env) (env' := env') fun t ht => h t (by simp [PK.reads, ht])
    have h2 := evFO_congr (o := lo) (env := env) (env' := env') fun t ht => h t (by simp [PK.reads, ht])
    have h3 := evFO_congr (o := hi) (env := env) (env' := env') fun t ht => h t (by simp [PK.reads, ht])
    simp only [evK, ev_eq, evO_eq, h1, h2, h3]

/-- A predicate in passing style that passes one thing. -/
def Det {β : Type} (G : (β → Prop) → Prop) : Prop := ∀ K, G K → ∃ r, K r ∧ ∀ K' : β → Prop, K' r → G K'

theorem Det.ret {β : Type} (x : β) : Det fun K : β → Prop => K x := fun _ h => ⟨x, h, fun _ h => h⟩
theorem Det.no {β : Type} : Det fun _ : β → Prop => False := fun _ h => h.elim
theorem Det.and {β : Type} {p : Prop} {G : (β → Prop) → Prop} (h : Det G) : Det fun K => p ∧ G K := fun K hk => by
  obtain ⟨r, h1, h2⟩ := h K hk.2
  exact ⟨r, h1, fun K' h => ⟨hk.1, h2 K' h⟩⟩
theorem Det.imp {β : Type} {p : Prop} {G : (β → Prop) → Prop} (hp : p) (h : Det G) : Det fun K => p → G K := fun K hk => by
  obtain ⟨r, h1, h2⟩ := h K (hk hp)
  exact ⟨r, h1, fun K' h _ => h2 K' h⟩
theorem Det.ex {α β : Type} {G : α → (β → Prop) → Prop} (h : ∀ a, Det (G a)) : Det fun K => ∃ a, G a K := fun K ⟨a, hk⟩ => by
  obtain ⟨r, h1, h2⟩ := h a K hk
  exact ⟨r, h1, fun K' h => ⟨a, h2 K' h⟩⟩
theorem Det.num {β : Type} (f : Int → β) (n : Int) : Det fun K : β → Prop => ∀ r : Int, r = n → K (f r) := fun K h => ⟨f n, h n rfl, fun K' h r hr => hr ▸ h⟩
theorem Det.cmp {β : Type} (f : PV → β) (p : Prop) : Det fun K : β → Prop => cmpK p fun r => K (f r) := fun K h => by
  classical
  exact ⟨f (.bool (decide p)), h _ (by simp), fun K' h r hr => by
    have : r = decide p := by rw [Bool.eq_iff_iff]; simpa using hr
    rw [this]; exact h⟩
theorem Det.map {α β : Type} {G : (α → Prop) → Prop} (h : Det G) (f : α → β) : Det fun K => G fun a => K (f a) := fun K hk => by
  obtain ⟨r, h1, h2⟩ := h _ hk
  exact ⟨f r, h1, fun K' h => h2 _ h⟩
theorem Det.bind {α β : Type} {G : (α → Prop) → Prop} {H : α → (β → Prop) → Prop} (h : Det G) (h' : ∀ a, Det (H a)) : Det fun K => G fun a => H a K := fun K hk => by
  obtain ⟨a, h1, h2⟩ := h _ hk
  obtain ⟨r, h3, h4⟩ := h' a K h1
  exact ⟨r, h3, fun K' h => h2 _ (h4 K' h)⟩

theorem det_nthK {α : Type} (l : List α) : ∀ i, Det (nthK l i) := by
  induction l with
  | nil => intro i; exact Det.no
  | cons a l ih => intro i; cases i with
    | zero => exact Det.ret a
    | succ i => exact ih i
theorem det_takeK {α : Type} (n : Nat) : ∀ l : List α, Det (takeK n l) := by
  induction n with
  | zero => intro l; exact Det.ret _
  | succ n ih => intro l; cases l with
    | nil => exact Det.no
    | cons a l => exact (ih l).map (a :: ·)
theorem det_dropK {α : Type} (n : Nat) : ∀ l : List α, Det (dropK n l) := by
  induction n with
  | zero => intro l; exact Det.ret _
  | succ n ih => intro l; cases l with
    | nil => exact Det.no
    | cons a l => exact ih l
theorem det_spliceK {α : Type} (new l : List α) (i : Nat) : Det (spliceK new l i) := by
  intro K h
  obtain ⟨pre, mid, post, h1, h2, h3, h4⟩ := spliceK_spec new l i K h
  refine ⟨_, h4, fun K' h' => ?_⟩
  have over : ∀ (new l mid post : List α) (K : List α → Prop), l = mid ++ post → mid.length = new.length → K (new ++ post) →
      (List.rec (motive := fun _ => List α → (List α → Prop) → Prop) (fun l K => K l) (fun x _ ih l K => match l with | [] => False | _ :: r => ih r fun t => K (x :: t)) new l K) := by
    intro new
    induction new with
    | nil => intro l mid post K e hl hk; have : mid = [] := List.eq_nil_of_length_eq_zero hl; subst this; simp at e; subst e; exact hk
    | cons x new ih =>
      intro l mid post K e hl hk
      cases mid with
      | nil => simp at hl
      | cons m mid =>
        simp at e; subst e
        exact ih (mid ++ post) mid post _ rfl (by simpa using hl) hk
  clear h h4 K
  subst h1 h2
  induction pre generalizing K' with
  | nil =>
    cases hl : mid ++ post with
    | nil =>
      have hm : mid = [] := (List.append_eq_nil_iff.1 hl).1
      have hp : post = [] := (List.append_eq_nil_iff.1 hl).2
      subst hm hp
      have : new = [] := List.eq_nil_of_length_eq_zero h3.symm
      subst this
      exact h'
    | cons a r =>
      show spliceK new ([] ++ mid ++ post) 0 K'
      rw [List.nil_append, hl]
      exact over new (a :: r) mid post K' hl.symm h3 (by simpa using h')
  | cons a pre ih => exact ih _ (by simpa using h')

theorem det_pvsK (l : List PV) : Det (pvsK l) := by
  induction l with
  | nil => exact Det.ret _
  | cons x l ih => exact ih.map (AV.pv x :: ·)
theorem det_allPvK {β : Type} (l : List AV) (f : List PV → β) (e : β) : Det fun K : β → Prop => allPvK l (fun t => K (f t)) (K e) := by
  induction l generalizing f with
  | nil => exact Det.ret _
  | cons a l ih =>
    cases a with
    | pv x => exact ih fun t => f (x :: t)
    | _ => exact Det.ret e
theorem det_aggK (l : List AV) : Det (aggK l) := det_allPvK l (fun t => AV.pv (.agg t)) (AV.agg l)
theorem det_ofCells (ag : Bool) (cs : List PV) : Det (ofCells ag cs) := by
  cases ag with
  | true => exact Det.ret _
  | false => cases cs with
    | nil => exact Det.no
    | cons c cs => cases cs with
      | nil => exact Det.ret _
      | cons _ _ => exact Det.no
theorem det_ofAVs (ag : Bool) (cs : List AV) : Det (ofAVs ag cs) := by
  cases ag with
  | true => exact det_aggK cs
  | false => cases cs with
    | nil => exact Det.no
    | cons c cs => cases cs with
      | nil => exact Det.ret _
      | cons _ _ => exact Det.no
theorem det_partK (off : Nat) (ag : Bool) (n : Nat) (cs : List PV) : Det (partK off ag n cs) := (det_dropK off cs).bind fun r => (det_takeK n r).bind fun t => det_ofCells ag t
theorem det_cellsK (a : AV) : Det (cellsK a) := by
  cases a with
  | pv x => cases x with
    | agg cs => exact det_pvsK cs
    | tup _ => exact Det.no
    | _ => exact Det.ret _
  | agg cs => exact Det.ret _
  | own id => exact Det.ret _
  | ref id idx off => exact Det.ret _
  | sub id sz lo n => exact Det.ret _
  | clo f caps => exact Det.ret _
  | _ => exact Det.no
theorem det_buildK (ps : List (Nat × Nat × AV)) : ∀ z, Det (buildK z ps) := by
  induction ps with
  | nil => intro z; exact Det.ret z
  | cons p ps ih => intro z; exact (det_cellsK p.2.2).bind fun vs => Det.and ((det_spliceK vs z p.1).bind fun z => ih z)
theorem det_winK {β : Type} (sz lo n : Nat) (b : Blk) (f : List PV → (β → Prop) → Prop) (h : ∀ l, Det (f l)) : Det fun K => winK sz lo n b fun l => f l K := by
  have one : ∀ (s : Nat) (els : List PV), Det fun K : β → Prop => match Nat.beq s sz with
      | true => lo + n ≤ els.length ∧ f (cut lo (lo + n) els) K
      | false => False := by
    intro s els
    cases Nat.beq s sz with
    | true => exact Det.and (h _)
    | false => exact Det.no
  cases b with
  | row e s ap els => exact one s els
  | fz x => cases x with
    | sl s els => exact one s els
    | _ => exact Det.no
  | _ => exact Det.no
theorem det_rowK {β : Type} (a : AV) (f : Nat → List PV → (β → Prop) → Prop) (h : ∀ s l, Det (f s l)) : Det fun K => rowK σ a fun s l => f s l K := by
  cases a with
  | pv x => cases x with
    | sl sz els => exact h sz els
    | nil sz => exact h sz []
    | _ => exact Det.no
  | own id =>
    refine (det_nthK σ id).bind fun b => ?_
    cases b with
    | row e sz ap els => exact h sz els
    | fz x => cases x with
      | sl sz els => exact h sz els
      | _ => exact Det.no
    | _ => exact Det.no
  | sub id sz lo n => exact (det_nthK σ id).bind fun b => det_winK sz lo n b _ fun l => h sz l
  | _ => exact Det.no
theorem det_upK {β : Type} (n : Nat) (hi : Option AV) (f : Nat → (β → Prop) → Prop) (h : ∀ k, Det (f k)) : Det fun K => upK n hi fun k => f k K := by
  cases hi with
  | none => exact h n
  | some a => cases a with
    | pv x => cases x with
      | int k m => exact Det.and (h _)
      | _ => exact Det.no
    | _ => exact Det.no
theorem det_boundsK {β : Type} (n : Nat) (lo hi : Option AV) (f : Nat → Nat → (β → Prop) → Prop) (h : ∀ l k, Det (f l k)) : Det fun K => boundsK n lo hi fun l k => f l k K := by
  cases lo with
  | none => exact det_upK n hi _ fun k => h 0 k
  | some a => cases a with
    | pv x => cases x with
      | int k m => exact det_upK n hi (fun u K => (0 ≤ m ∧ m ≤ (u : Int)) ∧ f m.toNat u K) fun u => Det.and (h _ _)
      | _ => exact Det.no
    | _ => exact Det.no
theorem det_asInt {β : Type} (a : AV) (f : IntKind → Int → (β → Prop) → Prop) (h : ∀ k n, Det (f k n)) : Det fun K => Dv.asInt a fun k n => f k n K := by
  cases a with
  | pv x => cases x with
    | int k n => exact h k n
    | _ => exact Det.no
  | _ => exact Det.no
theorem det_binI {β : Type} (op : BinOp) (k : IntKind) (a b : Int) (f : PV → β) : Det fun K : β → Prop => binI op k a b fun r => K (f r) := by
  cases op <;> simp only [binI, numK] <;> first | exact Det.num (fun r => f (.int k r)) _ | exact Det.cmp f _ | exact Det.and (Det.num (fun r => f (.int k r)) _)
theorem det_binP {β : Type} (op : BinOp) (x y : PV) (f : PV → β) : Det fun K : β → Prop => binP op x y fun r => K (f r) := by
  cases x with
  | int k a => cases y with
    | int j b =>
      show Det fun K : β → Prop => match sameKind op k j with | true => binI op k a b fun r => K (f r) | false => False
      cases sameKind op k j with
      | true => exact det_binI op k a b f
      | false => exact Det.no
    | _ => exact Det.no
  | str a => cases y with
    | str b => cases op <;> simp only [binP] <;> first | exact Det.no | exact Det.cmp f _ | exact Det.and (Det.ret (f (.str (a ++ b))))
    | _ => exact Det.no
  | _ => exact Det.no
theorem det_readAV (a : AV) : Det (readAV σ a) := by
  refine AV.rec (motive_1 := fun a => Det (readAV σ a)) (motive_2 := fun l => Det (readAVs σ l)) ?_ ?_ ?_ ?_ ?_ ?_ ?_ ?_ ?_ ?_ a
  · exact Det.no
  · intro x; exact Det.ret x
  · intro id
    refine (det_nthK σ id).bind fun b => ?_
    cases b with
    | row e sz ap els => exact Det.ret _
    | fz x => exact Det.ret _
    | _ => exact Det.no
  · intro _ _ _; exact Det.no
  · intro id sz lo n; exact (det_nthK σ id).bind fun b => det_winK sz lo n b (fun l K => K (PV.sl sz l)) fun l => Det.ret _
  · intro cs ih K h
    obtain ⟨r, h1, h2⟩ := ih.map PV.agg K (readAV_agg σ cs K h)
    exact ⟨r, h1, fun K' h => readAV_agg' σ cs K' (h2 K' h)⟩
  · intro cs ih K h
    obtain ⟨r, h1, h2⟩ := ih.map PV.tup K (readAV_tup σ cs K h)
    exact ⟨r, h1, fun K' h => readAV_tup' σ cs K' (h2 K' h)⟩
  · intro _ _ _; exact Det.no
  · exact Det.ret _
  · intro a l h1 h2; exact h1.bind fun x => h2.map (x :: ·)
theorem det_readAVs (l : List AV) : Det (readAVs σ l) := by
  induction l with
  | nil => exact Det.ret _
  | cons a l ih => exact (det_readAV a).bind fun x => ih.map (x :: ·)

/-- A step that turns no row and passes one value. -/
def Det2 (σ : Sto) (G : (AV → Sto → Prop) → Prop) : Prop := ∀ K, G K → ∃ v, K v σ ∧ ∀ K' : AV → Sto → Prop, K' v σ → G K'

theorem Det.two {G : (AV → Prop) → Prop} (h : Det G) : Det2 σ fun K => G fun a => K a σ := fun K hk => by
  obtain ⟨r, h1, h2⟩ := h _ hk
  exact ⟨r, h1, fun K' h => h2 _ h⟩
theorem Det2.no : Det2 σ fun _ => False := fun _ h => h.elim
theorem Det2.ret (a : AV) : Det2 σ fun K => K a σ := fun _ h => ⟨a, h, fun _ h => h⟩
theorem Det2.bindK {β : Type} {G : (β → Prop) → Prop} {H : β → (AV → Sto → Prop) → Prop} (h : Det G) (h' : ∀ a, Det2 σ (H a)) : Det2 σ fun K => G fun a => H a K := fun K hk => by
  obtain ⟨a, h1, h2⟩ := h _ hk
  obtain ⟨r, h3, h4⟩ := h' a K h1
  exact ⟨r, h3, fun K' h => h2 _ (h4 K' h)⟩

theorem det_loadK (ag : Bool) (n : Nat) (a : AV) : Det (loadK σ ag n a) := by
  cases a with
  | pv x => cases x with
    | cptr y => exact (det_partK 0 ag n y.cells).map AV.pv
    | _ => exact Det.no
  | ref id idx off =>
    refine (det_nthK σ id).bind fun b => ?_
    cases b with
    | row e sz ap els => exact Det.ex fun y => Det.and ((det_partK off ag n y.cells).map AV.pv)
    | box e cs => exact (det_dropK off cs).bind fun r => (det_takeK n r).bind fun t => det_ofAVs ag t
    | fz x => cases x with
      | cptr y => exact (det_partK off ag n y.cells).map AV.pv
      | _ => exact Det.no
    | _ => exact Det.no
  | _ => exact Det.no
theorem det_idxAK (sz : Nat) (a : AV) (i : Int) : Det (idxAK σ sz a i) := by
  have one : ∀ (s : Nat) (els : List PV), Det fun K : AV → Prop => match Nat.beq s sz with
      | true => ∃ y, (0 ≤ i ∧ els[i.toNat]? = some y) ∧ K (.pv (.cptr y))
      | false => False := by
    intro s els
    cases Nat.beq s sz with
    | true => exact Det.ex fun y => Det.and (Det.ret (AV.pv (.cptr y)))
    | false => exact Det.no
  cases a with
  | pv x => cases x with
    | sl s els => exact one s els
    | _ => exact Det.no
  | own id =>
    refine (det_nthK σ id).bind fun b => ?_
    cases b with
    | row e s ap els =>
      show Det fun K : AV → Prop => match Nat.beq s sz with
        | true => (0 ≤ i ∧ i.toNat < els.length) ∧ K (.ref id i.toNat 0)
        | false => False
      cases Nat.beq s sz with
      | true => exact Det.and (Det.ret (AV.ref id i.toNat 0))
      | false => exact Det.no
    | fz x => cases x with
      | sl s els => exact one s els
      | _ => exact Det.no
    | _ => exact Det.no
  | sub id z lo n =>
    show Det fun K : AV → Prop => match Nat.beq z sz with
      | true => nthK σ id fun b => match b with
        | .row _ s _ els => match Nat.beq s sz with
          | true => ((0 ≤ i ∧ i.toNat < n) ∧ lo + n ≤ els.length) ∧ K (.ref id (lo + i.toNat) 0)
          | false => False
        | .fz x => match x with
          | .sl s els => match Nat.beq s sz with
            | true => ∃ y, ((0 ≤ i ∧ i.toNat < n ∧ lo + n ≤ els.length) ∧ els[lo + i.toNat]? = some y) ∧ K (.pv (.cptr y))
            | false => False
          | _ => False
        | _ => False
      | false => False
    cases Nat.beq z sz with
    | false => exact Det.no
    | true =>
      refine (det_nthK σ id).bind fun b => ?_
      cases b with
      | row e s ap els =>
        show Det fun K : AV → Prop => match Nat.beq s sz with
          | true => ((0 ≤ i ∧ i.toNat < n) ∧ lo + n ≤ els.length) ∧ K (.ref id (lo + i.toNat) 0)
          | false => False
        cases Nat.beq s sz with
        | true => exact Det.and (Det.ret _)
        | false => exact Det.no
      | fz x => cases x with
        | sl s els =>
          show Det fun K : AV → Prop => match Nat.beq s sz with
            | true => ∃ y, ((0 ≤ i ∧ i.toNat < n ∧ lo + n ≤ els.length) ∧ els[lo + i.toNat]? = some y) ∧ K (.pv (.cptr y))
            | false => False
          cases Nat.beq s sz with
          | true => exact Det.ex fun y => Det.and (Det.ret (AV.pv (.cptr y)))
          | false => exact Det.no
        | _ => exact Det.no
      | _ => exact Det.no
  | _ => exact Det.no
theorem det_idxArK (n sz : Nat) (a : AV) (i : Int) : Det (idxArK σ n sz a i) := by
  cases a with
  | ref id idx off =>
    cases idx with
    | succ idx => exact Det.no
    | zero => cases off with
      | succ off => exact Det.no
      | zero =>
        refine (det_nthK σ id).bind fun b => ?_
        cases b with
        | row e s ap els =>
          show Det fun K : AV → Prop => match Nat.beq s sz with
            | true => (els.length = n ∧ 0 ≤ i ∧ i.toNat < n) ∧ K (.ref id i.toNat 0)
            | false => False
          cases Nat.beq s sz with
          | true => exact Det.and (Det.ret _)
          | false => exact Det.no
        | _ => exact Det.no
  | _ => exact Det.no
theorem det_liveK {β : Type} (id : Nat) (r : β) : Det fun K : β → Prop => liveK σ id (K r) := by
  refine (det_nthK σ id).bind fun b => ?_
  cases b with
  | row _ _ _ _ => exact Det.ret r
  | box _ _ => exact Det.ret r
  | fz x => cases x with
    | cptr y => exact Det.ret r
    | _ => exact Det.no
  | _ => exact Det.no
theorem det_fldAK (off : Nat) (a : AV) : Det (fldAK σ off a) := by
  cases a with
  | pv x => cases x with
    | cptr y => exact (det_dropK off y.cells).map fun r => AV.pv (.cptr (.agg r))
    | _ => exact Det.no
  | ref id idx o => exact det_liveK id (AV.ref id idx (Nat.add o off))
  | _ => exact Det.no

theorem det_op {P : Program} (hΓ : Sound P Γ) (env : Env) {k : PK} (hk : k.pure Γ = true) : Det2 σ (fun K => evK Γ env σ k K) := by
  cases k with
  | mv x => simp only [evK, ev_eq]; exact Det2.ret _
  | nilS sz => exact Det2.ret _
  | nilR e sz => cases hk
  | pick c a b =>
    simp only [evK, ev_eq]
    cases evF env c with
    | pv c => cases c with
      | bool c => cases c with
        | true => exact Det2.ret _
        | false => exact Det2.ret _
      | _ => exact Det2.no
    | _ => exact Det2.no
  | bin op x y =>
    simp only [evK, ev_eq]
    cases evF env x with
    | pv x => cases evF env y with
      | pv y => exact (det_binP op x y AV.pv).two
      | _ => exact Det2.no
    | _ => exact Det2.no
  | eqb neg x y =>
    simp only [evK, ev_eq]
    cases evF env x with
    | pv x => cases evF env y with
      | pv y => cases x with
        | bool a => cases y with
          | bool b => cases neg with
            | false => exact (Det.cmp AV.pv (a = b)).two
            | true => exact (Det.cmp AV.pv (a ≠ b)).two
          | _ => exact Det2.no
        | _ => exact Det2.no
      | _ => exact Det2.no
    | _ => exact Det2.no
  | eqs neg n x y =>
    simp only [evK, ev_eq]
    cases evF env x with
    | pv x => cases evF env y with
      | pv y => cases x with
        | agg a => cases y with
          | agg b =>
            simp only
            cases likeB n a b with
            | false => exact Det2.no
            | true => cases neg with
              | false => exact (Det.cmp AV.pv (a = b)).two
              | true => exact (Det.cmp AV.pv (a ≠ b)).two
          | _ => exact Det2.no
        | _ => exact Det2.no
      | _ => exact Det2.no
    | _ => exact Det2.no
  | un op x =>
    simp only [evK, ev_eq]
    cases evF env x with
    | pv x => cases op with
      | not => cases x with
        | bool b => exact (Det.cmp AV.pv (b = false)).two
        | _ => exact Det2.no
      | neg => cases x with
        | int k n => exact (Det.num (fun r => AV.pv (.int k r)) _).two
        | _ => exact Det2.no
      | _ => exact Det2.no
    | _ => exact Det2.no
  | conv c x =>
    simp only [evK, ev_eq]
    cases c with
    | toInt k => exact (det_asInt (evF env x) (fun _ n K => numK k n fun r => K (AV.pv r)) fun _ n => Det.num (fun r => AV.pv (.int k r)) _).two
    | same =>
      cases evF env x with
      | pv x => cases x with
        | str l => exact Det2.ret _
        | _ => exact Det2.no
      | _ => exact Det2.no
    | bts => exact (det_rowK (σ := σ) (evF env x) (fun _ els K => ∃ l : List UInt8, els = l.map byteP ∧ K (AV.pv (.str l))) fun s els => Det.ex fun l => Det.and (Det.ret _)).two
    | stb e => cases hk
  | lenS x =>
    simp only [evK, ev_eq]
    cases evF env x with
    | pv x => cases x with
      | str l => exact Det2.ret _
      | _ => exact Det2.no
    | _ => exact Det2.no
  | lenR x => cases hk
  | lenN x =>
    simp only [evK, ev_eq]
    exact (det_rowK (σ := σ) (evF env x) (fun _ els K => K (AV.pv (.int .i64 els.length))) fun s els => Det.ret _).two
  | mm mx x y =>
    simp only [evK, ev_eq]
    cases mx with
    | true => exact (det_asInt (evF env x) (fun k a K => Dv.asInt (evF env y) fun _ b => ∀ r : Int, r = max a b → K (AV.pv (.int k r))) fun k a => det_asInt (evF env y) (fun _ b K => ∀ r : Int, r = max a b → K (AV.pv (.int k r))) fun _ b => Det.num (fun r => AV.pv (.int k r)) _).two
    | false => exact (det_asInt (evF env x) (fun k a K => Dv.asInt (evF env y) fun _ b => ∀ r : Int, r = min a b → K (AV.pv (.int k r))) fun k a => det_asInt (evF env y) (fun _ b K => ∀ r : Int, r = min a b → K (AV.pv (.int k r))) fun _ b => Det.num (fun r => AV.pv (.int k r)) _).two
  | idx x y =>
    simp only [evK, ev_eq]
    refine Det.two (G := fun K => Dv.asInt (evF env y) fun _ i => match evF env x with
      | .pv x => match x with
        | .str l => ∃ b, (0 ≤ i ∧ l[i.toNat]? = some b) ∧ K (AV.pv (byteP b))
        | _ => False
      | _ => False) ?_
    refine det_asInt _ _ fun _ i => ?_
    cases evF env x with
    | pv x => cases x with
      | str l => exact Det.ex fun b => Det.and (Det.ret _)
      | _ => exact Det.no
    | _ => exact Det.no
  | slcS x lo hi =>
    simp only [evK, ev_eq, evO_eq]
    cases evF env x with
    | pv x => cases x with
      | str l => exact (det_boundsK l.length _ _ (fun a b K => K (AV.pv (.str (cut a b l)))) fun a b => Det.ret _).two
      | _ => exact Det2.no
    | _ => exact Det2.no
  | slcR sz x lo hi => cases hk
  | idxA sz x y =>
    simp only [evK, ev_eq]
    exact (det_asInt (evF env y) (fun _ i K => idxAK σ sz (evF env x) i K) fun _ i => det_idxAK sz _ i).two
  | fldA off x => simp only [evK, ev_eq]; exact (det_fldAK off _).two
  | fld off ag n x =>
    simp only [evK, ev_eq]
    cases evF env x with
    | pv x => cases x with
      | agg cs => exact ((det_partK off ag n cs).map AV.pv).two
      | _ => exact Det2.no
    | agg cs => exact ((det_dropK off cs).bind fun r => (det_takeK n r).bind fun t => det_ofAVs ag t).two
    | _ => exact Det2.no
  | load ag n x => simp only [evK, ev_eq]; exact (det_loadK ag n _).two
  | store n x y => cases hk
  | alloc e z => cases hk
  | box e x => cases hk
  | build z ps =>
    simp only [evK, evParts_eq]
    exact ((det_pvsK z).bind fun z => (det_buildK _ z).bind fun cs => det_aggK cs).two
  | bslice e sz l => cases hk
  | bslP e sz l => cases hk
  | app e sz b x y => cases hk
  | appS e b x y => cases hk
  | mksl e sz b z x y => cases hk
  | call f l =>
    have hf : (Γ f).fn = true := hk
    obtain ⟨h1, h2, _⟩ := hΓ f
    simp only [evK, evs_eq, callK, (h2 hf).1, (h2 hf).2]
    refine Det2.bindK (det_readAVs _) fun ps => ?_
    intro K hK
    obtain ⟨x, h3, h4⟩ := h1 hf ps _ hK
    exact ⟨.pv x, h3, fun K' h => h4 _ h⟩
  | ext x i =>
    simp only [evK, ev_eq]
    cases evF env x with
    | tup l => exact (det_nthK l i).two
    | pv x => cases x with
      | tup l => exact ((det_nthK l i).map AV.pv).two
      | _ => exact Det2.no
    | _ => exact Det2.no
  | nilck x =>
    simp only [evK, ev_eq]
    cases evF env x with
    | ref id idx off => exact (det_liveK id (AV.ref id idx off)).two
    | pv x => cases x with
      | cptr y => exact Det2.ret _
      | clo f cs => exact Det2.ret _
      | _ => exact Det2.no
    | clo f cs => exact Det2.ret _
    | _ => exact Det2.no
  | mkf f l => cases hk
  | callv x l => cases hk
  | idxAr n sz x y =>
    simp only [evK, ev_eq]
    exact (det_asInt (evF env y) (fun _ i K => idxArK σ n sz (evF env x) i K) fun _ i => det_idxArK n sz _ i).two
  | fail => cases hk
  | junk => cases hk
  | cpy sz x y => cases hk
  | cpyS x y => cases hk
  | clr sz z x => cases hk
  | mkarr e sz z n => cases hk
  | slcA n sz x lo hi => cases hk

/-! ### One operation with its guard -/
noncomputable def stepO (Γ : Ctx) (o : PO) (env : Env) (σ : Sto) (K : Env → Sto → Prop) : Prop :=
  match o.g with
    | none => evK Γ env σ o.k fun v σ => K (put o.dst v env) σ
    | some (g, want) => match lookF g env with
      | .pv x => match x with
        | .bool b => bif b == want then evK Γ env σ o.k fun v σ => K (put o.dst v env) σ else K (put o.dst (.pv (.tup [])) env) σ
        | .tup _ => K (put o.dst (.pv (.tup [])) env) σ
        | _ => False
      | _ => False

theorem vcO_cons (K : Env → Sto → Prop) (o : PO) (l : List PO) (env : Env) : vcO Γ K (o :: l) env σ = stepO Γ o env σ (vcO Γ K l) := by
  obtain ⟨d, g, k⟩ := o
  cases g with
  | none => rfl
  | some p =>
    obtain ⟨g, want⟩ := p
    unfold stepO
    refine Eq.trans (look_eq g (fun gv => match gv with
      | .pv x => match x with
        | .bool b => match b with
          | true => (match want with
            | true => evK Γ env σ k fun v σ => vcO Γ K l (put d v env) σ
            | false => vcO Γ K l (put d (.pv (.tup [])) env) σ)
          | false => (match want with
            | false => evK Γ env σ k fun v σ => vcO Γ K l (put d v env) σ
            | true => vcO Γ K l (put d (.pv (.tup [])) env) σ)
        | .tup _ => vcO Γ K l (put d (.pv (.tup [])) env) σ
        | _ => False
      | _ => False) env) ?_
    simp only
    cases lookF g env with
    | pv x => cases x with
      | bool b => cases b <;> cases want <;> rfl
      | _ => rfl
    | _ => rfl

theorem det_step {P : Program} (hΓ : Sound P Γ) {o : PO} (ho : o.k.pure Γ = true) {env : Env} {K : Env → Sto → Prop} (h : stepO Γ o env σ K) :
    ∃ v, K (put o.dst v env) σ ∧ ∀ (env' : Env) (K' : Env → Sto → Prop), (∀ t ∈ o.reads, lookF t env' = lookF t env) → K' (put o.dst v env') σ → stepO Γ o env' σ K' := by
  obtain ⟨d, g, k⟩ := o
  have run : ∀ {env : Env} {K : Env → Sto → Prop}, evK Γ env σ k (fun v σ => K (put d v env) σ) → ∃ v, K (put d v env) σ ∧ ∀ (env' : Env) (K' : Env → Sto → Prop), (∀ t ∈ k.reads, lookF t env' = lookF t env) → K' (put d v env') σ → evK Γ env' σ k (fun v σ => K' (put d v env') σ) := by
    intro env K h
    obtain ⟨v, h1, h2⟩ := det_op hΓ env ho _ h
    refine ⟨v, h1, fun env' K' hr hk => ?_⟩
    rw [evK_congr hr]
    exact h2 _ hk
  cases g with
  | none =>
    obtain ⟨v, h1, h2⟩ := run (K := K) h
    exact ⟨v, h1, fun env' K' hr hk => h2 env' K' (fun t ht => hr t (by simp [PO.reads, ht])) hk⟩
  | some p =>
    obtain ⟨g, want⟩ := p
    unfold stepO at h
    simp only at h
    have hg : ∀ env' : Env, (∀ t ∈ PO.reads ⟨d, some (g, want), k⟩, lookF t env' = lookF t env) → lookF g env' = lookF g env := fun env' hr => hr g (by simp [PO.reads])
    cases hv : lookF g env with
    | pv x =>
      rw [hv] at h
      cases x with
      | bool b =>
        simp only at h
        cases hb : (b == want) with
        | true =>
          rw [hb] at h
          obtain ⟨v, h1, h2⟩ := run (K := K) h
          refine ⟨v, h1, fun env' K' hr hk => ?_⟩
          unfold stepO
          simp only [hg env' hr, hv, hb]
          exact h2 env' K' (fun t ht => hr t (by simp [PO.reads, ht])) hk
        | false =>
          rw [hb] at h
          refine ⟨.pv (.tup []), h, fun env' K' hr hk => ?_⟩
          unfold stepO
          simp only [hg env' hr, hv, hb]
          exact hk
      | tup l =>
        refine ⟨.pv (.tup []), h, fun env' K' hr hk => ?_⟩
        unfold stepO
        simp only [hg env' hr, hv]
        exact hk
      | _ => exact h.elim
    | _ => rw [hv] at h; exact h.elim

/-- What is said of a setting is said of each that looks the same. -/
def Same (K : Env → Sto → Prop) : Prop := ∀ env env' σ, (∀ p, lookF p env' = lookF p env) → K env' σ = K env σ

theorem look_put_same {d : Option Nat} {v : AV} {env env' : Env} (h : ∀ p, lookF p env' = lookF p env) (p : Nat) : lookF p (put d v env') = lookF p (put d v env) := by
  cases d with
  | none => exact h p
  | some d => rw [lookF_put, lookF_put, h p]

theorem clash_spec {p o : PO} (h : clash p o = false) : (∀ d, p.dst = some d → d ∉ o.reads ∧ o.dst ≠ some d) ∧ ∀ d, o.dst = some d → d ∉ p.reads := by
  unfold clash at h
  obtain ⟨h1, h2⟩ := Bool.or_eq_false_iff.1 h
  constructor
  · intro d hd
    rw [hd] at h1
    simp only [Bool.or_eq_false_iff] at h1
    refine ⟨fun hm => by simp [hm] at h1, fun he => by rw [he] at h1; simp at h1⟩
  · intro d hd hm
    rw [hd] at h2
    simp [hm] at h2

theorem det_setK {α : Type} (l : List α) : ∀ i x, Det (setK l i x) := by
  induction l with
  | nil => intro i x; exact Det.no
  | cons a l ih => intro i x; cases i with
    | zero => exact Det.ret _
    | succ i => exact (ih i x).map (a :: ·)
theorem det_freezeAV (a : AV) : ∀ σ, Det (freezeAV a σ) := by
  refine AV.rec (motive_1 := fun a => ∀ σ, Det (freezeAV a σ)) (motive_2 := fun l => ∀ σ, Det (freezeAV (.agg l) σ)) ?_ ?_ ?_ ?_ ?_ ?_ ?_ ?_ ?_ ?_ a
  · intro σ; exact Det.no
  · intro x σ; exact Det.ret σ
  · intro id σ
    refine (det_nthK σ id).bind fun b => ?_
    cases b with
    | row e sz ap els => exact det_setK _ _ _
    | fz x => exact Det.ret σ
    | _ => exact Det.no
  · intro _ _ _ σ; exact Det.no
  · intro id sz lo n σ
    refine (det_nthK σ id).bind fun b => ?_
    cases b with
    | row e sz ap els => exact det_setK _ _ _
    | fz x => exact Det.ret σ
    | _ => exact Det.no
  · intro cs ih; exact ih
  · intro cs ih; exact ih
  · intro _ _ _ σ; exact Det.no
  · intro σ; exact Det.ret σ
  · intro a l h1 h2 σ; exact (h1 σ).bind fun σ => h2 σ
theorem det_alikeK (y : PV) (cs : List PV) : Det (alikeK y cs) := by
  cases y <;> first | exact Det.ret _ | (cases cs with
    | nil => exact Det.no
    | cons x r => cases r with
      | nil => exact Det.ret _
      | cons _ _ => exact Det.no)
theorem det_storeK (n : Nat) (a v : AV) : Det (storeK σ n a v) := by
  cases a with
  | ref id idx off =>
    refine (det_nthK σ id).bind fun b => ?_
    cases b with
    | row e sz ap els =>
      refine (det_readAV v).bind fun x => (det_freezeAV v σ).bind fun σ => (det_nthK σ id).bind fun b => ?_
      cases b with
      | row e sz ap els => exact Det.ex fun y => Det.and (Det.and ((det_spliceK _ _ _).bind fun cs => (det_alikeK y cs).bind fun y' => det_setK _ _ _))
      | _ => exact Det.no
    | box e cs => exact (det_cellsK v).bind fun vs => Det.and ((det_spliceK _ _ _).bind fun cs => det_setK _ _ _)
    | _ => exact Det.no
  | _ => exact Det.no

/-- An operation comes to one value and one store. -/
def Runs (Γ : Ctx) (o : PO) (env : Env) (σ : Sto) (v : AV) (σ1 : Sto) : Prop :=
  ∀ (env' : Env) (K' : Env → Sto → Prop), (∀ t ∈ o.reads, lookF t env' = lookF t env) → K' (put o.dst v env') σ1 → stepO Γ o env' σ K'
/-- The same in any store. -/
def Stands (Γ : Ctx) (o : PO) (env : Env) (v : AV) : Prop :=
  ∀ (env' : Env) (σ' : Sto) (K' : Env → Sto → Prop), (∀ t ∈ o.reads, lookF t env' = lookF t env) → K' (put o.dst v env') σ' → stepO Γ o env' σ' K'

theorem pure_runs {P : Program} (hΓ : Sound P Γ) {o : PO} (ho : o.k.pure Γ = true) {env : Env} {K : Env → Sto → Prop} (h : stepO Γ o env σ K) : ∃ v σ1, K (put o.dst v env) σ1 ∧ Runs Γ o env σ v σ1 := by
  obtain ⟨v, h1, h2⟩ := det_step hΓ ho h
  exact ⟨v, σ, h1, h2⟩

/-- A guard decides whether an operation runs. -/
theorem guard_runs {o : PO} {env : Env} {K : Env → Sto → Prop} (h : stepO Γ o env σ K)
    (hk : evK Γ env σ o.k (fun v σ => K (put o.dst v env) σ) → ∃ v σ1, K (put o.dst v env) σ1 ∧ ∀ (env' : Env) (K' : Env → Sto → Prop), (∀ t ∈ o.k.reads, lookF t env' = lookF t env) → K' (put o.dst v env') σ1 → evK Γ env' σ o.k (fun v σ => K' (put o.dst v env') σ)) :
    ∃ v σ1, K (put o.dst v env) σ1 ∧ Runs Γ o env σ v σ1 := by
  obtain ⟨d, g, k⟩ := o
  cases g with
  | none =>
    obtain ⟨v, σ1, h1, h2⟩ := hk h
    exact ⟨v, σ1, h1, fun env' K' hr hk => h2 env' K' (fun t ht => hr t (by simp [PO.reads, ht])) hk⟩
  | some p =>
    obtain ⟨g, want⟩ := p
    unfold stepO at h
    simp only at h
    have hg : ∀ env' : Env, (∀ t ∈ PO.reads ⟨d, some (g, want), k⟩, lookF t env' = lookF t env) → lookF g env' = lookF g env := fun env' hr => hr g (by simp [PO.reads])
    cases hv : lookF g env with
    | pv x =>
      rw [hv] at h
      cases x with
      | bool b =>
        simp only at h
        cases hb : (b == want) with
        | true =>
          rw [hb] at h
          obtain ⟨v, σ1, h1, h2⟩ := hk h
          refine ⟨v, σ1, h1, fun env' K' hr hk => ?_⟩
          unfold stepO
          simp only [hg env' hr, hv, hb]
          exact h2 env' K' (fun t ht => hr t (by simp [PO.reads, ht])) hk
        | false =>
          rw [hb] at h
          refine ⟨.pv (.tup []), σ, h, fun env' K' hr hk => ?_⟩
          unfold stepO
          simp only [hg env' hr, hv, hb]
          exact hk
      | tup l =>
        refine ⟨.pv (.tup []), σ, h, fun env' K' hr hk => ?_⟩
        unfold stepO
        simp only [hg env' hr, hv]
        exact hk
      | _ => exact h.elim
    | _ => rw [hv] at h; exact h.elim

theorem writ_runs {o : PO} (ho : o.k.writ = true) {env : Env} {K : Env → Sto → Prop} (h : stepO Γ o env σ K) : ∃ v σ1, K (put o.dst v env) σ1 ∧ Runs Γ o env σ v σ1 := by
  refine guard_runs h fun h => ?_
  obtain ⟨d, g, k⟩ := o
  cases k with
  | store n x v =>
    simp only [evK, ev_eq] at h
    obtain ⟨σ1, h1, h2⟩ := det_storeK n _ _ _ h
    refine ⟨.bad, σ1, h1, fun env' K' hr hk => ?_⟩
    simp only [evK, ev_eq]
    rw [evF_congr (env := env) (o := x) fun t ht => hr t (by simp [PK.reads, ht]), evF_congr (env := env) (o := v) fun t ht => hr t (by simp [PK.reads, ht])]
    exact h2 _ hk
  | _ => cases ho

theorem still_ev {k : PK} (hk : k.still = true) {env : Env} (σ : Sto) {K : AV → Sto → Prop} (h : evK Γ env σ k K) : ∃ v, K v σ ∧ ∀ (σ' : Sto) (K' : AV → Sto → Prop), K' v σ' → evK Γ env σ' k K' := by
  have two : ∀ {G : (AV → Prop) → Prop}, Det G → G (fun a => K a σ) → ∃ v, K v σ ∧ ∀ (σ' : Sto) (K' : AV → Sto → Prop), K' v σ' → G fun a => K' a σ' := by
    intro G hd h
    obtain ⟨v, h1, h2⟩ := hd _ h
    exact ⟨v, h1, fun σ' K' h => h2 _ h⟩
  have no : ∀ {G : Sto → (AV → Sto → Prop) → Prop}, False → ∃ v, K v σ ∧ ∀ (σ' : Sto) (K' : AV → Sto → Prop), K' v σ' → G σ' K' := fun h => h.elim
  have ret : ∀ v, K v σ → ∃ v, K v σ ∧ ∀ (σ' : Sto) (K' : AV → Sto → Prop), K' v σ' → K' v σ' := fun v h => ⟨v, h, fun _ _ h => h⟩
  cases k with
  | mv x => simp only [evK, ev_eq] at h ⊢; exact ⟨_, h, fun _ _ h => h⟩
  | nilS sz => exact ⟨_, h, fun _ _ h => h⟩
  | pick c a b =>
    simp only [evK, ev_eq] at h ⊢
    cases hc : evF env c with
    | pv c =>
      rw [hc] at h
      cases c with
      | bool c => cases c with
        | true => exact ⟨_, h, fun _ _ h => h⟩
        | false => exact ⟨_, h, fun _ _ h => h⟩
      | _ => exact h.elim
    | _ => rw [hc] at h; exact h.elim
  | bin op x y =>
    simp only [evK, ev_eq] at h ⊢
    cases hx : evF env x with
    | pv x =>
      rw [hx] at h
      cases hy : evF env y with
      | pv y => rw [hy] at h; exact two (det_binP op x y AV.pv) h
      | _ => rw [hy] at h; exact h.elim
    | _ => rw [hx] at h; exact h.elim
  | eqb neg x y =>
    simp only [evK, ev_eq] at h ⊢
    cases hx : evF env x with
    | pv x =>
      rw [hx] at h
      cases hy : evF env y with
      | pv y =>
        rw [hy] at h
        cases x with
        | bool a => cases y with
          | bool b => cases neg with
            | false => exact two (Det.cmp AV.pv (a = b)) h
            | true => exact two (Det.cmp AV.pv (a ≠ b)) h
          | _ => exact h.elim
        | _ => exact h.elim
      | _ => rw [hy] at h; exact h.elim
    | _ => rw [hx] at h; exact h.elim
  | eqs neg ks x y =>
    simp only [evK, ev_eq] at h ⊢
    cases hx : evF env x with
    | pv x =>
      rw [hx] at h
      cases hy : evF env y with
      | pv y =>
        rw [hy] at h
        cases x with
        | agg a => cases y with
          | agg b =>
            simp only at h ⊢
            cases hl : likeB ks a b with
            | true =>
              rw [hl] at h
              cases neg with
              | false => exact two (Det.cmp AV.pv (a = b)) h
              | true => exact two (Det.cmp AV.pv (a ≠ b)) h
            | false => rw [hl] at h; exact h.elim
          | _ => exact h.elim
        | _ => exact h.elim
      | _ => rw [hy] at h; exact h.elim
    | _ => rw [hx] at h; exact h.elim
  | un op x =>
    simp only [evK, ev_eq] at h ⊢
    cases hx : evF env x with
    | pv x =>
      rw [hx] at h
      cases op <;> cases x <;> first | exact h.elim | exact two (Det.cmp AV.pv _) h | exact two (Det.num (fun r => AV.pv (.int _ r)) _) h
    | _ => rw [hx] at h; exact h.elim
  | lenS x =>
    simp only [evK, ev_eq] at h ⊢
    cases hx : evF env x with
    | pv x =>
      rw [hx] at h
      cases x with
      | str l => exact ⟨_, h, fun _ _ h => h⟩
      | _ => exact h.elim
    | _ => rw [hx] at h; exact h.elim
  | mm mx x y =>
    simp only [evK, ev_eq] at h ⊢
    refine two (G := fun K => Dv.asInt (evF env x) fun k a => Dv.asInt (evF env y) fun _ b => match mx with | true => ∀ r : Int, r = max a b → K (.pv (.int k r)) | false => ∀ r : Int, r = min a b → K (.pv (.int k r))) ?_ ?_ |>.imp fun v h => ⟨h.1, fun σ' K' hk => ?_⟩
    · refine det_asInt _ _ fun k a => det_asInt _ _ fun _ b => ?_
      cases mx with
      | true => exact Det.num _ _
      | false => exact Det.num _ _
    · cases mx <;> exact h
    · have := h.2 σ' K' hk
      cases mx <;> exact this
  | ext x i =>
    simp only [evK, ev_eq] at h ⊢
    cases hx : evF env x with
    | tup l => rw [hx] at h; exact two (det_nthK l i) h
    | pv x =>
      rw [hx] at h
      cases x with
      | tup l => exact two ((det_nthK l i).map AV.pv) h
      | _ => exact h.elim
    | _ => rw [hx] at h; exact h.elim
  | conv c x =>
    cases c with
    | toInt k =>
      simp only [evK, ev_eq] at h ⊢
      exact two (G := fun K => Dv.asInt (evF env x) fun _ n => numK k n fun r => K (.pv r)) (det_asInt _ _ fun _ n => Det.num (fun r => AV.pv (.int k r)) _) h
    | _ => cases hk
  | _ => cases hk

theorem still_stands {o : PO} (ho : o.k.still = true) {env : Env} {K : Env → Sto → Prop} (h : stepO Γ o env σ K) : ∃ v, K (put o.dst v env) σ ∧ Stands Γ o env v := by
  obtain ⟨d, g, k⟩ := o
  have run : evK Γ env σ k (fun v σ => K (put d v env) σ) → ∃ v, K (put d v env) σ ∧ ∀ (env' : Env) (σ' : Sto) (K' : Env → Sto → Prop), (∀ t ∈ k.reads, lookF t env' = lookF t env) → K' (put d v env') σ' → evK Γ env' σ' k (fun v σ => K' (put d v env') σ) := by
    intro h
    obtain ⟨v, h1, h2⟩ := still_ev ho σ h
    refine ⟨v, h1, fun env' σ' K' hr hk => ?_⟩
    rw [evK_congr hr]
    exact h2 _ _ hk
  cases g with
  | none =>
    obtain ⟨v, h1, h2⟩ := run h
    exact ⟨v, h1, fun env' σ' K' hr hk => h2 env' σ' K' (fun t ht => hr t (by simp [PO.reads, ht])) hk⟩
  | some p =>
    obtain ⟨g, want⟩ := p
    unfold stepO at h
    simp only at h
    have hg : ∀ env' : Env, (∀ t ∈ PO.reads ⟨d, some (g, want), k⟩, lookF t env' = lookF t env) → lookF g env' = lookF g env := fun env' hr => hr g (by simp [PO.reads])
    cases hv : lookF g env with
    | pv x =>
      rw [hv] at h
      cases x with
      | bool b =>
        simp only at h
        cases hb : (b == want) with
        | true =>
          rw [hb] at h
          obtain ⟨v, h1, h2⟩ := run h
          refine ⟨v, h1, fun env' σ' K' hr hk => ?_⟩
          unfold stepO
          simp only [hg env' hr, hv, hb]
          exact h2 env' σ' K' (fun t ht => hr t (by simp [PO.reads, ht])) hk
        | false =>
          rw [hb] at h
          refine ⟨.pv (.tup []), h, fun env' σ' K' hr hk => ?_⟩
          unfold stepO
          simp only [hg env' hr, hv, hb]
          exact hk
      | tup l =>
        refine ⟨.pv (.tup []), h, fun env' σ' K' hr hk => ?_⟩
        unfold stepO
        simp only [hg env' hr, hv]
        exact hk
      | _ => exact h.elim
    | _ => rw [hv] at h; exact h.elim

theorem reads_put {o p : PO} {v : AV} {env : Env} (h : ∀ d, p.dst = some d → d ∉ o.reads) : ∀ t ∈ o.reads, lookF t env = lookF t (put p.dst v env) := by
  intro t ht
  cases hd : p.dst with
  | none => rfl
  | some d =>
    rw [lookF_put]
    have : d ≠ t := fun e => h d hd (e ▸ ht)
    rw [nbeq this]; rfl
theorem put_swap {p o : PO} {u v : AV} {env : Env} (c1 : ∀ d, p.dst = some d → o.dst ≠ some d) (q : Nat) : lookF q (put p.dst v (put o.dst u env)) = lookF q (put o.dst u (put p.dst v env)) := by
  cases hd : p.dst with
  | none => rfl
  | some d =>
    cases he : o.dst with
    | none => rfl
    | some e =>
      have hne : e ≠ d := fun h => c1 d hd (h ▸ he)
      simp only [lookF_put]
      by_cases h1 : d = q
      · subst h1
        have := nbeq hne
        simp [this]
      · have := nbeq h1
        simp [this]

/-! ### Operations that read the store, beside those that put an entry behind it -/
mutual
/-- The entries that a value names are of a kind. -/
def AV.On (P : Nat → Prop) : AV → Prop
  | .own i => P i
  | .ref i _ _ => P i
  | .sub i _ _ _ => P i
  | .agg cs => AV.OnL P cs
  | .tup cs => AV.OnL P cs
  | _ => True
def AV.OnL (P : Nat → Prop) : List AV → Prop
  | [] => True
  | a :: l => AV.On P a ∧ AV.OnL P l
end
mutual
theorem On_mono {P Q : Nat → Prop} (h : ∀ i, P i → Q i) : ∀ a : AV, a.On P → a.On Q
  | .own i, hx => by simp only [AV.On] at hx ⊢; exact h i hx
  | .ref i _ _, hx => by simp only [AV.On] at hx ⊢; exact h i hx
  | .sub i _ _ _, hx => by simp only [AV.On] at hx ⊢; exact h i hx
  | .agg cs, hx => by simp only [AV.On] at hx ⊢; exact OnL_mono h cs hx
  | .tup cs, hx => by simp only [AV.On] at hx ⊢; exact OnL_mono h cs hx
  | .bad, _ => by simp only [AV.On]
  | .pv _, _ => by simp only [AV.On]
  | .clo _ _, _ => by simp only [AV.On]
theorem OnL_mono {P Q : Nat → Prop} (h : ∀ i, P i → Q i) : ∀ l : List AV, AV.OnL P l → AV.OnL Q l
  | [], _ => by simp only [AV.OnL]
  | a :: l, hx => by simp only [AV.OnL] at hx ⊢; exact ⟨On_mono h a hx.1, OnL_mono h l hx.2⟩
end
mutual
theorem RA_on {ok : Nat → Prop} {vals : List Value} {w : World} {P : Nat → Prop} (h1 : ∀ i, i < vals.length → P i) (h2 : ∀ i, i < σ.length → P i) : ∀ (a : AV) (v : Value), RA ok σ vals w a v → a.On P
  | .own i, v, h => by simp only [RA] at h; simp only [AV.On]; exact h1 i (List.getElem?_eq_some_iff.1 h).1
  | .ref i _ _, v, h => by simp only [RA] at h; simp only [AV.On]; exact h2 i h.1
  | .sub i _ _ _, v, h => by simp only [RA] at h; simp only [AV.On]; exact h2 i h.1
  | .agg cs, v, h => by simp only [RA] at h; simp only [AV.On]; obtain ⟨_, vs, _, h⟩ := h; exact RAL_on h1 h2 cs _ h
  | .tup cs, v, h => by simp only [RA] at h; simp only [AV.On]; obtain ⟨vs, _, h⟩ := h; exact RAL_on h1 h2 cs _ h
  | .bad, _, _ => by simp only [AV.On]
  | .pv _, _, _ => by simp only [AV.On]
  | .clo _ _, _, _ => by simp only [AV.On]
theorem RAL_on {ok : Nat → Prop} {vals : List Value} {w : World} {P : Nat → Prop} (h1 : ∀ i, i < vals.length → P i) (h2 : ∀ i, i < σ.length → P i) : ∀ (l : List AV) (vs : List Value), RAL ok σ vals w l vs → AV.OnL P l
  | [], _, _ => by simp only [AV.OnL]
  | a :: l, vs, h => by simp only [RAL] at h; simp only [AV.OnL]; obtain ⟨v, r, _, h3, h4⟩ := h; exact ⟨RA_on h1 h2 a v h3, RAL_on h1 h2 l r h4⟩
end
/-- What lies at places of a kind lies there in the other store too. -/
def Sub (P : Nat → Prop) (σ σ' : Sto) : Prop := ∀ (i : Nat) (b : Blk), P i → σ[i]? = some b → σ'[i]? = some b
section
variable {P : Nat → Prop} {σ' : Sto}
theorem nthK_mv (hs : Sub P σ σ') {i : Nat} (hi : P i) {K : Blk → Prop} (h : nthK σ i K) : nthK σ' i K := by
  obtain ⟨b, h1, h2⟩ := nthK_iff _ _ _ h
  exact nthK_mk _ _ b _ (hs i b hi h1) h2
theorem rowK_mv (hs : Sub P σ σ') {a : AV} (ha : a.On P) {K : Nat → List PV → Prop} (h : rowK σ a K) : rowK σ' a K := by
  cases a with
  | own id => exact nthK_mv hs (by simpa only [AV.On] using ha) h
  | sub id sz lo n => exact nthK_mv hs (by simpa only [AV.On] using ha) h
  | _ => exact h
theorem liveK_mv (hs : Sub P σ σ') {i : Nat} (hi : P i) {p : Prop} (h : liveK σ i p) : liveK σ' i p := nthK_mv hs hi h
theorem fldAK_mv (hs : Sub P σ σ') {off : Nat} {a : AV} (ha : a.On P) {K : AV → Prop} (h : fldAK σ off a K) : fldAK σ' off a K := by
  cases a with
  | ref id idx o => exact liveK_mv hs (by simpa only [AV.On] using ha) h
  | _ => exact h
theorem loadK_mv (hs : Sub P σ σ') {ag : Bool} {n : Nat} {a : AV} (ha : a.On P) {K : AV → Prop} (h : loadK σ ag n a K) : loadK σ' ag n a K := by
  cases a with
  | ref id idx o => exact nthK_mv hs (by simpa only [AV.On] using ha) h
  | _ => exact h
theorem idxAK_mv (hs : Sub P σ σ') {sz : Nat} {a : AV} {i : Int} (ha : a.On P) {K : AV → Prop} (h : idxAK σ sz a i K) : idxAK σ' sz a i K := by
  cases a with
  | own id => exact nthK_mv hs (by simpa only [AV.On] using ha) h
  | sub id z lo n =>
    simp only [idxAK] at h ⊢
    cases hz : Nat.beq z sz with
    | true => rw [hz] at h; exact nthK_mv hs (by simpa only [AV.On] using ha) h
    | false => rw [hz] at h; exact h.elim
  | _ => exact h
theorem idxArK_mv (hs : Sub P σ σ') {n sz : Nat} {a : AV} {i : Int} (ha : a.On P) {K : AV → Prop} (h : idxArK σ n sz a i K) : idxArK σ' n sz a i K := by
  cases a with
  | ref id idx off =>
    cases idx with
    | zero => cases off with
      | zero => exact nthK_mv hs (by simpa only [AV.On] using ha) h
      | succ _ => exact h
    | succ _ => exact h
  | _ => exact h
theorem readAV_mv (hs : Sub P σ σ') (a : AV) : ∀ {K : PV → Prop}, a.On P → readAV σ a K → readAV σ' a K := by
  refine AV.rec (motive_1 := fun a => ∀ {K : PV → Prop}, a.On P → readAV σ a K → readAV σ' a K) (motive_2 := fun l => ∀ {K : List PV → Prop}, AV.OnL P l → readAVs σ l K → readAVs σ' l K) ?_ ?_ ?_ ?_ ?_ ?_ ?_ ?_ ?_ ?_ a
  · intro K _ h; exact h
  · intro x K _ h; exact h
  · intro id K ha h; exact nthK_mv hs (by simpa only [AV.On] using ha) h
  · intro _ _ _ K _ h; exact h
  · intro id sz lo n K ha h; exact nthK_mv hs (by simpa only [AV.On] using ha) h
  · intro cs ih K ha h; exact readAV_agg' σ' cs K (ih (by simpa only [AV.On] using ha) (readAV_agg σ cs K h))
  · intro cs ih K ha h; exact readAV_tup' σ' cs K (ih (by simpa only [AV.On] using ha) (readAV_tup σ cs K h))
  · intro _ _ _ K _ h; exact h
  · intro K _ h; exact h
  · intro a l h1 h2 K ha h
    simp only [AV.OnL] at ha
    obtain ⟨x, h3, h4⟩ := det_readAV a _ h
    refine h1 ha.1 (h4 _ ?_)
    exact h2 ha.2 h3
theorem readAVs_mv (hs : Sub P σ σ') (l : List AV) {K : List PV → Prop} (ha : AV.OnL P l) (h : readAVs σ l K) : readAVs σ' l K := by
  have := readAV_mv hs (.agg l) (K := fun x => match x with | .agg cs => K cs | _ => False) (by simp only [AV.On]; exact ha) (readAV_agg' σ l _ h)
  exact readAV_agg σ' l _ this
theorem asInt_imp {a : AV} {F G : IntKind → Int → Prop} (h : Dv.asInt a F) (hi : ∀ k n, F k n → G k n) : Dv.asInt a G := by
  cases a with
  | pv x => cases x with
    | int k n => exact hi k n h
    | _ => exact h
  | _ => exact h

/-- What an operation that only reads comes to, in the other store. -/
theorem pure_mv {P' : Program} (hΓ : Sound P' Γ) (hs : Sub P σ σ') {env : Env} {k : PK} (hk : k.pure Γ = true) (ha : ∀ t ∈ k.reads, (lookF t env).On P) {K : AV → Prop} (h : evK Γ env σ k fun v _ => K v) : evK Γ env σ' k fun v _ => K v := by
  have one : ∀ {x : Operand}, (∀ t ∈ rdOp x, (lookF t env).On P) → (evF env x).On P := by
    intro x hx
    cases x with
    | tmp t => exact hx t (by simp [rdOp])
    | const v => simp only [evF]; cases v <;> simp [constAV, AV.On] ; (try split) <;> simp [AV.On]
    | global _ => simp [evF, AV.On]
    | func f => simp [evF, AV.On]
  have st : k.still = true → evK Γ env σ' k fun v _ => K v := by
    intro hst
    obtain ⟨v, h1, h2⟩ := still_ev hst σ h
    exact h2 σ' _ h1
  cases k with
  | conv c x =>
    cases c with
    | toInt k => exact st rfl
    | same => exact h
    | bts =>
      simp only [evK, ev_eq] at h ⊢
      exact rowK_mv hs (one ha) h
    | stb e => cases hk
  | lenN x =>
    simp only [evK, ev_eq] at h ⊢
    exact rowK_mv hs (one ha) h
  | idxA sz x y =>
    simp only [evK, ev_eq] at h ⊢
    exact asInt_imp h fun _ i h => idxAK_mv hs (one fun t ht => ha t (by simp [PK.reads, ht])) h
  | idxAr n sz x y =>
    simp only [evK, ev_eq] at h ⊢
    exact asInt_imp h fun _ i h => idxArK_mv hs (one fun t ht => ha t (by simp [PK.reads, ht])) h
  | fldA off x => simp only [evK, ev_eq] at h ⊢; exact fldAK_mv hs (one ha) h
  | load ag n x => simp only [evK, ev_eq] at h ⊢; exact loadK_mv hs (one ha) h
  | nilck x =>
    simp only [evK, ev_eq] at h ⊢
    have := one ha
    cases hx : evF env x with
    | ref id idx off =>
      rw [hx] at h this
      exact liveK_mv hs (by simpa only [AV.On] using this) h
    | _ => rw [hx] at h; exact h
  | call f l =>
    have hf : (Γ f).fn = true := hk
    obtain ⟨_, h2, _⟩ := hΓ f
    simp only [evK, evs_eq, callK, (h2 hf).1, (h2 hf).2] at h ⊢
    have hl : AV.OnL P (l.map (evF env)) := by
      have : ∀ l : List Operand, (∀ t ∈ l.flatMap rdOp, (lookF t env).On P) → AV.OnL P (l.map (evF env)) := by
        intro l
        induction l with
        | nil => intro _; simp [AV.OnL]
        | cons x l ih =>
          intro hl
          simp only [List.map_cons, AV.OnL]
          exact ⟨one fun t ht => hl t (by simp [ht]), ih fun t ht => hl t (List.mem_flatMap.2 (by obtain ⟨y, hy, hty⟩ := List.mem_flatMap.1 ht; exact ⟨y, by simp [hy], hty⟩))⟩
      exact this l ha
    have hd := det_readAVs (σ := σ) (l.map (evF env)) _ h
    obtain ⟨ps, h3, h4⟩ := hd
    have h5 := h4 (fun qs => qs = ps) rfl
    have h6 := readAVs_mv hs _ hl h5
    obtain ⟨qs, rfl, h7⟩ := det_readAVs (σ := σ') (l.map (evF env)) _ h6
    refine h7 _ ?_
    obtain ⟨x, h8, h9⟩ := (hΓ f).1 hf qs _ h3
    exact h9 _ h8
  | idx x y => exact h
  | slcS x lo hi => exact h
  | fld off ag n x => exact h
  | build z ps => exact h
  | mv x => exact st rfl
  | nilS sz => exact st rfl
  | pick c a b => exact st rfl
  | bin op x y => exact st rfl
  | eqb neg x y => exact st rfl
  | eqs neg ks x y => exact st rfl
  | un op x => exact st rfl
  | lenS x => exact st rfl
  | mm mx x y => exact st rfl
  | ext x i => exact st rfl
  | _ => cases hk

/-- The same at an operation with its guard: it comes to the same value in both stores. -/
theorem step_mv {P' : Program} (hΓ : Sound P' Γ) {o : PO} (ho : o.k.pure Γ = true) {env : Env} (ha : ∀ t ∈ o.reads, (lookF t env).On P) (hs : Sub P σ σ') {K : Env → Sto → Prop} (h : stepO Γ o env σ K) :
    ∃ v, K (put o.dst v env) σ ∧ ∀ (env' : Env) (K' : Env → Sto → Prop), (∀ t ∈ o.reads, lookF t env' = lookF t env) → K' (put o.dst v env') σ' → stepO Γ o env' σ' K' := by
  obtain ⟨d, g, k⟩ := o
  have run : evK Γ env σ k (fun v σ => K (put d v env) σ) → (∀ t ∈ k.reads, (lookF t env).On P) → ∃ v, K (put d v env) σ ∧ ∀ (env' : Env) (K' : Env → Sto → Prop), (∀ t ∈ k.reads, lookF t env' = lookF t env) → K' (put d v env') σ' → evK Γ env' σ' k (fun v σ => K' (put d v env') σ) := by
    intro h ha
    obtain ⟨v, h1, h2⟩ := det_op hΓ env ho _ h
    have h3 := pure_mv hΓ hs ho ha (h2 (fun u _ => u = v) rfl)
    obtain ⟨u, rfl, h4⟩ := det_op hΓ env ho _ h3
    refine ⟨u, h1, fun env' K' hr hk => ?_⟩
    rw [evK_congr hr]
    exact h4 _ hk
  cases g with
  | none =>
    obtain ⟨v, h1, h2⟩ := run h fun t ht => ha t (by simp [PO.reads, ht])
    exact ⟨v, h1, fun env' K' hr hk => h2 env' K' (fun t ht => hr t (by simp [PO.reads, ht])) hk⟩
  | some p =>
    obtain ⟨g, want⟩ := p
    unfold stepO at h
    simp only at h
    have hg : ∀ env' : Env, (∀ t ∈ PO.reads ⟨d, some (g, want), k⟩, lookF t env' = lookF t env) → lookF g env' = lookF g env := fun env' hr => hr g (by simp [PO.reads])
    cases hv : lookF g env with
    | pv x =>
      rw [hv] at h
      cases x with
      | bool b =>
        simp only at h
        cases hb : (b == want) with
        | true =>
          rw [hb] at h
          obtain ⟨v, h1, h2⟩ := run h fun t ht => ha t (by simp [PO.reads, ht])
          refine ⟨v, h1, fun env' K' hr hk => ?_⟩
          unfold stepO
          simp only [hg env' hr, hv, hb]
          exact h2 env' K' (fun t ht => hr t (by simp [PO.reads, ht])) hk
        | false =>
          rw [hb] at h
          refine ⟨.pv (.tup []), h, fun env' K' hr hk => ?_⟩
          unfold stepO
          simp only [hg env' hr, hv, hb]
          exact hk
      | tup l =>
        refine ⟨.pv (.tup []), h, fun env' K' hr hk => ?_⟩
        unfold stepO
        simp only [hg env' hr, hv]
        exact hk
      | _ => exact h.elim
    | _ => rw [hv] at h; exact h.elim
end

theorem snocK_mk {α : Type} (l : List α) (x : α) : ∀ (K : List α → Prop), K (l ++ [x]) → snocK l x K := by
  induction l with
  | nil => intro K h; exact h
  | cons a l ih => intro K h; exact ih _ h
theorem lenK_mk {α : Type} (l : List α) : ∀ (K : Nat → Prop), K l.length → lenK l K := by
  induction l with
  | nil => intro K h; exact h
  | cons a l ih => intro K h; exact ih _ h

theorem On_true (a : AV) : a.On fun _ => True := by
  refine AV.rec (motive_1 := fun a => a.On fun _ => True) (motive_2 := fun l => AV.OnL (fun _ => True) l) ?_ ?_ ?_ ?_ ?_ ?_ ?_ ?_ ?_ ?_ a
  all_goals intros
  all_goals first | (simp only [AV.On, AV.OnL]; done) | (simp only [AV.On]; assumption) | (simp only [AV.OnL]; constructor <;> assumption)

/-- One store, or it with an entry behind. -/
def Ahead (σ σ1 : Sto) : Prop := σ1 = σ ∨ ∃ b, σ1 = σ ++ [b]
theorem Ahead.sub {σ σ1 : Sto} (h : Ahead σ σ1) : Sub (fun _ => True) σ σ1 := by
  intro i b _ hb
  rcases h with rfl | ⟨c, rfl⟩
  · exact hb
  · rw [List.getElem?_append_left (List.getElem?_eq_some_iff.1 hb).1]; exact hb
theorem Ahead.back {σ σ1 : Sto} (h : Ahead σ σ1) : Sub (fun i => i < σ.length) σ1 σ := by
  intro i b hi hb
  rcases h with rfl | ⟨c, rfl⟩
  · exact hb
  · rw [List.getElem?_append_left hi] at hb; exact hb
theorem Ahead.len {σ σ1 : Sto} (h : Ahead σ σ1) : σ.length ≤ σ1.length := by
  rcases h with rfl | ⟨c, rfl⟩
  · exact Nat.le_refl _
  · simp
theorem al_ev {k : PK} (hk : k.al = true) {env : Env} {K : AV → Sto → Prop} (h : evK Γ env σ k K) : ∃ v σ1, K v σ1 ∧ Ahead σ σ1 ∧ ∀ K' : AV → Sto → Prop, K' v σ1 → evK Γ env σ k K' := by
  cases k with
  | alloc e z =>
    simp only [evK] at h ⊢
    obtain ⟨cs, h1, h2⟩ := det_pvsK _ _ h
    have h3 := snocK_spec _ _ _ (lenK_spec _ _ h1)
    exact ⟨_, _, h3, .inr ⟨_, rfl⟩, fun K' h => h2 _ (lenK_mk _ _ (snocK_mk _ _ _ h))⟩
  | box e x =>
    simp only [evK, ev_eq] at h ⊢
    obtain ⟨cs, h1, h2⟩ := det_cellsK _ _ h
    have h3 := snocK_spec _ _ _ (lenK_spec _ _ h1)
    exact ⟨_, _, h3, .inr ⟨_, rfl⟩, fun K' h => h2 _ (lenK_mk _ _ (snocK_mk _ _ _ h))⟩
  | bslP e sz l =>
    simp only [evK, evs_eq] at h ⊢
    have hd : Det fun K : (List PV) → Prop => allPvK (l.map (evF env)) (fun xs => K xs) False := by
      generalize l.map (evF env) = as
      intro K hK
      rcases allPvK_spec _ _ _ hK with ⟨xs, rfl, hx⟩ | h
      · refine ⟨xs, hx, fun K' hk' => ?_⟩
        clear hK hx K
        induction xs generalizing K' with
        | nil => exact hk'
        | cons x xs ih => exact ih (fun t => K' (x :: t)) hk'
      · exact h.elim
    obtain ⟨xs, ⟨h0, h1⟩, h2⟩ := hd _ h
    have h3 := snocK_spec _ _ _ (lenK_spec _ _ h1)
    exact ⟨_, _, h3, .inr ⟨_, rfl⟩, fun K' h => h2 _ ⟨h0, lenK_mk _ _ (snocK_mk _ _ _ h)⟩⟩
  | _ => cases hk
theorem al_runs {o : PO} (ho : o.k.al = true) {env : Env} {K : Env → Sto → Prop} (h : stepO Γ o env σ K) : ∃ v σ1, K (put o.dst v env) σ1 ∧ Runs Γ o env σ v σ1 ∧ Ahead σ σ1 := by
  have key : ∃ v σ1, (K (put o.dst v env) σ1 ∧ Ahead σ σ1) ∧ Runs Γ o env σ v σ1 := by
    have h' : stepO Γ o env σ fun env' σ1 => K env' σ1 ∧ Ahead σ σ1 := by
      obtain ⟨d, g, k⟩ := o
      have run : evK Γ env σ k (fun v σ => K (put d v env) σ) → evK Γ env σ k (fun v σ1 => K (put d v env) σ1 ∧ Ahead σ σ1) := by
        intro h
        obtain ⟨v, σ1, h1, h2, h3⟩ := al_ev ho h
        exact h3 _ ⟨h1, h2⟩
      cases g with
      | none => exact run h
      | some p =>
        obtain ⟨g, want⟩ := p
        unfold stepO at h ⊢
        simp only at h ⊢
        cases hv : lookF g env with
        | pv x =>
          rw [hv] at h
          cases x with
          | bool b =>
            simp only at h ⊢
            cases hb : (b == want) with
            | true => rw [hb] at h; exact run h
            | false => rw [hb] at h; exact ⟨h, .inl rfl⟩
          | tup l => exact ⟨h, .inl rfl⟩
          | _ => exact h.elim
        | _ => rw [hv] at h; exact h.elim
    obtain ⟨v, σ1, h1, h2⟩ := guard_runs (K := fun env' σ1 => K env' σ1 ∧ Ahead σ σ1) h' fun h => by
      obtain ⟨v, σ1, h1, h2, h3⟩ := al_ev ho h
      exact ⟨v, σ1, h1, fun env' K' hr hk => by rw [evK_congr hr]; exact h3 _ hk⟩
    exact ⟨v, σ1, h1, h2⟩
  obtain ⟨v, σ1, ⟨h1, h2⟩, h3⟩ := key
  exact ⟨v, σ1, h1, h3, h2⟩

/-- Operations of which each may come first. -/
theorem pair_runs {P : Program} (hΓ : Sound P Γ) {p o : PO} (hpo : okPair Γ o p = true) {env : Env} {K : Env → Sto → Prop} (h : stepO Γ p env σ K) : ∃ v σ1, K (put p.dst v env) σ1 ∧ Runs Γ p env σ v σ1 ∧ ((o.k.pure Γ = true ∧ o.k.still = false) → σ.length ≤ σ1.length) := by
  have pr : p.k.pure Γ = true → ∃ v σ1, K (put p.dst v env) σ1 ∧ Runs Γ p env σ v σ1 ∧ ((o.k.pure Γ = true ∧ o.k.still = false) → σ.length ≤ σ1.length) := fun h2 => by
    obtain ⟨v, h1, h3⟩ := det_step hΓ h2 h
    exact ⟨v, σ, h1, h3, fun _ => Nat.le_refl _⟩
  have al : p.k.al = true → ∃ v σ1, K (put p.dst v env) σ1 ∧ Runs Γ p env σ v σ1 ∧ ((o.k.pure Γ = true ∧ o.k.still = false) → σ.length ≤ σ1.length) := fun h2 => by
    obtain ⟨v, σ1, h3, h4, h5⟩ := al_runs h2 h
    exact ⟨v, σ1, h3, h4, fun _ => h5.len⟩
  simp only [okPair, Bool.or_eq_true, Bool.and_eq_true] at hpo
  rcases hpo with ((⟨_, h2⟩ | ⟨_, h2⟩ | ⟨_, h2⟩) | ⟨h0, h2 | h2⟩ | ⟨_, h2⟩)
  · exact pr h2
  · exact al h2
  · exact pr h2
  · obtain ⟨v, σ1, h3, h4⟩ := writ_runs h2 h
    exact ⟨v, σ1, h3, h4, fun h => by rw [h.2] at h0; cases h0⟩
  · exact al h2
  · obtain ⟨v, h3, h4⟩ := still_stands h2 h
    exact ⟨v, σ, h3, fun env' K' hr hk => h4 env' σ K' hr hk, fun _ => Nat.le_refl _⟩
theorem swapO {P : Program} (hΓ : Sound P Γ) {K : Env → Sto → Prop} (hK : Same K) {p o : PO} (hpo : okPair Γ o p = true) (hc : clash p o = false) {env : Env} (hw : o.k.pure Γ = true → o.k.still = false → ∀ t ∈ o.reads, (lookF t env).On (fun i => i < σ.length))
    (h : stepO Γ p env σ fun env σ => stepO Γ o env σ K) : stepO Γ o env σ fun env σ => stepO Γ p env σ K := by
  obtain ⟨c1, c2⟩ := clash_spec hc
  have hro : ∀ v, ∀ t ∈ o.reads, lookF t env = lookF t (put p.dst v env) := fun v => reads_put fun d hd => (c1 d hd).1
  have hrp : ∀ u, ∀ t ∈ p.reads, lookF t (put o.dst u env) = lookF t env := fun u t ht => (reads_put (v := u) (fun d hd => c2 d hd) t ht).symm
  have hsame : ∀ u v σ, K (put o.dst u (put p.dst v env)) σ → K (put p.dst v (put o.dst u env)) σ := fun u v σ h => (hK _ _ _ fun q => put_swap (fun d hd => (c1 d hd).2) q).mpr h
  have wr : ∀ {q : PO} {env : Env} {K : Env → Sto → Prop} {σ : Sto}, q.k.writ = true ∨ q.k.al = true → stepO Γ q env σ K → ∃ v σ1, K (put q.dst v env) σ1 ∧ Runs Γ q env σ v σ1 := fun hq h => by
    rcases hq with hq | hq
    · exact writ_runs hq h
    · obtain ⟨v, σ1, h3, h4, _⟩ := al_runs hq h
      exact ⟨v, σ1, h3, h4⟩
  have stillO : o.k.still = true → (p.k.writ = true ∨ p.k.al = true) → stepO Γ o env σ fun env σ => stepO Γ p env σ K := fun ho hp => by
    obtain ⟨v, σ1, h1, h2⟩ := wr hp h
    obtain ⟨u, h3, h4⟩ := still_stands ho h1
    exact h4 env σ _ (hro v) (h2 _ _ (hrp u) (hsame u v _ h3))
  simp only [okPair, Bool.or_eq_true, Bool.and_eq_true] at hpo
  rcases hpo with ((⟨ho, hp⟩ | ⟨ho, hp⟩ | ⟨ho, hp⟩) | ⟨ho, hp⟩ | ⟨ho, hp⟩)
  · obtain ⟨v, h1, h2⟩ := det_step hΓ hp h
    obtain ⟨u, h3, h4⟩ := det_step hΓ ho h1
    exact h4 env _ (hro v) (h2 _ _ (hrp u) (hsame u v _ h3))
  · cases hst : o.k.still with
    | true => exact stillO hst (.inr hp)
    | false =>
      obtain ⟨v, σ1, h1, h2, h5⟩ := al_runs hp h
      obtain ⟨u, h3, h4⟩ := step_mv (P := fun i => i < σ.length) hΓ ho (env := put p.dst v env) (fun t ht => by rw [← hro v t ht]; exact hw ho hst t ht) h5.back h1
      exact h4 env _ (hro v) (h2 _ _ (hrp u) (hsame u v _ h3))
  · obtain ⟨v, h1, h2⟩ := det_step hΓ hp h
    have h10 := h2 env (fun env' σ' => σ' = σ ∧ env' = put p.dst v env) (fun _ _ => rfl) ⟨rfl, rfl⟩
    obtain ⟨u, σ1, h3, h4, h5⟩ := al_runs ho h1
    obtain ⟨v', h6, h7⟩ := step_mv (P := fun _ => True) hΓ hp (env := env) (fun t _ => On_true _) h5.sub h10
    refine h4 env _ (hro v) (h7 _ _ (hrp u) ?_)
    refine (hK (put o.dst u (put p.dst v env)) _ σ1 fun q => ?_).mpr h3
    have e2 : lookF q (put p.dst v' (put o.dst u env)) = lookF q (put o.dst u (put p.dst v' env)) := put_swap (fun d hd => (c1 d hd).2) q
    rw [e2, h6.2]
  · exact stillO ho hp
  · obtain ⟨v, h1, h2⟩ := still_stands hp h
    obtain ⟨u, σ1, h3, h4⟩ := wr ho h1
    exact h4 env _ (hro v) (h2 _ σ1 _ (hrp u) (hsame u v _ h3))

theorem same_step {K : Env → Sto → Prop} (hK : Same K) (o : PO) : Same fun env σ => stepO Γ o env σ K := by
  intro env env' σ hs
  obtain ⟨d, g, k⟩ := o
  have hk : evK Γ env' σ k (fun v σ => K (put d v env') σ) = evK Γ env σ k (fun v σ => K (put d v env) σ) := by
    rw [evK_congr (env := env) fun t _ => hs t]
    congr 1
    funext v σ
    exact hK _ _ _ (look_put_same hs)
  unfold stepO
  cases g with
  | none => exact hk
  | some p =>
    obtain ⟨g, want⟩ := p
    simp only [hs g, hk, hK _ _ σ (look_put_same (d := d) (v := .pv (.tup [])) hs)]

theorem same_vcO {K : Env → Sto → Prop} (hK : Same K) (l : List PO) : Same (vcO Γ K l) := by
  induction l with
  | nil => exact hK
  | cons o l ih =>
    intro env env' σ hs
    rw [vcO_cons, vcO_cons]
    exact same_step ih o env env' σ hs

/-- An operation that clashes with none ahead of it comes first. -/
theorem vcO_first {P : Program} (hΓ : Sound P Γ) {K : Env → Sto → Prop} (hK : Same K) (l2 : List PO) (o : PO) : ∀ (l1 : List PO) (env : Env) (σ : Sto), (∀ t ∈ o.reads, (lookF t env).On (fun i => i < σ.length)) → (∀ p ∈ l1, okPair Γ o p = true ∧ clash p o = false) →
    vcO Γ K (l1 ++ o :: l2) env σ → vcO Γ K (o :: (l1 ++ l2)) env σ := by
  suffices H : ∀ (l1 : List PO) (env : Env) (σ : Sto), (o.k.pure Γ = true → o.k.still = false → ∀ t ∈ o.reads, (lookF t env).On (fun i => i < σ.length)) → (∀ p ∈ l1, okPair Γ o p = true ∧ clash p o = false) →
      vcO Γ K (l1 ++ o :: l2) env σ → vcO Γ K (o :: (l1 ++ l2)) env σ from fun l1 env σ hw hp h => H l1 env σ (fun _ _ => hw) hp h
  intro l1
  induction l1 with
  | nil => intro env σ _ _ h; exact h
  | cons p l1 ih =>
    intro env σ hw hp h
    obtain ⟨hp1, hp2⟩ := hp p (by simp)
    rw [List.cons_append, vcO_cons] at h
    obtain ⟨v, σ1, h1, h2, hlen⟩ := pair_runs hΓ hp1 h
    have h3 := ih _ _ (fun ho hst t ht => by
      rw [← reads_put (v := v) (env := env) (fun d hd => ((clash_spec hp2).1 d hd).1) t ht]
      exact On_mono (fun i hi => Nat.lt_of_lt_of_le hi (hlen ⟨ho, hst⟩)) _ (hw ho hst t ht)) (fun q hq => hp q (by simp [hq])) h1
    rw [vcO_cons] at h3
    have h4 := h2 env (fun env σ => stepO Γ o env σ (vcO Γ K (l1 ++ l2))) (fun _ _ => rfl) h3
    have h5 := swapO hΓ (same_vcO hK _) hp1 hp2 hw h4
    rw [vcO_cons]
    have : (fun env σ => stepO Γ p env σ (vcO Γ K (l1 ++ l2))) = vcO Γ K (p :: (l1 ++ l2)) := by
      funext env σ; rw [vcO_cons]
    rw [this] at h5
    exact h5
end
end Go.Dv
end
section
/-
  Regions: each operation in its turn, and in each turn that a drawn order lets.
-/
set_option linter.unusedSimpArgs false
namespace Go.Dv
open Go.RowKit
section
variable {cx : Cx} {env : Env} {σ : Sto} {vals : List Value} {a : Act} {w w' : World} {n : Nat} {Γ : Ctx} {ops : Array Oper}

theorem getD_eq (t : Array Value) (d : Nat) : t.getD d undef = (t[d]?).getD undef := by
  simp [Array.getD_eq_getD_getElem?]

theorem rel_put {dst : Option Nat} {av : AV} {v : Value} (h : Rel cx env σ vals a w) (hv : RA (Ok cx σ vals w) σ vals w av v) (hd : ∀ d, dst = some d → d < a.tmps.size) (hlo : ∀ d, dst = some d → cx.lo ≤ d) : Rel cx (put dst av env) σ vals (a.put dst v) w := by
  cases dst with
  | none => exact h
  | some d =>
    refine ⟨h.s, fun p => ?_, h.defers, h.gh, fun p hp => ?_⟩
    rotate_left
    · have h1 := h.lo p hp
      have h2 := hlo d rfl
      rw [getD_eq] at h1 ⊢
      show ((a.tmps.setIfInBounds d v)[p]?).getD undef = _
      rw [Array.getElem?_setIfInBounds, if_neg (by omega)]
      exact h1
    rw [lookF_put]
    show RA _ _ _ _ _ ((a.tmps.setIfInBounds d v).getD p undef)
    rw [getD_eq, Array.getElem?_setIfInBounds]
    by_cases hp : d = p
    · subst hp
      simp only [Nat.beq_refl, cond_true, if_true, hd d rfl, Option.getD_some]
      exact hv
    · rw [nbeq hp, if_neg hp]
      have := h.env p
      rw [getD_eq] at this
      exact this

theorem rel_bad {dst : Option Nat} (h : Rel cx env σ vals a w) (hd : ∀ d, dst = some d → d < a.tmps.size) (hlo : ∀ d, dst = some d → cx.lo ≤ d) : Rel cx (put dst (.pv (.tup [])) env) σ vals (a.put dst undef) w :=
  rel_put h (by simp only [RA, Rd]; exact ⟨#[], rfl, by simp [RdL]⟩) hd hlo

theorem put_size (a : Act) (d : Option Nat) (v : Value) : (a.put d v).tmps.size = a.tmps.size := by cases d <;> simp [Act.put]

theorem rel_drew (h : Rel cx env σ vals a w) : Rel cx env σ vals a { w with drawn := w.drawn + 1 } := by
  obtain ⟨h1, h2⟩ := h.s.grow (w' := w.drew) ((Below.refl _ w).drew)
  exact ⟨h1, fun p => h2.ra _ _ (h.env p), h.defers, fun x v hq => h2.ra _ _ (h.gh x v hq), h.lo⟩

theorem rel_same {env' : Env} (h : Rel cx env σ vals a w) (hs : ∀ p, lookF p env' = lookF p env) : Rel cx env' σ vals a w := ⟨h.s, fun p => hs p ▸ h.env p, h.defers, h.gh, h.lo⟩

theorem readPvs {σ : Sto} (xs : List PV) : ∀ (K : List PV → Prop), K xs → readAVs σ (xs.map .pv) K := by
  induction xs with
  | nil => intro K h; exact h
  | cons x xs ih => intro K h; exact ih _ h
theorem freezePvs (xs : List PV) (σ : Sto) : ∀ (K : Sto → Prop), K σ → freezeAVs (xs.map .pv) σ K := by
  induction xs with
  | nil => intro K h; exact h
  | cons x xs ih => intro K h; exact ih _ h
theorem plain_ev {Γ : Ctx} {σ : Sto} {env : Env} (k : PK) (K : AV → Sto → Prop) (h : evK Γ env σ k.plain K) : evK Γ env σ k K := by
  cases k with
  | lenR x =>
    simp only [PK.plain, evK, ev_eq] at h ⊢
    cases hv : evF env x with
    | pv y =>
      rw [hv] at h
      cases y with
      | sl s els => exact fun _ => h
      | nil s => exact fun _ => h
      | _ => exact h.elim
    | own id =>
      rw [hv] at h
      obtain ⟨b, h1, h2⟩ := nthK_iff _ _ _ h
      refine nthK_mk _ _ b _ h1 ?_
      cases b with
      | row e s ap els => exact fun _ => h2
      | fz x => cases x with
        | sl s els => exact fun _ => h2
        | _ => exact h2.elim
      | _ => exact h2.elim
    | sub id sz lo n =>
      rw [hv] at h
      obtain ⟨b, h1, h2⟩ := nthK_iff _ _ _ h
      refine nthK_mk _ _ b _ h1 ?_
      have one : ∀ (s : Nat) (els : List PV), (match Nat.beq s sz with
          | true => lo + n ≤ els.length ∧ K (.pv (.int .i64 (cut lo (lo + n) els).length)) σ
          | false => False) → (match Nat.beq s sz with
          | true => lo + n ≤ els.length ∧ ((cut lo (lo + n) els).length ≤ 9223372036854775807 → K (.pv (.int .i64 (cut lo (lo + n) els).length)) σ)
          | false => False) := by
        intro s els h
        cases hs : Nat.beq s sz with
        | true => rw [hs] at h; exact ⟨h.1, fun _ => h.2⟩
        | false => rw [hs] at h; exact h.elim
      cases b with
      | row e s ap els => exact one s els h2
      | fz x => cases x with
        | sl s els => exact one s els h2
        | _ => exact (show False from h2).elim
      | _ => exact (show False from h2).elim
    | _ => rw [hv] at h; exact h.elim
  | bslice e sz l =>
    simp only [PK.plain, evK, evs_eq] at h ⊢
    rcases allPvK_spec _ _ _ h with ⟨xs, he, h1, h2⟩ | h
    · rw [he]
      refine readPvs xs _ ⟨h1, ?_⟩
      exact freezePvs xs σ _ h2
    · exact h.elim
  | _ => exact h

/-- A fence that lets all in: none, or none but a round's mark. -/
def Free (F : Fence) : Prop := F = Fence.wide ∨ ∃ l, F = Fence.wide.inRound l

theorem wide_op {P : Program} {o : Oper} {next : Act → World → Prop} {Q : Exit → Act → World → Prop} {m : Nat} (ro : Option Nat) (hd : ∀ c, o.op ≠ .defer c) (h : o.wp P a w next Q) : o.wpIn { Fence.wide with round := ro } m P a w next Q := by
  refine ⟨fun f _ => trivial, ?_⟩
  rw [Oper.semAt_eq _ _ _ hd]
  unfold Oper.wp at h
  generalize (execOp a.eval o).run P w = r at *
  cases r with
  | ok nx w' =>
    cases nx with
    | enter f args => exact ⟨fun hs => (by cases hs), (callsIn_wide (n := m - 1)).2 h⟩
    | row row args => exact ⟨fun hs => (by cases hs), fun c cs _ => let ⟨v, w', r, s⟩ := h c cs; ⟨v, w', r, stepsIn_wide.2 s⟩⟩
    | value v => exact h
    | skip => exact h
    | defer d => exact h
    | _ => exact (show False from h).elim
  | halt x w' => cases x <;> first | exact h | exact (show False from h).elim

theorem free_op {P : Program} {o : Oper} {next : Act → World → Prop} {Q : Exit → Act → World → Prop} {F : Fence} {m : Nat} (hF : Free F) (hd : ∀ c, o.op ≠ .defer c) (h : o.wp P a w next Q) : o.wpIn F m P a w next Q := by
  rcases hF with rfl | ⟨l, rfl⟩
  · exact wide_op none hd h
  · exact wide_op (some l) hd h

theorem Free.fn {F : Fence} (hF : Free F) (f : FuncId) : F.fn f := by
  rcases hF with rfl | ⟨l, rfl⟩ <;> trivial

/-- What the verifier's operation says of the model's. -/
def Comped (P : Program) (dr : Bool) (ops : Array Oper) (n : Nat) (f : Nat → PO) : Prop :=
  ∀ i : Nat, i < ops.size → ∃ o po, ops[i]? = some o ∧ compO P dr ops n o = some po ∧ (f i = po ∨ f i = po.plain)

theorem step_op (hΓ : Sound cx.P Γ) {f : Nat → PO} {dr : Bool} (hc : Comped cx.P dr ops n f) {i : Nat} (hi : i < ops.size) (hn : a.tmps.size = n) (hr : Rel cx env σ vals a w) {K : Env → Sto → Prop} {next : Act → World → Prop} {Q : Exit → Act → World → Prop} {F : Fence} {m : Nat} (hF : Free F) (hw : ∀ d, (f i).dst = some d → cx.lo ≤ d)
    (hnext : ∀ env' σ' vals' a' w', a'.tmps.size = n → Rel cx env' σ' vals' a' w' → K env' σ' → next a' w') (h : stepO Γ (f i) env σ K) : wpOpIn F m cx.P ops Q i next a w := by
  obtain ⟨o, po, ho, hpo, hf⟩ := hc i hi
  unfold compO at hpo
  obtain ⟨k, hk, hpo⟩ := opt_some hpo
  obtain ⟨hd, hpo⟩ := need_some hpo
  have hdst : ∀ d, o.dst = some d → d < a.tmps.size := by
    intro d hd'
    rw [hd'] at hd
    rw [hn]
    exact Nat.le_of_ble_eq_true hd
  have hnd : ∀ c, o.op ≠ .defer c := by
    intro c hop
    unfold compK at hk
    rw [hop] at hk
    cases hk
  have hlo : ∀ d, o.dst = some d → cx.lo ≤ d := by
    intro d hd'
    refine hw d ?_
    have : (f i).dst = po.dst := by rcases hf with hf | hf <;> rw [hf] <;> rfl
    rw [this, ← hd']
    cases hg : o.guard with
    | none => rw [hg] at hpo; cases hpo; rfl
    | some gw =>
      rw [hg] at hpo
      obtain ⟨oj, _, hpo⟩ := opt_some hpo
      obtain ⟨dd, _, hpo⟩ := opt_some hpo
      cases hpo; rfl
  -- the operation's run
  have run : evK Γ env σ k (fun v σ => K (put o.dst v env) σ) → o.wpIn F m cx.P a w next Q := by
    intro h
    refine free_op hF hnd ?_
    refine op_sound hΓ hr hk h next Q ?_
    intro av σ' vals' v w' hK hr' hv
    exact hnext _ _ _ _ _ ((put_size ..).trans hn) (rel_put hr' hv hdst hlo) hK
  have run' : evK Γ env σ (f i).k (fun v σ => K (put o.dst v env) σ) → (f i).k = k ∨ (f i).k = k.plain → o.wpIn F m cx.P a w next Q := by
    intro h he
    rcases he with he | he
    · rw [he] at h; exact run h
    · rw [he] at h; exact run (plain_ev _ _ h)
  unfold wpOpIn
  simp only [ho]
  cases hg : o.guard with
  | none =>
    rw [hg] at hpo
    simp only at hpo
    cases hpo
    have : Region.wanted o (yielded ops a.tmps) = true := by simp [Region.wanted, hg]
    rw [if_pos this]
    unfold stepO at h
    have e1 : (f i).g = none := by rcases hf with hf | hf <;> rw [hf] <;> rfl
    have e2 : (f i).dst = o.dst := by rcases hf with hf | hf <;> rw [hf] <;> rfl
    have e3 : (f i).k = k ∨ (f i).k = k.plain := by rcases hf with hf | hf <;> rw [hf]; exact .inl rfl; exact .inr rfl
    rw [e1, e2] at h
    exact run' h e3
  | some gw =>
    obtain ⟨j, want⟩ := gw
    rw [hg] at hpo
    simp only at hpo
    obtain ⟨oj, hoj, hpo⟩ := opt_some hpo
    obtain ⟨d, hdj, hpo⟩ := opt_some hpo
    cases hpo
    have e1 : (f i).g = some (d, want) := by rcases hf with hf | hf <;> rw [hf] <;> rfl
    have e2 : (f i).dst = o.dst := by rcases hf with hf | hf <;> rw [hf] <;> rfl
    have e3 : (f i).k = k ∨ (f i).k = k.plain := by rcases hf with hf | hf <;> rw [hf]; exact .inl rfl; exact .inr rfl
    unfold stepO at h
    rw [e1, e2] at h
    simp only at h
    cases hv : lookF d env with
    | pv x =>
      rw [hv] at h
      cases x with
      | bool b =>
        simp only at h
        have hy : yielded ops a.tmps j = some b := by
          have h1 := hr.env d
          rw [hv, getD_eq] at h1
          simp only [RA, Rd] at h1
          unfold yielded
          simp only [hoj, Option.bind_some, hdj]
          cases ht : a.tmps[d]? with
          | none => rw [ht] at h1; cases h1
          | some v => rw [ht] at h1; simp only [Option.getD_some] at h1; rw [h1]
        have hw : Region.wanted o (yielded ops a.tmps) = (b == want) := by
          simp only [Region.wanted, hg, hy]
          cases b <;> cases want <;> rfl
        rw [hw]
        cases hb : (b == want) with
        | true => rw [hb] at h; exact run' h e3
        | false =>
          rw [hb] at h
          exact ⟨fun f _ => hF.fn f, hnext _ _ _ _ _ ((put_size ..).trans hn) (rel_bad hr hdst hlo) h⟩
      | tup l =>
        simp only at h
        have hy : yielded ops a.tmps j = none := by
          have h1 := hr.env d
          rw [hv, getD_eq] at h1
          simp only [RA, Rd] at h1
          obtain ⟨vs, h1, _⟩ := h1
          unfold yielded
          simp only [hoj, Option.bind_some, hdj]
          cases ht : a.tmps[d]? with
          | none => rfl
          | some v => rw [ht] at h1; simp only [Option.getD_some] at h1; rw [h1]
        have hw : Region.wanted o (yielded ops a.tmps) = false := by
          simp only [Region.wanted, hg, hy]
          cases want <;> rfl
        rw [hw]
        exact ⟨fun f _ => hF.fn f, hnext _ _ _ _ _ ((put_size ..).trans hn) (rel_bad hr hdst hlo) h⟩
      | _ => exact h.elim
    | _ => rw [hv] at h; exact h.elim

theorem ops_sound (hΓ : Sound cx.P Γ) {f : Nat → PO} {dr : Bool} (hc : Comped cx.P dr ops n f) {K : Env → Sto → Prop} {Q : Exit → Act → World → Prop} {F : Fence} {m : Nat} (hF : Free F) (hw : ∀ i, i < ops.size → ∀ d, (f i).dst = some d → cx.lo ≤ d)
    (hQ : ∀ env' σ' vals' a' w', a'.tmps.size = n → Rel cx env' σ' vals' a' w' → K env' σ' → Q .normal a' w') :
    ∀ (is : List Nat) (env : Env) (σ : Sto) (vals : List Value) (a : Act) (w : World), (∀ i ∈ is, i < ops.size) → a.tmps.size = n → Rel cx env σ vals a w → vcO Γ K (is.map f) env σ → wpOpsIn F m cx.P ops Q is a w := by
  intro is
  induction is with
  | nil => intro env σ vals a w _ hn hr h; exact hQ _ _ _ _ _ hn hr h
  | cons i is ih =>
    intro env σ vals a w hi hn hr h
    rw [List.map_cons, vcO_cons] at h
    rw [wpOpsIn_cons]
    exact step_op hΓ hc (hi i (by simp)) hn hr hF (hw i (hi i (by simp))) (fun env' σ' vals' a' w' hn' hr' hK => ih env' σ' vals' a' w' (fun j hj => hi j (by simp [hj])) hn' hr' hK) h

/-! ### Drawn orders -/
structure Drawn (Γ : Ctx) (ops : Array Oper) (f : Nat → PO) (aft bs : Nat → List Nat) : Prop where
  fore : ∀ (i : Nat) (o : Oper), ops[i]? = some o → ∀ j ∈ aft i, ∃ e ∈ o.after, Region.binds .any e = true ∧ e.on = j
  back : ∀ (i : Nat) (o : Oper), ops[i]? = some o → ∀ e ∈ o.after, Region.binds .any e = true → e.on ∈ aft i
  lt : ∀ i, i < ops.size → ∀ j ∈ aft i, j < i
  bef : ∀ i, i < ops.size → ∀ j ∈ bs i, j ∈ aft i ∨ ∃ e ∈ aft i, j ∈ bs e
  free : ∀ i j, i < ops.size → j < i → j ∈ bs i ∨ (okPair Γ (f i) (f j) = true ∧ clash (f j) (f i) = false)

/-- The operations that have not run, in the text's order. -/
def left (n : Nat) (listed : Array Bool) : List Nat := (List.range n).filter fun i => !listed.getD i true

theorem left_set {n i : Nat} {listed : Array Bool} (hs : listed.size = n) (hi : i < n) (hl : listed.getD i true = false) :
    ∃ l1 l2, left n listed = l1 ++ i :: l2 ∧ left n (listed.setIfInBounds i true) = l1 ++ l2 ∧ (∀ j ∈ l1, j < i ∧ listed.getD j true = false) := by
  have hsplit : List.range n = List.range i ++ i :: (List.range (n - i - 1)).map (· + (i + 1)) := by
    have h1 : n = i + (1 + (n - i - 1)) := by omega
    conv => lhs; rw [h1, List.range_add, List.range_add]
    simp only [List.map_append, List.map_map]
    congr 1
    show (List.range 1).map (i + ·) ++ _ = _
    simp only [List.range_one, List.map_cons, List.map_nil, Nat.add_zero, List.singleton_append]
    congr 1
    apply List.map_congr_left
    intro k _
    simp only [Function.comp_apply]
    omega
  refine ⟨(List.range i).filter fun i => !listed.getD i true, ((List.range (n - i - 1)).map (· + (i + 1))).filter fun i => !listed.getD i true, ?_, ?_, ?_⟩
  · unfold left
    rw [hsplit, List.filter_append, List.filter_cons, if_pos (by simp only [hl, Bool.not_false])]
  · unfold left
    rw [hsplit, List.filter_append, List.filter_cons]
    have e0 : (listed.setIfInBounds i true).getD i true = true := by
      rw [Array.getD_eq_getD_getElem?, Array.getElem?_setIfInBounds_self_of_lt (by omega)]; rfl
    rw [if_neg (by rw [e0]; simp)]
    congr 1
    · apply List.filter_congr
      intro j hj
      have : j < i := List.mem_range.1 hj
      rw [getD_set_ne true (by omega)]
    · apply List.filter_congr
      intro j hj
      obtain ⟨k, _, rfl⟩ := List.mem_map.1 hj
      rw [getD_set_ne true (by omega)]
  · intro j hj
    obtain ⟨h1, h2⟩ := List.mem_filter.1 hj
    exact ⟨List.mem_range.1 h1, by simpa using h2⟩

theorem draw_sound (hΓ : Sound cx.P Γ) {f : Nat → PO} {dr : Bool} (hc : Comped cx.P dr ops n f) {aft bs : Nat → List Nat} (hD : Drawn Γ ops f aft bs) {K : Env → Sto → Prop} (hK : Same K) {Q : Exit → Act → World → Prop} {F : Fence} {m : Nat} (hF : Free F) (hw : ∀ i, i < ops.size → ∀ d, (f i).dst = some d → cx.lo ≤ d)
    (hQ : ∀ env' σ' vals' a' w', a'.tmps.size = n → Rel cx env' σ' vals' a' w' → K env' σ' → Q .normal a' w') :
    ∀ (fuel : Nat) (listed : Array Bool) (env : Env) (σ : Sto) (vals : List Value) (a : Act) (w : World), listed.size = ops.size → (left ops.size listed).length ≤ fuel →
      (∀ i, i < ops.size → listed.getD i false = true → ∀ j ∈ bs i, listed.getD j false = true) →
      a.tmps.size = n → Rel cx env σ vals a w → vcO Γ K ((left ops.size listed).map f) env σ → wpAnyIn F m cx.P .any ops Q fuel listed a w := by
  have empty : ∀ (listed : Array Bool), listed.size = ops.size → Region.ready .any ops listed = [] → left ops.size listed = [] := by
    intro listed hs hr
    apply Decidable.byContradiction
    intro hne
    obtain ⟨i, hi, hmin⟩ : ∃ i, i ∈ left ops.size listed ∧ ∀ j, j < i → j ∉ left ops.size listed := by
      have hex : ∃ i, i ∈ left ops.size listed := by
        cases hl : left ops.size listed with
        | nil => exact absurd hl hne
        | cons x xs => exact ⟨x, by simp⟩
      obtain ⟨i, hi⟩ := hex
      induction i using Nat.strongRecOn with
      | _ i ih =>
        by_cases h : ∃ j, j < i ∧ j ∈ left ops.size listed
        · obtain ⟨j, hj, hm⟩ := h; exact ih j hj hm
        · exact ⟨i, hi, fun j hj hm => h ⟨j, hj, hm⟩⟩
    obtain ⟨h1, h2⟩ := List.mem_filter.1 hi
    have h1 := List.mem_range.1 h1
    have hready : i ∈ Region.ready .any ops listed := by
      refine mem_ready.2 ⟨by simpa using h2, ops[i], Array.getElem?_eq_getElem h1, fun e he hb => ?_⟩
      have hj := hD.back i _ (Array.getElem?_eq_getElem h1) e he hb
      have hlt := hD.lt i h1 _ hj
      have := hmin _ hlt
      cases hg : listed.getD e.on true with
      | false => exact absurd (List.mem_filter.2 ⟨List.mem_range.2 (by omega), by simp only [hg, Bool.not_false]⟩) this
      | true =>
        rw [Array.getD_eq_getD_getElem?] at hg ⊢
        rw [Array.getElem?_eq_getElem (by omega)] at hg ⊢
        exact hg
    rw [hr] at hready
    cases hready
  intro fuel
  induction fuel with
  | zero =>
    intro listed env σ vals a w hs hl hcl hn hr h
    have hnil : left ops.size listed = [] := List.eq_nil_of_length_eq_zero (by omega)
    refine ⟨?_, ?_⟩
    · cases hrd : Region.ready .any ops listed with
      | nil => rfl
      | cons i is =>
        exfalso
        have hi : i ∈ Region.ready .any ops listed := by rw [hrd]; simp
        obtain ⟨h1, o, h2, _⟩ := mem_ready.1 hi
        have : i ∈ left ops.size listed := List.mem_filter.2 ⟨List.mem_range.2 (Array.getElem?_eq_some_iff.1 h2).1, by simp only [h1, Bool.not_false]⟩
        rw [hnil] at this; cases this
    · rw [hnil] at h
      exact hQ _ _ _ _ _ hn hr h
  | succ fuel ih =>
    intro listed env σ vals a w hs hl hcl hn hr h
    refine ⟨fun h0 => ?_, fun i hi => ?_⟩
    · rw [empty listed hs h0] at h
      exact hQ _ _ _ _ _ hn hr h
    · obtain ⟨hun, o, ho, hall⟩ := mem_ready.1 hi
      have hlt : i < ops.size := (Array.getElem?_eq_some_iff.1 ho).1
      obtain ⟨l1, l2, e1, e2, h3⟩ := left_set hs hlt hun
      have hdir : ∀ j ∈ aft i, listed.getD j false = true := by
        intro j hj
        obtain ⟨e, he, hb, rfl⟩ := hD.fore i o ho j hj
        exact hall e he hb
      have hbef : ∀ j ∈ bs i, listed.getD j false = true := by
        intro j hj
        rcases hD.bef i hlt j hj with h | ⟨e, he, h⟩
        · exact hdir j h
        · exact hcl e (Nat.lt_trans (hD.lt i hlt e he) hlt) (hdir e he) j h
      have hfree : ∀ j ∈ l1, okPair Γ (f i) (f j) = true ∧ clash (f j) (f i) = false := by
        intro j hj
        obtain ⟨h4, h5⟩ := h3 j hj
        rcases hD.free i j hlt h4 with h | h
        · have := hbef j h
          rw [Array.getD_eq_getD_getElem?, Array.getElem?_eq_getElem (by omega)] at h5 this
          rw [Option.getD_some] at h5 this
          rw [h5] at this; cases this
        · exact h
      rw [e1, List.map_append, List.map_cons] at h
      have hfirst := vcO_first hΓ hK (l2.map f) (f i) (l1.map f) env σ (fun t _ => RA_on (fun j hj => by rw [← hr.s.len]; exact hj) (fun j hj => hj) _ _ (hr.env t))
        (fun p hp => by obtain ⟨j, hj, rfl⟩ := List.mem_map.1 hp; exact hfree j hj) h
      rw [vcO_cons, ← List.map_append, ← e2] at hfirst
      refine step_op hΓ hc hlt hn hr hF (hw i hlt) (fun env' σ' vals' a' w' hn' hr' hK' => ?_) hfirst
      refine ih _ env' σ' vals' a' w' (by simpa using hs) ?_ ?_ hn' hr' hK'
      · rw [e2]; rw [e1] at hl; simp at hl ⊢; omega
      · intro k hk hlk j hj
        by_cases hik : i = k
        · subst hik; exact getD_set_true (hbef j hj)
        · rw [getD_set_ne false hik] at hlk
          exact getD_set_true (hcl k hk hlk j hj)
end
end Go.Dv
end
section
/-
  The store's rows, numbered anew at a loop's head.
-/
set_option linter.unusedSimpArgs false
namespace Go.Dv
open Go.RowKit
section
variable {cx : Cx} {env : Env} {σ : Sto} {vals : List Value} {a : Act} {w w' : World}

/-- The entries that are pinned. -/
def PinOk (pin : List Nat) (cx : Cx) : Prop := pin = List.range cx.pinS.length ∧ cx.pinV.length = cx.pinS.length

theorem ren_rel {pin r : List Nat} {σ' : Sto} (hpin : PinOk pin cx) (hpr : pin <+: r) (hn : r.Nodup) (h1 : σ'.length = r.length) (h2 : ∀ (j i : Nat), r[j]? = some i → ∃ s t, σ[i]? = some s ∧ σ'[j]? = some t ∧ RenB r s t) (hs : RelS cx σ vals w) :
    ∃ vals', Anew r σ σ' vals vals' ∧ RelS cx σ' vals' w ∧ ∀ b, Ok cx σ vals w b → Ok cx σ' vals' w b := by
  obtain ⟨vals', hA⟩ : ∃ vals', Anew r σ σ' vals vals' := by
    refine ⟨r.map fun i => (vals[i]?).getD undef, hn, h1, h2, by simp, fun j i hj => ?_⟩
    obtain ⟨s, t, hs', _⟩ := h2 j i hj
    have : i < vals.length := by rw [hs.len]; exact (List.getElem?_eq_some_iff.1 hs').1
    rw [List.getElem?_map, hj]
    simp only [Option.map_some]
    rw [List.getElem?_eq_getElem this]
    exact ⟨rfl, _, rfl⟩
  have back : ∀ {j : Nat} {t : Blk}, σ'[j]? = some t → ∃ i s, r[j]? = some i ∧ σ[i]? = some s ∧ RenB r s t := by
    intro j t ht
    have hj : j < r.length := by rw [← h1]; exact (List.getElem?_eq_some_iff.1 ht).1
    obtain ⟨s, t', hs', ht', hst⟩ := h2 j _ (List.getElem?_eq_getElem hj)
    rw [ht] at ht'; cases ht'
    exact ⟨_, s, List.getElem?_eq_getElem hj, hs', hst⟩
  have hmut : ∀ b, Mut σ' vals' b → Mut σ vals b := by
    rintro b ⟨j, t, v, ht, hl, hv, hb⟩
    obtain ⟨i, s, hj, hs', hst⟩ := back ht
    exact ⟨i, s, v, hs', hst.live ▸ hl, by rw [← (hA.vals j i hj).1]; exact hv, hb⟩
  have hok : ∀ b, Ok cx σ vals w b → Ok cx σ' vals' w b := fun b hb => ⟨hb.1, hb.2.1, fun hm => hb.2.2 (hmut b hm)⟩
  have hpin1 : ∀ j, j < cx.pinS.length → r[j]? = some j := by
    intro j hj
    obtain ⟨t, rfl⟩ := hpr
    rw [List.getElem?_append_left (by rw [hpin.1]; simpa using hj), hpin.1, List.getElem?_range hj]
  have hpn : Pin cx σ' vals' := by
    refine ⟨fun j v hv => ?_, ?_, fun j hj e sz ap els ht => ?_, fun j hj s2 ht hb2 => ?_⟩
    · have hj : j < cx.pinS.length := by rw [← hpin.2]; exact (List.getElem?_eq_some_iff.1 hv).1
      rw [(hA.vals j j (hpin1 j hj)).1]
      exact hs.pin.vs j v hv
    · rw [h1]
      rcases Nat.lt_or_ge r.length cx.pinS.length with hlt | hge
      · have := (List.getElem?_eq_some_iff.1 (hpin1 _ hlt)).1
        omega
      · exact hge
    · obtain ⟨i, s, hi, hs', hst⟩ := back ht
      rw [hpin1 j hj] at hi; cases hi
      cases s with
      | box e' cs' => obtain ⟨ds, hd, _⟩ := hst; cases hd
      | row e' sz' ap' els' => cases hst; exact hs.pin.refr j hj _ _ _ _ hs'
      | _ => cases hst
    · obtain ⟨i, s, hi, hs', hst⟩ := back ht
      rw [hpin1 j hj] at hi; cases hi
      exact hs.pin.refb j hj _ hs' (by rw [← hst.boxy]; exact hb2)
  refine ⟨vals', hA, ⟨hs.below, fun v hv => ?_, by rw [hA.vlen, h1], fun j t v ht hv => ?_, fun j k t1 t2 u v b hjk ht1 ht2 l1 l2 hu hv hbu hbv => ?_, ⟨hs.fr.size, hs.fr.same, fun b hm => hs.fr.mutn b (hmut b hm)⟩, hpn⟩, hok⟩
  · obtain ⟨j, hj⟩ := List.mem_iff_getElem?.1 hv
    have hjr : j < r.length := by rw [← hA.vlen]; exact (List.getElem?_eq_some_iff.1 hj).1
    rw [(hA.vals j _ (List.getElem?_eq_getElem hjr)).1] at hj
    exact hs.one v (List.mem_of_getElem? hj)
  · obtain ⟨i, s, hj, hs', hst⟩ := back ht
    rw [(hA.vals j i hj).1] at hv
    have := hs.sto i s v hs' hv
    cases s with
    | dead => cases hst; trivial
    | fz x => cases hst; exact Rd.mono hok (fun _ _ _ => rfl) _ _ this
    | row e sz ap els =>
      cases hst
      obtain ⟨h0, cells, g1, g2, g3, g4⟩ := this
      exact ⟨h0, cells, g1, g2, g3, RdL.mono hok (fun _ _ _ => rfl) _ _ g4⟩
    | box e cs =>
      obtain ⟨ds, rfl, hd⟩ := hst
      obtain ⟨b, arr, g1, g2, g3, g4, g5⟩ := this
      exact ⟨b, arr, g1, g2, g3, hd.ones g4, hd.ra hA hok _ _ _ g5⟩
  · obtain ⟨i1, s1, hj1, hs1, hst1⟩ := back ht1
    obtain ⟨i2, s2, hj2, hs2, hst2⟩ := back ht2
    rw [(hA.vals _ _ hj1).1] at hu
    rw [(hA.vals _ _ hj2).1] at hv
    refine hs.dis i1 i2 s1 s2 u v b ?_ hs1 hs2 (hst1.live ▸ l1) (hst2.live ▸ l2) hu hv hbu hbv
    intro e
    subst e
    exact hjk ((List.getElem?_inj (List.getElem?_eq_some_iff.1 hj1).1 hn).1 (hj1.trans hj2.symm))

theorem gc_spec (hgh : ∀ x v, ¬ cx.gh x v) {pin : List Nat} (hpin : PinOk pin cx) (hr : Rel cx env σ vals a w) (ps : List Nat) {K : Env → Sto → Prop} (h : gc pin env σ ps K) : ∃ env' σ' vals', K env' σ' ∧ Rel cx env' σ' vals' a w := by
  have h := canon_spec _ _ _ h
  obtain ⟨l, h, hl, hp1⟩ := idsEnv_spec _ _ _ (by rw [hpin.1]; exact List.nodup_range) h
  obtain ⟨r, h, hn, hp2⟩ := idsBox_spec _ _ _ _ hl h
  obtain ⟨env', h, he⟩ := renEnv_spec _ _ _ h
  obtain ⟨σ', h, h1, h2⟩ := renSto_spec _ _ _ _ h
  obtain ⟨vals', hA, hs', hok⟩ := ren_rel hpin (hp1.trans hp2) hn h1 h2 hr.s
  refine ⟨env', σ', vals', h, hs', fun p => ?_, hr.defers, fun x v hq => absurd hq (hgh x v), hr.lo⟩
  have hc : lookF p (ps.map fun p => (p, lookF p env)) = lookF p env ∨ lookF p (ps.map fun p => (p, lookF p env)) = .bad := lookF_canon env ps p
  have hp := he p
  have hv : RA (Ok cx σ vals w) σ vals w (lookF p (ps.map fun p => (p, lookF p env))) (a.tmps.getD p undef) := by
    rcases hc with hc | hc
    · rw [hc]; exact hr.env p
    · rw [hc]; simp only [RA]
  exact Ren.ra hA hok _ _ _ hp hv
end
end Go.Dv
end
section
/-
  Ranges over functions: what a round keeps, and the moves that set its variables.
-/
set_option linter.unusedSimpArgs false
namespace Go.Dv
open Go.RowKit
section
variable {cx : Cx} {env : Env} {σ : Sto} {vals : List Value} {a : Act} {w w' : World} {n : Nat} {Γ : Ctx} {ops : Array Oper}

/-- An entry's block is made of cells. -/
theorem mut_cells (hr : RelS cx σ vals w) {b : Nat} (hm : Mut σ vals b) : ∃ cur e fr, w.heap[b]? = some (.cells cur e fr) := by
  obtain ⟨i, s, v, h1, h2, h3, h4⟩ := hm
  have hs := hr.sto i s v h1 h3
  cases s with
  | dead => cases h2
  | fz x => cases h2
  | row e sz ap els =>
    obtain ⟨_, cells, h5, _⟩ := hs
    rcases h5.2 with ⟨rfl, _⟩ | ⟨g, cap, cur, fr, rfl, _, h6, _⟩
    · cases h4
    · cases h4; exact ⟨_, _, _, h6⟩
  | box e cs =>
    obtain ⟨g, arr, rfl, _, h6, _⟩ := hs
    cases h4; exact ⟨_, _, _, h6⟩

mutual
theorem RA.monoC {ok ok' : Nat → Prop} (hk : ∀ b, ok b → ok' b) (hc : ∀ b o u, ok b → w.cell? ⟨b, o, none⟩ = some u → w'.cell? ⟨b, o, none⟩ = some u) : ∀ (x : AV) (v : Value), RA ok σ vals w x v → RA ok' σ vals w' x v
  | .bad, _, _ => by simp only [RA]
  | .pv x, v, h => by simp only [RA] at h ⊢; exact Rd.monoC hk hc x v h
  | .own i, v, h => by simpa only [RA] using h
  | .ref i k o, v, h => by simpa only [RA] using h
  | .sub i s l n, v, h => by simpa only [RA] using h
  | .agg cs, v, h => by
    simp only [RA] at h ⊢
    obtain ⟨h0, vs, h1, h2⟩ := h
    exact ⟨h0, vs, h1, RAL.monoC hk hc cs _ h2⟩
  | .tup cs, v, h => by
    simp only [RA] at h ⊢
    obtain ⟨vs, h1, h2⟩ := h
    exact ⟨vs, h1, RAL.monoC hk hc cs _ h2⟩
  | .clo f cs, v, h => by
    simp only [RA] at h ⊢
    obtain ⟨vs, h1, h2⟩ := h
    exact ⟨vs, h1, RAL.monoC hk hc cs _ h2⟩
theorem RAL.monoC {ok ok' : Nat → Prop} (hk : ∀ b, ok b → ok' b) (hc : ∀ b o u, ok b → w.cell? ⟨b, o, none⟩ = some u → w'.cell? ⟨b, o, none⟩ = some u) : ∀ (l : List AV) (vs : List Value), RAL ok σ vals w l vs → RAL ok' σ vals w' l vs
  | [], _, h => by simpa only [RAL] using h
  | x :: xs, vs, h => by
    simp only [RAL] at h ⊢
    obtain ⟨v, r, h1, h2, h3⟩ := h
    exact ⟨v, r, h1, RA.monoC hk hc x v h2, RAL.monoC hk hc xs r h3⟩
end

/-- A block that is no cells has turned: nothing is read of it. -/
theorem RelS.other (hr : RelS cx σ vals w) {row : Option Nat} (hg : w.grownBy w' row) (hrow : ∀ r, row = some r → cx.own r ∧ cx.w1.heap.size ≤ r ∧ ∃ o : Obj, w.heap[r]? = some o ∧ o.isCells = false) :
    RelS cx σ vals w' ∧ ∀ x v, RA (Ok cx σ vals w) σ vals w x v → RA (Ok cx σ vals w') σ vals w' x v := by
  have hblk : ∀ (b : Nat) (cur : Array Value) (e : TypeId) (fr : Nat × Nat), w.heap[b]? = some (.cells cur e fr) → w'.heap[b]? = some (.cells cur e fr) := by
    intro b cur e fr h
    refine (hg.block b (Array.getElem?_eq_some_iff.1 h).1 (fun e' => ?_)).trans h
    obtain ⟨_, _, o, ho, hc⟩ := hrow b e'.symm
    rw [h] at ho; cases ho; cases hc
  have hc : ∀ b o u, Ok cx σ vals w b → w.cell? ⟨b, o, none⟩ = some u → w'.cell? ⟨b, o, none⟩ = some u := by
    intro b o u _ h
    unfold World.cell? at h
    cases hb : w.heap[b]? with
    | none => simp [hb] at h
    | some ob =>
      cases ob with
      | cells cur e fr => simp [hb] at h; simp [World.cell?, hblk b _ _ _ hb, h]
      | _ => simp [hb] at h
  have hk : ∀ b, Ok cx σ vals w b → Ok cx σ vals w' b := fun b h => ⟨h.1, Nat.lt_of_lt_of_le h.2.1 hg.size, h.2.2⟩
  refine ⟨⟨hr.below.grown hg (fun k e => (hrow k e).1), hr.one, hr.len, fun i s v h1 h2 => ?_, hr.dis,
    ⟨Nat.le_trans hr.fr.size hg.size, fun b hb => (hg.block b (Nat.lt_of_lt_of_le (cx.hk b hb) hr.fr.size) (fun e => by have := (hrow b e.symm).2.1; have := cx.hk b hb; omega)).trans (hr.fr.same b hb), hr.fr.mutn⟩, hr.pin⟩, fun x v h => RA.monoC hk hc x v h⟩
  have hs := hr.sto i s v h1 h2
  cases s with
  | dead => trivial
  | fz x => exact Rd.monoC hk hc x v hs
  | row e sz ap els =>
    obtain ⟨h0, cells, h3, h4, h5, h6⟩ := hs
    refine ⟨h0, cells, ⟨h3.1, ?_⟩, h4, h5, RdL.monoC hk hc _ _ h6⟩
    rcases h3.2 with h | ⟨g, cap, cur, fr, e1, e2, e3, e4⟩
    · exact .inl h
    · exact .inr ⟨g, cap, cur, fr, e1, e2, hblk g _ _ _ e3, e4⟩
  | box e cs =>
    obtain ⟨b, arr, e1, e2, e3, e4, e5⟩ := hs
    exact ⟨b, arr, e1, e2, hblk b _ _ _ e3, e4, RAL.monoC hk hc _ _ e5⟩

theorem rel_other (hr : Rel cx env σ vals a w) {row : Option Nat} (hg : w.grownBy w' row) (hrow : ∀ r, row = some r → cx.own r ∧ cx.w1.heap.size ≤ r ∧ ∃ o : Obj, w.heap[r]? = some o ∧ o.isCells = false) : Rel cx env σ vals a w' := by
  obtain ⟨h1, h2⟩ := hr.s.other hg hrow
  exact ⟨h1, fun p => h2 _ _ (hr.env p), hr.defers, fun x v h => h2 _ _ (hr.gh x v h), hr.lo⟩

/-! ### The variables of a round -/
def moveAct (l : List PO) (a : Act) : Act := l.foldl (fun a o => match o.dst, o.k with | some d, .mv x => a.put (some d) (a.eval x) | _, _ => a) a

theorem moveO_some {o : Oper} {p : PO} (h : moveO n o = some p) : ∃ d t, o.guard = none ∧ o.dst = some d ∧ d < n ∧ (o.op = .move (.tmp t) ∨ o.op = .assign (.tmp t)) ∧ p = ⟨some d, none, .mv (.tmp t)⟩ := by
  unfold moveO at h
  split at h
  · rename_i d x hg hd ho
    cases x with
    | tmp t =>
      obtain ⟨h1, h2⟩ := need_some h
      cases h2
      exact ⟨d, t, hg, hd, Nat.le_of_ble_eq_true h1, .inl ho, rfl⟩
    | _ => cases h
  · rename_i d x hg hd ho
    cases x with
    | tmp t =>
      obtain ⟨h1, h2⟩ := need_some h
      cases h2
      exact ⟨d, t, hg, hd, Nat.le_of_ble_eq_true h1, .inr ho, rfl⟩
    | _ => cases h
  · cases h

theorem moves_wp {P : Program} {F : Fence} {m : Nat} (hF : Free F) {Q : Exit → Act → World → Prop} :
    ∀ (is : List Nat) (l : List PO) (a : Act), is.map (fun i => (ops[i]?).bind (moveO n)) = l.map some → Q .normal (moveAct l a) w → wpOpsIn F m P ops Q is a w := by
  intro is
  induction is with
  | nil =>
    intro l a hm h
    cases l with
    | nil => exact h
    | cons p l => simp at hm
  | cons i is ih =>
    intro l a hm h
    cases l with
    | nil => simp at hm
    | cons p l =>
      simp only [List.map_cons, List.cons.injEq] at hm
      obtain ⟨hp, hm⟩ := hm
      cases ho : ops[i]? with
      | none => rw [ho] at hp; cases hp
      | some o =>
        rw [ho] at hp
        obtain ⟨d, t, hg, hd, _, hop, rfl⟩ := moveO_some (show moveO n o = some p from hp)
        have hrun : (execOp a.eval o).run P w = .ok (.value (a.eval (.tmp t))) w := by
          rcases hop with hop | hop <;> simp [execOp, hop]
        rw [wpOpsIn_cons]
        unfold wpOpIn
        simp only [ho]
        have hw : Region.wanted o (yielded ops a.tmps) = true := by simp [Region.wanted, hg]
        rw [if_pos hw]
        refine free_op hF (fun c hc => by rcases hop with hop | hop <;> rw [hop] at hc <;> cases hc) ?_
        unfold Oper.wp
        rw [hrun, Oper.upon_value, hd]
        exact ih l _ hm h

theorem moveAct_append (l k : List PO) (a : Act) : moveAct (l ++ k) a = moveAct k (moveAct l a) := by simp [moveAct]

theorem asg_spec {P : Program} : ∀ (c : Code) (l : List PO), compA n c = some l → (∀ p ∈ l, ∃ d t, d < n ∧ p = ⟨some d, none, .mv (.tmp t)⟩) ∧
    ∀ (F : Fence) (m : Nat) (Q : Exit → Act → World → Prop) (a : Act) (w : World), Free F → Q .normal (moveAct l a) w → c.wpIn F m P Q a w := by
  intro c
  induction c with
  | region id ops draw =>
    intro l hl
    cases draw with
    | true => cases hl
    | false =>
      have hmo : mapO (moveO n) ops.toList = some l := hl
      refine ⟨fun p hp => ?_, fun F m Q a w hF h => wpIn_region (moves_wp (n := n) hF _ l a ?_ h)⟩
      · have : some p ∈ ops.toList.map (moveO n) := by rw [(mapO_spec _ _ _ hmo).1]; exact List.mem_map.2 ⟨p, hp, rfl⟩
        obtain ⟨o, _, ho⟩ := List.mem_map.1 this
        obtain ⟨d, t, _, _, hd, _, e⟩ := moveO_some ho
        exact ⟨d, t, hd, e⟩
      · rw [← (mapO_spec _ _ _ hmo).1]
        apply List.ext_getElem?
        intro i
        by_cases hi : i < ops.size
        · rw [List.getElem?_map, List.getElem?_range hi, List.getElem?_map, List.getElem?_eq_getElem (by simpa using hi)]
          simp [hi]
        · rw [List.getElem?_eq_none (by simp; omega), List.getElem?_eq_none (by simp; omega)]
  | seq x y ihx ihy =>
    intro l hl
    obtain ⟨l1, h1, hl⟩ := opt_some (show opt (compA n x) (fun a => opt (compA n y) fun b => some (a ++ b)) = some l from hl)
    obtain ⟨l2, h2, hl⟩ := opt_some hl
    cases hl
    obtain ⟨p1, w1⟩ := ihx l1 h1
    obtain ⟨p2, w2⟩ := ihy l2 h2
    refine ⟨fun p hp => (List.mem_append.1 hp).elim (p1 p) (p2 p), fun F m Q a w hF h => wpIn_seq (w1 F m _ a w hF ?_)⟩
    rw [moveAct_append] at h
    exact w2 F m Q _ w hF h
  | _ => intro l hl; cases hl

theorem moves_rel (hlo : cx.lo = 0) (K : Env → Sto → Prop) : ∀ (l : List PO) (env : Env) (a : Act), (∀ p ∈ l, ∃ d t, d < n ∧ p = ⟨some d, none, .mv (.tmp t)⟩) → a.tmps.size = n → Rel cx env σ vals a w → vcO Γ K l env σ → ∃ env', K env' σ ∧ Rel cx env' σ vals (moveAct l a) w ∧ (moveAct l a).tmps.size = n := by
  intro l
  induction l with
  | nil => intro env a _ hn hr h; exact ⟨env, h, hr, hn⟩
  | cons p l ih =>
    intro env a hd hn hr h
    obtain ⟨d, t, hlt, rfl⟩ := hd p (by simp)
    rw [vcO_cons] at h
    have h := ev_spec _ _ _ (show ev env (.tmp t) (fun v => vcO Γ K l (put (some d) v env) σ) from h)
    exact ih _ (a.put (some d) (a.eval (.tmp t))) (fun q hq => hd q (by simp [hq])) ((put_size ..).trans hn) (rel_put hr (hr.ev (.tmp t)) (fun d' hd' => by cases hd'; rw [hn]; exact hlt) (fun d' _ => by rw [hlo]; exact Nat.zero_le _)) h

theorem prim_rdL {ok : Nat → Prop} : ∀ (cs : List PV), primL cs = true → RdL ok w cs (cs.map encC) ∧ ∀ c ∈ cs, c.one = true := by
  intro cs
  induction cs with
  | nil => intro _; simp [RdL]
  | cons c cs ih =>
    intro h
    have h : (match primC c with | true => primL cs | false => false) = true := h
    cases hc : primC c with
    | false => rw [hc] at h; cases h
    | true =>
      rw [hc] at h
      obtain ⟨h1, h2⟩ := ih h
      refine ⟨?_, fun d hd => ?_⟩
      · simp only [List.map_cons, RdL]
        refine ⟨encC c, cs.map encC, rfl, ?_, h1⟩
        cases c <;> first | (cases hc; done) | simp only [encC, Rd]
      · rcases List.mem_cons.1 hd with rfl | hd
        · cases d <;> first | (cases hc; done) | rfl
        · exact h2 d hd

theorem prim_rd {ok : Nat → Prop} {x : PV} (h : primB x = true) : Rd ok w x (encV x) := by
  cases x with
  | agg cs =>
    obtain ⟨h1, h2⟩ := prim_rdL (ok := ok) (w := w) cs h
    simp only [encV, Rd]
    exact ⟨h2, _, rfl, by simpa using h1⟩
  | _ => first | (cases h; done) | simp only [encV, encC, Rd]

theorem puts_rel (hlo : cx.lo = 0) (K : Env → Prop) : ∀ (ps : List Nat) (xs : List PV) (env : Env) (t : Array Value) (ds : List Deferred), xs.length = ps.length → (∀ v ∈ xs, primB v = true) → (∀ p ∈ ps, p < n) → t.size = n → Rel cx env σ vals ⟨t, ds⟩ w → putsK ps xs env K →
    ∃ env', K env' ∧ Rel cx env' σ vals ⟨(ps.zip (xs.map encV)).foldl (fun t p => t.setIfInBounds p.1 p.2) t, ds⟩ w ∧ ((ps.zip (xs.map encV)).foldl (fun t p => t.setIfInBounds p.1 p.2) t).size = n := by
  intro ps
  induction ps with
  | nil =>
    intro xs env t ds hl _ _ hn hr h
    cases xs with
    | nil => exact ⟨env, h, hr, hn⟩
    | cons x xs => simp at hl
  | cons p ps ih =>
    intro xs env t ds hl hp hlt hn hr h
    cases xs with
    | nil => simp at hl
    | cons x xs =>
      have h : putsK ps xs ((p, .pv x) :: env) K := h
      have hr2 := rel_put (dst := some p) (av := .pv x) (v := encV x) hr (by simp only [RA]; exact prim_rd (hp x (by simp))) (fun d hd => by cases hd; show p < t.size; rw [hn]; exact hlt p (by simp)) (fun d' _ => by rw [hlo]; exact Nat.zero_le _)
      obtain ⟨env', h1, h2, h3⟩ := ih xs _ (t.setIfInBounds p (encV x)) ds (by simpa using hl) (fun v hv => hp v (by simp [hv])) (fun q hq => hlt q (by simp [hq])) (by simp [hn]) hr2 h
      exact ⟨env', h1, h2, h3⟩
end
end Go.Dv
end
section
/-
  The verifier's condition holds the model's run of the code.
-/
set_option linter.unusedSimpArgs false
namespace Go.Dv
open Go.RowKit

/-! ### What looks the same -/
theorem canon_eq (env : Env) (ps : List Nat) : ∀ (K : Env → Prop), canon env ps K = K (ps.map fun p => (p, lookF p env)) := by
  induction ps with
  | nil => intro K; rfl
  | cons p ps ih =>
    intro K
    show look p (fun v => canon env ps fun r => K ((p, v) :: r)) env = _
    rw [look_eq, ih]; rfl

theorem canon_same {env env' : Env} (h : ∀ p, lookF p env' = lookF p env) (ps : List Nat) (K : Env → Prop) : canon env' ps K = canon env ps K := by
  rw [canon_eq, canon_eq]
  congr 1
  exact List.map_congr_left fun p _ => by rw [h p]

theorem gc_same {pin : List Nat} {env env' : Env} (h : ∀ p, lookF p env' = lookF p env) (σ : Sto) (ps : List Nat) (K : Env → Sto → Prop) : gc pin env' σ ps K = gc pin env σ ps K := canon_same h ps _

theorem same_seqQ {B : Env → Sto → Prop} {Q : Ex → Env → Sto → Prop} (hB : Same B) (hQ : ∀ e, Same (Q e)) : ∀ e, Same (seqQ B Q e)
  | .normal => hB
  | .exit i => hQ (.exit i)
  | .ret => hQ .ret

theorem same_blockQ {id : Nat} {Q : Ex → Env → Sto → Prop} (hQ : ∀ e, Same (Q e)) : ∀ e, Same (blockQ id Q e)
  | .normal => hQ .normal
  | .ret => hQ .ret
  | .exit i => by
    intro env env' σ h
    show (match Nat.beq i id with | true => Q .normal env' σ | false => Q (.exit i) env' σ) = (match Nat.beq i id with | true => Q .normal env σ | false => Q (.exit i) env σ)
    cases Nat.beq i id with
    | true => exact hQ .normal _ _ _ h
    | false => exact hQ (.exit i) _ _ _ h

theorem evF_same {env env' : Env} (h : ∀ p, lookF p env' = lookF p env) (o : Operand) : evF env' o = evF env o := evF_congr fun t _ => h t

theorem vc_same (Γ : Ctx) (pin ps : List Nat) : ∀ (c : PC) (Q : Ex → Env → Sto → Prop), (∀ e, Same (Q e)) → Same (vc Γ pin ps c Q) := by
  intro c
  induction c with
  | skip => intro Q hQ; exact hQ .normal
  | region ops => intro Q _ env env' σ h; exact canon_same h ps _
  | draw ops aft =>
    intro Q _ env env' σ h
    show (drawOk Γ ops aft = true ∧ canon env' ps _) = (drawOk Γ ops aft = true ∧ canon env ps _)
    rw [canon_same h]
  | seq a b iha ihb => intro Q hQ; exact iha _ (same_seqQ (ihb Q hQ) hQ)
  | cond c t e iht ihe =>
    intro Q hQ env env' σ h
    show ev env' c _ = ev env c _
    rw [ev_eq, ev_eq, evF_same h]
    cases evF env c with
    | pv x => cases x with
      | bool b => cases b with
        | true => exact iht Q hQ _ _ _ h
        | false => exact ihe Q hQ _ _ _ h
      | _ => rfl
    | _ => rfl
  | block id b ih => intro Q hQ; exact ih _ (same_blockQ hQ)
  | loop live b ih => intro Q _ env env' σ h; exact gc_same h σ live _
  | rangeF f qs aops b ih =>
    intro Q _ env env' σ h
    exact canon_same h ps _
  | exit id => intro Q hQ; exact hQ (.exit id)
  | ret => intro Q hQ; exact hQ .ret

/-! ### Drawn orders: what the check says -/
theorem zipIdx_all {α : Type} (l : List α) (p : α × Nat → Bool) (h : l.zipIdx.all p = true) (i : Nat) (x : α) (hi : l[i]? = some x) : p (x, i) = true := by
  rw [List.all_eq_true] at h
  apply h
  rw [List.mem_zipIdx_iff_getElem?]
  exact hi

section
variable {cx : Cx} {env : Env} {σ : Sto} {vals : List Value} {a : Act} {w w' : World} {n : Nat} {Γ : Ctx} {ps : List Nat}

theorem drawn_of {ops : Array Oper} {l : List PO} {aft : List (List Nat)} (hl : l.length = ops.size) (haft : aft = ops.toList.map fun o => (o.after.toList.filter fun e => Region.binds .any e).map (·.on))
    (h : drawOk Γ l aft = true) (d : PO) : Drawn Γ ops (fun i => l.getD i d) (fun i => aft.getD i []) (fun i => (befs aft).getD i []) := by
  unfold drawOk at h
  simp only [Bool.and_eq_true] at h
  obtain ⟨⟨h0, h1⟩, h2⟩ := h
  have hlen : aft.length = ops.size := by rw [haft]; simp
  have get : ∀ (i : Nat) (o : Oper), ops[i]? = some o → aft.getD i [] = (o.after.toList.filter fun e => Region.binds .any e).map (·.on) := by
    intro i o ho
    rw [haft]
    simp [List.getD_eq_getElem?_getD, ho]
  have row : ∀ i, i < ops.size → aft[i]? = some (aft.getD i []) := by
    intro i hi
    rw [List.getD_eq_getElem?_getD, List.getElem?_eq_getElem (by omega)]; rfl
  have lrow : ∀ i, i < ops.size → l[i]? = some (l.getD i d) := by
    intro i hi
    rw [List.getD_eq_getElem?_getD, List.getElem?_eq_getElem (by omega)]; rfl
  unfold befOk at h1
  refine ⟨fun i o ho j hj => ?_, fun i o ho e he hb => ?_, fun i hi j hj => ?_, fun i hi j hj => ?_, fun i j hi hj => ?_⟩
  · rw [get i o ho] at hj
    obtain ⟨e, he, rfl⟩ := List.mem_map.1 hj
    obtain ⟨h3, h4⟩ := List.mem_filter.1 he
    exact ⟨e, by simpa using h3, h4, rfl⟩
  · rw [get i o ho]
    exact List.mem_map.2 ⟨e, List.mem_filter.2 ⟨by simpa using he, hb⟩, rfl⟩
  · have := zipIdx_all aft _ h1 i _ (row i hi)
    simp only [Bool.and_eq_true, List.all_eq_true] at this
    exact Nat.le_of_ble_eq_true (this.1 j hj)
  · have := zipIdx_all aft _ h1 i _ (row i hi)
    simp only [Bool.and_eq_true, List.all_eq_true, Bool.or_eq_true, List.any_eq_true] at this
    rcases this.2 j hj with h3 | ⟨e, h3, h4⟩
    · exact .inl (List.contains_iff_mem.1 h3)
    · exact .inr ⟨e, h3, List.contains_iff_mem.1 h4⟩
  · have := zipIdx_all l _ (zipIdx_all l _ h2 i _ (lrow i hi)) j _ (lrow j (by omega))
    simp only [Bool.or_eq_true, Bool.not_eq_true', Bool.and_eq_true] at this
    rcases this with (h3 | h3) | h3
    · exfalso
      have : Nat.blt j i = true := Nat.ble_eq_true_of_le hj
      rw [this] at h3; cases h3
    · exact .inl (List.contains_iff_mem.1 h3)
    · exact .inr ⟨h3.1, h3.2⟩

/-! ### Code -/
def Post (C : Cx → Prop) (n : Nat) (Q : Ex → Env → Sto → Prop) : Exit → Act → World → Prop
  | .normal, a, w => ∃ cx env σ vals, C cx ∧ a.tmps.size = n ∧ Rel cx env σ vals a w ∧ Q .normal env σ
  | .exit i, a, w => ∃ cx env σ vals, C cx ∧ a.tmps.size = n ∧ Rel cx env σ vals a w ∧ Q (.exit i) env σ
  | .ret, a, w => ∃ cx env σ vals, C cx ∧ a.tmps.size = n ∧ Rel cx env σ vals a w ∧ Q .ret env σ
  | _, _, _ => False

/-- A setting with one more deferred mark, block D. -/
def Cx.mark (cx : Cx) (w : World) (D : Nat) (hD : D < w.heap.size) (hs : cx.w1.heap.size ≤ w.heap.size) : Cx :=
  { cx with
    w1 := w
    keep := fun b => cx.keep b ∨ b = D
    hk := fun b hb => by
      rcases hb with hb | rfl
      · exact Nat.lt_of_lt_of_le (cx.hk b hb) hs
      · exact hD
    defers := { target := .collected D, args := #[] } :: cx.defers }

/-- The settings of a call: what stays is no cells; a mark may come. -/
structure Wide (P : Program) (pin : List Nat) (C : Cx → Prop) : Prop where
  pin : ∀ cx, C cx → PinOk pin cx
  gh : ∀ cx, C cx → ∀ x v, ¬ cx.gh x v
  lo : ∀ cx, C cx → cx.lo = 0
  keep : ∀ cx, C cx → ∀ b, cx.keep b → ∃ o : Obj, cx.w1.heap[b]? = some o ∧ o.isCells = false
  mark : ∀ (cx : Cx) (w : World) (D : Nat) (hD : D < w.heap.size) (hs : cx.w1.heap.size ≤ w.heap.size), C cx → (∀ b, cx.keep b → w.heap[b]? = cx.w1.heap[b]?) → cx.w0.heap.size ≤ D → cx.w1.heap.size ≤ D →
    w.heap[D]? = some (.deferred (some [])) → C (cx.mark w D hD hs)

theorem rel_canon (hr : Rel cx env σ vals a w) {K : Env → Prop} (h : canon env ps K) : ∃ env', K env' ∧ Rel cx env' σ vals a w := by
  rw [canon_eq] at h
  refine ⟨_, h, hr.s, fun p => ?_, hr.defers, hr.gh, hr.lo⟩
  rcases lookF_canon env ps p with hc | hc
  · rw [hc]; exact hr.env p
  · rw [hc]; simp only [RA]

theorem comped_of {P : Program} {dr : Bool} {ops : Array Oper} {l : List PO} (h : mapO (compO P dr ops n) ops.toList = some l) (d : PO) : l.length = ops.size ∧ Comped P dr ops n (fun i => l.getD i d) ∧ Comped P dr ops n (fun i => (l.map PO.plain).getD i d) := by
  have h1 := (mapO_spec _ _ _ h).1
  have hlen : l.length = ops.size := by
    have := congrArg List.length h1
    simpa using this.symm
  have get : ∀ i : Nat, i < ops.size → ∃ o po, ops[i]? = some o ∧ compO P dr ops n o = some po ∧ l[i]? = some po := by
    intro i hi
    have hi2 : i < l.length := by omega
    have := congrArg (·[i]?) h1
    simp only [List.getElem?_map] at this
    rw [List.getElem?_eq_getElem (by simpa using hi), List.getElem?_eq_getElem hi2] at this
    simp only [Option.map_some, Option.some.injEq] at this
    exact ⟨ops[i], l[i], Array.getElem?_eq_getElem hi, by simpa using this, List.getElem?_eq_getElem hi2⟩
  refine ⟨hlen, fun i hi => ?_, fun i hi => ?_⟩
  · obtain ⟨o, po, h2, h3, h4⟩ := get i hi
    exact ⟨o, po, h2, h3, .inl (by simp [List.getD_eq_getElem?_getD, h4])⟩
  · obtain ⟨o, po, h2, h3, h4⟩ := get i hi
    exact ⟨o, po, h2, h3, .inr (by simp [List.getD_eq_getElem?_getD, h4])⟩

theorem list_range {α : Type} (l : List α) (d : α) : (List.range l.length).map (fun i => l.getD i d) = l := by
  apply List.ext_getElem?
  intro i
  by_cases h : i < l.length
  · rw [List.getElem?_map, List.getElem?_eq_getElem (by simpa using h)]; simp [List.getD_eq_getElem?_getD, h]
  · rw [List.getElem?_eq_none (by simp; omega), List.getElem?_eq_none (by omega)]

open Classical in
noncomputable def leastN (p : Nat → Prop) : Nat := if h : ∃ n, p n ∧ ∀ m, p m → n ≤ m then Classical.choose h else 0

theorem leastN_spec {p : Nat → Prop} {n : Nat} (h : p n) : p (leastN p) ∧ ∀ m, p m → leastN p ≤ m := by
  have hex : ∃ n, p n ∧ ∀ m, p m → n ≤ m := by
    induction n using Nat.strongRecOn with
    | _ n ih =>
      by_cases hm : ∃ m, m < n ∧ p m
      · obtain ⟨m, h1, h2⟩ := hm; exact ih m h1 h2
      · exact ⟨n, h, fun m hp => Nat.le_of_not_lt fun hlt => hm ⟨m, hlt, hp⟩⟩
  unfold leastN
  rw [dif_pos hex]
  exact Classical.choose_spec hex

theorem strip_skip {pc : PC} (h : some PC.skip = some (strip pc)) : pc = .skip := by cases pc <;> first | rfl | cases h
theorem strip_ret {pc : PC} (h : some PC.ret = some (strip pc)) : pc = .ret := by cases pc <;> first | rfl | cases h
theorem strip_exit {id : Nat} {pc : PC} (h : some (PC.exit id) = some (strip pc)) : pc = .exit id := by cases pc <;> first | (cases h; rfl) | cases h
theorem strip_region {l : List PO} {pc : PC} (h : some (PC.region l) = some (strip pc)) : pc = .region l := by cases pc <;> first | (cases h; rfl) | cases h
theorem strip_draw {l : List PO} {aft : List (List Nat)} {pc : PC} (h : some (PC.draw l aft) = some (strip pc)) : pc = .draw l aft := by cases pc <;> first | (cases h; rfl) | cases h
theorem strip_seq {a b pc : PC} (h : some (PC.seq a b) = some (strip pc)) : ∃ a' b', pc = .seq a' b' ∧ a = strip a' ∧ b = strip b' := by
  cases pc <;> first | (cases h; exact ⟨_, _, rfl, rfl, rfl⟩) | cases h
theorem strip_cond {x : Operand} {a b pc : PC} (h : some (PC.cond x a b) = some (strip pc)) : ∃ a' b', pc = .cond x a' b' ∧ a = strip a' ∧ b = strip b' := by
  cases pc <;> first | (cases h; exact ⟨_, _, rfl, rfl, rfl⟩) | cases h
theorem strip_block {id : Nat} {b pc : PC} (h : some (PC.block id b) = some (strip pc)) : ∃ b', pc = .block id b' ∧ b = strip b' := by
  cases pc <;> first | (cases h; exact ⟨_, rfl, rfl⟩) | cases h
theorem strip_loop {b pc : PC} (h : some (PC.loop [] b) = some (strip pc)) : ∃ live b', pc = .loop live b' ∧ b = strip b' := by
  cases pc <;> first | (cases h; exact ⟨_, _, rfl, rfl⟩) | cases h

theorem simple_seq {a b : PC} (h : simpleC (.seq a b) = true) : simpleC a = true ∧ simpleC b = true := by
  have h : (match simpleC a with | true => simpleC b | false => false) = true := h
  cases ha : simpleC a with
  | true => rw [ha] at h; exact ⟨rfl, h⟩
  | false => rw [ha] at h; cases h
theorem simple_cond {c : Operand} {a b : PC} (h : simpleC (.cond c a b) = true) : simpleC a = true ∧ simpleC b = true := by
  have h : (match simpleC a with | true => simpleC b | false => false) = true := h
  cases ha : simpleC a with
  | true => rw [ha] at h; exact ⟨rfl, h⟩
  | false => rw [ha] at h; cases h

theorem strip_simple (c : PC) : simpleC (strip c) = simpleC c := by
  induction c with
  | seq a b iha ihb =>
    show (match simpleC (strip a) with | true => simpleC (strip b) | false => false) = (match simpleC a with | true => simpleC b | false => false)
    rw [iha, ihb]
  | cond c a b iha ihb =>
    show (match simpleC (strip a) with | true => simpleC (strip b) | false => false) = (match simpleC a with | true => simpleC b | false => false)
    rw [iha, ihb]
  | block id b ih => exact ih
  | _ => rfl

theorem rel_drew' {cx : Cx} {env : Env} {σ : Sto} {vals : List Value} {a : Act} {w : World} (h : Rel cx env σ vals a w) : Rel cx env σ vals a { w with drawn := w.drawn + 1 } := rel_drew h

section range
variable {P : Program}

/-- A round's setting. -/
def Cx.round (cx : Cx) (w : World) (okI : Nat → Prop) (W : World) (hI : ∀ b, okI b ∨ cx.keep b → b < W.heap.size) (gh : AV → Value → Prop) : Cx :=
  { cx with
    w1 := W
    keep := fun b => (okI b ∨ cx.keep b) ∨ ∃ o : Obj, W.heap[b]? = some o ∧ o.isCells = false
    hk := fun b hb => by
      rcases hb with hb | ⟨o, ho, _⟩
      · exact hI b hb
      · exact (Array.getElem?_eq_some_iff.1 ho).1
    defers := []
    gh := gh }

/-- The setting between two rounds. -/
def Cx.between (cx : Cx) (w : World) (okI : Nat → Prop) (hI : ∀ b, okI b ∨ cx.keep b → b < w.heap.size) : Cx :=
  { cx with w1 := w, keep := fun b => okI b ∨ cx.keep b, hk := hI }

theorem range_sound {pin : List Nat} {C : Cx → Prop} (hW : Wide P pin C) (hΓ : Sound P Γ) {m : Nat} (h1 : 1 ≤ m) {cx : Cx} (hC : C cx) (hP : cx.P = P) {f : Operand} {pa : Array Tmp} {asg body : Code} {l : List PO} {pb : PC} (hl : compA n asg = some l) (hps : ∀ p ∈ pa.toList, p < n) {Q : Ex → Env → Sto → Prop}
    (hbody : ∀ (cx' : Cx) (_ : cx'.lo = 0) (F : Fence) (k : Nat) (Q : Ex → Env → Sto → Prop) (env : Env) (σ : Sto) (vals : List Value) (a : Act) (w : World), Free F → cx'.P = P → a.tmps.size = n → Rel cx' env σ vals a w → (∀ e, Same (Q e)) → vc Γ pin ps pb Q env σ → body.wpIn F k P (Post (· = cx') n Q) a w)
    {env : Env} {σ : Sto} {vals : List Value} {a : Act} {w : World} (hn : a.tmps.size = n) (hr : Rel cx env σ vals a w) (h : rangeVC Γ pa.toList l (vc Γ pin ps pb) Q (evF env f) env σ) :
    (Code.rangeFunc f pa asg body).wpIn Fence.wide m P (Post C n Q) a w := by
  have hf := hr.ev f
  revert hf h
  cases evF env f with
  | pv x =>
    cases x with
    | clo g caps =>
      rintro ⟨L, I, hiter, hprim, hI0, hstep, hdone⟩ hf
      simp only [RA, Rd] at hf
      obtain ⟨cv, hfv, hcaps⟩ := hf
      obtain ⟨hseq, eg⟩ := (hΓ g).2.2.2.1 (m - 1) w (Ok cx σ vals w) caps cv L (fun b hb => hb.2.1) hcaps hiter
      have hIb : ∀ b, Ok cx σ vals w b ∨ cx.keep b → b < w.heap.size := fun b hb => by
        rcases hb with hb | hb
        · exact hb.2.1
        · exact Nat.lt_of_lt_of_le (cx.hk b hb) hr.s.fr.size
      let cxL := cx.between w (Ok cx σ vals w) hIb
      have hngh := hW.gh cx hC
      have hrL : Rel cxL env σ vals a w := by
        refine ⟨⟨hr.s.below, hr.s.one, hr.s.len, hr.s.sto, hr.s.dis, ⟨Nat.le_refl _, fun _ _ => rfl, fun b hm hb => ?_⟩, ⟨hr.s.pin.vs, hr.s.pin.len, hr.s.pin.refr, hr.s.pin.refb⟩⟩, hr.env, hr.defers, fun x v hg => absurd hg (hngh x v), hr.lo⟩
        rcases hb with hb | hb
        · exact hb.2.2 hm
        · exact hr.s.fr.mutn b hm hb
      -- between the rounds
      let I' : List { x : List PV // x ∈ L } → World → Prop := fun pre W => ∃ σ' vals', I (pre.map (·.1)) σ' ∧ Rel cxL env σ' vals' a W
      let Ix' : Code → List { x : List PV // x ∈ L } → World → Prop := fun c pre W => match c with
        | .ret => ∃ σ' vals', (pre.map (·.1) <+: L → Q .ret env σ') ∧ Rel cxL env σ' vals' a W
        | .exit i => ∃ σ' vals', (pre.map (·.1) <+: L → Q (.exit i) env σ') ∧ Rel cxL env σ' vals' a W
        | _ => False
      have hrow : ∀ {A : World} {row : Option Nat}, (∀ r, row = some r → w.heap.size ≤ r ∧ ∃ o : Obj, A.heap[r]? = some o ∧ o.isCells = false) → ∀ r, row = some r → cxL.own r ∧ cxL.w1.heap.size ≤ r ∧ ∃ o : Obj, A.heap[r]? = some o ∧ o.isCells = false :=
        fun hr' r e => ⟨cx.hown _ (Nat.le_trans hr.s.below.size (hr' r e).1), (hr' r e).1, (hr' r e).2⟩
      have hI' : OwnFrom w.heap.size I' := by
        rintro pre A B row ⟨σ', vals', h2, h3⟩ hg hrw
        exact ⟨σ', vals', h2, rel_other h3 hg (hrow hrw)⟩
      have hIx' : ∀ c, OwnFrom w.heap.size (Ix' c) := by
        intro c pre A B row hs hg hrw
        cases c <;> first
          | exact hs.elim
          | (obtain ⟨σ', vals', h2, h3⟩ := hs; exact ⟨σ', vals', h2, rel_other h3 hg (hrow hrw)⟩)
      -- behind a mark
      have marked : ∀ (D : Nat) (W : World) (σ' : Sto) (vals' : List Value), w.heap.size ≤ D → W.heap[D]? = some (.deferred (some [])) → Rel cxL env σ' vals' a W →
          ∃ cx2, C cx2 ∧ Rel cx2 env σ' vals' { a with defers := { target := .collected D, args := #[] } :: a.defers } W := by
        intro D W σ' vals' hD hK hR
        have hDlt : D < W.heap.size := (Array.getElem?_eq_some_iff.1 hK).1
        have hs : cx.w1.heap.size ≤ W.heap.size := Nat.le_trans hr.s.fr.size hR.s.fr.size
        have hkeep : ∀ b, cx.keep b → W.heap[b]? = cx.w1.heap[b]? := fun b hb => (hR.s.fr.same b (.inr hb)).trans (hr.s.fr.same b hb)
        refine ⟨cx.mark W D hDlt hs, hW.mark cx W D hDlt hs hC hkeep (Nat.le_trans hr.s.below.size hD) (Nat.le_trans hr.s.fr.size hD) hK, ?_⟩
        refine ⟨⟨hR.s.below, hR.s.one, hR.s.len, hR.s.sto, hR.s.dis, ⟨Nat.le_refl _, fun _ _ => rfl, fun b hm hb => ?_⟩, ⟨hR.s.pin.vs, hR.s.pin.len, hR.s.pin.refr, hR.s.pin.refb⟩⟩, hR.env, ?_, fun x v hg => absurd hg (hngh x v), hR.lo⟩
        · rcases hb with hb | rfl
          · exact hR.s.fr.mutn b hm (.inr hb)
          · obtain ⟨cur, e, fr, hc⟩ := mut_cells hR.s hm
            rw [hK] at hc; cases hc
        · show _ :: a.defers = _ :: cx.defers
          rw [hr.defers]
      obtain ⟨hmv, hasg⟩ := asg_spec (P := P) asg l hl
      let t₀ : { x : List PV // x ∈ L } → Act := fun x => ⟨(pa.toList.zip (x.1.map encV)).foldl (fun t p => t.setIfInBounds p.1 p.2) a.tmps, []⟩
      have hzip : ∀ x : { x : List PV // x ∈ L }, (pa.zip (x.1.map encV).toArray).foldl (fun t (p, v) => t.setIfInBounds p v) a.tmps = (t₀ x).tmps := by
        intro x
        show _ = (pa.toList.zip (x.1.map encV)).foldl (fun t p => t.setIfInBounds p.1 p.2) a.tmps
        rw [← Array.foldl_toList]
        simp
      refine wpIn_rangeFunc_ownG (F := Fence.wide) (n := m) rfl h1 (gf := g) (lb := cv) hfv trivial (fun args w => eg args w) (w0 := w) hseq
        (fun h k => ⟨Nat.le_trans h.1 k.1, fun b hb => (k.2 b hb).trans (h.2 b hb)⟩)
        (fun W j o o' hj ho hc _ => ⟨(by simp [World.putObj]), fun b hb => World.putObj_heap_other (fun e => by have := hb.2.1; omega)⟩)
        (Below.refl _ _) (fun x => by simpa using (hprim x.1 x.2).1)
        I' Ix' hI' hIx' ⟨σ, vals, hI0, hrL⟩ (fun x => moveAct l (t₀ x)) ?assign ?body ?done ?stop
      case assign =>
        intro j x W K hK
        rw [hzip x]
        exact hasg _ _ _ (t₀ x) W (.inr ⟨j, rfl⟩) hK
      case body =>
        rintro j pre x W ⟨σ', vals', hI2, hR⟩ hlen
        have hIb' : ∀ b, Ok cx σ vals w b ∨ cx.keep b → b < W.heap.size := fun b hb => Nat.lt_of_lt_of_le (hIb b hb) hR.s.fr.size
        let cx' := cx.round w (Ok cx σ vals w) W hIb' (fun y v => ∃ p, y = lookF p env ∧ v = a.tmps.getD p undef)
        have hR' : Rel cx' env σ' vals' ⟨a.tmps, []⟩ W := by
          refine ⟨⟨hR.s.below, hR.s.one, hR.s.len, hR.s.sto, hR.s.dis, ⟨Nat.le_refl _, fun _ _ => rfl, fun b hm hb => ?_⟩, ⟨hR.s.pin.vs, hR.s.pin.len, hR.s.pin.refr, hR.s.pin.refb⟩⟩, hR.env, rfl, ?_, hR.lo⟩
          · rcases hb with hb | ⟨o, ho, hoc⟩
            · exact hR.s.fr.mutn b hm hb
            · obtain ⟨cur, e, fr, hc⟩ := mut_cells hR.s hm
              rw [ho] at hc; cases hc; cases hoc
          · rintro y v ⟨p, rfl, rfl⟩
            exact hR.env p
        obtain ⟨env1, hv1, hR1, hn1⟩ := puts_rel (cx := cx') (n := n) (hW.lo cx hC) _ pa.toList x.1 env a.tmps [] (hprim x.1 x.2).1 (hprim x.1 x.2).2 hps hn hR' (hstep _ x.1 σ' x.2 (by simpa using hlen) hI2)
        obtain ⟨env2, hv2, hR2, hn2⟩ := moves_rel (cx := cx') (n := n) (hW.lo cx hC) _ l env1 (t₀ x) hmv hn1 hR1 hv1
        have hsame : ∀ e, Same (roundQ Q env I L (pre.map (·.1) ++ [x.1]) e) := by
          intro e env env' σ _
          cases e <;> rfl
        refine wpIn_mono (hbody cx' (hW.lo cx hC) _ _ _ env2 σ' vals' _ W (.inr ⟨j, rfl⟩) hP hn2 hR2 hsame hv2) ?_
        -- back outside
        have back : ∀ (env3 : Env) (σ3 : Sto) (vals3 : List Value) (a3 : Act) (W3 : World), Rel cx' env3 σ3 vals3 a3 W3 → KeepsFrom w.heap.size W W3 ∧ KpOf (Ok cx σ vals w) W W3 ∧ Rel cxL env σ3 vals3 a W3 := by
          intro env3 σ3 vals3 a3 W3 h3
          refine ⟨⟨h3.s.fr.size, fun k o _ ho hoc => (h3.s.fr.same k (.inr ⟨o, ho, hoc⟩)).trans ho⟩, ⟨h3.s.fr.size, fun b hb => h3.s.fr.same b (.inl (.inl hb))⟩, ?_⟩
          refine ⟨⟨h3.s.below, h3.s.one, h3.s.len, h3.s.sto, h3.s.dis, ⟨Nat.le_trans hR.s.fr.size h3.s.fr.size, fun b hb => (h3.s.fr.same b (.inl hb)).trans (hR.s.fr.same b hb), fun b hm hb => h3.s.fr.mutn b hm (.inl hb)⟩, ⟨h3.s.pin.vs, h3.s.pin.len, h3.s.pin.refr, h3.s.pin.refb⟩⟩, fun p => h3.gh _ _ ⟨p, rfl, rfl⟩, hr.defers, fun x v hg => absurd hg (hngh x v), hr.lo⟩
        intro e a3 W3 hp
        cases e with
        | normal =>
          obtain ⟨cx3, env3, σ3, vals3, rfl, _, h3, h4⟩ := hp
          obtain ⟨b1, b2, b3⟩ := back _ _ _ _ _ h3
          exact ⟨b1, b2, σ3, vals3, by rw [List.map_append]; exact h4, b3⟩
        | exit i =>
          obtain ⟨cx3, env3, σ3, vals3, rfl, _, h3, h4⟩ := hp
          obtain ⟨b1, b2, b3⟩ := back _ _ _ _ _ h3
          exact ⟨b1, σ3, vals3, by rw [List.map_append]; exact h4, b3⟩
        | ret =>
          obtain ⟨cx3, env3, σ3, vals3, rfl, _, h3, h4⟩ := hp
          obtain ⟨b1, b2, b3⟩ := back _ _ _ _ _ h3
          exact ⟨b1, σ3, vals3, by rw [List.map_append]; exact h4, b3⟩
        | _ => exact hp.elim
      case done =>
        rintro D xs W hD hS ⟨σ', vals', hI2, hR⟩ hK
        obtain ⟨cx2, hC2, hR2⟩ := marked D W σ' vals' hD hK hR
        rw [hS] at hI2
        exact ⟨cx2, env, σ', vals', hC2, hn, hR2, hdone σ' hI2⟩
      case stop =>
        intro D c pre W hD hSp hx hK
        cases c with
        | ret =>
          obtain ⟨σ', vals', hq, hR⟩ := hx
          obtain ⟨cx2, hC2, hR2⟩ := marked D W σ' vals' hD hK hR
          exact wpIn_ret ⟨cx2, env, σ', vals', hC2, hn, hR2, hq hSp⟩
        | exit i =>
          obtain ⟨σ', vals', hq, hR⟩ := hx
          obtain ⟨cx2, hC2, hR2⟩ := marked D W σ' vals' hD hK hR
          exact wpIn_exit ⟨cx2, env, σ', vals', hC2, hn, hR2, hq hSp⟩
        | _ => exact hx.elim
    | _ => intro h; exact h.elim
  | _ => intro h; exact h.elim
end range

/-- No operation writes a slot below lo; no loops. -/
def geO (lo : Nat) (o : PO) : Bool := match o.dst with | none => true | some d => Nat.ble lo d
noncomputable def geL (lo : Nat) (l : List PO) : Bool := List.rec (motive := fun _ => Bool) true (fun o _ ih => match geO lo o with | true => ih | false => false) l
noncomputable def geC (lo : Nat) (c : PC) : Bool :=
  PC.rec (motive := fun _ => Bool) true (fun l => geL lo l) (fun l _ => geL lo l) (fun _ _ a b => match a with | true => b | false => false) (fun _ _ _ a b => match a with | true => b | false => false) (fun _ _ b => b) (fun _ _ _ => false) (fun _ _ _ _ _ => false) (fun _ => true) true c
theorem ge_seq {lo : Nat} {a b : PC} (h : geC lo (.seq a b) = true) : geC lo a = true ∧ geC lo b = true := by
  have h : (match geC lo a with | true => geC lo b | false => false) = true := h
  cases ha : geC lo a with
  | true => rw [ha] at h; exact ⟨rfl, h⟩
  | false => rw [ha] at h; cases h
theorem ge_cond {lo : Nat} {c : Operand} {a b : PC} (h : geC lo (.cond c a b) = true) : geC lo a = true ∧ geC lo b = true := by
  have h : (match geC lo a with | true => geC lo b | false => false) = true := h
  cases ha : geC lo a with
  | true => rw [ha] at h; exact ⟨rfl, h⟩
  | false => rw [ha] at h; cases h
theorem geL_mem {lo : Nat} : ∀ {l : List PO}, geL lo l = true → ∀ o ∈ l, ∀ d, o.dst = some d → lo ≤ d := by
  intro l
  induction l with
  | nil => intro _ o ho; cases ho
  | cons p l ih =>
    intro h o ho d hd
    have h : (match geO lo p with | true => geL lo l | false => false) = true := h
    cases hp : geO lo p with
    | false => rw [hp] at h; cases h
    | true =>
      rw [hp] at h
      rcases List.mem_cons.1 ho with rfl | ho
      · unfold geO at hp
        rw [hd] at hp
        exact Nat.le_of_ble_eq_true hp
      · exact ih h o ho d hd
theorem ge_ops {cx : Cx} {ops : Array Oper} {l : List PO} (h : cx.lo = 0 ∨ ∃ lo, cx.lo ≤ lo ∧ geL lo l = true) (hl : l.length = ops.size) : ∀ i, i < ops.size → ∀ d, (l.getD i ⟨none, none, .nilS 0⟩).dst = some d → cx.lo ≤ d := by
  intro i hi d hd
  rcases h with h | ⟨lo, h1, h2⟩
  · rw [h]; exact Nat.zero_le _
  · refine Nat.le_trans h1 (geL_mem h2 _ ?_ d hd)
    rw [List.getD_eq_getElem?_getD, List.getElem?_eq_getElem (by omega)]
    simp

theorem strip_rangeF {f : Operand} {qs : List Nat} {l : List PO} {b pc : PC} (h : some (PC.rangeF f qs l b) = some (strip pc)) : ∃ b', pc = .rangeF f qs l b' ∧ b = strip b' := by
  cases pc <;> first | (cases h; exact ⟨_, rfl, rfl⟩) | cases h

theorem code_sound {P : Program} {pin : List Nat} (hΓ : Sound P Γ) (hm : P.follows .mixedOrders = true) : ∀ (c : Code) (pc : PC), compC P n c = some (strip pc) → ∀ (C : Cx → Prop) (F : Fence) (m : Nat) (cx : Cx) (Q : Ex → Env → Sto → Prop) (env : Env) (σ : Sto) (vals : List Value) (a : Act) (w : World),
    simpleC pc = true ∨ (F = Fence.wide ∧ 1 ≤ m ∧ Wide P pin C ∧ ∀ cx, C cx → cx.P = P) → ((∀ cx, C cx → cx.lo = 0) ∨ ∃ lo, (∀ cx, C cx → cx.lo ≤ lo) ∧ geC lo pc = true) → Free F → C cx → (∀ cx, C cx → cx.P = P) → (∀ e, Same (Q e)) → a.tmps.size = n → Rel cx env σ vals a w → vc Γ pin ps pc Q env σ → c.wpIn F m P (Post C n Q) a w := by
  intro c
  induction c with
  | skip =>
    intro pc hc C F m cx Q env σ vals a w _ _ _ hC hP _ hn hr h
    have hc := strip_skip hc
    subst hc
    exact wpIn_skip ⟨cx, env, σ, vals, hC, hn, hr, h⟩
  | region id ops draw =>
    intro pc hc C F m cx Q env σ vals a w _ hG hF hC hP hQ hn hr h
    have hPc := hP cx hC
    subst hPc
    cases draw with
    | false =>
      obtain ⟨l, hl, hc⟩ := opt_some (show opt (mapO (compO cx.P false ops n) ops.toList) (fun l => some (PC.region l)) = some (strip pc) from hc)
      have hc := strip_region hc
      subst hc
      obtain ⟨env', h, hr'⟩ := rel_canon hr (show canon env ps _ from h)
      obtain ⟨hlen, h1, _⟩ := comped_of hl ⟨none, none, .nilS 0⟩
      refine wpIn_region (ops_sound hΓ h1 (K := Q .normal) hF (ge_ops (hG.imp (fun h => h cx hC) fun ⟨lo, h1, h2⟩ => ⟨lo, h1 cx hC, h2⟩) hlen) (fun env' σ' vals' a' w' hn' hr' hK => ⟨cx, env', σ', vals', hC, hn', hr', hK⟩) _ env' σ vals a w (fun i hi => List.mem_range.1 hi) hn hr' ?_)
      rw [← hlen, list_range]
      exact h
    | true =>
      obtain ⟨l, hl, hc⟩ := opt_some (show opt (mapO (compO cx.P true ops n) ops.toList) (fun l => some (PC.draw (l.map PO.plain) (ops.toList.map fun o => (o.after.toList.filter fun e => Region.binds .any e).map (·.on)))) = some (strip pc) from hc)
      have hc := strip_draw hc
      subst hc
      obtain ⟨hD, h⟩ := (show drawOk Γ (l.map PO.plain) _ = true ∧ canon env ps _ from h)
      obtain ⟨env', h, hr'⟩ := rel_canon hr h
      obtain ⟨hlen, _, h1⟩ := comped_of hl ⟨none, none, .nilS 0⟩
      have hlen' : (l.map PO.plain).length = ops.size := by simpa using hlen
      refine wpIn_region_any hm ?_
      have hz : ∀ i, i < ops.size → (Array.replicate ops.size false).getD i true = false := by
        intro i hi; rw [Array.getD_eq_getD_getElem?]; simp [hi]
      have hleft : left ops.size (Array.replicate ops.size false) = List.range ops.size := by
        unfold left
        apply List.filter_eq_self.2
        intro i hi
        rw [hz i (List.mem_range.1 hi)]; rfl
      refine draw_sound hΓ h1 (drawn_of hlen' rfl hD ⟨none, none, .nilS 0⟩) (hQ .normal) hF (ge_ops (hG.imp (fun h => h cx hC) fun ⟨lo, h1, h2⟩ => ⟨lo, h1 cx hC, h2⟩) hlen') (fun env' σ' vals' a' w' hn' hr' hK => ⟨cx, env', σ', vals', hC, hn', hr', hK⟩) _ _ env' σ vals a _ (by simp) ?_ ?_ hn (rel_drew' hr') ?_
      · rw [hleft]; simp
      · intro i hi hl'
        rw [Array.getD_eq_getD_getElem?] at hl'
        simp [hi] at hl'
      · rw [hleft, ← hlen', list_range]
        exact h
  | seq x y ihx ihy =>
    intro pc hc C F m cx Q env σ vals a w hS hG hF hC hP hQ hn hr h
    obtain ⟨px, hx, hc⟩ := opt_some (show opt (compC P n x) (fun a => opt (compC P n y) fun b => some (PC.seq a b)) = some (strip pc) from hc)
    obtain ⟨py, hy, hc⟩ := opt_some hc
    obtain ⟨px, py, rfl, rfl, rfl⟩ := strip_seq hc
    refine wpIn_seq (wpIn_mono (ihx px hx C F m cx (seqQ (vc Γ pin ps py Q) Q) env σ vals a w (hS.imp_left fun h => (simple_seq h).1) (hG.imp_right fun ⟨lo, h1, h2⟩ => ⟨lo, h1, (ge_seq h2).1⟩) hF hC hP (same_seqQ (vc_same Γ pin ps py Q hQ) hQ) hn hr h) ?_)
    intro e a' w' hp
    cases e with
    | normal =>
      obtain ⟨cx', env', σ', vals', hC', hn', hr', h'⟩ := hp
      exact ihy py hy C F m cx' Q env' σ' vals' a' w' (hS.imp_left fun h => (simple_seq h).2) (hG.imp_right fun ⟨lo, h1, h2⟩ => ⟨lo, h1, (ge_seq h2).2⟩) hF hC' hP hQ hn' hr' h'
    | exit i => exact hp
    | ret => exact hp
    | _ => exact hp
  | cond c x y ihx ihy =>
    intro pc hc C F m cx Q env σ vals a w hS hG hF hC hP hQ hn hr h
    obtain ⟨px, hx, hc⟩ := opt_some (show opt (compC P n x) (fun a => opt (compC P n y) fun b => some (PC.cond c a b)) = some (strip pc) from hc)
    obtain ⟨py, hy, hc⟩ := opt_some hc
    obtain ⟨px, py, rfl, rfl, rfl⟩ := strip_cond hc
    have h := ev_spec _ _ _ (show ev env c _ from h)
    have he := hr.ev c
    revert h he
    cases evF env c with
    | pv v => cases v with
      | bool b =>
        intro h he
        simp only [RA, Rd] at he
        cases b with
        | true => exact wpIn_cond_true he (ihx px hx C F m cx Q env σ vals a w (hS.imp_left fun h => (simple_cond h).1) (hG.imp_right fun ⟨lo, h1, h2⟩ => ⟨lo, h1, (ge_cond h2).1⟩) hF hC hP hQ hn hr h)
        | false => exact wpIn_cond_false he (ihy py hy C F m cx Q env σ vals a w (hS.imp_left fun h => (simple_cond h).2) (hG.imp_right fun ⟨lo, h1, h2⟩ => ⟨lo, h1, (ge_cond h2).2⟩) hF hC hP hQ hn hr h)
      | _ => intro h; exact h.elim
    | _ => intro h; exact h.elim
  | block id b ih =>
    intro pc hc C F m cx Q env σ vals a w hS hG hF hC hP hQ hn hr h
    obtain ⟨pb, hb, hc⟩ := opt_some (show opt (compC P n b) (fun b => some (PC.block id b)) = some (strip pc) from hc)
    obtain ⟨pb, rfl, rfl⟩ := strip_block hc
    refine wpIn_block (wpIn_mono (ih pb hb C F m cx (blockQ id Q) env σ vals a w hS hG hF hC hP (same_blockQ hQ) hn hr h) ?_)
    intro e a' w' hp
    cases e with
    | normal => exact hp
    | exit i =>
      obtain ⟨cx', env', σ', vals', hC', hn', hr', h'⟩ := hp
      have h' : (match Nat.beq i id with | true => Q .normal env' σ' | false => Q (.exit i) env' σ') := h'
      show (if i = id then Post C n Q .normal a' w' else Post C n Q (.exit i) a' w')
      cases hb : Nat.beq i id with
      | true =>
        rw [hb] at h'
        rw [if_pos (Nat.eq_of_beq_eq_true hb)]
        exact ⟨cx', env', σ', vals', hC', hn', hr', h'⟩
      | false =>
        rw [hb] at h'
        rw [if_neg (fun e => by subst e; simp at hb)]
        exact ⟨cx', env', σ', vals', hC', hn', hr', h'⟩
    | ret => exact hp
    | _ => exact hp
  | loop b ih =>
    intro pc hc C F m0 cx Q env σ vals a w hS hG hF hC hP hQ hn hr h
    obtain ⟨pb, hb, hc⟩ := opt_some (show opt (compC P n b) (fun b => some (PC.loop [] b)) = some (strip pc) from hc)
    obtain ⟨live, pb, rfl, rfl⟩ := strip_loop hc
    have hS' : F = Fence.wide ∧ 1 ≤ m0 ∧ Wide P pin C ∧ ∀ cx, C cx → cx.P = P := by
      rcases hS with hS | hS
      · cases hS
      · exact hS
    obtain ⟨env', σ', vals', h, hr'⟩ := gc_spec (hS'.2.2.1.gh cx hC) (hS'.2.2.1.pin cx hC) hr live (show gc pin env σ live (fun env σ => loopVC pin live (vc Γ pin ps pb) Q env σ) from h)
    obtain ⟨I, m, hI, hstep⟩ := h
    let J : Nat → Act → World → Prop := fun m a w => ∃ cx env σ vals, C cx ∧ a.tmps.size = n ∧ Rel cx env σ vals a w ∧ I m env σ
    refine wpIn_loop (fun a w => ∃ m, J m a w) (fun a w => leastN fun m => J m a w) ⟨m, cx, env', σ', vals', hC, hn, hr', hI⟩ ?_
    rintro a1 w1 ⟨m1, hJ1⟩
    obtain ⟨⟨cx1, env1, σ1, vals1, hC1, hn1, hr1, hI1⟩, _⟩ := leastN_spec (p := fun m => J m a1 w1) hJ1
    have hsame : ∀ k, Same fun e σ => gc pin e σ live fun e' σ' => ∃ m, m < k ∧ I m e' σ' := fun k env env' σ h => gc_same h σ live _
    refine wpIn_mono (ih pb hb C F m0 cx1 _ env1 σ1 vals1 a1 w1 (.inr hS') (.inl (hS'.2.2.1.lo)) hF hC1 hP (same_seqQ (hsame _) hQ) hn1 hr1 (hstep _ env1 σ1 hI1)) ?_
    intro e a' w' hp
    cases e with
    | normal =>
      obtain ⟨cx2, env2, σ2, vals2, hC2, hn2, hr2, h2⟩ := hp
      obtain ⟨env3, σ3, vals3, ⟨k, hk, hI3⟩, hr3⟩ := gc_spec (hS'.2.2.1.gh cx2 hC2) (hS'.2.2.1.pin cx2 hC2) hr2 live h2
      have hJ3 : J k a' w' := ⟨cx2, env3, σ3, vals3, hC2, hn2, hr3, hI3⟩
      exact ⟨⟨k, hJ3⟩, Nat.lt_of_le_of_lt ((leastN_spec (p := fun m => J m a' w') hJ3).2 k hJ3) hk⟩
    | exit i => exact hp
    | ret => exact hp
    | _ => exact hp
  | rangeFunc f pa asg b _ ih =>
    intro pc hc C F m cx Q env σ vals a w hS hG hF hC hP hQ hn hr h
    obtain ⟨l, hl, hc⟩ := opt_some (show opt (compA n asg) (fun l => opt (compC P n b) fun b => need (simpleC b && pa.toList.all fun p => Nat.blt p n) (some (PC.rangeF f pa.toList l b))) = some (strip pc) from hc)
    obtain ⟨pb, hb, hc⟩ := opt_some hc
    obtain ⟨hsp, hc⟩ := need_some hc
    obtain ⟨pb, rfl, rfl⟩ := strip_rangeF hc
    have hS' : F = Fence.wide ∧ 1 ≤ m ∧ Wide P pin C ∧ ∀ cx, C cx → cx.P = P := by
      rcases hS with hS | hS
      · cases hS
      · exact hS
    obtain ⟨rfl, h1, hW, _⟩ := hS'
    rw [Bool.and_eq_true, strip_simple] at hsp
    obtain ⟨env', h, hr'⟩ := rel_canon hr (show canon env ps _ from h)
    have h := ev_spec _ _ _ h
    exact range_sound hW hΓ h1 hC (hP cx hC) hl (fun p hp => Nat.le_of_ble_eq_true (by have := List.all_eq_true.1 hsp.2 p hp; exact this))
      (fun cx' hlo' F k Q env σ vals a w hF' hP' hn' hr2 hQ' hv => ih pb hb (· = cx') F k cx' Q env σ vals a w (.inl hsp.1) (.inl fun c hc => hc ▸ hlo') hF' rfl (fun c hc => hc ▸ hP') hQ' hn' hr2 hv) hn hr' h
  | exit id =>
    intro pc hc C F m cx Q env σ vals a w _ _ _ hC hP _ hn hr h
    have hc := strip_exit hc
    subst hc
    exact wpIn_exit ⟨cx, env, σ, vals, hC, hn, hr, h⟩
  | ret =>
    intro pc hc C F m cx Q env σ vals a w _ _ _ hC hP _ hn hr h
    have hc := strip_ret hc
    subst hc
    exact wpIn_ret ⟨cx, env, σ, vals, hC, hn, hr, h⟩
  | _ => intro pc hc; cases hc
end
end Go.Dv
end
