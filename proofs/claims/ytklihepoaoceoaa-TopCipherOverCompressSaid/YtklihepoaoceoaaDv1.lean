/-
  A part of the proof: own texts, laid together by a tool of our own: DvCore DvRel DvComp DvCps DvOps1 DvOps2 DvOps3 DvOps4 DvOps5 DvOps6.
-/
import GoSem.Core.Code
import GoSem.Core.Lib
import Derived.Below
import GoSem.Core.Layout
import GoSem.Op.Equal
import GoSem.Core.Region
import Derived.WalkKit
import Derived.Lib.Strings
section
/-
  A verifier for the pure part of Go code: abstract values, compiled code, and the condition that a run meets a post.
  This text has no proofs about the model: the meaning is in the texts behind it.
-/
namespace Go.Dv

/-- A value by what it reads as. -/
inductive PV where
  | bool (b : Bool)
  | int (k : IntKind) (n : Int)
  | str (l : List UInt8)
  | val (v : Value)
  | nil (sz : Nat)
  | sl (sz : Nat) (els : List PV)
  | agg (cs : List PV)
  | tup (vs : List PV)
  | cptr (x : PV)
  | clo (f : FuncId) (caps : List PV)

/-- What a slot holds: a value that is read alone, a row of the call's own, an address in one, a part of one. -/
inductive AV where
  | bad
  | pv (x : PV)
  | own (id : Nat)
  | ref (id idx off : Nat)
  | sub (id sz lo n : Nat)
  | agg (cs : List AV)
  | tup (vs : List AV)
  | clo (f : FuncId) (caps : List AV)

inductive Blk where
  | dead
  | row (e : TypeId) (sz : Nat) (app : Bool) (els : List PV)
  | box (e : TypeId) (cs : List AV)
  | fz (x : PV)

/-- A result: 'fresh' is a new row that nobody else knows, 'row' one that is not put behind. -/
inductive RV where
  | pv (x : PV)
  | fresh (e : TypeId) (sz : Nat) (els : List PV)
  | row (e : TypeId) (sz : Nat) (els : List PV)
  | agg (cs : List RV)
  | tup (vs : List RV)

inductive Cv where
  | toInt (k : IntKind) | same | bts | stb (e : TypeId)

inductive PK where
  | mv (x : Operand)
  | nilS (sz : Nat)
  | nilR (e : TypeId) (sz : Nat)
  | pick (c a b : Operand)
  | bin (op : BinOp) (x y : Operand)
  | eqb (neg : Bool) (x y : Operand)
  | eqs (neg : Bool) (ks : List Nat) (x y : Operand)
  | un (op : UnOp) (x : Operand)
  | conv (c : Cv) (x : Operand)
  | lenS (x : Operand)
  | lenR (x : Operand)
  | lenN (x : Operand)
  | mm (mx : Bool) (x y : Operand)
  | idx (x i : Operand)
  | slcS (x : Operand) (lo hi : Option Operand)
  | slcR (sz : Nat) (x : Operand) (lo hi : Option Operand)
  | idxA (sz : Nat) (x i : Operand)
  | fldA (off : Nat) (x : Operand)
  | fld (off : Nat) (ag : Bool) (n : Nat) (x : Operand)
  | load (ag : Bool) (n : Nat) (x : Operand)
  | store (n : Nat) (x v : Operand)
  | alloc (e : TypeId) (z : PV)
  | box (e : TypeId) (x : Operand)
  | build (z : List PV) (parts : List (Nat × Nat × Operand))
  | bslice (e : TypeId) (sz : Nat) (parts : List Operand)
  | bslP (e : TypeId) (sz : Nat) (parts : List Operand)
  | app (e : TypeId) (sz bytes : Nat) (x y : Operand)
  | appS (e : TypeId) (bytes : Nat) (x y : Operand)
  | mksl (e : TypeId) (sz bytes : Nat) (z : PV) (l c : Operand)
  | call (f : FuncId) (args : List Operand)
  | ext (x : Operand) (i : Nat)
  | nilck (x : Operand)
  | mkf (f : FuncId) (caps : List Operand)
  | callv (f : Operand) (args : List Operand)
  | fail
  | junk
  | cpy (sz : Nat) (x y : Operand)
  | cpyS (x y : Operand)
  | clr (sz : Nat) (z : PV) (x : Operand)
  | mkarr (e : TypeId) (sz : Nat) (z : PV) (n : Nat)
  | idxAr (n sz : Nat) (x i : Operand)
  | slcA (n sz : Nat) (x : Operand) (lo hi : Option Operand)
  | isnil (neg : Bool) (x : Operand)
  | idxV (m sz : Nat) (ag : Bool) (n : Nat) (x i : Operand)
  | fldV (m sz : Nat) (x i : Operand)

structure PO where
  dst : Option Nat
  g : Option (Nat × Bool)
  k : PK

inductive PC where
  | skip
  | region (ops : List PO)
  | draw (ops : List PO) (aft : List (List Nat))
  | drawD (ops : List PO) (aft : List (List Nat))
  | seq (a b : PC)
  | cond (c : Operand) (t e : PC)
  | block (id : Nat) (b : PC)
  | loop (live : List Nat) (b : PC)
  | rangeF (f : Operand) (ps : List Nat) (aops : List PO) (b : PC)
  | exit (id : Nat)
  | ret

abbrev Env := List (Nat × AV)
abbrev Sto := List Blk

/-! ### Small functions, by recursors: the kernel reckons them quickly -/
section
variable {α : Type}

noncomputable def nthK (l : List α) : Nat → (α → Prop) → Prop :=
  List.rec (motive := fun _ => Nat → (α → Prop) → Prop) (fun _ _ => False)
    (fun a _ ih i K => Nat.rec (motive := fun _ => Prop) (K a) (fun j _ => ih j K) i) l

/-- The first n of a list, each named; the rest. -/
noncomputable def takeK (n : Nat) : List α → (List α → Prop) → Prop :=
  Nat.rec (motive := fun _ => List α → (List α → Prop) → Prop) (fun _ K => K [])
    (fun _ ih l K => match l with | [] => False | a :: r => ih r fun t => K (a :: t)) n

noncomputable def dropK (n : Nat) : List α → (List α → Prop) → Prop :=
  Nat.rec (motive := fun _ => List α → (List α → Prop) → Prop) (fun l K => K l)
    (fun _ ih l K => match l with | [] => False | _ :: r => ih r K) n

/-- The list with the cells of 'new' from place i on. -/
noncomputable def spliceK (new : List α) (l : List α) : Nat → (List α → Prop) → Prop :=
  List.rec (motive := fun _ => Nat → (List α → Prop) → Prop)
    (fun i K => match i, new with | 0, [] => K [] | _, _ => False)
    (fun a r ih i K => Nat.rec (motive := fun _ => Prop)
      (List.rec (motive := fun _ => List α → (List α → Prop) → Prop) (fun l K => K l)
        (fun x _ ih l K => match l with | [] => False | _ :: r => ih r fun t => K (x :: t)) new (a :: r) K)
      (fun j _ => ih j fun t => K (a :: t)) i) l

noncomputable def setK (l : List α) : Nat → α → (List α → Prop) → Prop :=
  List.rec (motive := fun _ => Nat → α → (List α → Prop) → Prop) (fun _ _ _ => False)
    (fun a r ih i x K => Nat.rec (motive := fun _ => Prop) (K (x :: r)) (fun j _ => ih j x fun t => K (a :: t)) i) l

noncomputable def snocK (l : List α) (x : α) : (List α → Prop) → Prop :=
  List.rec (motive := fun _ => (List α → Prop) → Prop) (fun K => K [x]) (fun a _ ih K => ih fun t => K (a :: t)) l

/-- 'K n': n is the number of entries, as a numeral. -/
noncomputable def lenK (l : List α) : (Nat → Prop) → Prop :=
  List.rec (motive := fun _ => (Nat → Prop) → Prop) (fun K => K 0) (fun _ _ ih K => ih fun n => K (Nat.succ n)) l
end

noncomputable def look (p : Nat) (K : AV → Prop) (e : Env) : Prop :=
  List.rec (motive := fun _ => Prop) (K .bad) (fun hd _ ih => Bool.rec (motive := fun _ => Prop) ih (K hd.2) (Nat.beq hd.1 p)) e

def constAV : Value → AV
  | .bool b => .pv (.bool b)
  | .int k n => .pv (.int k n)
  | .string s => .pv (.str s.data.toList)
  | .slice none 0 0 => .pv (.nil 0)
  | .agg _ => .bad
  | .tuple _ => .bad
  | v => .pv (.val v)

noncomputable def ev (env : Env) (o : Operand) (K : AV → Prop) : Prop :=
  match o with
  | .tmp t => look t K env
  | .const v => K (constAV v)
  | .global _ => K .bad
  | .func f => K (.pv (.clo f []))

noncomputable def evs (env : Env) (l : List Operand) : (List AV → Prop) → Prop :=
  List.rec (motive := fun _ => (List AV → Prop) → Prop) (fun K => K []) (fun o _ ih K => ev env o fun a => ih fun l => K (a :: l)) l

def PV.cells : PV → List PV
  | .agg cs => cs
  | x => [x]

/-- Cells as one value: a struct, or a thing of one cell. -/
def ofCells (ag : Bool) (cs : List PV) (K : PV → Prop) : Prop :=
  match ag with
  | true => K (.agg cs)
  | false => match cs with
    | [x] => K x
    | _ => False

def cut {α : Type} (l h : Nat) (xs : List α) : List α := (xs.take h).drop l

/-- The elements of a part of an entry. -/
def winK (sz lo n : Nat) (b : Blk) (K : List PV → Prop) : Prop :=
  match b with
  | .row _ s _ els => match Nat.beq s sz with
    | true => lo + n ≤ els.length ∧ K (cut lo (lo + n) els)
    | false => False
  | .fz x => match x with
    | .sl s els => match Nat.beq s sz with
      | true => lo + n ≤ els.length ∧ K (cut lo (lo + n) els)
      | false => False
    | _ => False
  | _ => False

/-- What stands in a slot, read as a value alone. -/
noncomputable def readAV (σ : Sto) (a : AV) (K : PV → Prop) : Prop :=
  AV.rec (motive_1 := fun _ => (PV → Prop) → Prop) (motive_2 := fun _ => (List PV → Prop) → Prop)
    (fun _ => False)
    (fun x K => K x)
    (fun id K => nthK σ id fun b => match b with
      | .row _ sz _ els => K (.sl sz els)
      | .fz x => K x
      | _ => False)
    (fun _ _ _ _ => False)
    (fun id sz lo n K => nthK σ id fun b => winK sz lo n b fun els => K (.sl sz els))
    (fun _ ih K => ih fun l => K (.agg l))
    (fun _ ih K => ih fun l => K (.tup l))
    (fun _ _ _ _ => False)
    (fun K => K [])
    (fun _ _ h t K => h fun x => t fun l => K (x :: l)) a K

noncomputable def readAVs (σ : Sto) (l : List AV) : (List PV → Prop) → Prop :=
  List.rec (motive := fun _ => (List PV → Prop) → Prop) (fun K => K []) (fun a _ ih K => readAV σ a fun x => ih fun l => K (x :: l)) l

/-- From here on the rows that a value names are read alone. -/
noncomputable def freezeAV (a : AV) : Sto → (Sto → Prop) → Prop :=
  AV.rec (motive_1 := fun _ => Sto → (Sto → Prop) → Prop) (motive_2 := fun _ => Sto → (Sto → Prop) → Prop)
    (fun _ _ => False)
    (fun _ σ K => K σ)
    (fun id σ K => nthK σ id fun b => match b with
      | .row _ sz _ els => setK σ id (.fz (.sl sz els)) K
      | .fz _ => K σ
      | _ => False)
    (fun _ _ _ _ _ => False)
    (fun id _ _ _ σ K => nthK σ id fun b => match b with
      | .row _ sz _ els => setK σ id (.fz (.sl sz els)) K
      | .fz _ => K σ
      | _ => False)
    (fun _ ih σ K => ih σ K)
    (fun _ ih σ K => ih σ K)
    (fun _ _ _ _ _ => False)
    (fun σ K => K σ)
    (fun _ _ h t σ K => h σ fun σ => t σ K) a

noncomputable def freezeAVs (l : List AV) : Sto → (Sto → Prop) → Prop :=
  List.rec (motive := fun _ => Sto → (Sto → Prop) → Prop) (fun σ K => K σ) (fun a _ ih σ K => freezeAV a σ fun σ => ih σ K) l

/-- A result comes into the store. -/
noncomputable def takeRV (r : RV) : Sto → (AV → Sto → Prop) → Prop :=
  RV.rec (motive_1 := fun _ => Sto → (AV → Sto → Prop) → Prop) (motive_2 := fun _ => Sto → (List AV → Sto → Prop) → Prop)
    (fun x σ K => K (.pv x) σ)
    (fun e sz els σ K => lenK σ fun n => snocK σ (.row e sz true els) fun σ => K (.own n) σ)
    (fun e sz els σ K => lenK σ fun n => snocK σ (.row e sz false els) fun σ => K (.own n) σ)
    (fun _ ih σ K => ih σ fun l σ => K (.agg l) σ)
    (fun _ ih σ K => ih σ fun l σ => K (.tup l) σ)
    (fun σ K => K [] σ)
    (fun _ _ h t σ K => h σ fun a σ => t σ fun l σ => K (a :: l) σ) r

/-- A contract: whether the results hold no address of what was there; what it asks and gives; as an iterator: what it yields; of a function that writes what it is handed: what it asks of its arguments and their part of the store, and what it leaves there. -/
structure Spec where
  lone : Bool
  fn : Bool
  run : List PV → (RV → Prop) → Prop
  iter : List PV → List (List PV) → Prop
  mu : Bool
  mrun : List AV → Sto → (AV → Sto → Prop) → Prop
  dt : Bool := false
  hdt : dt = true → mu = false ∧ ∀ ps K, run ps K → ∃ r, K r ∧ ∀ K' : RV → Prop, K' r → run ps K' := by intro h; cases h
def mkS (lone fn : Bool) (run : List PV → (RV → Prop) → Prop) : Spec where
  lone := lone
  fn := fn
  run := run
  iter := fun _ _ => False
  mu := false
  mrun := fun _ _ _ => False
def mkM (mrun : List AV → Sto → (AV → Sto → Prop) → Prop) : Spec where
  lone := false
  fn := false
  run := fun _ _ => False
  iter := fun _ _ => False
  mu := true
  mrun := mrun
/-- A contract with one result: calls of it may stand in any order. -/
def mkR (lone : Bool) (R : List PV → RV → Prop) : Spec where
  lone := lone
  fn := false
  run := fun ps K => ∃ r, R ps r ∧ K r
  iter := fun _ _ => False
  mu := false
  mrun := fun _ _ _ => False
  dt := true
  hdt := fun _ => ⟨rfl, fun _ _ ⟨r, h1, h2⟩ => ⟨r, h2, fun _ h => ⟨r, h1, h⟩⟩⟩
abbrev Ctx := FuncId → Spec

def cmpK (p : Prop) (K : PV → Prop) : Prop := ∀ r : Bool, (r = true ↔ p) → K (.bool r)
def numK (k : IntKind) (n : Int) (K : PV → Prop) : Prop := ∀ r : Int, r = k.wrap n → K (.int k r)

def bitsOp (op : BinOp) (k : IntKind) (x y : Int) : Int :=
  let a := BitVec.ofInt k.bits x
  let b := BitVec.ofInt k.bits y
  match op with
  | .and => k.wrap (a &&& b).toNat
  | .or => k.wrap (a ||| b).toNat
  | .xor => k.wrap (a ^^^ b).toNat
  | _ => k.wrap (a &&& ~~~b).toNat

def binI (op : BinOp) (k : IntKind) (a b : Int) (K : PV → Prop) : Prop :=
  match op with
  | .add => numK k (a + b) K
  | .sub => numK k (a - b) K
  | .mul => numK k (a * b) K
  | .quo => b ≠ 0 ∧ numK k (a.tdiv b) K
  | .rem => b ≠ 0 ∧ ∀ r : Int, r = a.tmod b → K (.int k r)
  | .and => ∀ r : Int, r = bitsOp .and k a b → K (.int k r)
  | .or => ∀ r : Int, r = bitsOp .or k a b → K (.int k r)
  | .xor => ∀ r : Int, r = bitsOp .xor k a b → K (.int k r)
  | .andNot => ∀ r : Int, r = bitsOp .andNot k a b → K (.int k r)
  | .eql => cmpK (a = b) K
  | .neq => cmpK (a ≠ b) K
  | .lss => cmpK (a < b) K
  | .leq => cmpK (a ≤ b) K
  | .gtr => cmpK (b < a) K
  | .geq => cmpK (b ≤ a) K
  | .shl => 0 ≤ b ∧ ∀ r : Int, r = k.wrap (a * 2 ^ min b.toNat k.bits) → K (.int k r)
  | .shr => 0 ≤ b ∧ ∀ r : Int, r = a.fdiv (2 ^ min b.toNat k.bits) → K (.int k r)

def sameKind (op : BinOp) (k j : IntKind) : Bool :=
  match op with
  | .shl | .shr => true
  | _ => Nat.beq k.ctorIdx j.ctorIdx

def binP (op : BinOp) (x y : PV) (K : PV → Prop) : Prop :=
  match x, y with
  | .int k a, .int j b => match sameKind op k j with
    | true => binI op k a b K
    | false => False
  | .str a, .str b => match op with
    | .add => ((a.length + b.length : Nat) : Int) ≤ 9223372036854775807 ∧ K (.str (a ++ b))
    | .eql => cmpK (a = b) K
    | .neq => cmpK (a ≠ b) K
    | _ => False
  | _, _ => False

def unP (op : UnOp) (x : PV) (K : PV → Prop) : Prop :=
  match op, x with
  | .not, .bool b => cmpK (b = false) K
  | .neg, .int k n => numK k (0 - n) K
  | _, _ => False

/-- Two cells of one kind: 0 a number, 1 a string, 2 a bool. -/
def like1 (k : Nat) (a b : PV) : Bool :=
  match a, b with
  | .int i _, .int j _ => match k with | 0 => decide (i = j) | _ => false
  | .str _, .str _ => match k with | 1 => true | _ => false
  | .bool _, .bool _ => match k with | 2 => true | _ => false
  | _, _ => false

noncomputable def likeB (ks : List Nat) : List PV → List PV → Bool :=
  List.rec (motive := fun _ => List PV → List PV → Bool) (fun a b => match a, b with | [], [] => true | _, _ => false)
    (fun k _ ih a b => match a, b with
      | x :: a, y :: b => match like1 k x y with | true => ih a b | false => false
      | _, _ => false) ks

/-- A byte of a row. -/
def byteP (b : UInt8) : PV := .int .u8 b.toNat

/-- The slice that a slot holds: its size and its elements. -/
noncomputable def rowK (σ : Sto) (a : AV) (K : Nat → List PV → Prop) : Prop :=
  match a with
  | .pv x => match x with
    | .sl sz els => K sz els
    | .nil sz => K sz []
    | _ => False
  | .own id => nthK σ id fun b => match b with
    | .row _ sz _ els => K sz els
    | .fz x => match x with
      | .sl sz els => K sz els
      | _ => False
    | _ => False
  | .sub id sz lo n => nthK σ id fun b => winK sz lo n b fun els => K sz els
  | _ => False

/-- The upper bound of a cut, in a thing of so many parts. -/
def upK (n : Nat) (hi : Option AV) (K : Nat → Prop) : Prop :=
  match hi with
  | none => K n
  | some a => match a with
    | .pv x => match x with
      | .int _ h => (0 ≤ h ∧ h ≤ n) ∧ K h.toNat
      | _ => False
    | _ => False

/-- The two bounds of a cut, in a thing of so many parts. -/
def boundsK (n : Nat) (lo hi : Option AV) (K : Nat → Nat → Prop) : Prop :=
  match lo with
  | none => upK n hi fun h => K 0 h
  | some a => match a with
    | .pv x => match x with
      | .int _ l => upK n hi fun h => (0 ≤ l ∧ l ≤ h) ∧ K l.toNat h
      | _ => False
    | _ => False

noncomputable def evO (env : Env) (o : Option Operand) (K : Option AV → Prop) : Prop :=
  match o with
  | none => K none
  | some x => ev env x fun a => K (some a)

def asInt (a : AV) (K : IntKind → Int → Prop) : Prop :=
  match a with
  | .pv x => match x with
    | .int k n => K k n
    | _ => False
  | _ => False

/-- So many cells from a place on, out of a value's cells. -/
noncomputable def partK (off : Nat) (ag : Bool) (n : Nat) (cs : List PV) (K : PV → Prop) : Prop :=
  dropK off cs fun r => takeK n r fun t => ofCells ag t K

/-- The cells of a value, one by one. -/
noncomputable def pvsK (l : List PV) : (List AV → Prop) → Prop :=
  List.rec (motive := fun _ => (List AV → Prop) → Prop) (fun K => K []) (fun x _ ih K => ih fun t => K (.pv x :: t)) l

noncomputable def cellsK (a : AV) (K : List AV → Prop) : Prop :=
  match a with
  | .pv x => match x with
    | .agg cs => pvsK cs K
    | .tup _ => False
    | x => K [.pv x]
  | .agg cs => K cs
  | .own id => K [.own id]
  | .ref id idx off => K [.ref id idx off]
  | .sub id sz lo n => K [.sub id sz lo n]
  | .clo f caps => K [.clo f caps]
  | _ => False

/-- All of a list are values alone: these; else nothing. -/
noncomputable def allPvK (l : List AV) : (List PV → Prop) → Prop → Prop :=
  List.rec (motive := fun _ => (List PV → Prop) → Prop → Prop) (fun K _ => K [])
    (fun a _ ih K E => match a with | .pv x => ih (fun t => K (x :: t)) E | _ => E) l

noncomputable def aggK (l : List AV) (K : AV → Prop) : Prop := allPvK l (fun t => K (.pv (.agg t))) (K (.agg l))

noncomputable def ofAVs (ag : Bool) (cs : List AV) (K : AV → Prop) : Prop :=
  match ag with
  | true => aggK cs K
  | false => match cs with
    | [x] => K x
    | _ => False

noncomputable def loadK (σ : Sto) (ag : Bool) (n : Nat) (a : AV) (K : AV → Prop) : Prop :=
  match a with
  | .pv x => match x with
    | .cptr y => partK 0 ag n y.cells fun r => K (.pv r)
    | _ => False
  | .ref id idx off => nthK σ id fun b => match b with
    | .row _ _ _ els => ∃ y, els[idx]? = some y ∧ partK off ag n y.cells fun r => K (.pv r)
    | .box _ cs => dropK off cs fun r => takeK n r fun t => ofAVs ag t K
    | .fz x => match x with
      | .cptr y => partK off ag n y.cells fun r => K (.pv r)
      | _ => False
    | _ => False
  | _ => False

/-- Elements of so many cells each. -/
noncomputable def lenB (sz : Nat) (xs : List PV) : Bool :=
  List.rec (motive := fun _ => Bool) true (fun x _ ih => match x with
    | .tup _ => false
    | x => match Nat.beq x.cells.length sz with
      | true => ih
      | false => false) xs

/-- The element of a row whose cells are these, of the make of another one. -/
def alikeK (y : PV) (cs : List PV) (K : PV → Prop) : Prop :=
  match y with
  | .agg _ => K (.agg cs)
  | _ => match cs with
    | [x] => K x
    | _ => False

noncomputable def storeK (σ : Sto) (n : Nat) (a v : AV) (K : Sto → Prop) : Prop :=
  match a with
  | .ref id idx off => nthK σ id fun b => match b with
    | .row _ _ _ _ => readAV σ v fun x => freezeAV v σ fun σ => nthK σ id fun b => match b with
      | .row e sz ap els => ∃ y, els[idx]? = some y ∧ lenB n [x] = true ∧ spliceK x.cells y.cells off fun cs => alikeK y cs fun y' => setK σ id (.row e sz ap (els.set idx y')) K
      | _ => False
    | .box e cs => cellsK v fun vs => vs.length = n ∧ spliceK vs cs off fun cs => setK σ id (.box e cs) K
    | _ => False
  | _ => False

noncomputable def idxAK (σ : Sto) (sz : Nat) (a : AV) (i : Int) (K : AV → Prop) : Prop :=
  match a with
  | .pv x => match x with
    | .sl s els => match Nat.beq s sz with
      | true => ∃ y, (0 ≤ i ∧ els[i.toNat]? = some y) ∧ K (.pv (.cptr y))
      | false => False
    | _ => False
  | .own id => nthK σ id fun b => match b with
    | .row _ s _ els => match Nat.beq s sz with
      | true => (0 ≤ i ∧ i.toNat < els.length) ∧ K (.ref id i.toNat 0)
      | false => False
    | .fz x => match x with
      | .sl s els => match Nat.beq s sz with
        | true => ∃ y, (0 ≤ i ∧ els[i.toNat]? = some y) ∧ K (.pv (.cptr y))
        | false => False
      | _ => False
    | _ => False
  | .sub id z lo n => match Nat.beq z sz with
    | true => nthK σ id fun b => match b with
      | .row _ s _ els => match Nat.beq s sz with
        | true => ((0 ≤ i ∧ i.toNat < n) ∧ lo + n ≤ els.length) ∧ K (.ref id (lo + i.toNat) 0)
        | false => False
      | .fz x => match x with
        | .sl s els => match Nat.beq s sz with
          | true => ∃ y, ((0 ≤ i ∧ i.toNat < n ∧ lo + n ≤ els.length) ∧ els[lo + i.toNat]? = some y) ∧ K (.pv (.cptr y))
          | false => False
        | _ => False
      | _ => False
    | false => False
  | _ => False

noncomputable def slcRK (σ : Sto) (sz : Nat) (x : AV) (lo hi : Option AV) (K : AV → Sto → Prop) : Prop :=
  match x with
  | .pv x => match x with
    | .sl s els => match Nat.beq s sz with
      | true => boundsK els.length lo hi fun l h => K (.pv (.sl sz (cut l h els))) σ
      | false => False
    | .nil s => boundsK 0 lo hi fun _ _ => K (.pv (.nil s)) σ
    | _ => False
  | .own id => nthK σ id fun b => match b with
    | .row _ s _ els => match Nat.beq s sz with
      | true => (boundsK els.length lo hi fun l h => setK σ id (.fz (.sl sz els)) fun σ => K (.pv (.sl sz (cut l h els))) σ) ∨ boundsK els.length lo hi fun l h => K (.sub id sz l (h - l)) σ
      | false => False
    | .fz x => match x with
      | .sl s els => match Nat.beq s sz with
        | true => boundsK els.length lo hi fun l h => K (.pv (.sl sz (cut l h els))) σ
        | false => False
      | _ => False
    | _ => False
  | .sub id s lo0 n => match Nat.beq s sz with
    | true => boundsK n lo hi fun l h => K (.sub id sz (lo0 + l) (h - l)) σ
    | false => False
  | _ => False

/-- A part of an array that lies as a row. -/
noncomputable def slcAK (σ : Sto) (n sz : Nat) (x : AV) (lo hi : Option AV) (K : AV → Sto → Prop) : Prop :=
  match x with
  | .ref id idx off => match idx, off with
    | 0, 0 => nthK σ id fun b => match b with
      | .row _ s _ els => match Nat.beq s sz with
        | true => els.length = n ∧ boundsK n lo hi fun l h => K (.sub id sz l (h - l)) σ
        | false => False
      | _ => False
    | _, _ => False
  | _ => False

/-- The address of an element of an array that lies as a row. -/
noncomputable def idxArK (σ : Sto) (n sz : Nat) (x : AV) (i : Int) (K : AV → Prop) : Prop :=
  match x with
  | .ref id idx off => match idx, off with
    | 0, 0 => nthK σ id fun b => match b with
      | .row _ s _ els => match Nat.beq s sz with
        | true => (els.length = n ∧ 0 ≤ i ∧ i.toNat < n) ∧ K (.ref id i.toNat 0)
        | false => False
      | _ => False
    | _, _ => False
  | _ => False

/-- Elements put over those of a row of the call's own, or of a part of one, from place 'at' on: at most n. -/
noncomputable def overK (σ : Sto) (sz : Nat) (x : AV) (ys : List PV) (K : Nat → Sto → Prop) : Prop :=
  match x with
  | .pv x => match x with
    | .nil _ => K 0 σ
    | _ => False
  | .own id => nthK σ id fun b => match b with
    | .row e s ap els => match Nat.beq s sz with
      | true => setK σ id (.row e s ap (ys.take els.length ++ els.drop ys.length)) fun σ => K (min ys.length els.length) σ
      | false => False
    | _ => False
  | .sub id s lo n => match Nat.beq s sz with
    | true => nthK σ id fun b => match b with
      | .row e s ap els => match Nat.beq s sz with
        | true => lo + n ≤ els.length ∧ setK σ id (.row e s ap (els.take lo ++ ys.take n ++ els.drop (lo + min ys.length n))) fun σ => K (min ys.length n) σ
        | false => False
      | _ => False
    | false => False
  | _ => False

noncomputable def liveK (σ : Sto) (id : Nat) (p : Prop) : Prop :=
  nthK σ id fun b => match b with
    | .row _ _ _ _ => p
    | .box _ _ => p
    | .fz x => match x with
      | .cptr _ => p
      | _ => False
    | _ => False

noncomputable def fldAK (σ : Sto) (off : Nat) (a : AV) (K : AV → Prop) : Prop :=
  match a with
  | .pv x => match x with
    | .cptr y => dropK off y.cells fun r => K (.pv (.cptr (.agg r)))
    | _ => False
  | .ref id idx o => liveK σ id (K (.ref id idx (Nat.add o off)))
  | _ => False

/-- Whether a slice is none: known where it has elements. -/
noncomputable def nilK (σ : Sto) (a : AV) (K : Bool → Prop) : Prop :=
  match a with
  | .pv x => match x with
    | .nil _ => K true
    | .sl _ els => ∀ r : Bool, (els ≠ [] → r = false) → K r
    | _ => False
  | .own id => nthK σ id fun b => match b with
    | .row _ _ _ els => ∀ r : Bool, (els ≠ [] → r = false) → K r
    | .fz x => match x with
      | .sl _ els => ∀ r : Bool, (els ≠ [] → r = false) → K r
      | _ => False
    | _ => False
  | _ => False

noncomputable def buildK (z : List AV) (ps : List (Nat × Nat × AV)) : (List AV → Prop) → Prop :=
  List.rec (motive := fun _ => List AV → (List AV → Prop) → Prop) (fun z K => K z)
    (fun p _ ih z K => cellsK p.2.2 fun vs => vs.length = p.2.1 ∧ spliceK vs z p.1 fun z => ih z K) ps z

noncomputable def evParts (env : Env) (l : List (Nat × Nat × Operand)) : (List (Nat × Nat × AV) → Prop) → Prop :=
  List.rec (motive := fun _ => (List (Nat × Nat × AV) → Prop) → Prop) (fun K => K []) (fun o _ ih K => ev env o.2.2 fun a => ih fun l => K ((o.1, o.2.1, a) :: l)) l

/-- Elements put behind those of a row of the call's own. -/
noncomputable def appK (σ : Sto) (e : TypeId) (sz bytes : Nat) (x : AV) (ys : List PV) (K : AV → Sto → Prop) : Prop :=
  match x with
  | .pv x => match x with
    | .nil _ => (ys.length * bytes ≤ 140737488355328 ∧ ys.length ≤ 9223372036854775807) ∧ lenK σ fun n => snocK σ (.row e sz true ys) fun σ => K (.own n) σ
    | _ => False
  | .own id => nthK σ id fun b => match b with
    | .row e' s ap els => match ap, Nat.beq s sz, Nat.beq e' e with
      | true, true, true => ((els.length + ys.length) * bytes ≤ 140737488355328 ∧ els.length + ys.length ≤ 9223372036854775807) ∧
          setK σ id .dead fun σ => lenK σ fun n => snocK σ (.row e sz true (els ++ ys)) fun σ => K (.own n) σ
      | _, _, _ => False
    | _ => False
  | _ => False

/-- A variable's value as it is read from here on: it is written no more. -/
noncomputable def boxVal (cs : List PV) (K : PV → Prop) : Prop :=
  match cs with
  | [] => K (.agg [])
  | c :: r => match r with
    | [] => match c with
      | .agg _ => False
      | c => K c
    | d :: r => K (.agg (c :: d :: r))

/-- Variables that a function captures: written no more. -/
noncomputable def boxesK (l : List AV) : Sto → (List PV → Sto → Prop) → Prop :=
  List.rec (motive := fun _ => Sto → (List PV → Sto → Prop) → Prop) (fun σ K => K [] σ) (fun a _ ih σ K => match a with
    | .ref id _ off => nthK σ id fun b => match b, off with
      | .box _ cs, 0 => readAVs σ cs fun t => boxVal t fun x => freezeAVs cs σ fun σ => setK σ id (.fz (.cptr x)) fun σ => ih σ fun xs σ => K (.cptr x :: xs) σ
      | .fz x, 0 => match x with
        | .cptr y => ih σ fun xs σ => K (.cptr y :: xs) σ
        | _ => False
      | _, _ => False
    | .pv x => match x with
      | .cptr y => ih σ fun xs σ => K (.cptr y :: xs) σ
      | _ => False
    | _ => False) l

/-! ### The store's rows in the order in which the slots name them -/
noncomputable def memB (n : Nat) (l : List Nat) : Bool := List.rec (motive := fun _ => Bool) false (fun a _ ih => Bool.rec (motive := fun _ => Bool) ih true (Nat.beq a n)) l

/-- A number at the end of a list, unless it is there. -/
noncomputable def addK (n : Nat) (l : List Nat) (K : List Nat → Prop) : Prop := Bool.rec (motive := fun _ => Prop) (snocK l n K) (K l) (memB n l)

noncomputable def idsAV (a : AV) : List Nat → (List Nat → Prop) → Prop :=
  AV.rec (motive_1 := fun _ => List Nat → (List Nat → Prop) → Prop) (motive_2 := fun _ => List Nat → (List Nat → Prop) → Prop)
    (fun l K => K l) (fun _ l K => K l) (fun id l K => addK id l K) (fun id _ _ l K => addK id l K) (fun id _ _ _ l K => addK id l K)
    (fun _ ih l K => ih l K) (fun _ ih l K => ih l K) (fun _ _ ih l K => ih l K) (fun l K => K l) (fun _ _ h t l K => h l fun l => t l K) a

noncomputable def idsAVs (as : List AV) : List Nat → (List Nat → Prop) → Prop :=
  List.rec (motive := fun _ => List Nat → (List Nat → Prop) → Prop) (fun l K => K l) (fun a _ ih l K => idsAV a l fun l => ih l K) as

noncomputable def idsEnv (e : Env) : List Nat → (List Nat → Prop) → Prop :=
  List.rec (motive := fun _ => List Nat → (List Nat → Prop) → Prop) (fun l K => K l) (fun a _ ih l K => idsAV a.2 l fun l => ih l K) e

/-- What the boxes among these rows name, too. -/
noncomputable def idsBox (σ : Sto) (r : List Nat) : List Nat → (List Nat → Prop) → Prop :=
  List.rec (motive := fun _ => List Nat → (List Nat → Prop) → Prop) (fun l K => K l)
    (fun i _ ih l K => nthK σ i fun b => match b with
      | .box _ cs => idsAVs cs l fun l => ih l K
      | _ => ih l K) r

noncomputable def placeK (n : Nat) (l : List Nat) : (Nat → Prop) → Prop → Prop :=
  List.rec (motive := fun _ => (Nat → Prop) → Prop → Prop) (fun _ E => E)
    (fun a _ ih K E => Bool.rec (motive := fun _ => Prop) (ih (fun j => K (Nat.succ j)) E) (K 0) (Nat.beq a n)) l

noncomputable def renAV (r : List Nat) (a : AV) : (AV → Prop) → Prop :=
  AV.rec (motive_1 := fun _ => (AV → Prop) → Prop) (motive_2 := fun _ => (List AV → Prop) → Prop)
    (fun K => K .bad) (fun x K => K (.pv x)) (fun id K => placeK id r (fun j => K (.own j)) False) (fun id i o K => placeK id r (fun j => K (.ref j i o)) False) (fun id s l n K => placeK id r (fun j => K (.sub j s l n)) False)
    (fun _ ih K => ih fun l => K (.agg l)) (fun _ ih K => ih fun l => K (.tup l)) (fun f _ ih K => ih fun l => K (.clo f l)) (fun K => K []) (fun _ _ h t K => h fun a => t fun l => K (a :: l)) a

noncomputable def renAVs (r : List Nat) (l : List AV) : (List AV → Prop) → Prop :=
  List.rec (motive := fun _ => (List AV → Prop) → Prop) (fun K => K []) (fun a _ ih K => renAV r a fun a => ih fun l => K (a :: l)) l

noncomputable def renEnv (r : List Nat) (e : Env) : (Env → Prop) → Prop :=
  List.rec (motive := fun _ => (Env → Prop) → Prop) (fun K => K []) (fun a _ ih K => renAV r a.2 fun v => ih fun l => K ((a.1, v) :: l)) e

noncomputable def renBlk (r : List Nat) (b : Blk) (K : Blk → Prop) : Prop :=
  match b with
  | .box e cs => renAVs r cs fun cs => K (.box e cs)
  | b => K b

noncomputable def renSto (σ : Sto) (r l : List Nat) : (Sto → Prop) → Prop :=
  List.rec (motive := fun _ => (Sto → Prop) → Prop) (fun K => K []) (fun i _ ih K => nthK σ i fun b => renBlk r b fun b => ih fun t => K (b :: t)) l

/-- Where the entries of a part of the store go back to: those that came from somewhere, there; the others behind. -/
noncomputable def rhoK (σ : Sto) : List Nat → Nat → (List Nat → Prop) → Prop :=
  List.rec (motive := fun _ => List Nat → Nat → (List Nat → Prop) → Prop) (fun _ _ K => K [])
    (fun _ _ ih r L K => match r with
      | a :: r => ih r L fun t => K (a :: t)
      | [] => ih [] (Nat.succ L) fun t => K (L :: t)) σ

noncomputable def unAV (ρ : List Nat) (a : AV) : (AV → Prop) → Prop :=
  AV.rec (motive_1 := fun _ => (AV → Prop) → Prop) (motive_2 := fun _ => (List AV → Prop) → Prop)
    (fun K => K .bad) (fun x K => K (.pv x)) (fun id K => nthK ρ id fun j => K (.own j)) (fun id i o K => nthK ρ id fun j => K (.ref j i o)) (fun id s l n K => nthK ρ id fun j => K (.sub j s l n))
    (fun _ ih K => ih fun l => K (.agg l)) (fun _ ih K => ih fun l => K (.tup l)) (fun f _ ih K => ih fun l => K (.clo f l)) (fun K => K []) (fun _ _ h t K => h fun a => t fun l => K (a :: l)) a

noncomputable def unAVs (ρ : List Nat) (l : List AV) : (List AV → Prop) → Prop :=
  List.rec (motive := fun _ => (List AV → Prop) → Prop) (fun K => K []) (fun a _ ih K => unAV ρ a fun a => ih fun l => K (a :: l)) l

noncomputable def unBlk (ρ : List Nat) (b : Blk) (K : Blk → Prop) : Prop :=
  match b with
  | .box e cs => unAVs ρ cs fun cs => K (.box e cs)
  | b => K b

noncomputable def backS (ρ : List Nat) (σ1 : Sto) : List Nat → Sto → (Sto → Prop) → Prop :=
  List.rec (motive := fun _ => List Nat → Sto → (Sto → Prop) → Prop) (fun _ σ K => K σ)
    (fun b _ ih r σ K => unBlk ρ b fun b => match r with
      | a :: r => setK σ a b fun σ => ih r σ K
      | [] => snocK σ b fun σ => ih [] σ K) σ1

/-- What a call leaves of its part of the store goes back into the whole. -/
noncomputable def backK (r : List Nat) (σ : Sto) (res : AV) (σ1 : Sto) (K : AV → Sto → Prop) : Prop :=
  lenK σ fun L => rhoK σ1 r L fun ρ => unAV ρ res fun res => backS ρ σ1 r σ fun σ => K res σ

/-- A call of a function that writes what it is handed. -/
noncomputable def mcallK (run : List AV → Sto → (AV → Sto → Prop) → Prop) (as : List AV) (σ : Sto) (K : AV → Sto → Prop) : Prop :=
  idsAVs as [] fun l => idsBox σ l l fun r => renAVs r as fun as' => renSto σ r r fun σ0 => run as' σ0 fun res σ1 => backK r σ res σ1 K

noncomputable def callK (S : Spec) (as : List AV) (σ : Sto) (K : AV → Sto → Prop) : Prop :=
  match S.mu with
  | true => mcallK S.mrun as σ K
  | false => readAVs σ as fun ps => match S.lone with
    | true => S.run ps fun r => takeRV r σ K
    | false => freezeAVs as σ fun σ => S.run ps fun r => takeRV r σ K

/-- Two lists, one behind the other. -/
noncomputable def appK2 (l m : List AV) : (List AV → Prop) → Prop :=
  List.rec (motive := fun _ => (List AV → Prop) → Prop) (fun K => K m) (fun a _ ih K => ih fun t => K (a :: t)) l

noncomputable def callvK (Γ : Ctx) (f : AV) (as : List AV) (σ : Sto) (K : AV → Sto → Prop) : Prop :=
  match f with
  | .pv x => match x with
    | .clo g caps => pvsK caps fun cs => appK2 as cs fun as => callK (Γ g) as σ K
    | _ => False
  | .clo g cs => appK2 as cs fun as => callK (Γ g) as σ K
  | _ => False

noncomputable def evK (Γ : Ctx) (env : Env) (σ : Sto) (k : PK) (K : AV → Sto → Prop) : Prop :=
  match k with
  | .mv x => ev env x fun a => K a σ
  | .nilS sz => K (.pv (.nil sz)) σ
  | .nilR e sz => lenK σ fun n => snocK σ (.row e sz true []) fun σ => K (.own n) σ
  | .pick c a b => ev env c fun c => match c with
    | .pv c => match c with
      | .bool c => match c with
        | true => ev env a fun a => K a σ
        | false => ev env b fun a => K a σ
      | _ => False
    | _ => False
  | .bin op x y => ev env x fun x => ev env y fun y => match x, y with
    | .pv x, .pv y => binP op x y fun r => K (.pv r) σ
    | _, _ => False
  | .eqb neg x y => ev env x fun x => ev env y fun y => match x, y with
    | .pv x, .pv y => match x, y with
      | .bool a, .bool b => match neg with
        | false => cmpK (a = b) fun r => K (.pv r) σ
        | true => cmpK (a ≠ b) fun r => K (.pv r) σ
      | _, _ => False
    | _, _ => False
  | .eqs neg ks x y => ev env x fun x => ev env y fun y => match x, y with
    | .pv x, .pv y => match x, y with
      | .agg a, .agg b => match likeB ks a b with
        | true => match neg with
          | false => cmpK (a = b) fun r => K (.pv r) σ
          | true => cmpK (a ≠ b) fun r => K (.pv r) σ
        | false => False
      | _, _ => False
    | _, _ => False
  | .un op x => ev env x fun x => match x with
    | .pv x => unP op x fun r => K (.pv r) σ
    | _ => False
  | .conv c x => ev env x fun x => match c with
    | .toInt k => asInt x fun _ n => numK k n fun r => K (.pv r) σ
    | .same => match x with
      | .pv x => match x with
        | .str l => K (.pv (.str l)) σ
        | _ => False
      | _ => False
    | .bts => rowK σ x fun _ els => ∃ l : List UInt8, els = l.map byteP ∧ K (.pv (.str l)) σ
    | .stb e => match x with
      | .pv x => match x with
        | .str l => l.length ≤ 9223372036854775807 ∧ lenK σ fun n => snocK σ (.row e 1 false (l.map byteP)) fun σ => K (.own n) σ
        | _ => False
      | _ => False
  | .lenS x => ev env x fun x => match x with
    | .pv x => match x with
      | .str l => K (.pv (.int .i64 l.length)) σ
      | _ => False
    | _ => False
  | .lenR x => ev env x fun x => rowK σ x fun _ els => els.length ≤ 9223372036854775807 → K (.pv (.int .i64 els.length)) σ
  | .lenN x => ev env x fun x => rowK σ x fun _ els => K (.pv (.int .i64 els.length)) σ
  | .mm mx x y => ev env x fun x => ev env y fun y => asInt x fun k a => asInt y fun _ b =>
      match mx with
      | true => ∀ r : Int, r = max a b → K (.pv (.int k r)) σ
      | false => ∀ r : Int, r = min a b → K (.pv (.int k r)) σ
  | .idx x i => ev env x fun x => ev env i fun i => asInt i fun _ i => match x with
    | .pv x => match x with
      | .str l => ∃ b, (0 ≤ i ∧ l[i.toNat]? = some b) ∧ K (.pv (byteP b)) σ
      | _ => False
    | _ => False
  | .slcS x lo hi => ev env x fun x => evO env lo fun lo => evO env hi fun hi => match x with
    | .pv x => match x with
      | .str s => boundsK s.length lo hi fun l h => K (.pv (.str (cut l h s))) σ
      | _ => False
    | _ => False
  | .slcR sz x lo hi => ev env x fun x => evO env lo fun lo => evO env hi fun hi => slcRK σ sz x lo hi K
  | .idxA sz x i => ev env x fun x => ev env i fun i => asInt i fun _ i => idxAK σ sz x i fun a => K a σ
  | .fldA off x => ev env x fun x => fldAK σ off x fun a => K a σ
  | .fld off ag n x => ev env x fun x => match x with
    | .pv x => match x with
      | .agg cs => partK off ag n cs fun r => K (.pv r) σ
      | _ => False
    | .agg cs => dropK off cs fun r => takeK n r fun t => ofAVs ag t fun a => K a σ
    | _ => False
  | .load ag n x => ev env x fun x => loadK σ ag n x fun a => K a σ
  | .store n x v => ev env x fun x => ev env v fun v => storeK σ n x v fun σ => K .bad σ
  | .alloc e z => pvsK z.cells fun cs => lenK σ fun n => snocK σ (.box e cs) fun σ => K (.ref n 0 0) σ
  | .box e x => ev env x fun x => cellsK x fun cs => lenK σ fun n => snocK σ (.box e cs) fun σ => K (.ref n 0 0) σ
  | .build z parts => evParts env parts fun ps => pvsK z fun z => buildK z ps fun cs => aggK cs fun a => K a σ
  | .bslice e sz parts => evs env parts fun as => readAVs σ as fun xs => lenB sz xs = true ∧ freezeAVs as σ fun σ => lenK σ fun n => snocK σ (.row e sz true xs) fun σ => K (.own n) σ
  | .bslP e sz parts => evs env parts fun as => allPvK as (fun xs => lenB sz xs = true ∧ lenK σ fun n => snocK σ (.row e sz true xs) fun σ => K (.own n) σ) False
  | .app e sz bytes x y => ev env x fun x => ev env y fun y => rowK σ y fun s ys => match Nat.beq s sz with
    | true => appK σ e sz bytes x ys K
    | false => False
  | .appS e bytes x y => ev env x fun x => ev env y fun y => match y with
    | .pv y => match y with
      | .str l => appK σ e 1 bytes x (l.map byteP) K
      | _ => False
    | _ => False
  | .mksl e sz bytes z l c => ev env l fun l => ev env c fun c => asInt l fun _ l => asInt c fun _ c =>
      (0 ≤ l ∧ l ≤ c ∧ (bytes : Int) * c ≤ 281474976710656 ∧ c ≤ 9223372036854775807) ∧ lenK σ fun n => snocK σ (.row e sz true (List.replicate l.toNat z)) fun σ => K (.own n) σ
  | .call f args => evs env args fun as => callK (Γ f) as σ K
  | .callv f args => ev env f fun f => evs env args fun as => callvK Γ f as σ K
  | .ext x i => ev env x fun x => match x with
    | .tup l => nthK l i fun a => K a σ
    | .pv x => match x with
      | .tup l => nthK l i fun a => K (.pv a) σ
      | _ => False
    | _ => False
  | .nilck x => ev env x fun x => match x with
    | .ref id idx off => liveK σ id (K (.ref id idx off) σ)
    | .pv x => match x with
      | .cptr y => K (.pv (.cptr y)) σ
      | .clo f cs => K (.pv (.clo f cs)) σ
      | _ => False
    | .clo f cs => K (.clo f cs) σ
    | _ => False
  | .mkf f caps => evs env caps fun as => match (Γ f).mu with
    | true => K (.clo f as) σ
    | false => boxesK as σ fun xs σ => K (.pv (.clo f xs)) σ
  | .fail => False
  | .junk => K .bad σ
  | .cpy sz x y => ev env x fun x => ev env y fun y => rowK σ y fun s ys => match Nat.beq s sz with
    | true => overK σ sz x ys fun n σ => K (.pv (.int .i64 n)) σ
    | false => False
  | .cpyS x y => ev env x fun x => ev env y fun y => match y with
    | .pv y => match y with
      | .str l => overK σ 1 x (l.map byteP) fun n σ => K (.pv (.int .i64 n)) σ
      | _ => False
    | _ => False
  | .clr sz z x => ev env x fun x => rowK σ x fun _ els => overK σ sz x (List.replicate els.length z) fun _ σ => K .bad σ
  | .mkarr e sz z n => lenK σ fun m => snocK σ (.row e sz false (List.replicate n z)) fun σ => K (.ref m 0 0) σ
  | .idxAr n sz x i => ev env x fun x => ev env i fun i => asInt i fun _ i => idxArK σ n sz x i fun a => K a σ
  | .slcA n sz x lo hi => ev env x fun x => evO env lo fun lo => evO env hi fun hi => slcAK σ n sz x lo hi K
  | .isnil neg x => ev env x fun x => nilK σ x fun r => K (.pv (.bool (xor r neg))) σ
  | .idxV m sz ag n x i => ev env x fun x => ev env i fun i => asInt i fun _ i => (0 ≤ i ∧ i.toNat < m) ∧ match x with
    | .pv x => match x with
      | .agg cs => partK (Nat.mul i.toNat sz) ag n cs fun r => K (.pv r) σ
      | _ => False
    | .agg cs => dropK (Nat.mul i.toNat sz) cs fun r => takeK n r fun t => ofAVs ag t fun a => K a σ
    | _ => False
  | .fldV m sz x i => ev env x fun x => ev env i fun i => asInt i fun _ i => (0 ≤ i ∧ i.toNat < m) ∧ fldAK σ (Nat.mul i.toNat sz) x fun a => K a σ

def put (d : Option Nat) (v : AV) (env : Env) : Env := match d with | some d => (d, v) :: env | none => env

noncomputable def vcO (Γ : Ctx) (K : Env → Sto → Prop) (ops : List PO) : Env → Sto → Prop :=
  List.rec (motive := fun _ => Env → Sto → Prop) K (fun o _ ih env σ =>
    match o.g with
    | none => evK Γ env σ o.k fun v σ => ih (put o.dst v env) σ
    | some (g, want) => look g (fun gv => match gv with
      | .pv x => match x with
        | .bool b => match b with
          | true => (match want with
            | true => evK Γ env σ o.k fun v σ => ih (put o.dst v env) σ
            | false => ih (put o.dst (.pv (.tup [])) env) σ)
          | false => (match want with
            | false => evK Γ env σ o.k fun v σ => ih (put o.dst v env) σ
            | true => ih (put o.dst (.pv (.tup [])) env) σ)
        | .tup _ => ih (put o.dst (.pv (.tup [])) env) σ
        | _ => False
      | _ => False) env) ops

/-- An operation, with its guard. -/
noncomputable def stepV (Γ : Ctx) (o : PO) (env : Env) (σ : Sto) (K : Env → Sto → Prop) : Prop :=
  match o.g with
  | none => evK Γ env σ o.k fun v σ => K (put o.dst v env) σ
  | some (g, want) => look g (fun gv => match gv with
    | .pv x => match x with
      | .bool b => match b with
        | true => (match want with
          | true => evK Γ env σ o.k fun v σ => K (put o.dst v env) σ
          | false => K (put o.dst (.pv (.tup [])) env) σ)
        | false => (match want with
          | false => evK Γ env σ o.k fun v σ => K (put o.dst v env) σ
          | true => K (put o.dst (.pv (.tup [])) env) σ)
      | .tup _ => K (put o.dst (.pv (.tup [])) env) σ
      | _ => False
    | _ => False) env
/-- What stands in a slot. -/
noncomputable def getE (p : Nat) (e : Env) : AV :=
  List.rec (motive := fun _ => AV) .bad (fun hd _ ih => Bool.rec (motive := fun _ => AV) ih hd.2 (Nat.beq hd.1 p)) e

/-! ### Regions whose order is open -/
def rdOp : Operand → List Nat
  | .tmp t => [t]
  | _ => []

def rdO : Option Operand → List Nat
  | some x => rdOp x
  | none => []

def PK.reads : PK → List Nat
  | .mv x | .un _ x | .conv _ x | .lenS x | .lenR x | .lenN x | .fldA _ x | .fld _ _ _ x | .load _ _ x | .box _ x | .ext x _ | .nilck x => rdOp x
  | .nilS _ | .nilR _ _ | .alloc _ _ | .fail | .junk | .mkarr _ _ _ _ => []
  | .cpy _ x y | .cpyS x y | .idxAr _ _ x y => rdOp x ++ rdOp y
  | .clr _ _ x => rdOp x
  | .isnil _ x => rdOp x
  | .idxV _ _ _ _ x y | .fldV _ _ x y => rdOp x ++ rdOp y
  | .slcA _ _ x lo hi => rdOp x ++ (rdO lo ++ rdO hi)
  | .pick c a b => rdOp c ++ (rdOp a ++ rdOp b)
  | .bin _ x y | .eqb _ x y | .eqs _ _ x y | .mm _ x y | .idx x y | .idxA _ x y | .store _ x y | .app _ _ _ x y | .appS _ _ x y => rdOp x ++ rdOp y
  | .mksl _ _ _ _ x y => rdOp x ++ rdOp y
  | .slcS x lo hi | .slcR _ x lo hi => rdOp x ++ (rdO lo ++ rdO hi)
  | .build _ ps => ps.flatMap fun p => rdOp p.2.2
  | .bslice _ _ l | .bslP _ _ l | .call _ l | .mkf _ l => l.flatMap rdOp
  | .callv f l => rdOp f ++ l.flatMap rdOp

def PK.pure (Γ : Ctx) : PK → Bool
  | .mv _ | .nilS _ | .pick _ _ _ | .bin _ _ _ | .eqb _ _ _ | .eqs _ _ _ _ | .un _ _ | .lenS _ | .lenN _ | .mm _ _ _ | .idx _ _ | .slcS _ _ _ | .idxA _ _ _ | .idxAr _ _ _ _ | .fldA _ _ | .fld _ _ _ _ | .load _ _ _ | .ext _ _ | .nilck _ | .build _ _ | .idxV _ _ _ _ _ _ | .fldV _ _ _ _ => true
  | .conv c _ => match c with | .stb _ => false | _ => true
  | .call f _ => (Γ f).fn
  | _ => false

/-- The length of a row, without what else is known of it. -/
def PK.plain : PK → PK
  | .lenR x => .lenN x
  | .bslice e sz l => .bslP e sz l
  | k => k

def PO.plain (o : PO) : PO := ⟨o.dst, o.g, o.k.plain⟩

def PO.reads (o : PO) : List Nat := (match o.g with | some (g, _) => [g] | none => []) ++ o.k.reads

def clash (p o : PO) : Bool :=
  (match p.dst with | some d => o.reads.contains d || (match o.dst with | some e => d == e | none => false) | none => false) ||
  (match o.dst with | some d => p.reads.contains d | none => false)

/-- What comes ahead of each operation, by way of others too. -/
def befs (aft : List (List Nat)) : List (List Nat) :=
  aft.foldl (fun acc l => acc ++ [(l ++ l.flatMap fun e => acc.getD e []).eraseDups]) []

/-- Each row of 'bs' is borne out by the direct ones. -/
def befOk (aft bs : List (List Nat)) : Bool :=
  aft.zipIdx.all fun (l, i) => l.all (fun e => Nat.blt e i) && (bs.getD i []).all fun j => l.contains j || l.any fun e => (bs.getD e []).contains j

/-- Operations that neither read nor write the store. -/
def PK.still : PK → Bool
  | .mv _ | .nilS _ | .pick _ _ _ | .bin _ _ _ | .eqb _ _ _ | .eqs _ _ _ _ | .un _ _ | .lenS _ | .mm _ _ _ | .ext _ _ => true
  | .conv c _ => match c with | .toInt _ => true | _ => false
  | _ => false
def PK.writ : PK → Bool
  | .store _ _ _ => true
  | _ => false
/-- Operations that put an entry behind the store, and read nothing of it. -/
def PK.al : PK → Bool
  | .alloc _ _ | .box _ _ | .bslP _ _ _ => true
  | _ => false
/-- The same with calls of one result that hand nothing of what was there on. -/
def PK.ald (Γ : Ctx) (k : PK) : Bool := k.al || match k with
  | .call f _ => (Γ f).dt && (Γ f).lone
  | _ => false
/-- Two operations of which each may come first. -/
def okPair (Γ : Ctx) (o p : PO) : Bool := ((o.k.pure Γ && p.k.pure Γ) || ((o.k.pure Γ && p.k.ald Γ) || (o.k.ald Γ && p.k.pure Γ))) || ((o.k.still && (p.k.writ || p.k.ald Γ)) || ((o.k.writ || o.k.ald Γ) && p.k.still))

def drawOk (Γ : Ctx) (ops : List PO) (aft : List (List Nat)) : Bool :=
  let bs := befs aft
  aft.length == ops.length && befOk aft bs && ops.zipIdx.all fun (o, i) => ops.zipIdx.all fun (p, j) =>
    !Nat.blt j i || (bs.getD i []).contains j || (okPair Γ o p && !clash p o)

/-! ### Regions whose order is open: what each operation reaches is held against the others -/
/-- The entries that a value names. -/
noncomputable def AV.ids (a : AV) : List Nat :=
  AV.rec (motive_1 := fun _ => List Nat) (motive_2 := fun _ => List Nat) [] (fun _ => []) (fun id => [id]) (fun id _ _ => [id]) (fun id _ _ _ => [id])
    (fun _ ih => ih) (fun _ ih => ih) (fun _ _ ih => ih) [] (fun _ _ h t => h ++ t) a
noncomputable def idsL (l : List AV) : List Nat := List.rec (motive := fun _ => List Nat) [] (fun a _ ih => a.ids ++ ih) l
noncomputable def idsR (env : Env) (l : List Nat) : List Nat := List.rec (motive := fun _ => List Nat) [] (fun t _ ih => (getE t env).ids ++ ih) l
/-- What the boxes among these entries name. -/
noncomputable def idsC (σ : Sto) (l : List Nat) : List Nat := List.rec (motive := fun _ => List Nat) [] (fun i _ ih => (match σ[i]? with | some (.box _ cs) => idsL cs | _ => []) ++ ih) l

/-- Operations that a region in any order may have. -/
def PK.dk (Γ : Ctx) (k : PK) : Bool :=
  k.pure Γ || k.still || k.al || match k with
    | .store _ _ _ | .app _ _ _ _ _ | .slcR _ _ _ _ => true
    | .mkf f _ => !(Γ f).mu
    | .call f _ => (Γ f).dt
    | _ => false
/-- Whether an operation turns what it reaches. -/
def PK.turns (Γ : Ctx) (k : PK) : Bool :=
  match k with
    | .store _ _ _ | .app _ _ _ _ _ | .slcR _ _ _ _ | .mkf _ _ => true
    | .call f _ => !(Γ f).fn && !(Γ f).lone
    | _ => false
/-- What an operation reaches in the store. -/
noncomputable def PK.reach (k : PK) (env : Env) (σ : Sto) : List Nat :=
  match k.still || k.al with
  | true => []
  | false => match k with
    | .mkf _ _ => idsR env k.reads ++ idsC σ (idsR env k.reads)
    | k => idsR env k.reads

/-- Of an operation: how long the store is behind it, what it reaches, what its value names. -/
abbrev Lg := Nat × List Nat × List Nat

noncomputable def vcD (Γ : Ctx) (K : List Lg → Env → Sto → Prop) (ops : List PO) : List Lg → Env → Sto → Prop :=
  List.rec (motive := fun _ => List Lg → Env → Sto → Prop) (fun log env σ => K log env σ) (fun o _ ih log env σ =>
    stepV Γ o env σ fun env' σ' => ih ((σ'.length, o.k.reach env σ, (match o.dst with | some d => (getE d env').ids | none => [])) :: log) env' σ') ops

def apart (l m : List Nat) : Bool := l.all fun i => !m.contains i
def lowB (n : Nat) (l : List Nat) : Bool := l.all fun i => Nat.blt i n
def newB (a b : Nat) (l : List Nat) : Bool := l.all fun i => Nat.blt i a || Nat.ble b i

/-- The check of such a region ahead of its walk. -/
def statD (Γ : Ctx) (ops : List PO) (aft : List (List Nat)) : Bool := aft.length == ops.length && befOk aft (befs aft) && ops.all fun o => o.k.dk Γ
/-- How long the store is ahead of an operation. -/
def lenD (n0 : Nat) (lg : List Lg) (i : Nat) : Nat := match i with | 0 => n0 | i + 1 => (lg.getD i (0, [], [])).1
/-- The check behind its walk: 'n0' entries at the start, 'log' from the last operation to the first. -/
def chkD (Γ : Ctx) (ops : List PO) (aft : List (List Nat)) (n0 : Nat) (log : List Lg) : Bool :=
  let bs := befs aft
  let lg := log.reverse
  let len := lenD n0 lg
  let A := fun i => (lg.getD i (0, [], [])).2.1
  let V := fun i => (lg.getD i (0, [], [])).2.2
  let M := fun (i : Nat) (o : PO) => match o.k.turns Γ with | true => A i | false => []
  ops.zipIdx.all fun (o, i) => lowB (len (i + 1)) (V i) && ops.zipIdx.all fun (p, j) =>
    !Nat.blt j i || (bs.getD i []).contains j || (!clash p o && apart (M j p) (A i) && newB (len j) (len (j + 1)) (A i) && apart (M i o) (A j) && newB (len i) (len (i + 1)) (A j) && newB (len j) (len (j + 1)) (V i))

noncomputable def canon (env : Env) (ps : List Nat) : (Env → Prop) → Prop :=
  List.rec (motive := fun _ => (Env → Prop) → Prop) (fun K => K []) (fun p _ ih K => look p (fun v => ih fun r => K ((p, v) :: r)) env) ps

noncomputable def gc (pin : List Nat) (env : Env) (σ : Sto) (ps : List Nat) (K : Env → Sto → Prop) : Prop :=
  canon env ps fun env => idsEnv env pin fun l => idsBox σ l l fun r => renEnv r env fun env => renSto σ r r fun σ => K env σ

inductive Ex where
  | normal | exit (id : Nat) | ret

def seqQ (B : Env → Sto → Prop) (Q : Ex → Env → Sto → Prop) : Ex → Env → Sto → Prop
  | .normal, e, σ => B e σ
  | .exit i, e, σ => Q (.exit i) e σ
  | .ret, e, σ => Q .ret e σ

def blockQ (id : Nat) (Q : Ex → Env → Sto → Prop) : Ex → Env → Sto → Prop
  | .exit i, e, σ => match Nat.beq i id with | true => Q .normal e σ | false => Q (.exit i) e σ
  | .normal, e, σ => Q .normal e σ
  | .ret, e, σ => Q .ret e σ

noncomputable def loopVC (pin ps : List Nat) (B : (Ex → Env → Sto → Prop) → Env → Sto → Prop) (Q : Ex → Env → Sto → Prop) (env : Env) (σ : Sto) : Prop :=
  ∃ (I : Nat → Env → Sto → Prop) (n : Nat), I n env σ ∧ ∀ n env σ, I n env σ → B (seqQ (fun e σ => gc pin e σ ps fun e' σ' => ∃ m, m < n ∧ I m e' σ') Q) env σ

/-- The parameters of a round, put ahead. -/
noncomputable def putsK (ps : List Nat) : List PV → Env → (Env → Prop) → Prop :=
  List.rec (motive := fun _ => List PV → Env → (Env → Prop) → Prop) (fun xs env K => match xs with | [] => K env | _ => False)
    (fun p _ ih xs env K => match xs with | [] => False | x :: xs => ih xs ((p, .pv x) :: env) K) ps

def primC : PV → Bool
  | .bool _ | .int _ _ | .str _ => true
  | _ => false
noncomputable def primL (l : List PV) : Bool := List.rec (motive := fun _ => Bool) true (fun c _ ih => match primC c with | true => ih | false => false) l
noncomputable def primB : PV → Bool
  | .agg cs => primL cs
  | x => primC x

/-- How a round may end. -/
def roundQ (Q : Ex → Env → Sto → Prop) (env : Env) (I : List (List PV) → Sto → Prop) (L pre : List (List PV)) : Ex → Env → Sto → Prop
  | .normal, _, σ => I pre σ
  | .exit i, _, σ => pre <+: L → Q (.exit i) env σ
  | .ret, _, σ => pre <+: L → Q .ret env σ

noncomputable def rangeVC (Γ : Ctx) (ps : List Nat) (aops : List PO) (B : (Ex → Env → Sto → Prop) → Env → Sto → Prop) (Q : Ex → Env → Sto → Prop) (f : AV) (env : Env) (σ : Sto) : Prop :=
  match f with
  | .pv x => match x with
    | .clo g caps => ∃ (L : List (List PV)) (I : List (List PV) → Sto → Prop), (Γ g).iter caps L ∧ (∀ x ∈ L, x.length = ps.length ∧ ∀ v ∈ x, primB v = true) ∧ I [] σ ∧
        (∀ pre x σ, x ∈ L → pre.length < L.length → I pre σ → putsK ps x env fun env' => vcO Γ (fun env'' σ => B (roundQ Q env I L (pre ++ [x])) env'' σ) aops env' σ) ∧
        ∀ σ, I L σ → Q .normal env σ
    | _ => False
  | _ => False

noncomputable def vc (Γ : Ctx) (pin ps : List Nat) (c : PC) : (Ex → Env → Sto → Prop) → Env → Sto → Prop :=
  PC.rec (motive := fun _ => (Ex → Env → Sto → Prop) → Env → Sto → Prop)
    (fun Q env σ => Q .normal env σ)
    (fun ops Q env σ => canon env ps fun env => vcO Γ (Q .normal) ops env σ)
    (fun ops aft Q env σ => drawOk Γ ops aft = true ∧ canon env ps fun env => vcO Γ (Q .normal) ops env σ)
    (fun ops aft Q env σ => statD Γ ops aft = true ∧ canon env ps fun env => vcD Γ (fun log env' σ' => chkD Γ ops aft σ.length log = true ∧ Q .normal env' σ') ops [] env σ)
    (fun _ _ A B Q env σ => A (seqQ (B Q) Q) env σ)
    (fun c _ _ T E Q env σ => ev env c fun c => match c with
      | .pv x => match x with
        | .bool b => match b with
          | true => T Q env σ
          | false => E Q env σ
        | _ => False
      | _ => False)
    (fun id _ B Q env σ => B (blockQ id Q) env σ)
    (fun live _ B Q env σ => gc pin env σ live fun env σ => loopVC pin live B Q env σ)
    (fun f qs aops _ B Q env σ => canon env ps fun env => ev env f fun f => rangeVC Γ qs aops B Q f env σ)
    (fun id Q env σ => Q (.exit id) env σ)
    (fun Q env σ => Q .ret env σ) c


/-! ### A function -/
/-- What a cell holds at the end, as a result. -/
noncomputable def retC (σ : Sto) (a : AV) (r : RV) : Prop :=
  match a with
  | .pv x => match r with
    | .pv y => match x with
      | .nil s => y = .nil s ∨ y = .sl s []
      | x => y = x
    | .fresh _ s els => match x with
      | .nil s' => (s = s' ∧ els = []) ∧ 0 < s
      | _ => False
    | .row _ s els => match x with
      | .nil s' => (s = s' ∧ els = []) ∧ 0 < s
      | _ => False
    | _ => False
  | .own id => nthK σ id fun b => match b with
    | .row e sz ap els => match r with
      | .fresh e' sz' els' => ap = true ∧ e' = e ∧ sz' = sz ∧ els' = els
      | .row e' sz' els' => e' = e ∧ sz' = sz ∧ els' = els
      | .pv y => y = .sl sz els
      | _ => False
    | .fz x => match r with
      | .pv y => y = x
      | _ => False
    | _ => False
  | .sub id sz lo n => nthK σ id fun b => winK sz lo n b fun els => match r with
    | .pv y => y = .sl sz els
    | _ => False
  | .ref id idx off => match r with
    | .pv y => match idx, off with
      | 0, 0 => nthK σ id fun b => match b with
        | .box _ cs => allPvK cs (fun xs => boxVal xs fun x => y = .cptr x) False
        | _ => False
      | _, _ => False
    | _ => False
  | _ => False

noncomputable def retCs (σ : Sto) (l : List AV) : List RV → Prop :=
  List.rec (motive := fun _ => List RV → Prop) (fun rs => match rs with | [] => True | _ => False)
    (fun a _ ih rs => match rs with | r :: rs => retC σ a r ∧ ih rs | [] => False) l

/-- What a slot holds at the end, as a result. -/
noncomputable def retAV (σ : Sto) (a : AV) (r : RV) : Prop :=
  match a with
  | .agg cs => match r with
    | .pv y => readAVs σ cs fun xs => y = .agg xs
    | .agg rs => retCs σ cs rs
    | _ => False
  | a => retC σ a r

noncomputable def retsK (σ : Sto) (l : List AV) : List RV → Prop :=
  List.rec (motive := fun _ => List RV → Prop) (fun rs => match rs with | [] => True | _ => False)
    (fun a _ ih rs => match rs with | r :: rs => retAV σ a r ∧ ih rs | [] => False) l

noncomputable def onceC (l : List AV) : List Nat → (List Nat → Bool) → Bool :=
  List.rec (motive := fun _ => List Nat → (List Nat → Bool) → Bool) (fun seen K => K seen) (fun a _ ih seen K => match a with
    | .own id => Bool.rec (motive := fun _ => Bool) (ih (id :: seen) K) false (memB id seen)
    | .ref id _ _ => Bool.rec (motive := fun _ => Bool) (ih (id :: seen) K) false (memB id seen)
    | .sub id _ _ _ => Bool.rec (motive := fun _ => Bool) (ih (id :: seen) K) false (memB id seen)
    | _ => ih seen K) l

/-- What is the call's own and handed out is not named twice. -/
noncomputable def ownOnce (l : List AV) : List Nat → Bool :=
  List.rec (motive := fun _ => List Nat → Bool) (fun _ => true) (fun a _ ih seen => match a with
    | .agg cs => onceC cs seen ih
    | a => onceC [a] seen ih) l

/-- A value without an address. -/
def PV.prim : PV → Prop
  | .bool _ | .int _ _ | .str _ | .nil _ => True
  | _ => False
def PV.flat : PV → Prop
  | .agg cs => ∀ c ∈ cs, c.prim
  | .bool _ | .int _ _ | .str _ | .nil _ => True
  | _ => False
def RV.flat1 : RV → Prop
  | .pv x => x.flat
  | .fresh _ _ els => ∀ x ∈ els, x.flat
  | .row _ _ els => ∀ x ∈ els, x.flat
  | _ => False

noncomputable def flatL (l : List RV) : Prop := List.rec (motive := fun _ => Prop) True (fun r _ ih => r.flat1 ∧ ih) l

noncomputable def RV.flat (r : RV) : Prop :=
  match r with
  | .tup rs => flatL rs
  | r => r.flat1

/-- The results out of their slots. -/
noncomputable def retK (lone : Bool) (σ : Sto) (as : List AV) (K : RV → Prop) : Prop :=
  match ownOnce as [] with
  | false => False
  | true => match as with
    | [] => K (.tup [])
    | a :: as => match as with
      | [] => ∃ r, retAV σ a r ∧ (match lone with | true => r.flat1 | false => True) ∧ K r
      | b :: bs => ∃ rs, retsK σ (a :: b :: bs) rs ∧ (match lone with | true => flatL rs | false => True) ∧ K (.tup rs)

/-- The values of the result slots: a slot's own, or what lies in its variable. -/
noncomputable def looksK (σ : Sto) (env : Env) (rs : List (Nat × Option (Bool × Nat))) : (List AV → Prop) → Prop :=
  List.rec (motive := fun _ => (List AV → Prop) → Prop) (fun K => K []) (fun p _ ih K => look p.1 (fun v => match p.2 with
    | none => ih fun l => K (v :: l)
    | some q => loadK σ q.1 q.2 v fun v => ih fun l => K (v :: l)) env) rs

/-- At the end of a function whose results lie in these slots. -/
noncomputable def endQ (lone : Bool) (rs : List (Nat × Option (Bool × Nat))) (K : RV → Prop) : Ex → Env → Sto → Prop
  | .normal, env, σ => looksK σ env rs fun as => retK lone σ as K
  | .ret, env, σ => looksK σ env rs fun as => retK lone σ as K
  | .exit _, _, _ => False

noncomputable def argEnv (l : List PV) : Nat → (Env → Prop) → Prop :=
  List.rec (motive := fun _ => Nat → (Env → Prop) → Prop) (fun _ K => K []) (fun x _ ih n K => ih (Nat.succ n) fun e => K ((n, .pv x) :: e)) l

/-- A function keeps its contract. -/
def Meets (Γ : Ctx) (ps : List Nat) (pc : PC) (rs : List (Nat × Option (Bool × Nat))) (S : Spec) : Prop :=
  ∀ (args : List PV) (K : RV → Prop), S.run args K → argEnv args 0 fun env => vc Γ [] ps pc (endQ S.lone rs K) env []

/-- The numbers of the entries that are handed in. -/
noncomputable def pinK (σ : Sto) : Nat → (List Nat → Prop) → Prop :=
  List.rec (motive := fun _ => Nat → (List Nat → Prop) → Prop) (fun _ K => K []) (fun _ _ ih n K => ih (Nat.succ n) fun t => K (n :: t)) σ

def packA : List AV → AV
  | [a] => a
  | l => .tup l

/-- At the end of a function that writes what it is handed: its results, and its part of the store. -/
noncomputable def endM (pin : List Nat) (rs : List (Nat × Option (Bool × Nat))) (K : AV → Sto → Prop) : Ex → Env → Sto → Prop
  | .exit _, _, _ => False
  | _, env, σ => looksK σ env rs fun as => idsAVs as pin fun l => idsBox σ l l fun r => renAVs r as fun as => renSto σ r r fun σ => K (packA as) σ

noncomputable def argEnvA (l : List AV) : Nat → (Env → Prop) → Prop :=
  List.rec (motive := fun _ => Nat → (Env → Prop) → Prop) (fun _ K => K []) (fun x _ ih n K => ih (Nat.succ n) fun e => K ((n, x) :: e)) l

/-- A function that writes what it is handed keeps its contract. -/
def MeetsM (Γ : Ctx) (ps : List Nat) (pc : PC) (rs : List (Nat × Option (Bool × Nat))) (S : Spec) : Prop :=
  ∀ (args : List AV) (σ : Sto) (K : AV → Sto → Prop), S.mrun args σ K → argEnvA args 0 fun env => pinK σ 0 fun pin => vc Γ pin ps pc (endM pin rs K) env σ

end Go.Dv
end
section
/-
  What abstract values say of a heap: readings, the rows of the call's own, and how they outlast a step.
-/
namespace Go.Dv
open Go.RowKit

def PV.one : PV → Bool
  | .agg _ | .tup _ => false
  | _ => true

mutual
/-- The value reads as said; what it reaches lies in blocks that 'ok' lets. -/
def Rd (ok : Nat → Prop) (w : World) : PV → Value → Prop
  | .bool b, v => v = .bool b
  | .int k n, v => v = .int k n
  | .str l, v => v = .string ⟨l.toArray⟩
  | .val u, v => v = u ∧ u.oneCell' = true
  | .nil _, v => v = .slice none 0 0
  | .sl sz els, v => ∃ a c, v = .slice a els.length c ∧ els.length ≤ c ∧ c ≤ maxLen ∧ (els = [] ∨ ∃ b o, a = some ⟨b, o, none⟩ ∧ ok b ∧ RdRow ok w b sz o els)
  | .agg cs, v => (∀ c ∈ cs, c.one = true) ∧ ∃ vs, v = .agg vs ∧ RdL ok w cs vs.toList
  | .tup cs, v => ∃ vs, v = .tuple vs ∧ RdL ok w cs vs.toList
  | .cptr (.agg cs), v => ∃ b o, v = .pointer (some ⟨b, o, none⟩) ∧ ok b ∧ RdCs ok w b o cs
  | .cptr x, v => ∃ b o, v = .pointer (some ⟨b, o, none⟩) ∧ ok b ∧ x.one = true ∧ ∃ u, w.cell? ⟨b, o, none⟩ = some u ∧ Rd ok w x u
  | .clo f caps, v => ∃ cv, v = .func (.func f) #[] cv ∧ RdL ok w caps cv.toList
def RdL (ok : Nat → Prop) (w : World) : List PV → List Value → Prop
  | [], vs => vs = []
  | x :: xs, vs => ∃ v r, vs = v :: r ∧ Rd ok w x v ∧ RdL ok w xs r
def RdRow (ok : Nat → Prop) (w : World) (b sz : Nat) (o : Nat) : List PV → Prop
  | [] => True
  | .agg cs :: xs => (cs.length = sz ∧ RdCs ok w b o cs) ∧ RdRow ok w b sz (o + sz) xs
  | x :: xs => (sz = 1 ∧ x.one = true ∧ ∃ u, w.cell? ⟨b, o, none⟩ = some u ∧ Rd ok w x u) ∧ RdRow ok w b sz (o + sz) xs
def RdCs (ok : Nat → Prop) (w : World) (b : Nat) (o : Nat) : List PV → Prop
  | [] => True
  | c :: cs => (c.one = true ∧ ∃ u, w.cell? ⟨b, o, none⟩ = some u ∧ Rd ok w c u) ∧ RdCs ok w b (o + 1) cs
end

section mono
variable {ok ok' : Nat → Prop} {w w' : World}
mutual
theorem Rd.monoC (hk : ∀ b, ok b → ok' b) (hc : ∀ b o u, ok b → w.cell? ⟨b, o, none⟩ = some u → w'.cell? ⟨b, o, none⟩ = some u) : ∀ (x : PV) (v : Value), Rd ok w x v → Rd ok' w' x v
  | .bool _, _, h => by simpa only [Rd] using h
  | .int _ _, _, h => by simpa only [Rd] using h
  | .str _, _, h => by simpa only [Rd] using h
  | .val _, _, h => by simpa only [Rd] using h
  | .nil _, _, h => by simpa only [Rd] using h
  | .sl sz els, v, h => by
    simp only [Rd] at h ⊢
    obtain ⟨a, c, h1, h2, h3, h4⟩ := h
    refine ⟨a, c, h1, h2, h3, ?_⟩
    rcases h4 with h4 | ⟨b, o, ha, hb, hr⟩
    · exact .inl h4
    · exact .inr ⟨b, o, ha, hk b hb, RdRow.monoC hk hc b sz o (fun o u => hc b o u hb) els hr⟩
  | .agg cs, v, h => by
    simp only [Rd] at h ⊢
    obtain ⟨h0, vs, h1, h2⟩ := h
    exact ⟨h0, vs, h1, RdL.monoC hk hc cs _ h2⟩
  | .tup cs, v, h => by
    simp only [Rd] at h ⊢
    obtain ⟨vs, h1, h2⟩ := h
    exact ⟨vs, h1, RdL.monoC hk hc cs _ h2⟩
  | .cptr x, v, h => by
    cases x with
    | agg cs =>
      simp only [Rd] at h ⊢
      obtain ⟨b, o, h1, h2, h3⟩ := h
      exact ⟨b, o, h1, hk b h2, RdCs.monoC hk hc b o (fun o u => hc b o u h2) cs h3⟩
    | sl sz els =>
      simp only [Rd] at h ⊢
      obtain ⟨b, o, h1, h2, h3, u, h4, h5⟩ := h
      have := Rd.monoC hk hc (.sl sz els) u (by simp only [Rd]; exact h5)
      simp only [Rd] at this
      exact ⟨b, o, h1, hk b h2, h3, u, hc b o u h2 h4, this⟩
    | tup vs =>
      simp only [Rd] at h ⊢
      obtain ⟨b, o, h1, h2, h3, u, h4, h5⟩ := h
      have := Rd.monoC hk hc (.tup vs) u (by simp only [Rd]; exact h5)
      simp only [Rd] at this
      exact ⟨b, o, h1, hk b h2, h3, u, hc b o u h2 h4, this⟩
    | clo f caps =>
      simp only [Rd] at h ⊢
      obtain ⟨b, o, h1, h2, h3, u, h4, h5⟩ := h
      have := Rd.monoC hk hc (.clo f caps) u (by simp only [Rd]; exact h5)
      simp only [Rd] at this
      exact ⟨b, o, h1, hk b h2, h3, u, hc b o u h2 h4, this⟩
    | _ =>
      simp only [Rd] at h ⊢
      obtain ⟨b, o, h1, h2, h3, u, h4, h5⟩ := h
      refine ⟨b, o, h1, hk b h2, h3, u, hc b o u h2 h4, ?_⟩
      first
        | exact h5
        | (have := Rd.monoC hk hc _ u (by simpa only [Rd] using h5); simpa only [Rd] using this)
  | .clo f cs, v, h => by
    simp only [Rd] at h ⊢
    obtain ⟨vs, h1, h2⟩ := h
    exact ⟨vs, h1, RdL.monoC hk hc cs _ h2⟩
theorem RdL.monoC (hk : ∀ b, ok b → ok' b) (hc : ∀ b o u, ok b → w.cell? ⟨b, o, none⟩ = some u → w'.cell? ⟨b, o, none⟩ = some u) : ∀ (l : List PV) (vs : List Value), RdL ok w l vs → RdL ok' w' l vs
  | [], _, h => by simpa only [RdL] using h
  | x :: xs, vs, h => by
    simp only [RdL] at h ⊢
    obtain ⟨v, r, h1, h2, h3⟩ := h
    exact ⟨v, r, h1, Rd.monoC hk hc x v h2, RdL.monoC hk hc xs r h3⟩
theorem RdRow.monoC (hk : ∀ b, ok b → ok' b) (hc : ∀ b o u, ok b → w.cell? ⟨b, o, none⟩ = some u → w'.cell? ⟨b, o, none⟩ = some u) (b sz o : Nat) (hb : ∀ o u, w.cell? ⟨b, o, none⟩ = some u → w'.cell? ⟨b, o, none⟩ = some u) : ∀ (l : List PV), RdRow ok w b sz o l → RdRow ok' w' b sz o l
  | [], h => by simp only [RdRow]
  | x :: xs, h => by
    cases x with
    | agg cs =>
      simp only [RdRow] at h ⊢
      exact ⟨⟨h.1.1, RdCs.monoC hk hc b o hb cs h.1.2⟩, RdRow.monoC hk hc b sz (o + sz) hb xs h.2⟩
    | _ =>
      simp only [RdRow] at h ⊢
      obtain ⟨⟨h1, h2, u, h3, h4⟩, h5⟩ := h
      exact ⟨⟨h1, h2, u, hb o u h3, Rd.monoC hk hc _ u h4⟩, RdRow.monoC hk hc b sz (o + sz) hb xs h5⟩
theorem RdCs.monoC (hk : ∀ b, ok b → ok' b) (hc : ∀ b o u, ok b → w.cell? ⟨b, o, none⟩ = some u → w'.cell? ⟨b, o, none⟩ = some u) (b o : Nat) (hb : ∀ o u, w.cell? ⟨b, o, none⟩ = some u → w'.cell? ⟨b, o, none⟩ = some u) : ∀ (l : List PV), RdCs ok w b o l → RdCs ok' w' b o l
  | [], h => by simp only [RdCs]
  | x :: xs, h => by
    simp only [RdCs] at h ⊢
    obtain ⟨⟨h2, u, h3, h4⟩, h5⟩ := h
    exact ⟨⟨h2, u, hb o u h3, Rd.monoC hk hc _ u h4⟩, RdCs.monoC hk hc b (o + 1) hb xs h5⟩
end
theorem Rd.mono (hk : ∀ b, ok b → ok' b) (hc : ∀ b o, ok b → w'.cell? ⟨b, o, none⟩ = w.cell? ⟨b, o, none⟩) (x : PV) (v : Value) (h : Rd ok w x v) : Rd ok' w' x v :=
  Rd.monoC hk (fun b o _ hb h => (hc b o hb).trans h) x v h
theorem RdL.mono (hk : ∀ b, ok b → ok' b) (hc : ∀ b o, ok b → w'.cell? ⟨b, o, none⟩ = w.cell? ⟨b, o, none⟩) (l : List PV) (vs : List Value) (h : RdL ok w l vs) : RdL ok' w' l vs :=
  RdL.monoC hk (fun b o _ hb h => (hc b o hb).trans h) l vs h
theorem RdRow.mono (hk : ∀ b, ok b → ok' b) (hc : ∀ b o, ok b → w'.cell? ⟨b, o, none⟩ = w.cell? ⟨b, o, none⟩) (b sz o : Nat) (hb : ∀ o, w'.cell? ⟨b, o, none⟩ = w.cell? ⟨b, o, none⟩) (l : List PV) (h : RdRow ok w b sz o l) : RdRow ok' w' b sz o l :=
  RdRow.monoC hk (fun b o _ hb h => (hc b o hb).trans h) b sz o (fun o _ h => (hb o).trans h) l h
theorem RdCs.mono (hk : ∀ b, ok b → ok' b) (hc : ∀ b o, ok b → w'.cell? ⟨b, o, none⟩ = w.cell? ⟨b, o, none⟩) (b o : Nat) (hb : ∀ o, w'.cell? ⟨b, o, none⟩ = w.cell? ⟨b, o, none⟩) (l : List PV) (h : RdCs ok w b o l) : RdCs ok' w' b o l :=
  RdCs.monoC hk (fun b o _ hb h => (hc b o hb).trans h) b o (fun o _ h => (hb o).trans h) l h
end mono

section get
variable {ok : Nat → Prop} {w : World}

theorem Rd.oneCell {x : PV} {v : Value} (h : Rd ok w x v) (hx : x.one = true) : v.oneCell' = true := by
  cases x with
  | val u => simp only [Rd] at h; exact h.1 ▸ h.2
  | agg cs => cases hx
  | tup cs => cases hx
  | cptr x => cases x <;> simp only [Rd] at h <;> obtain ⟨b, o, rfl, _⟩ := h <;> rfl
  | sl sz els => simp only [Rd] at h; obtain ⟨a, c, rfl, _⟩ := h; rfl
  | clo f cs => simp only [Rd] at h; obtain ⟨a, rfl, _⟩ := h; rfl
  | _ => simp only [Rd] at h; subst h; rfl

theorem rdL_iff (cs : List PV) : ∀ vs : List Value, RdL ok w cs vs ↔ (vs.length = cs.length ∧ ∀ (j : Nat) (c : PV) (v : Value), cs[j]? = some c → vs[j]? = some v → Rd ok w c v) := by
  induction cs with
  | nil => intro vs; simp only [RdL]; constructor
           · rintro rfl; simp
           · intro h; exact List.eq_nil_of_length_eq_zero (by simpa using h.1)
  | cons c cs ih =>
    intro vs
    simp only [RdL]
    constructor
    · rintro ⟨v, r, rfl, h1, h2⟩
      obtain ⟨h3, h4⟩ := (ih r).1 h2
      refine ⟨by simp [h3], fun j c' v' hc hv => ?_⟩
      cases j with
      | zero => simp at hc hv; subst hc hv; exact h1
      | succ j => simp at hc hv; exact h4 j c' v' hc hv
    · rintro ⟨h1, h2⟩
      cases vs with
      | nil => simp at h1
      | cons v r => exact ⟨v, r, rfl, h2 0 c v rfl rfl, (ih r).2 ⟨by simpa using h1, fun j c' v' hc hv => h2 (j + 1) c' v' (by simpa using hc) (by simpa using hv)⟩⟩

theorem rdCs_iff (b : Nat) (cs : List PV) : ∀ o, RdCs ok w b o cs ↔ ((∀ c ∈ cs, c.one = true) ∧ ∃ us : List Value, RdL ok w cs us ∧ ∀ (j : Nat) (u : Value), us[j]? = some u → w.cell? ⟨b, o + j, none⟩ = some u) := by
  induction cs with
  | nil => intro o; simp only [RdCs, RdL]; simp
  | cons c cs ih =>
    intro o
    simp only [RdCs, RdL]
    constructor
    · rintro ⟨⟨h1, u, h2, h3⟩, h4⟩
      obtain ⟨h5, us, h6, h7⟩ := (ih (o + 1)).1 h4
      refine ⟨by simpa [h1] using h5, u :: us, ⟨u, us, rfl, h3, h6⟩, fun j u' hj => ?_⟩
      cases j with
      | zero => simp at hj; subst hj; exact h2
      | succ j => have := h7 j u' (by simpa using hj); rwa [Nat.add_right_comm] at this
    · rintro ⟨h1, _, ⟨u, us, rfl, h3, h6⟩, h7⟩
      refine ⟨⟨h1 c (by simp), u, h7 0 u rfl, h3⟩, (ih (o + 1)).2 ⟨fun c' hc => h1 c' (by simp [hc]), us, h6, fun j u' hj => ?_⟩⟩
      have := h7 (j + 1) u' (by simpa using hj)
      rwa [Nat.add_right_comm]

theorem rdCs_append (b : Nat) (xs ys : List PV) : ∀ o, RdCs ok w b o (xs ++ ys) ↔ RdCs ok w b o xs ∧ RdCs ok w b (o + xs.length) ys := by
  induction xs with
  | nil => intro o; simp [RdCs]
  | cons x xs ih =>
    intro o
    simp only [List.cons_append, RdCs, ih, List.length_cons, and_assoc]
    rw [show o + 1 + xs.length = o + (xs.length + 1) from by omega]

theorem rdRow_iff (b sz : Nat) (els : List PV) : ∀ o, RdRow ok w b sz o els ↔ ((∀ x ∈ els, x.cells.length = sz) ∧ RdCs ok w b o (els.flatMap PV.cells)) := by
  induction els with
  | nil => intro o; simp [RdRow, RdCs]
  | cons x xs ih =>
    intro o
    rw [List.flatMap_cons, rdCs_append]
    cases x with
    | agg cs =>
      simp only [RdRow, ih, PV.cells]
      constructor
      · rintro ⟨⟨rfl, h1⟩, h2, h3⟩; exact ⟨by simpa [PV.cells] using h2, h1, h3⟩
      · rintro ⟨h1, h2, h3⟩
        have h0 : cs.length = sz := by simpa [PV.cells] using h1 (.agg cs) (by simp)
        exact ⟨⟨h0, h2⟩, fun y hy => h1 y (by simp [hy]), h0 ▸ h3⟩
    | _ =>
      simp only [RdRow, ih, PV.cells, RdCs]
      constructor
      · rintro ⟨⟨rfl, h1, h2⟩, h3, h4⟩; exact ⟨by simpa [PV.cells] using h3, ⟨⟨h1, h2⟩, trivial⟩, by simpa using h4⟩
      · rintro ⟨h1, ⟨⟨h2, h3⟩, _⟩, h4⟩
        have h0 : 1 = sz := by simpa [PV.cells] using h1 _ (List.mem_cons_self ..)
        exact ⟨⟨h0.symm, h2, h3⟩, fun y hy => h1 y (by simp [hy]), by subst h0; simpa using h4⟩

theorem flat_length (sz : Nat) (els : List PV) (h : ∀ x ∈ els, x.cells.length = sz) : (els.flatMap PV.cells).length = els.length * sz := by
  induction els with
  | nil => simp
  | cons x xs ih => rw [List.flatMap_cons, List.length_append, ih (fun y hy => h y (by simp [hy])), h x (by simp), List.length_cons, Nat.add_mul]; omega

theorem rdRow_get {b sz o : Nat} {els : List PV} (h : RdRow ok w b sz o els) : ∀ {i : Nat} {x : PV}, els[i]? = some x → x.cells.length = sz ∧ RdCs ok w b (o + i * sz) x.cells := by
  induction els generalizing o with
  | nil => intro i x hx; simp at hx
  | cons y ys ih =>
    intro i x hx
    have hd := (rdRow_iff b sz (y :: ys) o).1 h
    rw [List.flatMap_cons, rdCs_append] at hd
    have h0 := hd.1 y (by simp)
    cases i with
    | zero => simp at hx; subst hx; exact ⟨h0, by simpa using hd.2.1⟩
    | succ i =>
      have := ih ((rdRow_iff b sz ys (o + sz)).2 ⟨fun z hz => hd.1 z (by simp [hz]), h0 ▸ hd.2.2⟩) (i := i) (x := x) (by simpa using hx)
      refine ⟨this.1, ?_⟩
      rw [show o + (i + 1) * sz = o + sz + i * sz from by rw [Nat.add_mul]; omega]
      exact this.2
end get

/-! ### The store -/
structure Cx where
  P : Program
  w0 : World
  okA : Nat → Prop
  hA : ∀ b, okA b → b < w0.heap.size
  w1 : World := w0
  keep : Nat → Prop := fun _ => False
  hk : ∀ b, keep b → b < w1.heap.size := by intro _ h; exact h.elim
  defers : List Deferred := []
  gh : AV → Value → Prop := fun _ _ => False
  lo : Nat := 0
  base : Nat → Value := fun _ => undef
  own : Nat → Prop := fun b => w0.heap.size ≤ b
  hown : ∀ b, w0.heap.size ≤ b → own b := by exact fun _ h => h
  pinS : List Blk := []
  pinV : List Value := []

/-- What is not the call's own is as it was. -/
structure Since (own : Nat → Prop) (w w' : World) : Prop where
  os : w'.os = w.os
  tape : w'.tape = w.tape
  output : w'.output = w.output
  size : w.heap.size ≤ w'.heap.size
  block : ∀ k, k < w.heap.size → ¬ own k → w'.heap[k]? = w.heap[k]?

theorem Since.refl (own : Nat → Prop) (w : World) : Since own w w := ⟨rfl, rfl, rfl, Nat.le_refl _, fun _ _ _ => rfl⟩
theorem Since.below {own : Nat → Prop} {a b c : World} (h : Since own a b) (k : Below b.heap.size b c) : Since own a c :=
  ⟨k.os.trans h.os, k.tape.trans h.tape, k.output.trans h.output, Nat.le_trans h.size k.size, fun i hi ho => (k.block i (Nat.lt_of_lt_of_le hi h.size)).trans (h.block i hi ho)⟩
theorem Since.grown {own : Nat → Prop} {a w w' : World} {row : Option Nat} (h : Since own a w) (hg : w.grownBy w' row) (hr : ∀ k, row = some k → own k) : Since own a w' :=
  ⟨hg.os.trans h.os, hg.tape.trans h.tape, hg.output.trans h.output, Nat.le_trans h.size hg.size, fun k hk ho => (hg.block k (Nat.lt_of_lt_of_le hk h.size) (fun e => ho (hr k e.symm))).trans (h.block k hk ho)⟩
theorem Since.to_below {own : Nat → Prop} {a b : World} (h : Since own a b) (ho : ∀ k, own k → a.heap.size ≤ k) : Below a.heap.size a b :=
  ⟨h.os, h.tape, h.output, h.size, fun k hk => h.block k hk (fun e => by have := ho k e; omega)⟩

def blkOf : Value → Option Nat
  | .pointer (some a) => some a.block
  | .slice (some a) _ _ => some a.block
  | _ => Option.none

def Blk.live : Blk → Bool
  | .row .. | .box .. => true
  | _ => false

/-- A variable, written or read alone. -/
def Blk.boxy : Blk → Bool
  | .box .. => true
  | .fz x => match x with | .cptr _ => true | _ => false
  | _ => false

def Mut (σ : Sto) (vals : List Value) (b : Nat) : Prop := ∃ (i : Nat) (s : Blk) (v : Value), σ[i]? = some s ∧ s.live = true ∧ vals[i]? = some v ∧ blkOf v = some b
def Ok (cx : Cx) (σ : Sto) (vals : List Value) (w : World) (b : Nat) : Prop := (cx.okA b ∨ cx.own b) ∧ b < w.heap.size ∧ ¬ Mut σ vals b

def AV.one : AV → Bool
  | .pv x => x.one
  | .own _ => true
  | .ref _ _ _ => true
  | .sub _ _ _ _ => true
  | .clo _ _ => true
  | _ => false

mutual
def RA (ok : Nat → Prop) (σ : Sto) (vals : List Value) (w : World) : AV → Value → Prop
  | .bad, _ => True
  | .pv x, v => Rd ok w x v
  | .own i, v => vals[i]? = some v
  | .ref i idx off, v => i < σ.length ∧ (∃ ad, v = .pointer ad) ∧ (∀ e sz ap els, σ[i]? = some (.row e sz ap els) → ∃ u b, vals[i]? = some u ∧ blkOf u = some b ∧ v = .pointer (some ⟨b, idx * sz + off, none⟩)) ∧
      (∀ s, σ[i]? = some s → s.boxy = true → ∃ u b, vals[i]? = some u ∧ u = .pointer (some ⟨b, 0, none⟩) ∧ v = .pointer (some ⟨b, off, none⟩))
  | .sub i sz lo n, v => i < σ.length ∧ ∃ a c, v = .slice a n c ∧ n ≤ c ∧ c ≤ maxLen ∧ (n = 0 ∨ ∃ b n0 c0, vals[i]? = some (.slice (some ⟨b, 0, none⟩) n0 c0) ∧ a = some ⟨b, lo * sz, none⟩)
  | .agg cs, v => (∀ c ∈ cs, c.one = true) ∧ ∃ vs, v = .agg vs ∧ RAL ok σ vals w cs vs.toList
  | .tup cs, v => ∃ vs, v = .tuple vs ∧ RAL ok σ vals w cs vs.toList
  | .clo f cs, v => ∃ cv, v = .func (.func f) #[] cv ∧ RAL ok σ vals w cs cv.toList
def RAL (ok : Nat → Prop) (σ : Sto) (vals : List Value) (w : World) : List AV → List Value → Prop
  | [], vs => vs = []
  | x :: xs, vs => ∃ v r, vs = v :: r ∧ RA ok σ vals w x v ∧ RAL ok σ vals w xs r
end

/-- The cells that the slice value v, of n elements, owns. -/
def Owns (w : World) (M : Nat → Prop) (e : TypeId) (sz : Nat) (app : Bool) (v : Value) (n : Nat) (xs : List Value) : Prop :=
  xs.length = n * sz ∧ ((v = .slice Option.none 0 0 ∧ n = 0) ∨
    ∃ g cap cur fr, v = .slice (some ⟨g, 0, Option.none⟩) n cap ∧ M g ∧ w.heap[g]? = some (.cells cur e fr) ∧ n ≤ cap ∧ cap ≤ maxLen ∧ cur.size = cap * sz ∧ cur.toList.take (n * sz) = xs ∧
      (fr = (0, 0) ∨ (app = false ∧ cur.size ≤ fr.1)))

def RB (cx : Cx) (σ : Sto) (vals : List Value) (w : World) : Blk → Value → Prop
  | .dead, _ => True
  | .fz x, v => Rd (Ok cx σ vals w) w x v
  | .row e sz app els, v => 0 < sz ∧ ∃ cells, Owns w cx.own e sz app v els.length cells ∧ (∀ x ∈ els, x.cells.length = sz) ∧ (∀ c ∈ els.flatMap PV.cells, c.one = true) ∧ RdL (Ok cx σ vals w) w (els.flatMap PV.cells) cells
  | .box e cs, v => ∃ b arr, v = .pointer (some ⟨b, 0, Option.none⟩) ∧ cx.own b ∧ w.heap[b]? = some (.cells arr e (0, 0)) ∧ (∀ c ∈ cs, c.one = true) ∧ RAL (Ok cx σ vals w) σ vals w cs arr.toList

def lookF (p : Nat) : Env → AV
  | [] => .bad
  | (q, v) :: r => bif Nat.beq q p then v else lookF p r

/-- The blocks that are to stay lie as they lay in w1; none of them is the call's own. -/
structure Fr (cx : Cx) (σ : Sto) (vals : List Value) (w : World) : Prop where
  size : cx.w1.heap.size ≤ w.heap.size
  same : ∀ b, cx.keep b → w.heap[b]? = cx.w1.heap[b]?
  mutn : ∀ b, Mut σ vals b → ¬ cx.keep b

/-- The entries that the caller has handed in stay where they are, of the same make, or are given up. -/
structure Pin (cx : Cx) (σ : Sto) (vals : List Value) : Prop where
  vs : ∀ (i : Nat) (v : Value), cx.pinV[i]? = some v → vals[i]? = some v
  len : cx.pinS.length ≤ σ.length
  refr : ∀ i : Nat, i < cx.pinS.length → ∀ e sz ap els, σ[i]? = some (.row e sz ap els) → ∃ ap' els', cx.pinS[i]? = some (.row e sz ap' els')
  refb : ∀ i : Nat, i < cx.pinS.length → ∀ s, σ[i]? = some s → s.boxy = true → ∃ s', cx.pinS[i]? = some s' ∧ s'.boxy = true

structure RelS (cx : Cx) (σ : Sto) (vals : List Value) (w : World) : Prop where
  below : Since cx.own cx.w0 w
  one : ∀ v ∈ vals, v.oneCell' = true
  len : vals.length = σ.length
  sto : ∀ (i : Nat) (s : Blk) (v : Value), σ[i]? = some s → vals[i]? = some v → RB cx σ vals w s v
  dis : ∀ (i j : Nat) (s t : Blk) (u v : Value) (b : Nat), i ≠ j → σ[i]? = some s → σ[j]? = some t → s.live = true → t.live = true → vals[i]? = some u → vals[j]? = some v → blkOf u = some b → blkOf v ≠ some b
  fr : Fr cx σ vals w
  pin : Pin cx σ vals

structure Rel (cx : Cx) (env : Env) (σ : Sto) (vals : List Value) (a : Act) (w : World) : Prop where
  s : RelS cx σ vals w
  env : ∀ p, RA (Ok cx σ vals w) σ vals w (lookF p env) (a.tmps.getD p undef)
  defers : a.defers = cx.defers
  gh : ∀ x v, cx.gh x v → RA (Ok cx σ vals w) σ vals w x v
  lo : ∀ p, p < cx.lo → a.tmps.getD p undef = cx.base p

structure Keep (cx : Cx) (σ : Sto) (vals : List Value) (w : World) (σ' : Sto) (vals' : List Value) (w' : World) : Prop where
  vs : ∀ (i : Nat) (v : Value), vals[i]? = some v → vals'[i]? = some v
  len : σ.length ≤ σ'.length
  ok : ∀ b, Ok cx σ vals w b → Ok cx σ' vals' w' b
  same : ∀ b, Ok cx σ vals w b → w'.heap[b]? = w.heap[b]?
  refr : ∀ i : Nat, i < σ.length → ∀ e sz ap els, σ'[i]? = some (.row e sz ap els) → ∃ ap' els', σ[i]? = some (.row e sz ap' els')
  refb : ∀ i : Nat, i < σ.length → ∀ s, σ'[i]? = some s → s.boxy = true → ∃ s', σ[i]? = some s' ∧ s'.boxy = true

section keep
variable {cx : Cx} {σ σ' : Sto} {vals vals' : List Value} {w w' : World}

theorem Keep.rd (h : Keep cx σ vals w σ' vals' w') {x : PV} {v : Value} (hx : Rd (Ok cx σ vals w) w x v) : Rd (Ok cx σ' vals' w') w' x v :=
  Rd.mono h.ok (fun b _ hb => World.cell?_of_block (h.same b hb)) x v hx
theorem Keep.rdL (h : Keep cx σ vals w σ' vals' w') {x : List PV} {v : List Value} (hx : RdL (Ok cx σ vals w) w x v) : RdL (Ok cx σ' vals' w') w' x v :=
  RdL.mono h.ok (fun b _ hb => World.cell?_of_block (h.same b hb)) x v hx

mutual
theorem Keep.ra (h : Keep cx σ vals w σ' vals' w') : ∀ (x : AV) (v : Value), RA (Ok cx σ vals w) σ vals w x v → RA (Ok cx σ' vals' w') σ' vals' w' x v
  | .bad, _, _ => by simp only [RA]
  | .pv x, v, hx => by simp only [RA] at hx ⊢; exact h.rd hx
  | .own i, v, hx => by simp only [RA] at hx ⊢; exact h.vs i v hx
  | .ref i idx off, v, hx => by
    simp only [RA] at hx ⊢
    obtain ⟨h0, hp, h1, h2⟩ := hx
    refine ⟨Nat.lt_of_lt_of_le h0 h.len, hp, fun e sz ap els he => ?_, fun s he hbx => ?_⟩
    · obtain ⟨ap', els', h3⟩ := h.refr i h0 e sz ap els he
      obtain ⟨u, b, h4, h5⟩ := h1 e sz ap' els' h3
      exact ⟨u, b, h.vs i u h4, h5⟩
    · obtain ⟨s', h3, hbx'⟩ := h.refb i h0 s he hbx
      obtain ⟨u, b, h4, h5⟩ := h2 s' h3 hbx'
      exact ⟨u, b, h.vs i u h4, h5⟩
  | .sub i sz lo n, v, hx => by
    simp only [RA] at hx ⊢
    obtain ⟨h0, ad, c, h1, h2, h3, h4⟩ := hx
    exact ⟨Nat.lt_of_lt_of_le h0 h.len, ad, c, h1, h2, h3, h4.imp_right fun ⟨b, n0, c0, h5, h6⟩ => ⟨b, n0, c0, h.vs i _ h5, h6⟩⟩
  | .agg cs, v, hx => by
    simp only [RA] at hx ⊢
    obtain ⟨h0, vs, h1, h2⟩ := hx
    exact ⟨h0, vs, h1, Keep.raL h cs _ h2⟩
  | .tup cs, v, hx => by
    simp only [RA] at hx ⊢
    obtain ⟨vs, h1, h2⟩ := hx
    exact ⟨vs, h1, Keep.raL h cs _ h2⟩
  | .clo f cs, v, hx => by
    simp only [RA] at hx ⊢
    obtain ⟨vs, h1, h2⟩ := hx
    exact ⟨vs, h1, Keep.raL h cs _ h2⟩
theorem Keep.raL (h : Keep cx σ vals w σ' vals' w') : ∀ (x : List AV) (v : List Value), RAL (Ok cx σ vals w) σ vals w x v → RAL (Ok cx σ' vals' w') σ' vals' w' x v
  | [], _, hx => by simpa only [RAL] using hx
  | x :: xs, vs, hx => by
    simp only [RAL] at hx ⊢
    obtain ⟨v, r, h1, h2, h3⟩ := hx
    exact ⟨v, r, h1, Keep.ra h x v h2, Keep.raL h xs r h3⟩
end

theorem Owns.keep {B : Nat → Prop} {e : TypeId} {sz : Nat} {app : Bool} {v : Value} {n : Nat} {xs : List Value} (h : Owns w B e sz app v n xs) (hb : ∀ b, blkOf v = some b → w'.heap[b]? = w.heap[b]?) : Owns w' B e sz app v n xs := by
  refine ⟨h.1, ?_⟩
  rcases h.2 with h2 | ⟨g, cap, cur, fr, rfl, h2, h3, h4⟩
  · exact .inl h2
  · exact .inr ⟨g, cap, cur, fr, rfl, h2, (hb g rfl).trans h3, h4⟩

theorem Keep.rb (h : Keep cx σ vals w σ' vals' w') {s : Blk} {v : Value} (hs : RB cx σ vals w s v) (hb : s.live = true → ∀ b, blkOf v = some b → w'.heap[b]? = w.heap[b]?) : RB cx σ' vals' w' s v := by
  cases s with
  | dead => trivial
  | fz x => exact h.rd hs
  | row e sz app els =>
    obtain ⟨h0, cells, h1, h2, h3, h4⟩ := hs
    exact ⟨h0, cells, h1.keep (hb rfl), h2, h3, h.rdL h4⟩
  | box e cs =>
    obtain ⟨b, arr, rfl, h1, h2, h3, h4⟩ := hs
    exact ⟨b, arr, rfl, h1, (hb rfl b rfl).trans h2, h3, h.raL _ _ h4⟩

theorem set_get {α : Type} {l : List α} {i : Nat} {x : α} (hi : i < l.length) (j : Nat) : (l.set i x)[j]? = if i = j then some x else l[j]? := by
  rw [List.getElem?_set]; split
  · rename_i h; subst h; simp [hi]
  · rfl

theorem push_get {α : Type} (l : List α) (x : α) (j : Nat) : (l ++ [x])[j]? = if j = l.length then some x else l[j]? := by
  by_cases h : j < l.length
  · rw [List.getElem?_append_left h, if_neg (by omega)]
  · rw [List.getElem?_append_right (by omega)]
    by_cases h2 : j = l.length
    · subst h2; simp
    · rw [if_neg h2, List.getElem?_eq_none (by simp; omega), List.getElem?_eq_none (by omega)]

theorem Keep.refl : Keep cx σ vals w σ vals w :=
  ⟨fun _ _ h => h, Nat.le_refl _, fun _ h => h, fun _ _ => rfl, fun _ _ _ _ ap els h => ⟨ap, els, h⟩, fun _ _ s h hb => ⟨s, h, hb⟩⟩

/-- The world has grown; nothing that was there has turned. -/
theorem Keep.grow (hs : w.heap.size ≤ w'.heap.size) (hb : ∀ b, b < w.heap.size → w'.heap[b]? = w.heap[b]?) : Keep cx σ vals w σ vals w' :=
  ⟨fun _ _ h => h, Nat.le_refl _, fun _ h => ⟨h.1, Nat.lt_of_lt_of_le h.2.1 hs, h.2.2⟩, fun b h => hb b h.2.1, fun _ _ _ _ ap els h => ⟨ap, els, h⟩, fun _ _ s h hb => ⟨s, h, hb⟩⟩

theorem Keep.trans {σ2 : Sto} {vals2 : List Value} {w2 : World} (h : Keep cx σ vals w σ' vals' w') (k : Keep cx σ' vals' w' σ2 vals2 w2) : Keep cx σ vals w σ2 vals2 w2 :=
  ⟨fun i v hv => k.vs i v (h.vs i v hv), Nat.le_trans h.len k.len, fun b hb => k.ok b (h.ok b hb), fun b hb => (k.same b (h.ok b hb)).trans (h.same b hb),
   fun i hi e sz ap els he => by
     obtain ⟨ap', els', h'⟩ := k.refr i (Nat.lt_of_lt_of_le hi h.len) e sz ap els he
     exact h.refr i hi e sz ap' els' h',
   fun i hi s he hb => by
     obtain ⟨s', h', hb'⟩ := k.refb i (Nat.lt_of_lt_of_le hi h.len) s he hb
     exact h.refb i hi s' h' hb'⟩

theorem Pin.keep (p : Pin cx σ vals) (h : Keep cx σ vals w σ' vals' w') : Pin cx σ' vals' :=
  ⟨fun i v hv => h.vs i v (p.vs i v hv), Nat.le_trans p.len h.len,
   fun i hi e sz ap els he => by
     obtain ⟨ap', els', h'⟩ := h.refr i (Nat.lt_of_lt_of_le hi p.len) e sz ap els he
     exact p.refr i hi e sz ap' els' h',
   fun i hi s he hb => by
     obtain ⟨s', h', hb'⟩ := h.refb i (Nat.lt_of_lt_of_le hi p.len) s he hb
     exact p.refb i hi s' h' hb'⟩

theorem RelS.grow (h : RelS cx σ vals w) (hbw : Below w.heap.size w w') : RelS cx σ vals w' ∧ Keep cx σ vals w σ vals w' := by
  have hk : Keep cx σ vals w σ vals w' := Keep.grow hbw.size hbw.block
  have hfr : Fr cx σ vals w' := ⟨Nat.le_trans h.fr.size hbw.size, fun b hb => (hbw.block b (Nat.lt_of_lt_of_le (cx.hk b hb) h.fr.size)).trans (h.fr.same b hb), h.fr.mutn⟩
  refine ⟨⟨h.below.below hbw, h.one, h.len, fun i s v hi hv => ?_, h.dis, hfr, h.pin.keep hk⟩, hk⟩
  refine hk.rb (h.sto i s v hi hv) (fun hl b hb => hbw.block b ?_)
  have hs := h.sto i s v hi hv
  cases s with
  | dead => cases hl
  | fz x => cases hl
  | row e sz app els =>
    obtain ⟨_, cells, h1, _⟩ := hs
    rcases h1.2 with ⟨rfl, _⟩ | ⟨g, cap, cur, fr, rfl, _, h3, _⟩
    · cases hb
    · cases hb; exact (Array.getElem?_eq_some_iff.1 h3).1
  | box e cs =>
    obtain ⟨b', arr, rfl, _, h2, _⟩ := hs
    cases hb
    exact (Array.getElem?_eq_some_iff.1 h2).1
end keep
end Go.Dv
end
section
/-
  From the model's code to the verifier's: sizes and places are taken off the program's tables.
-/
namespace Go.Dv

def opt {α β : Type} (o : Option α) (f : α → Option β) : Option β :=
  match o with
  | none => none
  | some a => f a

def need {α : Type} (b : Bool) (x : Option α) : Option α := match b with | true => x | false => none

/-- The element type of a slice type, its cells and its bytes. -/
def slInfo (P : Program) (t : TypeId) : Option (TypeId × Nat × Nat) :=
  match P.underlying t with
  | some (.slice e) => opt (P.info? e) fun i => some (e, i.size, i.bytes)
  | _ => none

/-- Whether values of a type are aggregates, and how many cells they have. -/
def shOf (P : Program) (t : TypeId) : Option (Bool × Nat) :=
  opt (P.info? t) fun i => match P.underlying t with
    | some (.struct _) => some (true, i.size)
    | some (.array _ _) => some (true, i.size)
    | some _ => some (false, i.size)
    | none => none

noncomputable def mapO {α β : Type} (f : α → Option β) (l : List α) : Option (List β) :=
  List.rec (motive := fun _ => Option (List β)) (some []) (fun a _ ih => opt (f a) fun b => opt ih fun t => some (b :: t)) l

/-- One cell of a zero value. -/
def zCell (P : Program) (t : TypeId) : Option PV :=
  match P.underlying t with
  | some .bool => some (.bool false)
  | some (.int k) => some (.int k 0)
  | some .string => some (.str [])
  | some (.slice e) => opt (P.info? e) fun i => some (.nil i.size)
  | some (.pointer _) => some (.val (.pointer none))
  | some (.interface _) => some (.val .nilIface)
  | some (.func _ _ _) => some (.val .nilFunc)
  | _ => none

noncomputable def zCells (P : Program) (n : Nat) : TypeId → Option (List PV) :=
  Nat.rec (motive := fun _ => TypeId → Option (List PV)) (fun _ => none) (fun _ ih t =>
    match P.underlying t with
    | some (.struct fs) => opt (mapO (fun f : Field => ih f.type) fs.toList) fun l => some l.flatten
    | some (.array m e) => opt (ih e) fun l => some (List.replicate m l).flatten
    | _ => opt (zCell P t) fun c => some [c]) n

/-- A value is what a zero cell says. -/
def zIs : PV → Value → Bool
  | .bool b, .bool c => b == c
  | .int k n, .int j m => decide (k = j) && decide (n = m)
  | .str l, .string s => l.isEmpty && s.data.toList.isEmpty
  | .nil _, .slice none 0 0 => true
  | .val (.pointer none), .pointer none => true
  | .val .nilIface, .nilIface => true
  | .val .nilFunc, .nilFunc => true
  | _, _ => false

noncomputable def zAll (cs : List PV) : List Value → Bool :=
  List.rec (motive := fun _ => List Value → Bool) (fun vs => match vs with | [] => true | _ => false)
    (fun c _ ih vs => match vs with | [] => false | v :: r => match zIs c v with | true => ih r | false => false) cs

/-- The zero value of a type, as it reads: held against the table's own. -/
noncomputable def zPV (P : Program) (t : TypeId) : Option PV :=
  opt (shOf P t) fun s => opt (zCells P 8 t) fun cs => opt (P.info? t) fun i => opt i.zero fun z =>
    match s.1, z with
    | true, .agg vs => need (zAll cs vs.toList) (some (.agg cs))
    | false, z => match cs with
      | [c] => need (zIs c z) (some c)
      | _ => none
    | _, _ => none

def isNilS : Operand → Bool
  | .const (.slice none 0 0) => true
  | _ => false

/-- Fields of one cell each, of a number's, a string's or a bool's type, at places 0, 1 ..: their kinds. -/
noncomputable def flatFields (P : Program) (l : List Field) : Nat → Option (List Nat) :=
  List.rec (motive := fun _ => Nat → Option (List Nat)) (fun _ => some []) (fun f _ ih n => need (Nat.beq f.offset n && f.name != "_") (match P.underlying f.type with
    | some (.int _) => opt (ih (n + 1)) fun r => some (0 :: r)
    | some .string => opt (ih (n + 1)) fun r => some (1 :: r)
    | some .bool => opt (ih (n + 1)) fun r => some (2 :: r)
    | _ => none)) l

/-- The parts of a slice literal, in their order, from place n on. -/
noncomputable def inOrder (l : List (Nat × Operand)) : Nat → Option (List Operand) :=
  List.rec (motive := fun _ => Nat → Option (List Operand)) (fun _ => some []) (fun p _ ih n => match Nat.beq p.1 n with
    | true => opt (ih (n + 1)) fun r => some (p.2 :: r)
    | false => none) l

def fieldPlace (P : Program) (t : TypeId) (f : Nat) : Option (Nat × Bool × Nat) :=
  match P.underlying t with
  | some (.struct fs) => opt (fs[f]?) fun fd => opt (shOf P fd.type) fun s => need (decide (0 < s.2)) (some (fd.offset, s.1, s.2))
  | _ => none

/-- So many values are what a zero cell says. -/
noncomputable def zRep (z : PV) : List Value → Nat → Bool :=
  List.rec (motive := fun _ => Nat → Bool) (fun n => match n with | 0 => true | _ => false)
    (fun v _ ih n => match n with
      | 0 => false
      | n + 1 => match zIs z v with | true => ih n | false => false)

/-- An array of more than eight cells, each an element: the element's zero, how many. -/
noncomputable def arrInfo (P : Program) (t : TypeId) : Option (PV × Nat) :=
  match P.underlying t with
  | some (.array n e) => opt (P.info? e) fun i => opt (zCell P e) fun z => opt (P.info? t) fun it => opt it.zero fun zv =>
      need (Nat.blt 8 n && Nat.ble n 1000000 && Nat.beq i.size 1) (match zv with
        | .agg vs => need (zRep z vs.toList n) (some (z, n))
        | _ => none)
  | _ => none

/-- The place of an element of a small array, by a number that is written there. -/
def arrPlace (P : Program) (t : TypeId) (x : Operand) : Option (Nat × Bool × Nat) :=
  match P.underlying t with
  | some (.array n e) => match x with
    | .const v => match v with
      | .int _ k => opt (shOf P e) fun s => need (decide (0 ≤ k ∧ k.toNat < n) && decide (0 < s.2)) (some (k.toNat * s.2, s.1, s.2))
      | _ => none
    | _ => none
  | _ => none

noncomputable def compK (P : Program) (dr : Bool) (o : Oper) : Option PK :=
  match o.op with
  | .move x => match isNilS x with
    | true => opt (slInfo P o.type) fun i => match dr, Nat.blt 0 i.2.1 with
      | false, true => some (.nilR i.1 i.2.1)
      | _, _ => some (.nilS i.2.1)
    | false => some (.mv x)
  | .assign x => match isNilS x with
    | true => opt (slInfo P o.type) fun i => match dr, Nat.blt 0 i.2.1 with
      | false, true => some (.nilR i.1 i.2.1)
      | _, _ => some (.nilS i.2.1)
    | false => some (.mv x)
  | .pick c a b => some (.pick c a b)
  | .binOp op t x y _ => match op with
    | .eql => match P.underlying t with
      | some (.int _) => some (.bin .eql x y)
      | some .string => some (.bin .eql x y)
      | some .bool => some (.eqb false x y)
      | some (.slice _) => need (isNilS y) (some (.isnil false x))
      | some (.struct fs) => opt (flatFields P fs.toList 0) fun ks => need (!P.stoodInHeld t && !P.eqGuardType P.depth t) (some (.eqs false ks x y))
      | _ => none
    | .neq => match P.underlying t with
      | some (.int _) => some (.bin .neq x y)
      | some .string => some (.bin .neq x y)
      | some .bool => some (.eqb true x y)
      | some (.slice _) => need (isNilS y) (some (.isnil true x))
      | some (.struct fs) => opt (flatFields P fs.toList 0) fun ks => need (!P.stoodInHeld t && !P.eqGuardType P.depth t) (some (.eqs true ks x y))
      | _ => none
    | op => some (.bin op x y)
  | .unOp op _ x => some (.un op x)
  | .convert s d x => match P.underlying s, P.underlying d with
    | some (.int _), some (.int k) => some (.conv (.toInt k) x)
    | some .string, some .string => some (.conv .same x)
    | some (.slice e), some .string => match P.underlying e with
      | some (.int .u8) => some (.conv .bts x)
      | _ => none
    | some .string, some (.slice e) => match P.underlying e with
      | some (.int .u8) => some (.conv (.stb e) x)
      | _ => none
    | _, _ => none
  | .load t x => opt (shOf P t) fun s => match s.1 with
    | true => some (.load true s.2 x)
    | false => some (.load false 1 x)
  | .store t x v => opt (P.info? t) fun i => some (.store i.size x v)
  | .alloc e => match arrInfo P e with
    | some q => some (.mkarr e 1 q.1 q.2)
    | none => opt (zPV P e) fun z => some (.alloc e z)
  | .box e x => some (.box e x)
  | .build t parts => match P.underlying t with
    | some (.struct fs) => opt (zPV P t) fun z => opt (mapO (fun f : Field => opt (P.info? f.type) fun i => some (f.offset, i.size)) fs.toList) fun pl => opt (mapO (fun p : Nat × Operand => opt (pl[p.1]?) fun q => some (q.1, q.2, p.2)) parts.toList) fun ps => match z with
      | .agg cs => some (.build cs ps)
      | _ => none
    | some (.array _ e) => opt (zPV P t) fun z => opt (shOf P e) fun s => match z with
      | .agg cs => some (.build cs (parts.toList.map fun p => (p.1 * s.2, s.2, p.2)))
      | _ => none
    | _ => none
  | .buildSlice t n parts => opt (slInfo P t) fun i => opt (inOrder parts.toList 0) fun ps =>
      need (Nat.beq ps.length n && decide (0 < i.2.1) && Nat.ble (n * i.2.1) 16777216) (opt (zPV P i.1) fun _ => some (.bslice i.1 i.2.1 ps))
  | .call c => match c.callee with
    | .builtin b => match b, c.args.toList with
      | .len, [x] => opt (c.argTypes[0]?) fun t => match P.underlying t with
        | some .string => some (.lenS x)
        | some (.slice _) => some (.lenR x)
        | _ => none
      | .append, [x, y] => match c.argTypes.toList with
        | [t, u] => opt (slInfo P t) fun i => opt (zPV P i.1) fun z => need (decide (0 < i.2.1) && Nat.beq z.cells.length i.2.1) (match Nat.beq t u with
          | true => some (.app i.1 i.2.1 i.2.2 x y)
          | false => match P.underlying u with
            | some .string => match P.underlying i.1 with
              | some (.int .u8) => need (Nat.beq i.2.1 1) (some (.appS i.1 i.2.2 x y))
              | _ => none
            | _ => none)
        | _ => none
      | .copy, [x, y] => match c.argTypes.toList with
        | [t, u] => opt (slInfo P t) fun i => match P.underlying u with
          | some .string => match P.underlying i.1 with
            | some (.int .u8) => need (Nat.beq i.2.1 1) (some (.cpyS x y))
            | _ => none
          | some (.slice _) => need (decide (0 < i.2.1)) (some (.cpy i.2.1 x y))
          | _ => none
        | _ => none
      | .clear, [x] => opt (c.argTypes[0]?) fun t => opt (slInfo P t) fun i => opt (zPV P i.1) fun z => need (decide (0 < i.2.1) && Nat.beq z.cells.length i.2.1) (some (.clr i.2.1 z x))
      | .min, [x, y] => some (.mm false x y)
      | .max, [x, y] => some (.mm true x y)
      | _, _ => none
    | .value f => match f with
      | .func f => opt (P.funcs[f]?) fun fn => match fn.body with
        | some _ => need (decide (fn.name ≠ "runtime.NumGoroutine")) (some (.call f c.args.toList))
        | none => none
      | .tmp t => some (.callv (.tmp t) c.args.toList)
      | _ => none
    | _ => none
  | .extract x i => some (.ext x i)
  | .slice t x lo hi mx => match mx with
    | none => match P.underlying t with
      | some .string => some (.slcS x lo hi)
      | some (.slice e) => opt (P.info? e) fun i => some (.slcR i.size x lo hi)
      | some (.array _ _) => opt (arrInfo P t) fun q => some (.slcA q.2 1 x lo hi)
      | _ => none
    | some _ => none
  | .index t x i => match P.underlying t with
    | some .string => some (.idx x i)
    | some (.array m e) => match arrPlace P t i with
      | some q => match q.2.1 with
        | true => some (.fld q.1 true q.2.2 x)
        | false => some (.fld q.1 false 1 x)
      | none => opt (shOf P e) fun s => need (decide (0 < s.2)) (match s.1 with
        | true => some (.idxV m s.2 true s.2 x i)
        | false => some (.idxV m s.2 false 1 x i))
    | _ => none
  | .indexAddr t x i => match P.underlying t with
    | some (.array m e) => match arrInfo P t with
      | some q => some (.idxAr q.2 1 x i)
      | none => match arrPlace P t i with
        | some q => some (.fldA q.1 x)
        | none => opt (shOf P e) fun s => need (decide (0 < s.2)) (some (.fldV m s.2 x i))
    | _ => opt (slInfo P t) fun s => some (.idxA s.2.1 x i)
  | .fieldAddr s x f => opt (fieldPlace P s f) fun q => some (.fldA q.1 x)
  | .field s x f => opt (fieldPlace P s f) fun q => match q.2.1 with
    | true => some (.fld q.1 true q.2.2 x)
    | false => some (.fld q.1 false 1 x)
  | .nilCheck x => some (.nilck x)
  | .makeFunc f first caps => match f, first.toList with
    | .func f, [] => some (.mkf f caps.toList)
    | _, _ => none
  | .makeSlice t l c => opt (slInfo P t) fun i => opt (zPV P i.1) fun z => need (decide (0 < i.2.1) && Nat.beq z.cells.length i.2.1) (some (.mksl i.1 i.2.1 i.2.2 z l c))
  | .panic _ => some .fail
  | .makeInterface t _ => match P.underlying t with
    | some (.interface _) => none
    | some _ => some .junk
    | none => none
  | _ => none

def dstOk (n : Nat) : Option Tmp → Bool
  | none => true
  | some d => Nat.blt d n

/-- An operation that the verifier does not know must not be reached. -/
noncomputable def compF (P : Program) (dr : Bool) (o : Oper) : Option PK :=
  match compK P dr o with
  | some k => some k
  | none => match o.op with
    | .call _ => some .fail
    | _ => none

noncomputable def compO (P : Program) (dr : Bool) (ops : Array Oper) (n : Nat) (o : Oper) : Option PO :=
  opt (compF P dr o) fun k => need (dstOk n o.dst) (match o.guard with
    | none => some ⟨o.dst, none, k⟩
    | some (j, want) => opt (ops[j]?) fun oj => opt oj.dst fun d => some ⟨o.dst, some (d, want), k⟩)

/-- A move that sets a round's variable. -/
def moveO (n : Nat) (o : Oper) : Option PO :=
  match o.guard, o.dst, o.op with
  | none, some d, .move x => match x with
    | .tmp t => need (Nat.blt d n) (some ⟨some d, none, .mv (.tmp t)⟩)
    | _ => none
  | none, some d, .assign x => match x with
    | .tmp t => need (Nat.blt d n) (some ⟨some d, none, .mv (.tmp t)⟩)
    | _ => none
  | _, _, _ => none

noncomputable def compA (n : Nat) (c : Code) : Option (List PO) :=
  Code.rec (motive := fun _ => Option (List PO)) none
    (fun _ ops draw => match draw with
      | false => mapO (moveO n) ops.toList
      | true => none)
    (fun _ _ a b => opt a fun a => opt b fun b => some (a ++ b))
    (fun _ _ _ _ _ => none) (fun _ _ _ => none) (fun _ _ => none) (fun _ _ _ _ _ _ => none) (fun _ => none) (fun _ _ => none) (fun _ => none) (fun _ => none) none (fun _ => none) c

noncomputable def simpleC (c : PC) : Bool :=
  PC.rec (motive := fun _ => Bool) true (fun _ => true) (fun _ _ => true) (fun _ _ => true) (fun _ _ a b => match a with | true => b | false => false) (fun _ _ _ a b => match a with | true => b | false => false) (fun _ _ b => b) (fun _ _ _ => false) (fun _ _ _ _ _ => false) (fun _ => true) true c

noncomputable def compC (P : Program) (n : Nat) (c : Code) : Option PC :=
  Code.rec (motive := fun _ => Option PC)
    (some .skip)
    (fun _ ops draw => match draw with
      | false => opt (mapO (compO P false ops n) ops.toList) fun l => some (.region l)
      | true => opt (mapO (compO P true ops n) ops.toList) fun l => some (.draw (l.map PO.plain) (ops.toList.map fun o => (o.after.toList.filter fun e => Region.binds .any e).map (·.on))))
    (fun _ _ a b => opt a fun a => opt b fun b => some (.seq a b))
    (fun x _ _ a b => opt a fun a => opt b fun b => some (.cond x a b))
    (fun id _ b => opt b fun b => some (.block id b))
    (fun _ b => opt b fun b => some (.loop [] b))
    (fun f ps asg _ _ b => opt (compA n asg) fun l => opt b fun b => need (simpleC b && ps.toList.all fun p => Nat.blt p n) (some (.rangeF f ps.toList l b)))
    (fun id => some (.exit id))
    (fun _ _ => none)
    (fun _ => none)
    (fun _ => none)
    (some .ret)
    (fun _ => none) c

/-- Code without what the loops' heads keep. -/
noncomputable def strip (c : PC) : PC :=
  PC.rec (motive := fun _ => PC) .skip (fun l => .region l) (fun l a => .draw l a) (fun l a => .draw l a) (fun _ _ a b => .seq a b) (fun x _ _ a b => .cond x a b) (fun id _ b => .block id b) (fun _ _ b => .loop [] b) (fun f ps l _ b => .rangeF f ps l b) (fun id => .exit id) .ret c

/-- A result's slot, or its variable's slot and shape. -/
def compR (P : Program) (r : ResultVar) : Option (Nat × Option (Bool × Nat)) :=
  match r with
  | .tmp t => some (t, none)
  | .cell a t => opt (shOf P t) fun s => match s.1 with
    | true => some (a, some (true, s.2))
    | false => some (a, some (false, 1))

end Go.Dv
end
section
/-
  What the small functions in passing style come to.
-/
namespace Go.Dv

section
variable {α : Type}

theorem nthK_iff (l : List α) : ∀ (i : Nat) (K : α → Prop), nthK l i K → ∃ a, l[i]? = some a ∧ K a := by
  induction l with
  | nil => intro i K h; exact h.elim
  | cons a l ih =>
    intro i K h
    cases i with
    | zero => exact ⟨a, rfl, h⟩
    | succ i => simpa using ih i K h

theorem takeK_spec (n : Nat) : ∀ (l : List α) (K : List α → Prop), takeK n l K → ∃ t r, l = t ++ r ∧ t.length = n ∧ K t := by
  induction n with
  | zero => intro l K h; exact ⟨[], l, rfl, rfl, h⟩
  | succ n ih =>
    intro l K h
    cases l with
    | nil => exact h.elim
    | cons a l =>
      obtain ⟨t, r, rfl, h2, h3⟩ := ih l _ h
      exact ⟨a :: t, r, rfl, by simp [h2], h3⟩

theorem dropK_spec (n : Nat) : ∀ (l : List α) (K : List α → Prop), dropK n l K → ∃ t r, l = t ++ r ∧ t.length = n ∧ K r := by
  induction n with
  | zero => intro l K h; exact ⟨[], l, rfl, rfl, h⟩
  | succ n ih =>
    intro l K h
    cases l with
    | nil => exact h.elim
    | cons a l =>
      obtain ⟨t, r, rfl, h2, h3⟩ := ih l _ h
      exact ⟨a :: t, r, rfl, by simp [h2], h3⟩

theorem over_spec (new : List α) : ∀ (l : List α) (K : List α → Prop),
    (List.rec (motive := fun _ => List α → (List α → Prop) → Prop) (fun l K => K l) (fun x _ ih l K => match l with | [] => False | _ :: r => ih r fun t => K (x :: t)) new l K) →
    ∃ mid post, l = mid ++ post ∧ mid.length = new.length ∧ K (new ++ post) := by
  induction new with
  | nil => intro l K h; exact ⟨[], l, rfl, rfl, h⟩
  | cons x new ih =>
    intro l K h
    cases l with
    | nil => exact h.elim
    | cons a l =>
      obtain ⟨m, p, rfl, h2, h3⟩ := ih l _ h
      exact ⟨a :: m, p, rfl, by simp [h2], h3⟩

theorem spliceK_spec (new : List α) (l : List α) : ∀ (i : Nat) (K : List α → Prop), spliceK new l i K →
    ∃ pre mid post, l = pre ++ mid ++ post ∧ pre.length = i ∧ mid.length = new.length ∧ K (pre ++ new ++ post) := by
  induction l with
  | nil =>
    intro i K h
    cases i with
    | zero =>
      cases new with
      | nil => exact ⟨[], [], [], rfl, rfl, rfl, h⟩
      | cons x new => exact h.elim
    | succ i => exact h.elim
  | cons a l ih =>
    intro i K h
    cases i with
    | zero =>
      obtain ⟨m, p, h1, h2, h3⟩ := over_spec new (a :: l) K h
      exact ⟨[], m, p, by simpa using h1, rfl, h2, by simpa using h3⟩
    | succ i =>
      obtain ⟨pre, m, p, rfl, h2, h3, h4⟩ := ih i _ h
      exact ⟨a :: pre, m, p, by simp, by simp [h2], h3, by simpa using h4⟩

theorem setK_spec (l : List α) : ∀ (i : Nat) (x : α) (K : List α → Prop), setK l i x K → i < l.length ∧ K (l.set i x) := by
  induction l with
  | nil => intro i x K h; exact h.elim
  | cons a l ih =>
    intro i x K h
    cases i with
    | zero => exact ⟨by simp, h⟩
    | succ i => have := ih i x _ h; exact ⟨by simpa using this.1, by simpa using this.2⟩

theorem snocK_spec (l : List α) (x : α) : ∀ (K : List α → Prop), snocK l x K → K (l ++ [x]) := by
  induction l with
  | nil => intro K h; exact h
  | cons a l ih => intro K h; exact ih _ h

theorem lenK_spec (l : List α) : ∀ (K : Nat → Prop), lenK l K → K l.length := by
  induction l with
  | nil => intro K h; exact h
  | cons a l ih => intro K h; exact ih _ h
end

theorem look_spec (p : Nat) (K : AV → Prop) (e : Env) : look p K e → K (lookF p e) := by
  induction e with
  | nil => intro h; exact h
  | cons hd e ih =>
    intro h
    obtain ⟨q, v⟩ := hd
    have h' : Bool.rec (motive := fun _ => Prop) (look p K e) (K v) (Nat.beq q p) := h
    simp only [lookF]
    cases hq : Nat.beq q p with
    | true => rw [hq] at h'; exact h'
    | false => rw [hq] at h'; exact ih h'

def evF (env : Env) : Operand → AV
  | .tmp t => lookF t env
  | .const v => constAV v
  | .global _ => .bad
  | .func f => .pv (.clo f [])

theorem ev_spec (env : Env) (o : Operand) (K : AV → Prop) (h : ev env o K) : K (evF env o) := by
  cases o with
  | tmp t => exact look_spec t K env h
  | const v => exact h
  | global g => exact h
  | func f => exact h

theorem evs_spec (env : Env) (l : List Operand) : ∀ (K : List AV → Prop), evs env l K → K (l.map (evF env)) := by
  induction l with
  | nil => intro K h; exact h
  | cons o l ih => intro K h; exact ih _ (ev_spec env o _ h)

theorem evO_spec (env : Env) (o : Option Operand) (K : Option AV → Prop) (h : evO env o K) : K (o.map (evF env)) := by
  cases o with
  | none => exact h
  | some x => exact ev_spec env x _ h

theorem evParts_spec (env : Env) (l : List (Nat × Nat × Operand)) : ∀ (K : List (Nat × Nat × AV) → Prop), evParts env l K → K (l.map fun p => (p.1, p.2.1, evF env p.2.2)) := by
  induction l with
  | nil => intro K h; exact h
  | cons o l ih => intro K h; exact ih _ (ev_spec env o.2.2 _ h)

theorem canon_spec (env : Env) (ps : List Nat) : ∀ (K : Env → Prop), canon env ps K → K (ps.map fun p => (p, lookF p env)) := by
  induction ps with
  | nil => intro K h; exact h
  | cons p ps ih => intro K h; exact ih _ (look_spec p (fun v => canon env ps fun r => K ((p, v) :: r)) env h)

theorem pvsK_spec (l : List PV) : ∀ (K : List AV → Prop), pvsK l K → K (l.map .pv) := by
  induction l with
  | nil => intro K h; exact h
  | cons x l ih => intro K h; exact ih _ h

theorem allPvK_spec (l : List AV) : ∀ (K : List PV → Prop) (E : Prop), allPvK l K E → (∃ t, l = t.map .pv ∧ K t) ∨ E := by
  induction l with
  | nil => intro K E h; exact .inl ⟨[], rfl, h⟩
  | cons a l ih =>
    intro K E h
    cases a with
    | pv x =>
      rcases ih _ E h with ⟨t, rfl, h2⟩ | h2
      · exact .inl ⟨x :: t, rfl, h2⟩
      · exact .inr h2
    | _ => exact .inr h

theorem aggK_spec (l : List AV) (K : AV → Prop) (h : aggK l K) : (∃ t, l = t.map .pv ∧ K (.pv (.agg t))) ∨ K (.agg l) := allPvK_spec l _ _ h

theorem lookF_canon (env : Env) (ps : List Nat) (p : Nat) : lookF p (ps.map fun p => (p, lookF p env)) = lookF p env ∨ lookF p (ps.map fun p => (p, lookF p env)) = .bad := by
  induction ps with
  | nil => exact .inr rfl
  | cons q ps ih =>
    simp only [List.map_cons, lookF]
    cases hq : Nat.beq q p with
    | true => have : q = p := Nat.eq_of_beq_eq_true hq; subst this; exact .inl rfl
    | false => exact ih

theorem lookF_put (d : Nat) (v : AV) (env : Env) (p : Nat) : lookF p (put (some d) v env) = bif Nat.beq d p then v else lookF p env := rfl

section read
variable {ok : Nat → Prop} {σ : Sto} {vals : List Value} {w : World}

theorem raL_map_pv (l : List PV) : ∀ vs : List Value, RAL ok σ vals w (l.map .pv) vs ↔ RdL ok w l vs := by
  induction l with
  | nil => intro vs; simp [RAL, RdL]
  | cons x l ih => intro vs; simp only [List.map_cons, RAL, RdL, RA, ih]

theorem raL_append (xs ys : List AV) : ∀ vs : List Value, RAL ok σ vals w (xs ++ ys) vs ↔ ∃ us ws, vs = us ++ ws ∧ RAL ok σ vals w xs us ∧ RAL ok σ vals w ys ws := by
  induction xs with
  | nil => intro vs; simp only [List.nil_append, RAL]; constructor
           · intro h; exact ⟨[], vs, rfl, rfl, h⟩
           · rintro ⟨us, ws, rfl, rfl, h⟩; exact h
  | cons x xs ih =>
    intro vs
    simp only [List.cons_append, RAL, ih]
    constructor
    · rintro ⟨v, r, rfl, h1, us, ws, rfl, h2, h3⟩; exact ⟨v :: us, ws, rfl, ⟨v, us, rfl, h1, h2⟩, h3⟩
    · rintro ⟨_, ws, rfl, ⟨v, us, rfl, h1, h2⟩, h3⟩; exact ⟨v, us ++ ws, rfl, h1, us, ws, rfl, h2, h3⟩

theorem RAL.length {l : List AV} : ∀ {vs : List Value}, RAL ok σ vals w l vs → vs.length = l.length := by
  induction l with
  | nil => intro vs h; simp only [RAL] at h; subst h; rfl
  | cons x l ih => intro vs h; simp only [RAL] at h; obtain ⟨v, r, rfl, _, h2⟩ := h; simp [ih h2]

theorem rdL_append (xs ys : List PV) (vs : List Value) : RdL ok w (xs ++ ys) vs ↔ ∃ us ws, vs = us ++ ws ∧ RdL ok w xs us ∧ RdL ok w ys ws := by
  have := raL_append (ok := ok) (σ := []) (vals := []) (w := w) (xs.map .pv) (ys.map .pv) vs
  rw [← List.map_append, raL_map_pv] at this
  simpa only [raL_map_pv] using this

theorem RdL.length {l : List PV} {vs : List Value} (h : RdL ok w l vs) : vs.length = l.length := ((rdL_iff l vs).1 h).1
end read
end Go.Dv
end
section
/-
  The operations on values alone: what the model's run of each comes to.
-/
set_option linter.unusedSimpArgs false
namespace Go.Dv
open Go.RowKit

/-- What one operation owes: whatever is asked of what follows holds of what it leaves. -/
def Out (cx : Cx) (env : Env) (a : Act) (w : World) (o : Oper) (K : AV → Sto → Prop) : Prop :=
  ∀ (next : Act → World → Prop) (Q : Exit → Act → World → Prop),
    (∀ av σ' vals' v w', K av σ' → Rel cx env σ' vals' a w' → RA (Ok cx σ' vals' w') σ' vals' w' av v → next (a.put o.dst v) w') → o.wp cx.P a w next Q

section
variable {cx : Cx} {env : Env} {σ : Sto} {vals : List Value} {a : Act} {w : World} {o : Oper}

theorem Rel.ev (h : Rel cx env σ vals a w) (x : Operand) : RA (Ok cx σ vals w) σ vals w (evF env x) (a.eval x) := by
  cases x with
  | tmp t => exact h.env t
  | const v =>
    simp only [evF, Act.eval]
    unfold constAV
    split <;> simp only [RA, Rd]
    rename_i h1 h2 h3 h4 h5 h6
    refine ⟨trivial, ?_⟩
    cases v <;> first | rfl | exact (h5 _ rfl).elim | exact (h6 _ rfl).elim
  | global g => simp only [evF, RA]
  | func f => simp only [evF, Act.eval, RA, Rd]; exact ⟨#[], rfl, by simp [RdL]⟩

theorem Rel.evL (h : Rel cx env σ vals a w) (l : List Operand) : RAL (Ok cx σ vals w) σ vals w (l.map (evF env)) (l.map a.eval) := by
  induction l with
  | nil => simp [RAL]
  | cons x l ih => simp only [List.map_cons, RAL]; exact ⟨_, _, rfl, h.ev x, ih⟩

theorem Out.run {K : AV → Sto → Prop} {σ' : Sto} {vals' : List Value} {w' : World} {v : Value} {av : AV} (hrun : (execOp a.eval o).run cx.P w = .ok (.value v) w') (hr : Rel cx env σ' vals' a w') (hv : RA (Ok cx σ' vals' w') σ' vals' w' av v)
    (hK : K av σ') : Out cx env a w o K := by
  intro next Q hn
  unfold Oper.wp
  rw [hrun, Oper.upon_value]
  exact hn av σ' vals' v w' hK hr hv

theorem Out.skip {K : AV → Sto → Prop} {σ' : Sto} {vals' : List Value} {w' : World} (hrun : (execOp a.eval o).run cx.P w = .ok .skip w') (hr : Rel cx env σ' vals' a w')
    (hK : K .bad σ') : Out cx env a w o K := by
  intro next Q hn
  unfold Oper.wp
  rw [hrun, Oper.upon_skip]
  exact hn .bad σ' vals' undef w' hK hr (by simp only [RA])

theorem out_move {K : AV → Sto → Prop} (hr : Rel cx env σ vals a w) (x : Operand) (ho : o.op = .move x ∨ o.op = .assign x) (hK : K (evF env x) σ) : Out cx env a w o K := by
  refine Out.run (v := a.eval x) ?_ hr (hr.ev x) hK
  rcases ho with ho | ho <;> simp [execOp, ho]

theorem cmpK_spec {p : Prop} [Decidable p] {K : PV → Prop} (h : cmpK p K) : K (.bool (decide p)) := h _ (by simp)

theorem kind_eq {k j : IntKind} (h : Nat.beq k.ctorIdx j.ctorIdx = true) : k = j := by
  cases k <;> cases j <;> first | rfl | cases h

theorem binI_run (P : Program) (op : BinOp) (t : TypeId) (k j : IntKind) (x y : Int) (K : PV → Prop) (hj : sameKind op k j = true) (h : binI op k x y K) :
    ∃ r v, (binOp op t (.int k x) (.int j y)).run P w = .ok v w ∧ Rd (Ok cx σ vals w) w r v ∧ K r ∧ ∀ b1 b2, (eqGuard op t b1 b2 (.int k x) (.int j y)).run P w = .ok () w := by
  have hg : ∀ b1 b2, (eqGuard op t b1 b2 (.int k x) (.int j y)).run P w = .ok () w := by
    intro b1 b2; cases op <;> simp [eqGuard]
  cases op with
  | shl =>
    obtain ⟨h0, h⟩ := h
    refine ⟨_, .int k (k.wrap (x * 2 ^ min y.toNat k.bits)), ?_, by simp only [Rd], h _ rfl, hg⟩
    simp [binOp, Op.shift, show ¬ y < 0 from by omega]
  | shr =>
    obtain ⟨h0, h⟩ := h
    refine ⟨_, .int k (x.fdiv (2 ^ min y.toNat k.bits)), ?_, by simp only [Rd], h _ rfl, hg⟩
    simp [binOp, Op.shift, show ¬ y < 0 from by omega]
  | quo =>
    obtain ⟨h0, h⟩ := h
    cases kind_eq hj
    refine ⟨_, .int k (k.wrap (x.tdiv y)), ?_, by simp only [Rd], h _ rfl, hg⟩
    simp [binOp, Op.intDiv, h0]
  | rem =>
    obtain ⟨h0, h⟩ := h
    cases kind_eq hj
    refine ⟨_, .int k (x.tmod y), ?_, by simp only [Rd], h _ rfl, hg⟩
    simp [binOp, Op.intDiv, h0]
  | add => cases kind_eq hj; exact ⟨_, .int k (k.wrap (x + y)), by simp [binOp, Op.intArith], by simp only [Rd], h _ rfl, hg⟩
  | sub => cases kind_eq hj; exact ⟨_, .int k (k.wrap (x - y)), by simp [binOp, Op.intArith], by simp only [Rd], h _ rfl, hg⟩
  | mul => cases kind_eq hj; exact ⟨_, .int k (k.wrap (x * y)), by simp [binOp, Op.intArith], by simp only [Rd], h _ rfl, hg⟩
  | and => cases kind_eq hj; exact ⟨_, .int k (bitsOp .and k x y), by simp [binOp, Op.intBits, bitsOp], by simp only [Rd], h _ rfl, hg⟩
  | or => cases kind_eq hj; exact ⟨_, .int k (bitsOp .or k x y), by simp [binOp, Op.intBits, bitsOp], by simp only [Rd], h _ rfl, hg⟩
  | xor => cases kind_eq hj; exact ⟨_, .int k (bitsOp .xor k x y), by simp [binOp, Op.intBits, bitsOp], by simp only [Rd], h _ rfl, hg⟩
  | andNot => cases kind_eq hj; exact ⟨_, .int k (bitsOp .andNot k x y), by simp [binOp, Op.intBits, bitsOp], by simp only [Rd], h _ rfl, hg⟩
  | eql => cases kind_eq hj; exact ⟨.bool (x == y), .bool (x == y), by simp [binOp, Op.intCmp], by simp only [Rd], h _ (by simp), hg⟩
  | neq => cases kind_eq hj; exact ⟨.bool (x != y), .bool (x != y), by simp [binOp, Op.intCmp], by simp only [Rd], h _ (by simp), hg⟩
  | lss => cases kind_eq hj; exact ⟨.bool (decide (x < y)), .bool (decide (x < y)), by simp [binOp, Op.intCmp], by simp only [Rd], h _ (by simp), hg⟩
  | leq => cases kind_eq hj; exact ⟨.bool (decide (x ≤ y)), .bool (decide (x ≤ y)), by simp [binOp, Op.intCmp], by simp only [Rd], h _ (by simp), hg⟩
  | gtr => cases kind_eq hj; exact ⟨.bool (decide (y < x)), .bool (decide (y < x)), by simp [binOp, Op.intCmp], by simp only [Rd], h _ (by simp), hg⟩
  | geq => cases kind_eq hj; exact ⟨.bool (decide (y ≤ x)), .bool (decide (y ≤ x)), by simp [binOp, Op.intCmp], by simp only [Rd], h _ (by simp), hg⟩

theorem str_eq_iff (l m : List UInt8) : ((⟨l.toArray⟩ : ByteArray).toList == (⟨m.toArray⟩ : ByteArray).toList) = decide (l = m) := by
  rw [ByteArray.toList_mk, ByteArray.toList_mk, Bool.eq_iff_iff]; simp

theorem binP_run (P : Program) (op : BinOp) (t : TypeId) (x y : PV) (vx vy : Value) (K : PV → Prop) (hx : Rd (Ok cx σ vals w) w x vx) (hy : Rd (Ok cx σ vals w) w y vy) (h : binP op x y K) :
    ∃ r v, (binOp op t vx vy).run P w = .ok v w ∧ Rd (Ok cx σ vals w) w r v ∧ K r ∧ ∀ b1 b2, (eqGuard op t b1 b2 vx vy).run P w = .ok () w := by
  cases x with
  | int k x =>
    cases y with
    | int j y =>
      simp only [Rd] at hx hy
      subst hx hy
      have h' : (match sameKind op k j with | true => binI op k x y K | false => False) := h
      cases hs : sameKind op k j with
      | true => rw [hs] at h'; exact binI_run P op t k j x y K hs h'
      | false => rw [hs] at h'; exact h'.elim
    | _ => exact h.elim
  | str x =>
    cases y with
    | str y =>
      simp only [Rd] at hx hy
      subst hx hy
      have hg : ∀ b1 b2, (eqGuard op t b1 b2 (.string ⟨x.toArray⟩) (.string ⟨y.toArray⟩)).run P w = .ok () w := by
        intro b1 b2; cases op <;> simp [eqGuard]
      cases op with
      | add =>
        obtain ⟨h0, h⟩ := h
        refine ⟨_, .string ⟨(x ++ y).toArray⟩, ?_, by simp only [Rd], h, hg⟩
        have h1 : ¬ (((⟨x.toArray⟩ : ByteArray).size + (⟨y.toArray⟩ : ByteArray).size : Nat) : Int) > IntKind.i64.max := by
          have : IntKind.i64.max = 9223372036854775807 := by decide
          rw [this]; show ¬ ((x.length + y.length : Nat) : Int) > _; omega
        simp only [binOp, Op.stringOp, if_neg h1]
        show Result.ok (Value.string (⟨x.toArray⟩ ++ ⟨y.toArray⟩)) w = _
        congr 2
      | eql =>
        refine ⟨_, .bool (decide (x = y)), ?_, by simp only [Rd], cmpK_spec h, hg⟩
        simp only [binOp, Op.stringOp, str_eq_iff]; rfl
      | neq =>
        refine ⟨_, .bool (decide (x ≠ y)), ?_, by simp only [Rd], cmpK_spec h, hg⟩
        simp only [binOp, Op.stringOp, str_eq_iff, decide_not]; rfl
      | _ => exact h.elim
    | _ => exact h.elim
  | _ => exact h.elim

theorem out_bin {K : AV → Sto → Prop} (hr : Rel cx env σ vals a w) (op : BinOp) (t u : TypeId) (x y : Operand) (ho : o.op = .binOp op t x y u)
    (hK : match evF env x, evF env y with
      | .pv x, .pv y => binP op x y fun r => K (.pv r) σ
      | _, _ => False) : Out cx env a w o K := by
  have hx := hr.ev x
  have hy := hr.ev y
  revert hK hx hy
  cases evF env x with
  | pv px =>
    cases evF env y with
    | pv py =>
      intro hK hx hy
      simp only [RA] at hx hy
      obtain ⟨r, v, h1, h2, h3, h4⟩ := binP_run cx.P op t px py _ _ _ hx hy hK
      refine Out.run (v := v) ?_ hr (by simp only [RA]; exact h2) h3
      simp [execOp, ho, h1, h4]
    | _ => intro hK; exact hK.elim
  | _ => intro hK; exact hK.elim

theorem out_un {K : AV → Sto → Prop} (hr : Rel cx env σ vals a w) (op : UnOp) (t : TypeId) (x : Operand) (ho : o.op = .unOp op t x)
    (hK : match evF env x with
      | .pv x => unP op x fun r => K (.pv r) σ
      | _ => False) : Out cx env a w o K := by
  have hx := hr.ev x
  revert hK hx
  cases evF env x with
  | pv px =>
    intro hK hx
    simp only [RA] at hx
    cases op with
    | not =>
      cases px with
      | bool b =>
        simp only [Rd] at hx
        refine Out.run (v := .bool (!b)) (by simp [execOp, ho, hx, Op.unary]) hr (av := .pv (.bool (!b))) (by simp only [RA, Rd]) (hK _ (by simp))
      | _ => exact hK.elim
    | neg =>
      cases px with
      | int k n =>
        simp only [Rd] at hx
        refine Out.run (v := .int k (k.wrap (0 - n))) (by simp [execOp, ho, hx, Op.unary, Op.intArith]) hr (av := .pv (.int k (k.wrap (0 - n)))) (by simp only [RA, Rd]) (hK _ rfl)
      | _ => exact hK.elim
    | _ => exact hK.elim
  | _ => intro hK; exact hK.elim

theorem out_eqb {K : AV → Sto → Prop} (hr : Rel cx env σ vals a w) (neg : Bool) (t u : TypeId) (x y : Operand) 
    (hK : match evF env x, evF env y with
      | .pv x, .pv y => match x, y with
        | .bool a, .bool b => match neg with
          | false => cmpK (a = b) fun r => K (.pv r) σ
          | true => cmpK (a ≠ b) fun r => K (.pv r) σ
        | _, _ => False
      | _, _ => False)
    (ho : o.op = .binOp (if neg then .neq else .eql) t x y u) (ht : cx.P.underlying t = some .bool) : Out cx env a w o K := by
  have hx := hr.ev x
  have hy := hr.ev y
  revert hK hx hy
  cases evF env x with
  | pv px =>
    cases evF env y with
    | pv py =>
      cases px with
      | bool p =>
        cases py with
        | bool q =>
          intro hK hx hy
          simp only [RA, Rd] at hx hy
          cases neg with
          | false =>
            refine Out.run (v := .bool (p == q)) ?_ hr (av := .pv (.bool (p == q))) (by simp only [RA, Rd]) (hK _ (by simp))
            simp [execOp, ho, hx, hy, eqGuard, binOp, Op.equal, run_equalIn_bool w 9999 t p q ht, Op.maxDepth, Sem.run_bind, Sem.run_pure]
          | true =>
            refine Out.run (v := .bool (p != q)) ?_ hr (av := .pv (.bool (p != q))) (by simp only [RA, Rd]) (hK _ (by simp))
            simp [execOp, ho, hx, hy, eqGuard, binOp, Op.equal, run_equalIn_bool w 9999 t p q ht, Op.maxDepth, Sem.run_bind, Sem.run_pure]
            cases p <;> cases q <;> rfl
        | _ => intro hK; exact hK.elim
      | _ => intro hK; cases py <;> exact hK.elim
    | _ => intro hK; exact hK.elim
  | _ => intro hK; exact hK.elim

noncomputable instance decPV : DecidableEq PV := fun x y => Classical.propDecidable (x = y)

theorem run_part_flat {P : Program} {t : TypeId} (h : ∀ d, P.underlying t = some d → (d matches .struct _ | .array _ _) = false) (hd : ∃ d, P.underlying t = some d) {cs : Array Value} {off : Nat} {v : Value} (hv : cs[off]? = some v) :
    (part t cs off).run P w = .ok v w := by
  obtain ⟨d, hd⟩ := hd
  have := h d hd
  cases d <;> simp_all [part, isAgg, run_underlying hd]

theorem run_eqFields {P : Program} (fs : List Field) : ∀ (n : Nat) (ks : List Nat) (cs ds : List PV) (xs ys : Array Value), flatFields P fs n = some ks → likeB ks cs ds = true →
    RdL (Ok cx σ vals w) w cs (xs.toList.drop n) → RdL (Ok cx σ vals w) w ds (ys.toList.drop n) → (Op.eqFields 9999 xs ys fs).run P w = .ok (decide (cs = ds)) w := by
  induction fs with
  | nil =>
    intro n ks cs ds xs ys hk hl hx hy
    cases hk
    have : cs = [] ∧ ds = [] := by
      cases cs with
      | nil => cases ds with
        | nil => exact ⟨rfl, rfl⟩
        | cons d ds => simp [likeB] at hl
      | cons c cs => simp [likeB] at hl
    obtain ⟨rfl, rfl⟩ := this
    simp [Op.eqFields]
  | cons f fs ih =>
    intro n ks cs ds xs ys hk hl hx hy
    have hk' : need (Nat.beq f.offset n && f.name != "_") (match P.underlying f.type with
      | some (.int _) => opt (flatFields P fs (n + 1)) fun r => some (0 :: r)
      | some .string => opt (flatFields P fs (n + 1)) fun r => some (1 :: r)
      | some .bool => opt (flatFields P fs (n + 1)) fun r => some (2 :: r)
      | _ => none) = some ks := hk
    cases hb : (Nat.beq f.offset n && f.name != "_") with
    | false => rw [hb] at hk'; simp [need] at hk'
    | true =>
      rw [hb] at hk'
      simp only [need] at hk'
      rw [Bool.and_eq_true] at hb
      have ho : f.offset = n := Nat.eq_of_beq_eq_true hb.1
      have hn : f.name ≠ "_" := by simpa using hb.2
      -- the kind of this field, the rest
      have main : ∀ k r, ks = k :: r → flatFields P fs (n + 1) = some r →
          (∀ c d u v, like1 k c d = true → Rd (Ok cx σ vals w) w c u → Rd (Ok cx σ vals w) w d v → (Op.equalIn 9999 f.type u v).run P w = .ok (decide (c = d)) w) →
          (∀ d, P.underlying f.type = some d → (d matches .struct _ | .array _ _) = false) → (∃ d, P.underlying f.type = some d) →
          (Op.eqFields 9999 xs ys (f :: fs)).run P w = .ok (decide (cs = ds)) w := by
        intro k r hks hr heq hna hex
        subst hks
        cases cs with
        | nil => simp [likeB] at hl
        | cons c cs =>
          cases ds with
          | nil => simp [likeB] at hl
          | cons d ds =>
            have hl' : (match like1 k c d with | true => likeB r cs ds | false => false) = true := hl
            cases h1 : like1 k c d with
            | false => rw [h1] at hl'; cases hl'
            | true =>
              rw [h1] at hl'
              simp only [RdL] at hx hy
              obtain ⟨u, us, hu, hcu, hcs⟩ := hx
              obtain ⟨v, vs, hv, hdv, hds⟩ := hy
              have e1 : xs[n]? = some u := by
                have := congrArg (·[0]?) hu
                simpa [List.getElem?_drop] using this
              have e2 : ys[n]? = some v := by
                have := congrArg (·[0]?) hv
                simpa [List.getElem?_drop] using this
              have d1 : xs.toList.drop (n + 1) = us := by
                have := congrArg List.tail hu
                rwa [List.tail_drop] at this
              have d2 : ys.toList.drop (n + 1) = vs := by
                have := congrArg List.tail hv
                rwa [List.tail_drop] at this
              have := ih (n + 1) r cs ds xs ys hr hl' (d1 ▸ hcs) (d2 ▸ hds)
              simp only [Op.eqFields, if_pos hn, Sem.run_bind, ho, run_part_flat hna hex e1, run_part_flat hna hex e2, Result.andThen_ok, heq c d u v h1 hcu hdv, Sem.run_ite, this, Sem.run_pure]
              by_cases hcd : c = d
              · simp [hcd]
              · simp [hcd]
      cases hu : P.underlying f.type with
      | none => rw [hu] at hk'; cases hk'
      | some d =>
        rw [hu] at hk'
        cases d with
        | int k =>
          simp only [opt] at hk'
          cases hr : flatFields P fs (n + 1) with
          | none => rw [hr] at hk'; cases hk'
          | some r =>
            rw [hr] at hk'
            cases hk'
            refine main 0 r rfl hr ?_ (fun d hd => by rw [hu] at hd; cases hd; rfl) ⟨_, hu⟩
            intro c d u v h1 hc hd
            cases c <;> cases d <;> simp [like1] at h1
            simp only [Rd] at hc hd
            subst h1 hc hd
            rw [run_equalIn_int w 9998 f.type _ k _ _ hu]
            congr 1
            rw [Bool.eq_iff_iff]; simp
        | string =>
          simp only [opt] at hk'
          cases hr : flatFields P fs (n + 1) with
          | none => rw [hr] at hk'; cases hk'
          | some r =>
            rw [hr] at hk'
            cases hk'
            refine main 1 r rfl hr ?_ (fun d hd => by rw [hu] at hd; cases hd; rfl) ⟨_, hu⟩
            intro c d u v h1 hc hd
            cases c <;> cases d <;> simp [like1] at h1
            simp only [Rd] at hc hd
            subst hc hd
            rw [run_equalIn_string w 9998 f.type _ _ hu, str_eq_iff]
            congr 1
            rw [Bool.eq_iff_iff]; simp
        | bool =>
          simp only [opt] at hk'
          cases hr : flatFields P fs (n + 1) with
          | none => rw [hr] at hk'; cases hk'
          | some r =>
            rw [hr] at hk'
            cases hk'
            refine main 2 r rfl hr ?_ (fun d hd => by rw [hu] at hd; cases hd; rfl) ⟨_, hu⟩
            intro c d u v h1 hc hd
            cases c <;> cases d <;> simp [like1] at h1
            simp only [Rd] at hc hd
            subst hc hd
            rw [run_equalIn_bool w 9998 f.type _ _ hu]
            congr 1
            rw [Bool.eq_iff_iff]; simp
        | _ => cases hk'

theorem out_eqs {K : AV → Sto → Prop} (hr : Rel cx env σ vals a w) (neg : Bool) (ks : List Nat) (t u : TypeId) (x y : Operand) 
    (hK : match evF env x, evF env y with
      | .pv x, .pv y => match x, y with
        | .agg a, .agg b => match likeB ks a b with
          | true => match neg with
            | false => cmpK (a = b) fun r => K (.pv r) σ
            | true => cmpK (a ≠ b) fun r => K (.pv r) σ
          | false => False
        | _, _ => False
      | _, _ => False)
    (ho : o.op = .binOp (if neg then .neq else .eql) t x y u) (fs : Array Field) (ht : cx.P.underlying t = some (.struct fs))
    (hk : flatFields cx.P fs.toList 0 = some ks) (hs : cx.P.stoodInHeld t = false) (hg : cx.P.eqGuardType cx.P.depth t = false) : Out cx env a w o K := by
  have hx := hr.ev x
  have hy := hr.ev y
  revert hK hx hy
  cases evF env x with
  | pv px =>
    cases evF env y with
    | pv py =>
      cases px with
      | agg p =>
        cases py with
        | agg q =>
          intro hK hx hy
          simp only [RA, Rd] at hx hy
          obtain ⟨_, xs, hx, hx'⟩ := hx
          obtain ⟨_, ys, hy, hy'⟩ := hy
          have hf : cx.P.fieldsOf t = fs := by simp [Program.fieldsOf, ht]
          cases hl : likeB ks p q with
          | false => simp only [hl] at hK
          | true =>
            simp only [hl] at hK
            have hrun := run_eqFields (P := cx.P) fs.toList 0 ks p q xs ys hk hl (by simpa using hx') (by simpa using hy')
            have hrun2 : (Op.equalIn 10000 t (.agg xs) (.agg ys)).run cx.P w = .ok (decide (p = q)) w := by
              rw [run_equalIn_struct w 9999 t xs ys (by rw [hf]; exact ht) hs, hf]; exact hrun
            cases neg with
            | false =>
              refine Out.run (v := .bool (decide (p = q))) ?_ hr (av := .pv (.bool (decide (p = q)))) (by simp only [RA, Rd]) (hK _ (by simp))
              simp [execOp, ho, hx, hy, run_eqGuard_agg w _ t _ _ xs ys hg, run_eql_struct, hrun2]
            | true =>
              refine Out.run (v := .bool (!decide (p = q))) ?_ hr (av := .pv (.bool (!decide (p = q)))) (by simp only [RA, Rd]) (hK _ (by simp))
              simp [execOp, ho, hx, hy, run_eqGuard_agg w _ t _ _ xs ys hg, run_neq_struct, hrun2]
        | _ => intro hK; exact hK.elim
      | _ => intro hK; cases py <;> exact hK.elim
    | _ => intro hK; exact hK.elim
  | _ => intro hK; exact hK.elim
end
end Go.Dv
end
section
/-
  The operations that read: lengths, indexes, cuts, conversions, loads.
-/
set_option linter.unusedSimpArgs false
namespace Go.Dv
open Go.RowKit

/-- The value is a slice that reads as these elements. -/
def SlV (ok : Nat → Prop) (w : World) (sz : Nat) (els : List PV) (v : Value) : Prop :=
  ∃ a c, v = .slice a els.length c ∧ els.length ≤ c ∧ c ≤ maxLen ∧ (els = [] ∨ ∃ b o, a = some ⟨b, o, none⟩ ∧ RdRow ok w b sz o els)

theorem addr_add (b o n : Nat) : (⟨b, o, none⟩ : Addr).add n = ⟨b, o + n, none⟩ := by
  unfold Addr.add; split
  · rename_i h; subst h; rfl
  · rfl

section
variable {cx : Cx} {env : Env} {σ : Sto} {vals : List Value} {a : Act} {w : World} {o : Oper}

theorem slV_of_rd {ok : Nat → Prop} {sz : Nat} {els : List PV} {v : Value} (h : Rd ok w (.sl sz els) v) : SlV ok w sz els v := by
  simp only [Rd] at h
  obtain ⟨a, c, h1, h2, h3, h4⟩ := h
  exact ⟨a, c, h1, h2, h3, h4.imp id fun ⟨b, o, h5, _, h6⟩ => ⟨b, o, h5, h6⟩⟩

theorem slV_of_row {e : TypeId} {sz : Nat} {ap : Bool} {els : List PV} {v : Value} (h : RB cx σ vals w (.row e sz ap els) v) : SlV (Ok cx σ vals w) w sz els v := by
  obtain ⟨hsz, cells, h1, h2, h3, h4⟩ := h
  rcases h1.2 with ⟨rfl, h5⟩ | ⟨g, cap, cur, fr, rfl, h5, h6, h7, h8, h9, h10, h11⟩
  · have : els = [] := List.eq_nil_of_length_eq_zero h5
    subst this
    exact ⟨none, 0, rfl, Nat.le_refl _, by simp [maxLen], .inl rfl⟩
  · refine ⟨_, cap, rfl, h7, h8, .inr ⟨g, 0, rfl, (rdRow_iff g sz els 0).2 ⟨h2, (rdCs_iff g _ 0).2 ⟨h3, cells, h4, fun j u hu => ?_⟩⟩⟩⟩
    have hj : cur[j]? = some u := by
      rw [← h10, List.getElem?_take] at hu
      split at hu
      · simpa using hu
      · cases hu
    simp [World.cell?, h6, hj]

theorem getElem?_of {α : Type} {l : List α} {i : Nat} {x y : α} (h : l[i]? = some x) (h' : l[i]? = some y) : x = y := by rw [h] at h'; exact Option.some.inj h'

theorem RelS.val (h : RelS cx σ vals w) {i : Nat} {s : Blk} (hi : σ[i]? = some s) : ∃ v, vals[i]? = some v ∧ RB cx σ vals w s v := by
  have hl : i < vals.length := by rw [h.len]; exact (List.getElem?_eq_some_iff.1 hi).1
  exact ⟨vals[i], List.getElem?_eq_getElem hl, h.sto i s _ hi (List.getElem?_eq_getElem hl)⟩

theorem rdRow_drop {ok : Nat → Prop} {b sz : Nat} (xs ys : List PV) : ∀ o, RdRow ok w b sz o (xs ++ ys) → RdRow ok w b sz (o + xs.length * sz) ys := by
  intro o h
  rw [rdRow_iff] at h ⊢
  obtain ⟨h1, h2⟩ := h
  rw [List.flatMap_append, rdCs_append, flat_length sz xs (fun x hx => h1 x (by simp [hx]))] at h2
  exact ⟨fun x hx => h1 x (by simp [hx]), h2.2⟩

theorem rdRow_take {ok : Nat → Prop} {b sz : Nat} (xs ys : List PV) : ∀ o, RdRow ok w b sz o (xs ++ ys) → RdRow ok w b sz o xs := by
  intro o h
  rw [rdRow_iff] at h ⊢
  obtain ⟨h1, h2⟩ := h
  rw [List.flatMap_append, rdCs_append] at h2
  exact ⟨fun x hx => h1 x (by simp [hx]), h2.1⟩

theorem rdRow_cut {ok : Nat → Prop} {b sz : Nat} (l h : Nat) (xs : List PV) (hlh : l ≤ h) (hx : h ≤ xs.length) (o : Nat) (hr : RdRow ok w b sz o xs) : RdRow ok w b sz (o + l * sz) (cut l h xs) := by
  have e1 : xs = xs.take l ++ (cut l h xs ++ xs.drop h) := by
    unfold cut
    rw [← List.append_assoc]
    have : xs.take l ++ (xs.take h).drop l = xs.take h := by
      have := List.take_append_drop l (xs.take h)
      rwa [List.take_take, Nat.min_eq_left hlh] at this
    rw [this, List.take_append_drop]
  rw [e1] at hr
  have := rdRow_drop _ _ o hr
  rw [List.length_take, Nat.min_eq_left (by omega)] at this
  exact rdRow_take _ _ _ this

theorem length_cut {α : Type} (l h : Nat) (xs : List α) (hx : h ≤ xs.length) : (cut l h xs).length = h - l := by
  unfold cut; rw [List.length_drop, List.length_take, Nat.min_eq_left hx]

/-- A part of an entry: its elements, and how they lie. -/
theorem win_spec (hr : RelS cx σ vals w) {id sz lo n : Nat} {v : Value} (hv : RA (Ok cx σ vals w) σ vals w (.sub id sz lo n) v) {b : Blk} (hb : σ[id]? = some b) {K : List PV → Prop} (h : winK sz lo n b K) :
    ∃ els, K els ∧ els.length = n ∧ (∀ K2 : List PV → Prop, K2 els → winK sz lo n b K2) ∧
      ∃ ad c, v = .slice ad n c ∧ n ≤ c ∧ c ≤ maxLen ∧ (els = [] ∨ ∃ g, ad = some ⟨g, lo * sz, none⟩ ∧ RdRow (Ok cx σ vals w) w g sz (lo * sz) els ∧
        ((∃ e ap els0 u, b = .row e sz ap els0 ∧ vals[id]? = some u ∧ blkOf u = some g) ∨ (Ok cx σ vals w g ∧ ∃ els0, b = .fz (.sl sz els0)))) ∧ (∃ e ap els0, b = .row e sz ap els0 ∧ els = cut lo (lo + n) els0 ∧ lo + n ≤ els0.length ∨ b = .fz (.sl sz els0) ∧ els = cut lo (lo + n) els0 ∧ lo + n ≤ els0.length) := by
  obtain ⟨u, hu, hrb⟩ := hr.val hb
  simp only [RA] at hv
  obtain ⟨_, ad, c, rfl, h2, h3, h4⟩ := hv
  have main : ∀ els0 : List PV, lo + n ≤ els0.length → (∀ g n0 c0, u = .slice (some ⟨g, 0, none⟩) n0 c0 → 0 < n → RdRow (Ok cx σ vals w) w g sz 0 els0 ∧ ((∃ e ap els0 u, b = .row e sz ap els0 ∧ vals[id]? = some u ∧ blkOf u = some g) ∨ (Ok cx σ vals w g ∧ ∃ els0, b = .fz (.sl sz els0)))) → K (cut lo (lo + n) els0) → (∀ K2 : List PV → Prop, K2 (cut lo (lo + n) els0) → winK sz lo n b K2) →
      (∃ e ap els0', b = .row e sz ap els0' ∧ cut lo (lo + n) els0 = cut lo (lo + n) els0' ∧ lo + n ≤ els0'.length ∨ b = .fz (.sl sz els0') ∧ cut lo (lo + n) els0 = cut lo (lo + n) els0' ∧ lo + n ≤ els0'.length) →
      ∃ els, K els ∧ els.length = n ∧ (∀ K2 : List PV → Prop, K2 els → winK sz lo n b K2) ∧
      ∃ ad' c', Value.slice ad n c = .slice ad' n c' ∧ n ≤ c' ∧ c' ≤ maxLen ∧ (els = [] ∨ ∃ g, ad' = some ⟨g, lo * sz, none⟩ ∧ RdRow (Ok cx σ vals w) w g sz (lo * sz) els ∧
        ((∃ e ap els0 u, b = .row e sz ap els0 ∧ vals[id]? = some u ∧ blkOf u = some g) ∨ (Ok cx σ vals w g ∧ ∃ els0, b = .fz (.sl sz els0)))) ∧ (∃ e ap els0, b = .row e sz ap els0 ∧ els = cut lo (lo + n) els0 ∧ lo + n ≤ els0.length ∨ b = .fz (.sl sz els0) ∧ els = cut lo (lo + n) els0 ∧ lo + n ≤ els0.length) := by
    intro els0 hle hg hk hk2 hb2
    refine ⟨_, hk, by rw [length_cut _ _ _ hle]; omega, hk2, ad, c, rfl, h2, h3, ?_, hb2⟩
    rcases h4 with rfl | ⟨g, n0, c0, h5, h6⟩
    · left; simp [cut]
    · by_cases hn : n = 0
      · subst hn; left; simp [cut]
      rw [hu] at h5; cases h5
      obtain ⟨f1, f2⟩ := hg g n0 c0 rfl (by omega)
      right
      refine ⟨g, h6, ?_, f2⟩
      have := rdRow_cut lo (lo + n) els0 (by omega) hle 0 f1
      rwa [Nat.zero_add] at this
  cases b with
  | row e s ap els0 =>
    replace h : (match Nat.beq s sz with | true => lo + n ≤ els0.length ∧ K (cut lo (lo + n) els0) | false => False) := h
    cases hs : Nat.beq s sz with
    | false => rw [hs] at h; exact h.elim
    | true =>
      rw [hs] at h
      have := Nat.eq_of_beq_eq_true hs
      subst this
      refine main els0 h.1 (fun g n0 c0 hg hn => ⟨?_, .inl ⟨_, _, _, u, rfl, hu, by rw [hg]; rfl⟩⟩) h.2 (fun K2 h2 => ?_) ⟨e, ap, els0, .inl ⟨rfl, rfl, h.1⟩⟩
      · obtain ⟨ad2, c2, g1, _, _, g4⟩ := slV_of_row hrb
        rw [hg] at g1
        cases g1
        rcases g4 with g4 | ⟨b', o', g5, g6⟩
        · subst g4; have := h.1; simp at this; omega
        · cases g5; exact g6
      · show (match Nat.beq s s with | true => lo + n ≤ els0.length ∧ K2 (cut lo (lo + n) els0) | false => False)
        rw [hs]; exact ⟨h.1, h2⟩
  | fz x =>
    cases x with
    | sl s els0 =>
      replace h : (match Nat.beq s sz with | true => lo + n ≤ els0.length ∧ K (cut lo (lo + n) els0) | false => False) := h
      cases hs : Nat.beq s sz with
      | false => rw [hs] at h; exact h.elim
      | true =>
        rw [hs] at h
        have := Nat.eq_of_beq_eq_true hs
        subst this
        have hrd : Rd (Ok cx σ vals w) w (.sl s els0) u := hrb
        simp only [Rd] at hrd
        obtain ⟨ad2, c2, g1, _, _, g4⟩ := hrd
        have hk := fun (g n0 c0 : Nat) (hg : u = .slice (some ⟨g, 0, none⟩) n0 c0) (hn : 0 < n) => (show RdRow (Ok cx σ vals w) w g s 0 els0 ∧ Ok cx σ vals w g by
          rw [hg] at g1
          cases g1
          rcases g4 with g4 | ⟨b', o', g5, g6, g7⟩
          · subst g4; have := h.1; simp at this; omega
          · cases g5; exact ⟨g7, g6⟩)
        refine main els0 h.1 (fun g n0 c0 hg hn => ⟨(hk g n0 c0 hg hn).1, .inr ⟨(hk g n0 c0 hg hn).2, _, rfl⟩⟩) h.2 (fun K2 h2 => ?_) ⟨0, false, els0, .inr ⟨rfl, rfl, h.1⟩⟩
        show (match Nat.beq s s with | true => lo + n ≤ els0.length ∧ K2 (cut lo (lo + n) els0) | false => False)
        rw [hs]; exact ⟨h.1, h2⟩
    | _ => exact h.elim
  | _ => exact h.elim

theorem rowK_spec (hr : RelS cx σ vals w) {av : AV} {v : Value} (hv : RA (Ok cx σ vals w) σ vals w av v) {K : Nat → List PV → Prop} (h : rowK σ av K) :
    ∃ sz els, SlV (Ok cx σ vals w) w sz els v ∧ K sz els := by
  cases av with
  | pv x =>
    simp only [RA] at hv
    cases x with
    | sl sz els => exact ⟨sz, els, slV_of_rd hv, h⟩
    | nil sz => simp only [Rd] at hv; subst hv; exact ⟨sz, [], ⟨none, 0, rfl, Nat.le_refl _, by simp [maxLen], .inl rfl⟩, h⟩
    | _ => exact h.elim
  | own id =>
    simp only [RA] at hv
    obtain ⟨b, hb, h⟩ := nthK_iff σ id _ h
    obtain ⟨v', hv', hrb⟩ := hr.val hb
    obtain rfl := getElem?_of hv hv'
    cases b with
    | row e sz ap els => exact ⟨sz, els, slV_of_row hrb, h⟩
    | fz x =>
      cases x with
      | sl sz els => exact ⟨sz, els, slV_of_rd hrb, h⟩
      | _ => exact h.elim
    | _ => exact h.elim
  | sub id sz lo n =>
    obtain ⟨b, hb, h⟩ := nthK_iff σ id _ h
    obtain ⟨els, h1, h2, _, ad, c, h4, h5, h6, h7, _⟩ := win_spec hr hv hb h
    refine ⟨sz, els, ⟨ad, c, by rw [h2]; exact h4, by omega, h6, ?_⟩, h1⟩
    exact h7.imp_right fun ⟨g, g1, g2, _⟩ => ⟨g, _, g1, g2⟩
  | _ => exact h.elim

theorem out_lenR {K : AV → Sto → Prop} (hr : Rel cx env σ vals a w) (x : Operand) (t e : TypeId) (c : Call) (ho : o.op = .call c) (hc : c.callee = .builtin .len) (hargs : c.args.toList = [x]) (hat : c.argTypes[0]? = some t)
    (he : cx.P.underlying t = some (.slice e)) (hK : rowK σ (evF env x) fun _ els => els.length ≤ 9223372036854775807 → K (.pv (.int .i64 els.length)) σ) : Out cx env a w o K := by
  obtain ⟨sz, els, ⟨ad, cc, hv, hle, hml, _⟩, hk⟩ := rowK_spec hr.s (hr.ev x) hK
  have hargs' : c.args = #[x] := by rw [← hargs]
  refine Out.run (v := .int .i64 els.length) ?_ hr (av := .pv (.int .i64 els.length)) (by simp only [RA, Rd]) (hk (by simp only [maxLen] at hml; omega))
  simp [execOp, ho, resolve, hc, invoke, builtin, hargs', hv, Builtin.len_, hat, run_underlying he, goInt]

theorem out_lenS {K : AV → Sto → Prop} (hr : Rel cx env σ vals a w) (x : Operand) (t : TypeId) (c : Call) (ho : o.op = .call c) (hc : c.callee = .builtin .len) (hargs : c.args.toList = [x]) (hat : c.argTypes[0]? = some t)
    (hs : cx.P.underlying t = some .string) (hK : match evF env x with
      | .pv x => match x with
        | .str l => K (.pv (.int .i64 l.length)) σ
        | _ => False
      | _ => False) : Out cx env a w o K := by
  have hx := hr.ev x
  have hargs' : c.args = #[x] := by rw [← hargs]
  revert hK hx
  cases evF env x with
  | pv p =>
    cases p with
    | str l =>
      intro hK hx
      simp only [RA, Rd] at hx
      refine Out.run (v := .int .i64 l.length) ?_ hr (av := .pv (.int .i64 l.length)) (by simp only [RA, Rd]) hK
      have hsz : (⟨l.toArray⟩ : ByteArray).size = l.length := rfl
      simp [execOp, ho, resolve, hc, invoke, builtin, hargs', hx, Builtin.len_, hat, run_underlying hs, goInt, hsz]
    | _ => intro hK; exact hK.elim
  | _ => intro hK; exact hK.elim

theorem out_idx {K : AV → Sto → Prop} (hr : Rel cx env σ vals a w) (t : TypeId) (x i : Operand) (ho : o.op = .index t x i) (ht : cx.P.underlying t = some .string)
    (hK : Dv.asInt (evF env i) fun _ i => match evF env x with
      | .pv x => match x with
        | .str l => ∃ b, (0 ≤ i ∧ l[i.toNat]? = some b) ∧ K (.pv (byteP b)) σ
        | _ => False
      | _ => False) : Out cx env a w o K := by
  have hx := hr.ev x
  have hi := hr.ev i
  revert hK hx hi
  cases evF env i with
  | pv pi =>
    cases pi with
    | int k n =>
      cases evF env x with
      | pv px =>
        cases px with
        | str l =>
          rintro ⟨b, ⟨h0, hb⟩, hK⟩ hx hi
          simp only [RA, Rd] at hx hi
          refine Out.run (v := .int .u8 b.toNat) ?_ hr (av := .pv (byteP b)) (by simp only [RA, Rd, byteP]) hK
          have hg : (⟨l.toArray⟩ : ByteArray)[n.toNat]? = some b := by
            obtain ⟨hlt, e⟩ := List.getElem?_eq_some_iff.1 hb
            have hs : n.toNat < (⟨l.toArray⟩ : ByteArray).size := by simpa [ByteArray.size] using hlt
            rw [getElem?_pos (⟨l.toArray⟩ : ByteArray) n.toNat hs]
            congr 1
          simp [execOp, ho, hx, hi, Instr.index, asIntOf, run_underlying ht, h0, hg]
        | _ => intro hK; exact hK.elim
      | _ => intro hK; exact hK.elim
    | _ => intro hK; exact hK.elim
  | _ => intro hK; exact hK.elim

theorem out_mm {K : AV → Sto → Prop} (hr : Rel cx env σ vals a w) (mx : Bool) (x y : Operand) 
    (hK : Dv.asInt (evF env x) fun k a => Dv.asInt (evF env y) fun _ b => match mx with
      | true => ∀ r : Int, r = max a b → K (.pv (.int k r)) σ
      | false => ∀ r : Int, r = min a b → K (.pv (.int k r)) σ)
    (c : Call) (ho : o.op = .call c) (hc : c.callee = .builtin (if mx then .max else .min)) (hargs' : c.args.toList = [x, y]) : Out cx env a w o K := by
  have hx := hr.ev x
  have hy := hr.ev y
  have hargs : c.args = #[x, y] := by rw [← hargs']
  revert hK hx hy
  cases evF env x with
  | pv px =>
    cases px with
    | int k n =>
      cases evF env y with
      | pv py =>
        cases py with
        | int j m =>
          intro hK hx hy
          simp only [RA, Rd] at hx hy
          cases mx with
          | true =>
            refine Out.run (v := .int k (max n m)) ?_ hr (av := .pv (.int k (max n m))) (by simp only [RA, Rd]) (hK _ rfl)
            simp [execOp, ho, resolve, hc, invoke, builtin, hargs, hx, hy, Builtin.max_, Builtin.max2]
            omega
          | false =>
            refine Out.run (v := .int k (min n m)) ?_ hr (av := .pv (.int k (min n m))) (by simp only [RA, Rd]) (hK _ rfl)
            simp [execOp, ho, resolve, hc, invoke, builtin, hargs, hx, hy, Builtin.min_, Builtin.min2]
            omega
        | _ => intro hK; exact hK.elim
      | _ => intro hK; exact hK.elim
    | _ => intro hK; exact hK.elim
  | _ => intro hK; exact hK.elim

theorem out_toInt {K : AV → Sto → Prop} (hr : Rel cx env σ vals a w) (s d : TypeId) (k k0 : IntKind) (x : Operand) (ho : o.op = .convert s d x) (hs : cx.P.underlying s = some (.int k0)) (hd : cx.P.underlying d = some (.int k))
    (hK : Dv.asInt (evF env x) fun _ n => numK k n fun r => K (.pv r) σ) : Out cx env a w o K := by
  have hx := hr.ev x
  revert hK hx
  cases evF env x with
  | pv px =>
    cases px with
    | int j n =>
      intro hK hx
      simp only [RA, Rd] at hx
      refine Out.run (v := .int k (k.wrap n)) ?_ hr (av := .pv (.int k (k.wrap n))) (by simp only [RA, Rd]) (hK _ rfl)
      simp [execOp, ho, hx, convert, run_underlying hs, run_underlying hd, Conv.intToInt]
    | _ => intro hK; exact hK.elim
  | _ => intro hK; exact hK.elim

theorem out_same {K : AV → Sto → Prop} (hr : Rel cx env σ vals a w) (s d : TypeId) (x : Operand) (ho : o.op = .convert s d x) (hs : cx.P.underlying s = some .string) (hd : cx.P.underlying d = some .string)
    (hK : match evF env x with
      | .pv x => match x with
        | .str l => K (.pv (.str l)) σ
        | _ => False
      | _ => False) : Out cx env a w o K := by
  have hx := hr.ev x
  revert hK hx
  cases evF env x with
  | pv px =>
    cases px with
    | str l =>
      intro hK hx
      simp only [RA, Rd] at hx
      refine Out.run (v := .string ⟨l.toArray⟩) ?_ hr (av := .pv (.str l)) (by simp only [RA, Rd]) hK
      simp [execOp, ho, hx, convert, run_underlying hs, run_underlying hd]
    | _ => intro hK; exact hK.elim
  | _ => intro hK; exact hK.elim

theorem flat_bytes (l : List UInt8) : (l.map byteP).flatMap PV.cells = l.map byteP := by
  induction l with
  | nil => rfl
  | cons b l ih => simp only [List.map_cons, List.flatMap_cons, ih, byteP, PV.cells, List.singleton_append]

theorem foldl_push (l : List Int) : ∀ s : ByteArray, (l.foldl (fun r n => r.push (UInt8.ofNat n.toNat)) s).data = s.data ++ (l.map fun n => UInt8.ofNat n.toNat).toArray := by
  induction l with
  | nil => intro s; simp
  | cons n l ih => intro s; rw [List.foldl_cons, ih]; simp [ByteArray.push]

theorem rdL_bytes {ok : Nat → Prop} (l : List UInt8) : ∀ us : List Value, RdL ok w (l.map byteP) us ↔ us = l.map fun b => Value.int .u8 b.toNat := by
  induction l with
  | nil => intro us; simp [RdL]
  | cons b l ih =>
    intro us
    simp only [List.map_cons, RdL, byteP, Rd]
    constructor
    · rintro ⟨v, r, rfl, rfl, h⟩; rw [(ih r).1 h]
    · rintro rfl; exact ⟨_, _, rfl, rfl, (ih _).2 rfl⟩

theorem out_bts {K : AV → Sto → Prop} (hr : Rel cx env σ vals a w) (s d e : TypeId) (x : Operand) (ho : o.op = .convert s d x) (hs : cx.P.underlying s = some (.slice e)) (he : cx.P.underlying e = some (.int .u8)) (hd : cx.P.underlying d = some .string)
    (hK : rowK σ (evF env x) fun _ els => ∃ l : List UInt8, els = l.map byteP ∧ K (.pv (.str l)) σ) : Out cx env a w o K := by
  obtain ⟨sz, els, ⟨ad, c, hv, hle, _, hrow⟩, l, rfl, hK⟩ := rowK_spec hr.s (hr.ev x) hK
  refine Out.run (v := .string ⟨l.toArray⟩) ?_ hr (av := .pv (.str l)) (by simp only [RA, Rd]) hK
  have hrun : (Conv.bytesToString (.slice ad l.length c)).run cx.P w = .ok (.string ⟨l.toArray⟩) w := by
    cases ad with
    | none =>
      rcases hrow with h | ⟨b, o', h, _⟩
      · have : l = [] := by simpa using h
        subst this
        simp [Conv.bytesToString]; rfl
      · cases h
    | some ad =>
      have hl : ∀ j v, (l.map fun b => Value.int .u8 b.toNat)[j]? = some v → w.cell? (ad.add j) = some v := by
        intro j v hj
        rcases hrow with h | ⟨b, o', h, h2⟩
        · have : l = [] := by simpa using h
          subst this; simp at hj
        · cases h
          have h3 := ((rdRow_iff b sz _ o').1 h2).2
          rw [flat_bytes] at h3
          obtain ⟨_, us, h4, h5⟩ := (rdCs_iff b _ o').1 h3
          rw [rdL_bytes] at h4
          subst h4
          rw [addr_add]; exact h5 j v hj
      have := run_loadCells_list (P := cx.P) w ad _ hl
      rw [List.length_map] at this
      rw [show (l.map fun b => Value.int .u8 b.toNat) = (l.map fun b : UInt8 => (b.toNat : Int)).map (Value.int .u8) from by simp] at this
      rw [run_bytesToString w ad l.length c _ this]
      congr 2
      have : ∀ s : ByteArray, s = ⟨s.data⟩ := fun _ => rfl
      rw [this (List.foldl _ _ _), foldl_push]
      congr 1
      simp only [List.append_nil, List.map_map, Array.append_empty]
      have hid : ((fun n : Int => UInt8.ofNat n.toNat) ∘ fun b : UInt8 => (b.toNat : Int)) = id := by funext b; simp
      rw [hid, List.map_id]
      simp
  have hv' : a.eval x = .slice ad l.length c := by simpa using hv
  simp [execOp, ho, hv', convert, run_underlying hs, run_underlying hd, run_underlying he, hrun]

/-! ### Cuts, addresses, loads -/
/-- The two bounds, as the model reckons them. -/
theorem boundsK_spec (P : Program) (isS : Bool) (n cap : Nat) (hnc : n ≤ cap) (lo hi : Option AV) (vlo vhi : Option Value) (hlo : ∀ a, lo = some a → ∃ v, vlo = some v ∧ RA (Ok cx σ vals w) σ vals w a v) (hhi : ∀ a, hi = some a → ∃ v, vhi = some v ∧ RA (Ok cx σ vals w) σ vals w a v)
    (nlo : lo = none → vlo = none) (nhi : hi = none → vhi = none) (K : Nat → Nat → Prop) (h : boundsK n lo hi K) :
    ∃ l u, l ≤ u ∧ u ≤ n ∧ K l u ∧ (Instr.sliceBounds isS n cap vlo vhi none).run P w = .ok (l, u, cap) w := by
  -- the upper bound first
  have up : ∀ K' : Nat → Prop, upK n hi K' → ∃ u : Nat, u ≤ n ∧ K' u ∧ ((hi = none ∧ u = n) ∨ ∃ k m, vhi = some (.int k m) ∧ 0 ≤ m ∧ m.toNat = u) := by
    intro K' hk
    cases hi with
    | none => exact ⟨n, Nat.le_refl _, hk, .inl ⟨rfl, rfl⟩⟩
    | some a =>
      cases a with
      | pv x =>
        cases x with
        | int k m =>
          obtain ⟨v, hv, hra⟩ := hhi _ rfl
          simp only [RA, Rd] at hra
          subst hra
          have h1 : 0 ≤ m := hk.1.1
          have h2 : m ≤ (n : Int) := hk.1.2
          exact ⟨m.toNat, by omega, hk.2, .inr ⟨k, m, hv, hk.1.1, rfl⟩⟩
        | _ => exact hk.elim
      | _ => exact hk.elim
  cases lo with
  | none =>
    obtain ⟨u, hu, hk, hu2⟩ := up (fun h => K 0 h) h
    have := nlo rfl
    subst this
    refine ⟨0, u, Nat.zero_le _, hu, hk, ?_⟩
    rcases hu2 with ⟨h1, rfl⟩ | ⟨k, m, rfl, h2, h3⟩
    · have := nhi h1; subst this; simp [Instr.sliceBounds]
    · have hm : m ≤ (cap : Int) := by have := Int.toNat_of_nonneg h2; omega
      simp [Instr.sliceBounds, Instr.sliceBound, asIntOf, h2, hm, h3]
  | some a =>
    cases a with
    | pv x =>
      cases x with
      | int k m =>
        obtain ⟨u, hu, hk, hu2⟩ := up (fun h => (0 ≤ m ∧ m ≤ h) ∧ K m.toNat h) h
        obtain ⟨v, hv, hra⟩ := hlo _ rfl
        simp only [RA, Rd] at hra
        subst hra hv
        refine ⟨m.toNat, u, by omega, hu, hk.2, ?_⟩
        rcases hu2 with ⟨h1, rfl⟩ | ⟨k, m', rfl, h2, h3⟩
        · have := nhi h1; subst this
          simp [Instr.sliceBounds, Instr.sliceBound, asIntOf, hk.1.1, hk.1.2]
        · have hm : m' ≤ (cap : Int) := by have := Int.toNat_of_nonneg h2; omega
          simp [Instr.sliceBounds, Instr.sliceBound, asIntOf, h2, hm, h3, hk.1.1, hk.1.2]
      | _ => exact h.elim
    | _ => exact h.elim

end
end Go.Dv
end
section
/-
  Cuts, addresses, loads, parts of values.
-/
set_option linter.unusedSimpArgs false
namespace Go.Dv
open Go.RowKit
section
variable {cx : Cx} {env : Env} {σ : Sto} {vals : List Value} {a : Act} {w : World} {o : Oper}

theorem extract_mk (l : List UInt8) (i j : Nat) : (⟨l.toArray⟩ : ByteArray).extract i j = ⟨(cut i j l).toArray⟩ := by
  have h : (ByteArray.extract ⟨l.toArray⟩ i j).data.toList = (l.drop i).take (j - i) := by
    rw [ByteArray.extract_mk]
  have ext : ∀ s t : ByteArray, s.data.toList = t.data.toList → s = t := by rintro ⟨⟨x⟩⟩ ⟨⟨y⟩⟩ h; simp at h; subst h; rfl
  refine ext _ _ ?_
  rw [h]
  simp [cut, List.drop_take]

/-- The block that a live entry names lies in the heap, from the call's own on. -/
theorem RB.block {s : Blk} {v : Value} (h : RB cx σ vals w s v) (hl : s.live = true) {b : Nat} (hb : blkOf v = some b) : cx.own b ∧ b < w.heap.size := by
  cases s with
  | dead => cases hl
  | fz x => cases hl
  | row e sz app els =>
    obtain ⟨_, cells, h1, _⟩ := h
    rcases h1.2 with ⟨rfl, _⟩ | ⟨g, cap, cur, fr, rfl, h2, h3, _⟩
    · cases hb
    · cases hb; exact ⟨h2, (Array.getElem?_eq_some_iff.1 h3).1⟩
  | box e cs =>
    obtain ⟨b', arr, rfl, h1, h2, _⟩ := h
    cases hb
    exact ⟨h1, (Array.getElem?_eq_some_iff.1 h2).1⟩

/-- An entry is read alone from here on. -/
theorem RelS.freezeTo (hr : RelS cx σ vals w) {id : Nat} {s0 : Blk} {x : PV} (hi : σ[id]? = some s0) (hl0 : s0.live = true)
    (hx : ∀ (ok' : Nat → Prop) (v : Value), vals[id]? = some v → RB cx σ vals w s0 v → (∀ b, Ok cx σ vals w b → ok' b) → (∀ b, blkOf v = some b → ok' b) → Rd ok' w x v) (hbx : (Blk.fz x).boxy = true → s0.boxy = true := by intro h; first | exact h | (cases h)) :
    RelS cx (σ.set id (.fz x)) vals w ∧ Keep cx σ vals w (σ.set id (.fz x)) vals w := by
  obtain ⟨v, hv, hb⟩ := hr.val hi
  have hlt := (List.getElem?_eq_some_iff.1 hi).1
  have hg := fun j => set_get (x := Blk.fz x) hlt j
  have hk : Keep cx σ vals w (σ.set id (.fz x)) vals w := by
    refine ⟨fun _ _ h => h, by simp, fun b hb => ⟨hb.1, hb.2.1, fun hm => hb.2.2 ?_⟩, fun _ _ => rfl, fun i _ e' sz' ap' els' h => ?_, fun i _ s' h hb' => ?_⟩
    · obtain ⟨i, s, u, h1, h2, h3, h4⟩ := hm
      rw [hg] at h1
      split at h1
      · cases h1; cases h2
      · exact ⟨i, s, u, h1, h2, h3, h4⟩
    · rw [hg] at h; split at h
      · cases h
      · exact ⟨ap', els', h⟩
    · rw [hg] at h; split at h
      · rename_i he; subst he; cases h; exact ⟨s0, hi, hbx hb'⟩
      · exact ⟨s', h, hb'⟩
  have hrd : Rd (Ok cx (σ.set id (.fz x)) vals w) w x v := by
    refine hx _ v hv hb hk.ok (fun b hbl => ⟨.inr (hb.block hl0 hbl).1, (hb.block hl0 hbl).2, ?_⟩)
    rintro ⟨i, s, u, g1, g2, g3, g4⟩
    rw [hg] at g1
    split at g1
    · cases g1; cases g2
    · rename_i hne
      exact hr.dis i id s _ u v b (fun e => hne e.symm) g1 hi g2 hl0 g3 hv g4 hbl
  have hfr : Fr cx (σ.set id (.fz x)) vals w := ⟨hr.fr.size, hr.fr.same, fun b hm => hr.fr.mutn b (by
    obtain ⟨i, s, u, g1, g2, g3, g4⟩ := hm
    rw [hg] at g1
    split at g1
    · cases g1; cases g2
    · exact ⟨i, s, u, g1, g2, g3, g4⟩)⟩
  refine ⟨⟨hr.below, hr.one, by simp [hr.len], fun i s u h1 h2 => ?_, fun i j s t u v' b hij h1 h2 h3 h4 h5 h6 => ?_, hfr, hr.pin.keep hk⟩, hk⟩
  · rw [hg] at h1
    split at h1
    · rename_i he
      subst he
      cases h1
      rw [hv] at h2; cases h2
      exact hrd
    · exact hk.rb (hr.sto i s u h1 h2) (fun _ _ _ => rfl)
  · rw [hg] at h1 h2
    split at h1
    · cases h1; cases h3
    · split at h2
      · cases h2; cases h4
      · exact hr.dis i j s t u v' b hij h1 h2 h3 h4 h5 h6

/-- A row is read alone from here on. -/
theorem RelS.freeze (hr : RelS cx σ vals w) {id : Nat} {e : TypeId} {sz : Nat} {ap : Bool} {els : List PV} (hi : σ[id]? = some (.row e sz ap els)) :
    RelS cx (σ.set id (.fz (.sl sz els))) vals w ∧ Keep cx σ vals w (σ.set id (.fz (.sl sz els))) vals w := by
  refine hr.freezeTo hi rfl fun ok' v _ hb hok hbl => ?_
  obtain ⟨ad, c, h1, h2, h3, h4⟩ := slV_of_row hb
  simp only [Rd]
  refine ⟨ad, c, h1, h2, h3, h4.imp_right ?_⟩
  rintro ⟨b, o', rfl, hrow⟩
  exact ⟨b, o', rfl, hbl b (by rw [h1]; rfl), RdRow.mono hok (fun _ _ _ => rfl) b sz o' (fun _ => rfl) els hrow⟩

theorem Rel.keep {σ' : Sto} {vals' : List Value} {w' : World} (hr : Rel cx env σ vals a w) (hs : RelS cx σ' vals' w') (hk : Keep cx σ vals w σ' vals' w') : Rel cx env σ' vals' a w' :=
  ⟨hs, fun p => hk.ra _ _ (hr.env p), hr.defers, fun x v hq => hk.ra _ _ (hr.gh x v hq), hr.lo⟩

theorem out_pick {K : AV → Sto → Prop} (hr : Rel cx env σ vals a w) (c x y : Operand) (ho : o.op = .pick c x y)
    (hK : match evF env c with
      | .pv c => match c with
        | .bool c => match c with
          | true => K (evF env x) σ
          | false => K (evF env y) σ
        | _ => False
      | _ => False) : Out cx env a w o K := by
  have hc := hr.ev c
  revert hK hc
  cases evF env c with
  | pv p =>
    cases p with
    | bool b =>
      intro hK hc
      simp only [RA, Rd] at hc
      cases b with
      | true => exact Out.run (v := a.eval x) (by simp [execOp, ho, hc, asBool]) hr (hr.ev x) hK
      | false => exact Out.run (v := a.eval y) (by simp [execOp, ho, hc, asBool]) hr (hr.ev y) hK
    | _ => intro hK; exact hK.elim
  | _ => intro hK; exact hK.elim

/-- A cut of a row that lies there for good. -/
theorem rd_cut {sz : Nat} {els : List PV} {ad : Option Addr} {c l h : Nat} (hlh : l ≤ h) (hx : h ≤ els.length) (hs : Rd (Ok cx σ vals w) w (.sl sz els) (.slice ad els.length c)) :
    Rd (Ok cx σ vals w) w (.sl sz (cut l h els)) (.slice (if c = l then ad else ad.map (·.add (l * sz))) (h - l) (c - l)) := by
  simp only [Rd] at hs ⊢
  obtain ⟨ad0, c0, hv, h1, h2, h3⟩ := hs
  cases hv
  refine ⟨_, _, by rw [length_cut _ _ _ hx], by rw [length_cut _ _ _ hx]; omega, by omega, ?_⟩
  rcases h3 with h3 | ⟨b, o, rfl, hok, h4⟩
  · left; subst h3; simp [cut]
  · by_cases hc : c = l
    · left
      exact List.eq_nil_of_length_eq_zero (by rw [length_cut _ _ _ hx]; omega)
    · right
      refine ⟨b, o + l * sz, ?_, hok, rdRow_cut l h els hlh hx o h4⟩
      rw [if_neg hc]; simp [addr_add]

theorem bounds_of (hr : Rel cx env σ vals a w) (lo hi : Option Operand) (isS : Bool) (n cap : Nat) (hn : n ≤ cap) (K' : Nat → Nat → Prop) (hk : boundsK n (lo.map (evF env)) (hi.map (evF env)) K') :
    ∃ l u, l ≤ u ∧ u ≤ n ∧ K' l u ∧ (Instr.sliceBounds isS n cap (lo.map a.eval) (hi.map a.eval) none).run cx.P w = .ok (l, u, cap) w := by
  refine boundsK_spec (cx := cx) (σ := σ) (vals := vals) cx.P isS n cap hn _ _ _ _ ?_ ?_ ?_ ?_ K' hk
  · intro av h; cases lo with
    | none => cases h
    | some z => cases h; exact ⟨_, rfl, hr.ev z⟩
  · intro av h; cases hi with
    | none => cases h
    | some z => cases h; exact ⟨_, rfl, hr.ev z⟩
  · intro h; cases lo with
    | none => rfl
    | some z => cases h
  · intro h; cases hi with
    | none => rfl
    | some z => cases h

theorem out_slcS {K : AV → Sto → Prop} (hr : Rel cx env σ vals a w) (t : TypeId) (x : Operand) (lo hi : Option Operand) (ho : o.op = .slice t x lo hi none) (ht : cx.P.underlying t = some .string)
    (hK : match evF env x with
      | .pv x => match x with
        | .str s => boundsK s.length (lo.map (evF env)) (hi.map (evF env)) fun l h => K (.pv (.str (cut l h s))) σ
        | _ => False
      | _ => False) : Out cx env a w o K := by
  have hx := hr.ev x
  revert hK hx
  cases evF env x with
  | pv p =>
    cases p with
    | str s =>
      intro hK hx
      simp only [RA, Rd] at hx
      obtain ⟨l, u, h1, h2, h3, h4⟩ := bounds_of hr lo hi false s.length s.length (Nat.le_refl _) _ hK
      refine Out.run (v := .string ⟨(cut l u s).toArray⟩) ?_ hr (av := .pv (.str (cut l u s))) (by simp only [RA, Rd]) h3
      have hsz : (⟨s.toArray⟩ : ByteArray).size = s.length := rfl
      simp [execOp, ho, hx, Instr.sliceAt, Instr.slice, run_underlying ht, hsz, h4, extract_mk]
    | _ => intro hK; exact hK.elim
  | _ => intro hK; exact hK.elim

theorem out_slcR {K : AV → Sto → Prop} (hr : Rel cx env σ vals a w) (t e : TypeId) (i : TypeInfo) (x : Operand) (lo hi : Option Operand) (ho : o.op = .slice t x lo hi none) (he : cx.P.underlying t = some (.slice e)) (hie : cx.P.info? e = some i)
    (hK : slcRK σ i.size (evF env x) (lo.map (evF env)) (hi.map (evF env)) K) : Out cx env a w o K := by
  have hx := hr.ev x
  have sl : ∀ (n : Nat) (ad : Option Addr) (c : Nat), a.eval x = .slice ad n c → ∀ l u,
      (Instr.sliceBounds true n c (lo.map a.eval) (hi.map a.eval) none).run cx.P w = .ok (l, u, c) w →
      (execOp a.eval o).run cx.P w = .ok (.value (.slice (if c = l then ad else ad.map (·.add (l * i.size))) (u - l) (c - l))) w := by
    intro n ad c hv l u hb
    simp [execOp, ho, hv, Instr.sliceAt, Instr.slice, run_underlying he, hb, sizeOf, typeInfo, hie]
  have good : ∀ (els : List PV) (v : Value), v = a.eval x → Rd (Ok cx σ vals w) w (.sl i.size els) v → boundsK els.length (lo.map (evF env)) (hi.map (evF env)) (fun l h => K (.pv (.sl i.size (cut l h els))) σ) → Out cx env a w o K := by
    intro els v hv hrd hk
    have hrd' := hrd
    simp only [Rd] at hrd'
    obtain ⟨ad, c, hv2, hle, _⟩ := hrd'
    obtain ⟨l, u, h1, h2, h3, h4⟩ := bounds_of hr lo hi true els.length c hle _ hk
    subst hv2
    exact Out.run (sl _ ad c hv.symm l u h4) hr (by simp only [RA]; exact rd_cut h1 h2 hrd) h3
  cases hev : evF env x with
  | pv p =>
    rw [hev] at hK hx
    simp only [RA] at hx
    cases p with
    | sl s els =>
      replace hK : (match Nat.beq s i.size with
        | true => boundsK els.length (lo.map (evF env)) (hi.map (evF env)) fun l h => K (.pv (.sl i.size (cut l h els))) σ
        | false => False) := hK
      cases hs : Nat.beq s i.size with
      | false => rw [hs] at hK; exact hK.elim
      | true =>
        rw [hs] at hK
        have := Nat.eq_of_beq_eq_true hs
        subst this
        exact good els _ rfl hx hK
    | nil s =>
      simp only [Rd] at hx
      obtain ⟨l, u, h1, h2, h3, h4⟩ := bounds_of hr lo hi true 0 0 (Nat.le_refl _) (fun _ _ => K (.pv (.nil s)) σ) hK
      obtain ⟨rfl, rfl⟩ : l = 0 ∧ u = 0 := ⟨by omega, by omega⟩
      exact Out.run (sl 0 none 0 hx 0 0 h4) hr (av := .pv (.nil s)) (by simp [RA, Rd]) h3
    | _ => exact hK.elim
  | own id =>
    rw [hev] at hK hx
    simp only [RA] at hx
    obtain ⟨b, hb, hk⟩ := nthK_iff σ id _ hK
    obtain ⟨v', hv', hrb⟩ := hr.s.val hb
    obtain rfl := getElem?_of hx hv'
    cases b with
    | row e' s ap els =>
      replace hk : (match Nat.beq s i.size with
        | true => (boundsK els.length (lo.map (evF env)) (hi.map (evF env)) fun l h => setK σ id (.fz (.sl i.size els)) fun σ => K (.pv (.sl i.size (cut l h els))) σ) ∨ boundsK els.length (lo.map (evF env)) (hi.map (evF env)) fun l h => K (.sub id i.size l (h - l)) σ
        | false => False) := hk
      cases hs : Nat.beq s i.size with
      | false => rw [hs] at hk; exact hk.elim
      | true =>
        rw [hs] at hk
        have := Nat.eq_of_beq_eq_true hs
        subst this
        rcases hk with hk | hk
        rotate_left
        · obtain ⟨_, cells, ⟨_, hown⟩, _⟩ := hrb
          rcases hown with ⟨hv2, h0⟩ | ⟨g, cap, cur, fr, hv2, _, _, hle, hcm, _⟩
          · obtain ⟨l, u, h1, h2, h3, h4⟩ := bounds_of hr lo hi true els.length 0 (by omega) _ hk
            obtain ⟨rfl, rfl⟩ : l = 0 ∧ u = 0 := ⟨by omega, by omega⟩
            rw [h0] at h4
            refine Out.run (sl 0 none 0 hv2 0 0 h4) hr (av := .sub id i.size 0 (0 - 0)) ?_ h3
            simp only [RA]
            exact ⟨(List.getElem?_eq_some_iff.1 hb).1, _, _, rfl, Nat.le_refl _, by simp [maxLen], .inl trivial⟩
          · obtain ⟨l, u, h1, h2, h3, h4⟩ := bounds_of hr lo hi true els.length cap hle _ hk
            refine Out.run (sl _ _ cap hv2 l u h4) hr (av := .sub id i.size l (u - l)) ?_ h3
            simp only [RA]
            refine ⟨(List.getElem?_eq_some_iff.1 hb).1, _, _, rfl, by omega, by omega, ?_⟩
            by_cases hlu : u - l = 0
            · exact .inl hlu
            · refine .inr ⟨g, els.length, cap, by rw [hx, hv2], ?_⟩
              rw [if_neg (by omega)]; simp [addr_add]
        obtain ⟨hs2, hk2⟩ := hr.s.freeze hb
        have hr2 : Rel cx env (σ.set id (.fz (.sl i.size els))) vals a w := hr.keep hs2 hk2
        have hrd : Rd (Ok cx (σ.set id (.fz (.sl i.size els))) vals w) w (.sl i.size els) (a.eval x) :=
          hs2.sto id (.fz (.sl i.size els)) _ (by rw [set_get (List.getElem?_eq_some_iff.1 hb).1]; simp) hx
        have hrd' := hrd
        simp only [Rd] at hrd'
        obtain ⟨ad, c, hv2, hle, _⟩ := hrd'
        obtain ⟨l, u, h1, h2, h3, h4⟩ := bounds_of hr2 lo hi true els.length c hle _ hk
        obtain ⟨_, h3⟩ := setK_spec _ _ _ _ h3
        rw [hv2] at hrd
        exact Out.run (sl _ ad c hv2 l u h4) hr2 (by simp only [RA]; exact rd_cut h1 h2 hrd) h3
    | fz z =>
      cases z with
      | sl s els =>
        replace hk : (match Nat.beq s i.size with
          | true => boundsK els.length (lo.map (evF env)) (hi.map (evF env)) fun l h => K (.pv (.sl i.size (cut l h els))) σ
          | false => False) := hk
        cases hs : Nat.beq s i.size with
        | false => rw [hs] at hk; exact hk.elim
        | true =>
          rw [hs] at hk
          have := Nat.eq_of_beq_eq_true hs
          subst this
          exact good els _ rfl hrb hk
      | _ => exact hk.elim
    | _ => exact hk.elim
  | sub id s lo0 n =>
    rw [hev] at hK hx
    replace hK : (match Nat.beq s i.size with
      | true => boundsK n (lo.map (evF env)) (hi.map (evF env)) fun l h => K (.sub id i.size (lo0 + l) (h - l)) σ
      | false => False) := hK
    cases hs : Nat.beq s i.size with
    | false => rw [hs] at hK; exact hK.elim
    | true =>
      rw [hs] at hK
      have := Nat.eq_of_beq_eq_true hs
      subst this
      simp only [RA] at hx
      obtain ⟨hid, ad, c, hv2, hle, hcm, hor⟩ := hx
      obtain ⟨l, u, h1, h2, h3, h4⟩ := bounds_of hr lo hi true n c hle _ hK
      refine Out.run (sl _ _ c hv2 l u h4) hr (av := .sub id i.size (lo0 + l) (u - l)) ?_ h3
      simp only [RA]
      refine ⟨hid, _, _, rfl, by omega, by omega, ?_⟩
      by_cases hlu : u - l = 0
      · exact .inl hlu
      · rcases hor with h0 | ⟨g, n0, c0, f1, rfl⟩
        · omega
        · refine .inr ⟨g, n0, c0, f1, ?_⟩
          rw [if_neg (by omega)]; simp [addr_add, Nat.add_mul]
  | _ => rw [hev] at hK; exact hK.elim

/-- The address of a value that reads as these cells. -/
theorem rd_cptr {ok : Nat → Prop} {b n : Nat} {y : PV} (hb : ok b) (h : RdCs ok w b n y.cells) : Rd ok w (.cptr y) (.pointer (some ⟨b, n, none⟩)) := by
  cases y <;> simp only [PV.cells, RdCs, Rd] at h ⊢ <;> first | exact ⟨b, n, rfl, hb, h⟩ | exact ⟨b, n, rfl, hb, h.1.1, h.1.2⟩

theorem rd_cptr_inv {ok : Nat → Prop} {y : PV} {v : Value} (h : Rd ok w (.cptr y) v) : ∃ b n, v = .pointer (some ⟨b, n, none⟩) ∧ ok b ∧ RdCs ok w b n y.cells := by
  cases y <;> simp only [PV.cells, RdCs, Rd] at h ⊢ <;> first | (obtain ⟨b, n, h1, h2, h3⟩ := h; exact ⟨b, n, h1, h2, h3⟩) | (obtain ⟨b, n, h1, h2, h3, h4⟩ := h; exact ⟨b, n, h1, h2, ⟨h3, h4⟩, trivial⟩)

theorem run_indexAt (P : Program) (t e : TypeId) (i : TypeInfo) (ad : Addr) (len c : Nat) (k : IntKind) (n : Int) (he : P.underlying t = some (.slice e)) (hi : P.info? e = some i) (h0 : 0 ≤ n) (hn : n < len) :
    (Instr.indexAt t (.slice (some ad) len c) (.int k n)).run P w = .ok (.pointer (some (ad.add (n.toNat * i.size)))) w := by
  simp [Instr.indexAt, asIntOf, run_underlying he, h0, hn, sizeOf, typeInfo, hi]

theorem out_idxA {K : AV → Sto → Prop} (hr : Rel cx env σ vals a w) (t e : TypeId) (i : TypeInfo) (x ix : Operand) (ho : o.op = .indexAddr t x ix) (he : cx.P.underlying t = some (.slice e)) (hie : cx.P.info? e = some i)
    (hK : Dv.asInt (evF env ix) fun _ n => idxAK σ i.size (evF env x) n fun a => K a σ) : Out cx env a w o K := by
  have hx := hr.ev x
  have hi := hr.ev ix
  cases hevi : evF env ix with
  | pv pi =>
    rw [hevi] at hK hi
    cases pi with
    | int k n =>
      simp only [RA, Rd] at hi
      replace hK : idxAK σ i.size (evF env x) n fun a => K a σ := hK
      have good : ∀ (els : List PV) (y : PV), Rd (Ok cx σ vals w) w (.sl i.size els) (a.eval x) → 0 ≤ n → els[n.toNat]? = some y → K (.pv (.cptr y)) σ → Out cx env a w o K := by
        intro els y hrd h0 hy hk
        have hrd' := hrd
        simp only [Rd] at hrd'
        obtain ⟨ad, c, hv, hle, _, hrow⟩ := hrd'
        have hlt := (List.getElem?_eq_some_iff.1 hy).1
        rcases hrow with h | ⟨b, o', rfl, hok, hrow⟩
        · subst h; simp at hlt
        · obtain ⟨h1, h2⟩ := rdRow_get hrow hy
          refine Out.run (v := .pointer (some ⟨b, o' + n.toNat * i.size, none⟩)) ?_ hr (av := .pv (.cptr y)) (by simp only [RA]; exact rd_cptr hok h2) hk
          have := run_indexAt (w := w) cx.P t e i ⟨b, o', none⟩ els.length c k n he hie h0 (by omega)
          rw [addr_add] at this
          simp [execOp, ho, hv, hi, this]
      cases hev : evF env x with
      | pv p =>
        rw [hev] at hK hx
        simp only [RA] at hx
        cases p with
        | sl s els =>
          replace hK : (match Nat.beq s i.size with
            | true => ∃ y, (0 ≤ n ∧ els[n.toNat]? = some y) ∧ K (.pv (.cptr y)) σ
            | false => False) := hK
          cases hs : Nat.beq s i.size with
          | false => rw [hs] at hK; exact hK.elim
          | true =>
            rw [hs] at hK
            have := Nat.eq_of_beq_eq_true hs
            subst this
            obtain ⟨y, ⟨h0, hy⟩, hk⟩ := hK
            exact good els y hx h0 hy hk
        | _ => exact hK.elim
      | own id =>
        rw [hev] at hK hx
        simp only [RA] at hx
        obtain ⟨b, hb, hk⟩ := nthK_iff σ id _ hK
        obtain ⟨v', hv', hrb⟩ := hr.s.val hb
        obtain rfl := getElem?_of hx hv'
        cases b with
        | row e' s ap els =>
          replace hk : (match Nat.beq s i.size with
            | true => (0 ≤ n ∧ n.toNat < els.length) ∧ K (.ref id n.toNat 0) σ
            | false => False) := hk
          cases hs : Nat.beq s i.size with
          | false => rw [hs] at hk; exact hk.elim
          | true =>
            rw [hs] at hk
            have := Nat.eq_of_beq_eq_true hs
            subst this
            obtain ⟨⟨h0, hlt⟩, hk⟩ := hk
            obtain ⟨hsz, cells, h1, _⟩ := hrb
            rcases h1.2 with ⟨_, h5⟩ | ⟨g, cap, cur, fr, h4, _⟩
            · omega
            · refine Out.run (v := .pointer (some ⟨g, n.toNat * i.size, none⟩)) ?_ hr (av := .ref id n.toNat 0) ?_ hk
              · have := run_indexAt (w := w) cx.P t e i ⟨g, 0, none⟩ els.length cap k n he hie h0 (by omega)
                rw [addr_add] at this
                simp [execOp, ho, h4, hi, this]
              · simp only [RA]
                refine ⟨(List.getElem?_eq_some_iff.1 hb).1, ⟨_, rfl⟩, fun e2 sz2 ap2 els2 h => ?_, fun s2 h hb2 => ?_⟩
                · rw [hb] at h; cases h
                  exact ⟨_, g, hx, by rw [h4]; rfl, by simp⟩
                · rw [hb] at h; cases h; cases hb2
        | fz z =>
          cases z with
          | sl s els =>
            replace hk : (match Nat.beq s i.size with
              | true => ∃ y, (0 ≤ n ∧ els[n.toNat]? = some y) ∧ K (.pv (.cptr y)) σ
              | false => False) := hk
            cases hs : Nat.beq s i.size with
            | false => rw [hs] at hk; exact hk.elim
            | true =>
              rw [hs] at hk
              have := Nat.eq_of_beq_eq_true hs
              subst this
              obtain ⟨y, ⟨h0, hy⟩, hk⟩ := hk
              exact good els y hrb h0 hy hk
          | _ => exact hk.elim
        | _ => exact hk.elim
      | sub id z lo m =>
        rw [hev] at hK hx
        replace hK : (match Nat.beq z i.size with
          | true => nthK σ id fun b => match b with
            | .row _ s _ els => match Nat.beq s i.size with
              | true => ((0 ≤ n ∧ n.toNat < m) ∧ lo + m ≤ els.length) ∧ K (.ref id (lo + n.toNat) 0) σ
              | false => False
            | .fz x => match x with
              | .sl s els => match Nat.beq s i.size with
                | true => ∃ y, ((0 ≤ n ∧ n.toNat < m ∧ lo + m ≤ els.length) ∧ els[lo + n.toNat]? = some y) ∧ K (.pv (.cptr y)) σ
                | false => False
              | _ => False
            | _ => False
          | false => False) := hK
        cases hz : Nat.beq z i.size with
        | false => rw [hz] at hK; exact hK.elim
        | true =>
          rw [hz] at hK
          have := Nat.eq_of_beq_eq_true hz
          subst this
          simp only [RA] at hx
          obtain ⟨hid, ad, c, hv2, hle, hcm, hor⟩ := hx
          obtain ⟨b, hb, hk⟩ := nthK_iff σ id _ hK
          obtain ⟨u, hu, hrb⟩ := hr.s.val hb
          cases b with
          | row e' s ap els =>
            replace hk : (match Nat.beq s i.size with
              | true => ((0 ≤ n ∧ n.toNat < m) ∧ lo + m ≤ els.length) ∧ K (.ref id (lo + n.toNat) 0) σ
              | false => False) := hk
            cases hs : Nat.beq s i.size with
            | false => rw [hs] at hk; exact hk.elim
            | true =>
              rw [hs] at hk
              have := Nat.eq_of_beq_eq_true hs
              subst this
              obtain ⟨⟨⟨h0, hlt⟩, _⟩, hk⟩ := hk
              rcases hor with hm0 | ⟨g, n0, c0, f1, rfl⟩
              · omega
              · refine Out.run (v := .pointer (some ⟨g, (lo + n.toNat) * i.size, none⟩)) ?_ hr (av := .ref id (lo + n.toNat) 0) ?_ hk
                · have := run_indexAt (w := w) cx.P t e i ⟨g, lo * i.size, none⟩ m c k n he hie h0 (by omega)
                  rw [addr_add] at this
                  simp [execOp, ho, hv2, hi, this, Nat.add_mul]
                · simp only [RA]
                  refine ⟨(List.getElem?_eq_some_iff.1 hb).1, ⟨_, rfl⟩, fun e2 sz2 ap2 els2 h => ?_, fun s2 h hb2 => ?_⟩
                  · rw [hb] at h; cases h
                    exact ⟨_, g, f1, rfl, by simp⟩
                  · rw [hb] at h; cases h; cases hb2
          | fz y =>
            cases y with
            | sl s els =>
              replace hk : (match Nat.beq s i.size with
                | true => ∃ y, ((0 ≤ n ∧ n.toNat < m ∧ lo + m ≤ els.length) ∧ els[lo + n.toNat]? = some y) ∧ K (.pv (.cptr y)) σ
                | false => False) := hk
              cases hs : Nat.beq s i.size with
              | false => rw [hs] at hk; exact hk.elim
              | true =>
                rw [hs] at hk
                have := Nat.eq_of_beq_eq_true hs
                subst this
                obtain ⟨y, ⟨⟨h0, hlt, hle2⟩, hy⟩, hk⟩ := hk
                rcases hor with hm0 | ⟨g, n0, c0, f1, rfl⟩
                · omega
                · rw [hu] at f1; cases f1
                  have hrd : Rd (Ok cx σ vals w) w (.sl i.size els) (.slice (some ⟨g, 0, none⟩) n0 c0) := hrb
                  simp only [Rd] at hrd
                  obtain ⟨ad2, c2, g1, _, _, g4⟩ := hrd
                  cases g1
                  rcases g4 with g4 | ⟨b', o', g5, g6, g7⟩
                  · subst g4; simp at hy
                  · cases g5
                    obtain ⟨_, h2⟩ := rdRow_get g7 hy
                    rw [Nat.zero_add] at h2
                    refine Out.run (v := .pointer (some ⟨g, (lo + n.toNat) * i.size, none⟩)) ?_ hr (av := .pv (.cptr y)) (by simp only [RA]; exact rd_cptr g6 h2) hk
                    have := run_indexAt (w := w) cx.P t e i ⟨g, lo * i.size, none⟩ m c k n he hie h0 (by omega)
                    rw [addr_add] at this
                    simp [execOp, ho, hv2, hi, this, Nat.add_mul]
            | _ => exact hk.elim
          | _ => exact hk.elim
      | _ => rw [hev] at hK; exact hK.elim
    | _ => exact hK.elim
  | _ => rw [hevi] at hK; exact hK.elim
end
end Go.Dv
end
section
/-
  Loads, fields, parts of tuples, checks for nil.
-/
set_option linter.unusedSimpArgs false
namespace Go.Dv
open Go.RowKit
section
variable {cx : Cx} {env : Env} {σ : Sto} {vals : List Value} {a : Act} {w : World} {o : Oper}

/-- What a type's table says of a value's shape. -/
structure Shape (P : Program) (t : TypeId) (ag : Bool) (n : Nat) : Prop where
  info : ∃ i, P.info? t = some i ∧ i.size = n
  und : ∃ d, P.underlying t = some d ∧ ag = (match d with | .struct _ => true | .array _ _ => true | _ => false)

theorem shape_of {P : Program} {t : TypeId} {s : Bool × Nat} (h : shOf P t = some s) : Shape P t s.1 s.2 := by
  unfold shOf opt at h
  cases hi : P.info? t with
  | none => rw [hi] at h; cases h
  | some i =>
    rw [hi] at h
    simp only at h
    cases hu : P.underlying t with
    | none => rw [hu] at h; cases h
    | some d =>
      rw [hu] at h
      cases d <;> cases h <;> exact ⟨⟨i, hi, rfl⟩, ⟨_, hu, rfl⟩⟩

theorem Shape.isAgg {P : Program} {t : TypeId} {ag : Bool} {n : Nat} (h : Shape P t ag n) : (isAgg t).run P w = .ok ag w := by
  obtain ⟨d, hd, rfl⟩ := h.und
  cases d <;> simp [Go.isAgg, run_underlying hd]

/-- Cells as the model makes one value of them. -/
def valOf (ag : Bool) (us : List Value) : Value := match ag with | true => .agg us.toArray | false => us.headD undef

theorem run_load {P : Program} {t : TypeId} {ag : Bool} {n : Nat} (h : Shape P t ag n) (b off : Nat) (us : List Value) (hl : us.length = if ag then n else 1) (hc : ∀ (j : Nat) (u : Value), us[j]? = some u → w.cell? ⟨b, off + j, none⟩ = some u) :
    (loadVar t ⟨b, off, none⟩).run P w = .ok (valOf ag us) w := by
  obtain ⟨i, hi, hn⟩ := h.info
  cases ag with
  | true =>
    simp only [if_true] at hl
    have := run_loadCells_list (P := P) w ⟨b, off, none⟩ us (fun j v hj => by rw [addr_add]; exact hc j v hj)
    rw [hl] at this
    simp [loadVar, h.isAgg, sizeOf, typeInfo, hi, hn, this, valOf]
  | false =>
    cases us with
    | nil => simp at hl
    | cons u us =>
      have := hc 0 u rfl
      simp [loadVar, h.isAgg, run_load, valOf]
      simp at this
      rw [this]

theorem ofCells_rd {ok : Nat → Prop} {ag : Bool} {cs : List PV} {us : List Value} {K : PV → Prop} (h : RdL ok w cs us) (h1 : ∀ c ∈ cs, c.one = true) (hK : ofCells ag cs K) : ∃ r, K r ∧ Rd ok w r (valOf ag us) ∧ (ag = false → cs.length = 1) := by
  cases ag with
  | true => exact ⟨_, hK, by simp only [Rd]; exact ⟨h1, _, rfl, by simpa using h⟩, fun h => by cases h⟩
  | false =>
    cases cs with
    | nil => exact hK.elim
    | cons c cs =>
      cases cs with
      | nil =>
        simp only [RdL] at h
        obtain ⟨v, r, rfl, h1, rfl⟩ := h
        exact ⟨c, hK, h1, fun _ => rfl⟩
      | cons _ _ => exact hK.elim

theorem ofAVs_ra {ok : Nat → Prop} {ag : Bool} {cs : List AV} {us : List Value} {K : AV → Prop} (h : RAL ok σ vals w cs us) (h1 : ∀ c ∈ cs, c.one = true) (hK : ofAVs ag cs K) : ∃ r, K r ∧ RA ok σ vals w r (valOf ag us) ∧ (ag = false → cs.length = 1) := by
  cases ag with
  | true =>
    rcases aggK_spec cs K hK with ⟨t, rfl, h2⟩ | h2
    · rw [raL_map_pv] at h
      exact ⟨_, h2, by simp only [RA, Rd]; exact ⟨fun c hc => h1 (.pv c) (by simpa using hc), _, rfl, by simpa using h⟩, fun h => by cases h⟩
    · exact ⟨_, h2, by simp only [RA]; exact ⟨h1, _, rfl, by simpa using h⟩, fun h => by cases h⟩
  | false =>
    cases cs with
    | nil => exact hK.elim
    | cons c cs =>
      cases cs with
      | nil =>
        simp only [RAL] at h
        obtain ⟨v, r, rfl, h1, rfl⟩ := h
        exact ⟨c, hK, h1, fun _ => rfl⟩
      | cons _ _ => exact hK.elim

/-- A part of cells that lie in memory. -/
theorem partK_mem {ok : Nat → Prop} {b off at_ n : Nat} {ag : Bool} {cs : List PV} {K : PV → Prop} (h : RdCs ok w b at_ cs) (hK : partK off ag n cs K) :
    ∃ r us, K r ∧ Rd ok w r (valOf ag us) ∧ us.length = n ∧ (ag = false → n = 1) ∧ ∀ (j : Nat) (u : Value), us[j]? = some u → w.cell? ⟨b, at_ + off + j, none⟩ = some u := by
  obtain ⟨pre, rest, rfl, h1, hK⟩ := dropK_spec off cs _ hK
  obtain ⟨t, post, rfl, h2, hK⟩ := takeK_spec n rest _ hK
  rw [rdCs_append, rdCs_append] at h
  obtain ⟨h0, us, h3, h4⟩ := (rdCs_iff b t _).1 h.2.1
  obtain ⟨r, h5, h6, h7⟩ := ofCells_rd h3 h0 hK
  exact ⟨r, us, h5, h6, by rw [h3.length, h2], fun h => h2 ▸ h7 h, by rw [h1] at h4; exact h4⟩

theorem load_spec {K : AV → Prop} (hr : RelS cx σ vals w) (ag : Bool) (n : Nat) {xa : AV} {xv : Value} (hx : RA (Ok cx σ vals w) σ vals w xa xv) (hK : loadK σ ag n xa K) :
    ∃ b off us av, xv = .pointer (some ⟨b, off, none⟩) ∧ us.length = n ∧ (∀ (j : Nat) (u : Value), us[j]? = some u → w.cell? ⟨b, off + j, none⟩ = some u) ∧ RA (Ok cx σ vals w) σ vals w av (valOf ag us) ∧ K av := by
  have fin : ∀ (b off : Nat) (us : List Value) (av : AV), xv = .pointer (some ⟨b, off, none⟩) → us.length = n → (∀ (j : Nat) (u : Value), us[j]? = some u → w.cell? ⟨b, off + j, none⟩ = some u) →
      RA (Ok cx σ vals w) σ vals w av (valOf ag us) → K av → ∃ b off us av, xv = .pointer (some ⟨b, off, none⟩) ∧ us.length = n ∧ (∀ (j : Nat) (u : Value), us[j]? = some u → w.cell? ⟨b, off + j, none⟩ = some u) ∧ RA (Ok cx σ vals w) σ vals w av (valOf ag us) ∧ K av :=
    fun b off us av h1 h2 h3 h4 h5 => ⟨b, off, us, av, h1, h2, h3, h4, h5⟩
  cases xa with
  | pv p =>
    simp only [RA] at hx
    cases p with
    | cptr y =>
      obtain ⟨b, off, hv, hok, hcs⟩ := rd_cptr_inv hx
      obtain ⟨r, us, h1, h2, h3, _, h5⟩ := partK_mem (off := 0) hcs hK
      exact fin b off us (.pv r) hv h3 h5 (by simp only [RA]; exact h2) h1
    | _ => exact hK.elim
  | ref id idx off =>
    simp only [RA] at hx
    obtain ⟨hlt, _, hrow, hbox⟩ := hx
    obtain ⟨b, hb, hk⟩ := nthK_iff σ id _ hK
    obtain ⟨v', hv', hrb⟩ := hr.val hb
    cases b with
    | row e sz ap els =>
      obtain ⟨u, g, hu, hg, hv⟩ := hrow e sz ap els hb
      obtain rfl := getElem?_of hv' hu
      obtain ⟨y, hy, hk⟩ := hk
      obtain ⟨ad, c, h1, h2, h3, h4⟩ := slV_of_row hrb
      rcases h4 with h4 | ⟨b, o', rfl, h4⟩
      · subst h4; simp at hy
      · have ho' : o' = 0 ∧ b = g := by
          obtain ⟨_, cells, h5, _⟩ := hrb
          rcases h5.2 with ⟨h6, _⟩ | ⟨g', cap, cur, fr, h6, _⟩
          · rw [h6] at h1; cases h1
          · rw [h6] at h1; cases h1
            rw [h6] at hg; exact ⟨rfl, by cases hg; rfl⟩
        obtain ⟨rfl, rfl⟩ := ho'
        obtain ⟨_, h6⟩ := rdRow_get h4 hy
        obtain ⟨r, us, g1, g2, g3, _, g5⟩ := partK_mem h6 hk
        exact fin b (idx * sz + off) us (.pv r) hv g3 (by simpa using g5) (by simp only [RA]; exact g2) g1
    | fz z =>
      cases z with
      | cptr y =>
        obtain ⟨u, g, hu, rfl, hv⟩ := hbox _ hb rfl
        obtain rfl := getElem?_of hv' hu
        obtain ⟨b, n', e1, _, hcs⟩ := rd_cptr_inv (show Rd (Ok cx σ vals w) w (.cptr y) _ from hrb)
        cases e1
        obtain ⟨r, us, h1, h2, h3, _, h5⟩ := partK_mem hcs hk
        exact fin _ off us (.pv r) hv h3 (by simpa using h5) (by simp only [RA]; exact h2) h1
      | _ => exact hk.elim
    | box e cs =>
      obtain ⟨u, g, hu, rfl, hv⟩ := hbox _ hb rfl
      obtain rfl := getElem?_of hv' hu
      obtain ⟨b, arr, h1, h2, h3, h4, h5⟩ := hrb
      cases h1
      obtain ⟨pre, rest, rfl, h6, hk⟩ := dropK_spec off cs _ hk
      obtain ⟨t', post, rfl, h7, hk⟩ := takeK_spec n rest _ hk
      obtain ⟨us1, us2, he, h8, h9⟩ := (raL_append _ _ _).1 h5
      obtain ⟨us3, us4, rfl, h10, h11⟩ := (raL_append _ _ _).1 h9
      obtain ⟨r, g1, g2, _⟩ := ofAVs_ra h10 (fun c hc => h4 c (by simp [hc])) hk
      refine fin _ off us3 r hv (by rw [h10.length, h7]) (fun j u hj => ?_) g2 g1
      have hj' : arr[off + j]? = some u := by
        rw [← Array.getElem?_toList, he, List.getElem?_append_right (by rw [h8.length, h6]; omega), h8.length, h6, Nat.add_sub_cancel_left,
          List.getElem?_append_left (List.getElem?_eq_some_iff.1 hj).1, hj]
      simp [World.cell?, h3, hj']
    | _ => exact hk.elim
  | _ => exact hK.elim

theorem out_load {K : AV → Sto → Prop} (hr : Rel cx env σ vals a w) (t : TypeId) (x : Operand) (ag : Bool) (n : Nat) (ho : o.op = .load t x) (hs : ∃ m, Shape cx.P t ag m ∧ n = if ag then m else 1)
    (hK : loadK σ ag n (evF env x) fun a => K a σ) : Out cx env a w o K := by
  obtain ⟨m, hs, hn⟩ := hs
  obtain ⟨b, off, us, av, hv, hl, hc, hra, hk⟩ := load_spec hr.s ag n (hr.ev x) hK
  refine Out.run (v := valOf ag us) ?_ hr hra hk
  have := run_load hs b off us (by rw [hl, hn]) hc
  simp [execOp, ho, hv, Instr.loadAt, Instr.sureAddr, this]

theorem out_fldA {K : AV → Sto → Prop} (hr : Rel cx env σ vals a w) (x : Operand) (off : Nat) (hs : ∀ b n, a.eval x = .pointer (some ⟨b, n, none⟩) → (execOp a.eval o).run cx.P w = .ok (.value (.pointer (some ⟨b, n + off, none⟩))) w)
    (hK : fldAK σ off (evF env x) fun a => K a σ) : Out cx env a w o K := by
  have hx := hr.ev x
  cases hev : evF env x with
  | pv p =>
    rw [hev] at hK hx
    simp only [RA] at hx
    cases p with
    | cptr y =>
      obtain ⟨b, n, hv, hok, hcs⟩ := rd_cptr_inv hx
      obtain ⟨pre, rest, h1, h2, hk⟩ := dropK_spec off y.cells _ hK
      rw [h1, rdCs_append, h2] at hcs
      exact Out.run (v := .pointer (some ⟨b, n + off, none⟩)) (hs b n hv) hr (av := .pv (.cptr (.agg rest))) (by simp only [RA]; exact rd_cptr hok hcs.2) hk
    | _ => exact hK.elim
  | ref id idx o1 =>
    rw [hev] at hK hx
    simp only [RA] at hx
    obtain ⟨hlt, _, hrow, hbox⟩ := hx
    obtain ⟨b, hb, hK⟩ := nthK_iff σ id _ hK
    cases b with
    | row e sz ap els =>
      obtain ⟨u, g, hu, hg, hv⟩ := hrow e sz ap els hb
      refine Out.run (v := .pointer (some ⟨g, idx * sz + o1 + off, none⟩)) (K := K) (hs _ _ hv) hr (av := .ref id idx (o1 + off)) ?_ hK
      simp only [RA]
      refine ⟨hlt, ⟨_, rfl⟩, fun e2 sz2 ap2 els2 h => ?_, fun s2 h hb2 => ?_⟩
      · rw [hb] at h; cases h; exact ⟨u, g, hu, hg, by rw [Nat.add_assoc]⟩
      · rw [hb] at h; cases h; cases hb2
    | box e cs =>
      obtain ⟨u, g, hu, hg, hv⟩ := hbox _ hb rfl
      refine Out.run (v := .pointer (some ⟨g, o1 + off, none⟩)) (K := K) (hs _ _ hv) hr (av := .ref id idx (o1 + off)) ?_ hK
      simp only [RA]
      refine ⟨hlt, ⟨_, rfl⟩, fun e2 sz2 ap2 els2 h => ?_, fun s2 h hb2 => ?_⟩
      · rw [hb] at h; cases h
      · exact ⟨u, g, hu, hg, rfl⟩
    | fz z =>
      cases z with
      | cptr y =>
        obtain ⟨u, g, hu, hg, hv⟩ := hbox _ hb rfl
        refine Out.run (v := .pointer (some ⟨g, o1 + off, none⟩)) (K := K) (hs _ _ hv) hr (av := .ref id idx (o1 + off)) ?_ hK
        simp only [RA]
        refine ⟨hlt, ⟨_, rfl⟩, fun e2 sz2 ap2 els2 h => ?_, fun s2 h hb2 => ?_⟩
        · rw [hb] at h; cases h
        · exact ⟨u, g, hu, hg, rfl⟩
      | _ => exact hK.elim
    | _ => exact hK.elim
  | _ => rw [hev] at hK; exact hK.elim

theorem run_fieldAt (P : Program) (s : TypeId) (f : Nat) (fs : Array Field) (fd : Field) (ag : Bool) (m : Nat) (h : P.underlying s = some (.struct fs)) (hf : fs[f]? = some fd) (hs : Shape P fd.type ag m) (hm : 0 < m) (b n : Nat) :
    (Instr.fieldAt s (.pointer (some ⟨b, n, none⟩)) f).run P w = .ok (.pointer (some ⟨b, n + fd.offset, none⟩)) w := by
  obtain ⟨i, hi, rfl⟩ := hs.info
  have h0 : ¬ i.size = 0 := by omega
  simp [Instr.fieldAt, run_underlying h, hf, Instr.sureAddr, Go.fieldPlace, sizeOf, typeInfo, hi, h0, addr_add]

theorem out_fldG {K : AV → Sto → Prop} (hr : Rel cx env σ vals a w) (x : Operand) (ft : TypeId) (off : Nat) (ag : Bool) (n : Nat) (hrun : ∀ arr v, a.eval x = .agg arr → (part ft arr off).run cx.P w = .ok v w → (execOp a.eval o).run cx.P w = .ok (.value v) w)
    (hs : ∃ m, Shape cx.P ft ag m ∧ n = if ag then m else 1)
    (hK : match evF env x with
      | .pv x => match x with
        | .agg cs => partK off ag n cs fun r => K (.pv r) σ
        | _ => False
      | .agg cs => dropK off cs fun r => takeK n r fun t => ofAVs ag t fun a => K a σ
      | _ => False) : Out cx env a w o K := by
  have hx := hr.ev x
  obtain ⟨m, hs, hn⟩ := hs
  have fin : ∀ (arr : Array Value) (us1 us us2 : List Value) (av : AV), a.eval x = .agg arr → arr.toList = us1 ++ (us ++ us2) → us1.length = off → us.length = n →
      RA (Ok cx σ vals w) σ vals w av (valOf ag us) → K av σ → Out cx env a w o K := by
    intro arr us1 us us2 av hv he h1 h2 hra hk
    refine Out.run (v := valOf ag us) ?_ hr hra hk
    have hpart : (part ft arr off).run cx.P w = .ok (valOf ag us) w := by
      obtain ⟨i, hi, hm⟩ := hs.info
      cases ag with
      | true =>
        simp only [if_true] at hn
        simp [part, hs.isAgg, sizeOf, typeInfo, hi, hm, valOf]
        apply Array.ext'
        simp [he, ← h1, ← hn, ← h2]
      | false =>
        cases us with
        | nil => simp at h2; simp at hn; omega
        | cons u us =>
          have : arr[off]? = some u := by
            rw [← Array.getElem?_toList, he, List.getElem?_append_right (by omega), h1, Nat.sub_self]; rfl
          simp [part, hs.isAgg, this, valOf]
    exact hrun arr _ hv hpart
  cases hev : evF env x with
  | pv p =>
    rw [hev] at hK hx
    simp only [RA] at hx
    cases p with
    | agg cs =>
      simp only [Rd] at hx
      obtain ⟨h0, arr, hv, hl⟩ := hx
      obtain ⟨pre, rest, rfl, h1, hk⟩ := dropK_spec _ cs _ hK
      obtain ⟨t, post, rfl, h2, hk⟩ := takeK_spec n rest _ hk
      obtain ⟨us1, us0, he, h3, h4⟩ := (rdL_append _ _ _).1 hl
      obtain ⟨us, us2, rfl, h5, h6⟩ := (rdL_append _ _ _).1 h4
      obtain ⟨r, g1, g2, _⟩ := ofCells_rd h5 (fun c hc => h0 c (by simp [hc])) hk
      exact fin arr us1 us us2 (.pv r) hv he (by rw [h3.length, h1]) (by rw [h5.length, h2]) (by simp only [RA]; exact g2) g1
    | _ => exact hK.elim
  | agg cs =>
    rw [hev] at hK hx
    simp only [RA] at hx
    obtain ⟨h0, arr, hv, hl⟩ := hx
    obtain ⟨pre, rest, rfl, h1, hk⟩ := dropK_spec _ cs _ hK
    obtain ⟨t, post, rfl, h2, hk⟩ := takeK_spec n rest _ hk
    obtain ⟨us1, us0, he, h3, h4⟩ := (raL_append _ _ _).1 hl
    obtain ⟨us, us2, rfl, h5, h6⟩ := (raL_append _ _ _).1 h4
    obtain ⟨r, g1, g2, _⟩ := ofAVs_ra h5 (fun c hc => h0 c (by simp [hc])) hk
    exact fin arr us1 us us2 r hv he (by rw [h3.length, h1]) (by rw [h5.length, h2]) g2 g1
  | _ => rw [hev] at hK; exact hK.elim

theorem out_fld {K : AV → Sto → Prop} (hr : Rel cx env σ vals a w) (s : TypeId) (x : Operand) (f : Nat) (fs : Array Field) (fd : Field) (ag : Bool) (n : Nat) (ho : o.op = .field s x f) (hu : cx.P.underlying s = some (.struct fs)) (hf : fs[f]? = some fd)
    (hs : ∃ m, Shape cx.P fd.type ag m ∧ n = if ag then m else 1)
    (hK : match evF env x with
      | .pv x => match x with
        | .agg cs => partK fd.offset ag n cs fun r => K (.pv r) σ
        | _ => False
      | .agg cs => dropK fd.offset cs fun r => takeK n r fun t => ofAVs ag t fun a => K a σ
      | _ => False) : Out cx env a w o K :=
  out_fldG hr x fd.type fd.offset ag n (fun arr v hv hp => by simp [execOp, ho, hv, Instr.field, run_underlying hu, hf, asAgg, hp]) hs hK

/-- An element of a small array. -/
theorem out_idxV {K : AV → Sto → Prop} (hr : Rel cx env σ vals a w) (t e : TypeId) (x i : Operand) (m : Nat) (kd : IntKind) (k : Int) (sz : Nat) (ag : Bool) (n : Nat) (ho : o.op = .index t x i) (hu : cx.P.underlying t = some (.array m e)) (hi : i = .const (.int kd k)) (hk : 0 ≤ k ∧ k.toNat < m)
    (hs : Shape cx.P e ag sz) (hn : n = if ag then sz else 1)
    (hK : match evF env x with
      | .pv x => match x with
        | .agg cs => partK (k.toNat * sz) ag n cs fun r => K (.pv r) σ
        | _ => False
      | .agg cs => dropK (k.toNat * sz) cs fun r => takeK n r fun t => ofAVs ag t fun a => K a σ
      | _ => False) : Out cx env a w o K := by
  obtain ⟨j, hj, hjs⟩ := hs.info
  refine out_fldG hr x e (k.toNat * sz) ag n (fun arr v hv hp => ?_) ⟨_, hs, hn⟩ hK
  subst hi
  have hlt : k < (m : Int) := by omega
  have hev : a.eval (.const (.int kd k)) = .int kd k := rfl
  simp [execOp, ho, hv, hev, Instr.index, asIntOf, run_underlying hu, hk.1, hlt, sizeOf, typeInfo, hj, hjs, hp]

theorem out_ext {K : AV → Sto → Prop} (hr : Rel cx env σ vals a w) (x : Operand) (i : Nat) (ho : o.op = .extract x i)
    (hK : match evF env x with
      | .tup l => nthK l i fun a => K a σ
      | .pv x => match x with
        | .tup l => nthK l i fun a => K (.pv a) σ
        | _ => False
      | _ => False) : Out cx env a w o K := by
  have hx := hr.ev x
  cases hev : evF env x with
  | pv p =>
    rw [hev] at hK hx
    simp only [RA] at hx
    cases p with
    | tup l =>
      simp only [Rd] at hx
      obtain ⟨arr, hv, hl⟩ := hx
      obtain ⟨c, hc, hk⟩ := nthK_iff l i _ hK
      obtain ⟨h1, h2⟩ := (rdL_iff l _).1 hl
      have hlt := (List.getElem?_eq_some_iff.1 hc).1
      have hlt' : i < arr.size := by rw [← Array.length_toList, h1]; exact hlt
      have hv' : arr[i]? = some arr[i] := Array.getElem?_eq_getElem hlt'
      refine Out.run (v := arr[i]) ?_ hr (av := .pv c) (by simp only [RA]; exact h2 i c _ hc (by simp)) hk
      simp [execOp, ho, hv, Instr.extract, hv']
    | _ => exact hK.elim
  | tup l =>
    rw [hev] at hK hx
    simp only [RA] at hx
    obtain ⟨arr, hv, hl⟩ := hx
    obtain ⟨c, hc, hk⟩ := nthK_iff l i _ hK
    have hlt := (List.getElem?_eq_some_iff.1 hc).1
    have hlt' : i < arr.size := by rw [← Array.length_toList, hl.length]; exact hlt
    have hv' : arr[i]? = some arr[i] := Array.getElem?_eq_getElem hlt'
    have hel : ∀ (l : List AV) (vs : List Value) (i : Nat) (c : AV) (v : Value), RAL (Ok cx σ vals w) σ vals w l vs → l[i]? = some c → vs[i]? = some v → RA (Ok cx σ vals w) σ vals w c v := by
      intro l
      induction l with
      | nil => intro vs i c v _ h; simp at h
      | cons x l ih =>
        intro vs i c v h h1 h2
        simp only [RAL] at h
        obtain ⟨v0, r, rfl, h3, h4⟩ := h
        cases i with
        | zero => simp at h1 h2; subst h1 h2; exact h3
        | succ i => exact ih r i c v h4 (by simpa using h1) (by simpa using h2)
    refine Out.run (v := arr[i]) ?_ hr (av := c) (hel l _ i c _ hl hc (by simp)) hk
    simp [execOp, ho, hv, Instr.extract, hv']
  | _ => rw [hev] at hK; exact hK.elim

theorem out_nilck {K : AV → Sto → Prop} (hr : Rel cx env σ vals a w) (x : Operand) (ho : o.op = .nilCheck x)
    (hK : match evF env x with
      | .ref id idx off => liveK σ id (K (.ref id idx off) σ)
      | .pv x => match x with
        | .cptr y => K (.pv (.cptr y)) σ
        | .clo f cs => K (.pv (.clo f cs)) σ
        | _ => False
      | .clo f cs => K (.clo f cs) σ
      | _ => False) : Out cx env a w o K := by
  have hx := hr.ev x
  cases hev : evF env x with
  | pv p =>
    rw [hev] at hK hx
    cases p with
    | cptr y =>
      have hx' := hx
      simp only [RA] at hx
      obtain ⟨b, n, hv, _⟩ := rd_cptr_inv hx
      exact Out.run (v := .pointer (some ⟨b, n, none⟩)) (by simp [execOp, ho, hv]) hr (hv ▸ hx') hK
    | clo f cs =>
      have hx' := hx
      simp only [RA, Rd] at hx
      obtain ⟨cv, hv, _⟩ := hx
      exact Out.run (v := .func (.func f) #[] cv) (by simp [execOp, ho, hv]) hr (hv ▸ hx') hK
    | _ => exact hK.elim
  | clo f cs =>
    rw [hev] at hK hx
    have hx' := hx
    simp only [RA] at hx
    obtain ⟨cv, hv, _⟩ := hx
    exact Out.run (v := .func (.func f) #[] cv) (by simp [execOp, ho, hv]) hr (hv ▸ hx') hK
  | ref id idx off =>
    rw [hev] at hK hx
    have hx' := hx
    simp only [RA] at hx
    obtain ⟨hlt, _, hrow, hbox⟩ := hx
    obtain ⟨b, hb, hK⟩ := nthK_iff σ id _ hK
    cases b with
    | row e sz ap els =>
      obtain ⟨u, g, hu, hg, hv⟩ := hrow e sz ap els hb
      exact Out.run (v := a.eval x) (by rw [hv]; simp [execOp, ho, hv]) hr hx' hK
    | fz z =>
      cases z with
      | cptr y =>
        obtain ⟨u, g, hu, hg, hv⟩ := hbox _ hb rfl
        exact Out.run (v := a.eval x) (by rw [hv]; simp [execOp, ho, hv]) hr hx' hK
      | _ => exact hK.elim
    | box e cs =>
      obtain ⟨u, g, hu, hg, hv⟩ := hbox _ hb rfl
      exact Out.run (v := a.eval x) (by rw [hv]; simp [execOp, ho, hv]) hr hx' hK
    | _ => exact hK.elim
  | _ => rw [hev] at hK; exact hK.elim
end
end Go.Dv
end
section
/-
  The operations that make memory and write it.
-/
set_option linter.unusedSimpArgs false
namespace Go.Dv
open Go.RowKit
section
variable {cx : Cx} {env : Env} {σ : Sto} {vals : List Value} {a : Act} {w w' : World} {o : Oper}

theorem mut_push {s : Blk} {v : Value} (hl : vals.length = σ.length) {b : Nat} (h : Mut (σ ++ [s]) (vals ++ [v]) b) : Mut σ vals b ∨ (s.live = true ∧ blkOf v = some b) := by
  obtain ⟨i, t, u, h1, h2, h3, h4⟩ := h
  rw [push_get] at h1 h3
  split at h1
  · rename_i he
    rw [if_pos (by rw [hl]; exact he)] at h3
    cases h1; cases h3
    exact .inr ⟨h2, h4⟩
  · rename_i he
    rw [if_neg (by rw [hl]; exact he)] at h3
    exact .inl ⟨i, t, u, h1, h2, h3, h4⟩

/-- A new entry of the store, over a world that has grown. -/
theorem RelS.push (hr : RelS cx σ vals w) (hbw : Below w.heap.size w w') (s : Blk) (v : Value) (hone : v.oneCell' = true) (hfresh : s.live = true → ∀ b, blkOf v = some b → w.heap.size ≤ b)
    (hb : Keep cx σ vals w (σ ++ [s]) (vals ++ [v]) w' → RB cx (σ ++ [s]) (vals ++ [v]) w' s v) :
    RelS cx (σ ++ [s]) (vals ++ [v]) w' ∧ Keep cx σ vals w (σ ++ [s]) (vals ++ [v]) w' := by
  obtain ⟨hr', hk'⟩ := hr.grow hbw
  have hk : Keep cx σ vals w (σ ++ [s]) (vals ++ [v]) w' := by
    refine ⟨fun i u h => ?_, by simp, fun b h => ⟨h.1, Nat.lt_of_lt_of_le h.2.1 hbw.size, fun hm => ?_⟩, fun b h => hbw.block b h.2.1, fun i hi e sz ap els h => ?_, fun i hi s' h hb' => ?_⟩
    · rw [push_get, if_neg (by have := (List.getElem?_eq_some_iff.1 h).1; omega)]; exact h
    · rcases mut_push hr.len hm with hm | ⟨h1, h2⟩
      · exact h.2.2 hm
      · have := hfresh h1 b h2; have := h.2.1; omega
    · rw [push_get, if_neg (by omega)] at h; exact ⟨ap, els, h⟩
    · rw [push_get, if_neg (by omega)] at h; exact ⟨s', h, hb'⟩
  have hfr : Fr cx (σ ++ [s]) (vals ++ [v]) w' := ⟨hr'.fr.size, hr'.fr.same, fun b hm hkp => by
    rcases mut_push hr.len hm with hm | ⟨h1, h2⟩
    · exact hr.fr.mutn b hm hkp
    · have := hfresh h1 b h2; have := cx.hk b hkp; have := hr.fr.size; omega⟩
  refine ⟨⟨hr'.below, fun u hu => by rcases List.mem_append.1 hu with hu | hu; exact hr.one u hu; simp at hu; exact hu ▸ hone, by simp [hr.len], fun i t u h1 h2 => ?_, fun i j t1 t2 u1 u2 b hij h1 h2 h3 h4 h5 h6 h7 => ?_, hfr, hr.pin.keep hk⟩, hk⟩
  · rw [push_get] at h1 h2
    split at h1
    · rename_i he
      rw [if_pos (by rw [hr.len]; exact he)] at h2
      cases h1; cases h2
      exact hb hk
    · rename_i he
      rw [if_neg (by rw [hr.len]; exact he)] at h2
      exact hk.rb (hr.sto i t u h1 h2) (fun hl b hbl => hbw.block b ((hr.sto i t u h1 h2).block hl hbl).2)
  · rw [push_get] at h1 h2 h5 h6
    rw [hr.len] at h5 h6
    split at h1
    · rename_i he
      rw [if_pos he] at h5
      cases h1; cases h5
      rw [if_neg (by omega)] at h2 h6
      intro h8
      have := hfresh h3 b h7
      have := ((hr.sto j t2 u2 h2 h6).block h4 h8).2
      omega
    · rename_i he
      rw [if_neg he] at h5
      split at h2
      · rename_i he2
        rw [if_pos he2] at h6
        cases h2; cases h6
        intro h8
        have := hfresh h4 b h8
        have := ((hr.sto i t1 u1 h1 h5).block h3 h7).2
        omega
      · rename_i he2
        rw [if_neg he2] at h6
        exact hr.dis i j t1 t2 u1 u2 b hij h1 h2 h3 h4 h5 h6 h7

theorem ra_own_new (hl : vals.length = σ.length) (s : Blk) (v : Value) {ok : Nat → Prop} : RA ok (σ ++ [s]) (vals ++ [v]) w (.own σ.length) v := by
  simp only [RA]; rw [push_get, if_pos hl.symm]

theorem ra_ref_new (hl : vals.length = σ.length) (e : TypeId) (cs : List AV) (b : Nat) {ok : Nat → Prop} : RA ok (σ ++ [.box e cs]) (vals ++ [.pointer (some ⟨b, 0, none⟩)]) w (.ref σ.length 0 0) (.pointer (some ⟨b, 0, none⟩)) := by
  simp only [RA]
  refine ⟨by simp, ⟨_, rfl⟩, fun e2 sz2 ap2 els2 h => ?_, fun s2 h hb2 => ?_⟩
  · rw [push_get, if_pos rfl] at h; cases h
  · exact ⟨.pointer (some ⟨b, 0, none⟩), b, by rw [push_get, if_pos hl.symm], rfl, rfl⟩

theorem below_alloc (w : World) (ob : Obj) : Below w.heap.size w (w.alloc ob) := (Below.refl _ _).alloc (Nat.le_refl _) _
theorem heap_alloc (w : World) (ob : Obj) : (w.alloc ob).heap[w.heap.size]? = some ob := by show (w.heap.push ob)[w.heap.size]? = _; simp

/-- A new box. -/
theorem out_newbox {K : AV → Sto → Prop} (hr : Rel cx env σ vals a w) (e : TypeId) (cs : List AV) (arr : Array Value) (hrun : (execOp a.eval o).run cx.P w = .ok (.value (.pointer (some ⟨w.heap.size, 0, none⟩))) (w.alloc (.cells arr e)))
    (h1 : ∀ c ∈ cs, c.one = true) (hcs : RAL (Ok cx σ vals w) σ vals w cs arr.toList) (hK : lenK σ fun n => snocK σ (.box e cs) fun σ => K (.ref n 0 0) σ) : Out cx env a w o K := by
  have hK := snocK_spec _ _ _ (lenK_spec σ _ hK)
  obtain ⟨hs, hk⟩ := hr.s.push (below_alloc w (.cells arr e)) (.box e cs) (.pointer (some ⟨w.heap.size, 0, none⟩)) rfl (fun _ b h => by cases h; exact Nat.le_refl _)
    (fun hk => ⟨w.heap.size, arr, rfl, cx.hown _ hr.s.below.size, heap_alloc w _, h1, hk.raL _ _ hcs⟩)
  exact Out.run hrun (hr.keep hs hk) (ra_ref_new hr.s.len e cs w.heap.size) hK

/-- A new row of the call's own. -/
theorem out_newrow {K : AV → Sto → Prop} (hr : Rel cx env σ vals a w) (e : TypeId) (sz : Nat) (ap : Bool) (els : List PV) (w' : World) (hbw : Below w.heap.size w w') (v : Value) (hrun : (execOp a.eval o).run cx.P w = .ok (.value v) w')
    (hfresh : ∀ b, blkOf v = some b → w.heap.size ≤ b) (hsz : 0 < sz) (cells : List Value) (hown : Owns w' cx.own e sz ap v els.length cells) (hl : ∀ x ∈ els, x.cells.length = sz) (h1 : ∀ c ∈ els.flatMap PV.cells, c.one = true)
    (hcs : RdL (Ok cx σ vals w) w (els.flatMap PV.cells) cells) (hK : lenK σ fun n => snocK σ (.row e sz ap els) fun σ => K (.own n) σ) : Out cx env a w o K := by
  have hK := snocK_spec _ _ _ (lenK_spec σ _ hK)
  have hone : v.oneCell' = true := by rcases hown.2 with ⟨rfl, _⟩ | ⟨_, _, _, _, rfl, _⟩ <;> rfl
  obtain ⟨hs, hk⟩ := hr.s.push hbw (.row e sz ap els) v hone (fun _ => hfresh) (fun hk => ⟨hsz, cells, hown, hl, h1, hk.rdL hcs⟩)
  exact Out.run hrun (hr.keep hs hk) (ra_own_new hr.s.len _ _) hK

/-! ### Zero values -/
theorem zIs_rd {ok : Nat → Prop} {c : PV} {v : Value} (h : zIs c v = true) : Rd ok w c v ∧ c.one = true := by
  unfold zIs at h
  split at h <;> simp_all [Rd, PV.one, Value.oneCell']
  rename_i l s
  obtain ⟨h1, h2⟩ := h
  obtain ⟨⟨d⟩⟩ := s
  simp at h1 h2
  subst h1
  simp_all

theorem zAll_rd {ok : Nat → Prop} (cs : List PV) : ∀ vs : List Value, zAll cs vs = true → RdL ok w cs vs ∧ ∀ c ∈ cs, c.one = true := by
  induction cs with
  | nil => intro vs h; cases vs with
    | nil => simp [RdL]
    | cons v vs => cases h
  | cons c cs ih =>
    intro vs h
    cases vs with
    | nil => cases h
    | cons v vs =>
      have h' : (match zIs c v with | true => zAll cs vs | false => false) = true := h
      cases hz : zIs c v with
      | false => rw [hz] at h'; cases h'
      | true =>
        rw [hz] at h'
        obtain ⟨h1, h2⟩ := ih vs h'
        obtain ⟨h3, h4⟩ := zIs_rd (w := w) (ok := ok) hz
        exact ⟨by simp only [RdL]; exact ⟨v, vs, rfl, h3, h1⟩, by simpa [h4] using h2⟩

/-- What 'zPV' says. -/
theorem zPV_spec {P : Program} {t : TypeId} {z : PV} (h : zPV P t = some z) : ∃ i zv, P.info? t = some i ∧ i.zero = some zv ∧ (∀ ok w, Rd ok w z zv) ∧ (∀ ok w, RdL ok w z.cells zv.cells.toList) ∧ ∀ c ∈ z.cells, c.one = true := by
  unfold zPV opt at h
  cases hs : shOf P t with
  | none => rw [hs] at h; cases h
  | some s =>
    rw [hs] at h
    simp only at h
    cases hc : zCells P 8 t with
    | none => rw [hc] at h; cases h
    | some cs =>
      rw [hc] at h
      simp only at h
      cases hi : P.info? t with
      | none => rw [hi] at h; cases h
      | some i =>
        rw [hi] at h
        simp only at h
        cases hz : i.zero with
        | none => rw [hz] at h; cases h
        | some zv =>
          rw [hz] at h
          simp only at h
          refine ⟨i, zv, rfl, hz, ?_⟩
          have agg : ∀ vs, zv = .agg vs → need (zAll cs vs.toList) (some (PV.agg cs)) = some z → (∀ ok w, Rd ok w z zv) ∧ (∀ ok w, RdL ok w z.cells zv.cells.toList) ∧ ∀ c ∈ z.cells, c.one = true := by
            intro vs hv hn
            cases hza : zAll cs vs.toList with
            | false => rw [hza] at hn; cases hn
            | true =>
              rw [hza] at hn
              cases hn
              subst hv
              exact ⟨fun ok w => by simp only [Rd]; exact ⟨(zAll_rd (ok := fun _ => True) (w := default) cs _ hza).2, vs, rfl, (zAll_rd cs _ hza).1⟩, fun ok w => (zAll_rd cs _ hza).1, (zAll_rd (ok := fun _ => True) (w := default) cs _ hza).2⟩
          have one : ∀ c, cs = [c] → need (zIs c zv) (some c) = some z → (∀ ok w, Rd ok w z zv) ∧ (∀ ok w, RdL ok w z.cells zv.cells.toList) ∧ ∀ c ∈ z.cells, c.one = true := by
            intro c hc hn
            cases hza : zIs c zv with
            | false => rw [hza] at hn; cases hn
            | true =>
              rw [hza] at hn
              have hn' : c = z := Option.some.inj hn
              subst hn'
              have h1 : ∀ ok w, Rd ok w c zv := fun ok w => (zIs_rd hza).1
              have h2 := (zIs_rd (ok := fun _ => True) (w := default) hza).2
              have hcells : c.cells = [c] := by cases c <;> first | rfl | cases h2
              have hvc : zv.cells = #[zv] := by
                have := (h1 (fun _ => True) default).oneCell h2
                cases zv <;> first | rfl | cases this
              refine ⟨h1, fun ok w => ?_, ?_⟩
              · rw [hcells, hvc]; simp only [RdL]; exact ⟨zv, [], rfl, h1 ok w, rfl⟩
              · rw [hcells]; simpa using h2
          obtain ⟨ag, n⟩ := s
          cases ag with
          | true =>
            cases zv with
            | agg vs => exact agg vs rfl h
            | _ => cases h
          | false =>
            cases cs with
            | nil => cases h
            | cons c cs =>
              cases cs with
              | nil => exact one _ rfl (by cases zv <;> exact h)
              | cons _ _ => cases zv <;> cases h

theorem out_alloc {K : AV → Sto → Prop} (hr : Rel cx env σ vals a w) (e : TypeId) (z : PV) (ho : o.op = .alloc e) (hz : zPV cx.P e = some z)
    (hK : pvsK z.cells fun cs => lenK σ fun n => snocK σ (.box e cs) fun σ => K (.ref n 0 0) σ) : Out cx env a w o K := by
  obtain ⟨i, zv, hi, hzv, _, h2, h3⟩ := zPV_spec hz
  refine out_newbox hr e (z.cells.map .pv) zv.cells ?_ ?_ ((raL_map_pv _ _).2 (h2 _ _)) (pvsK_spec _ _ hK)
  · simp [execOp, ho, Instr.alloc, zeroValue, typeInfo, hi, hzv, newVar, newRow]
  · intro c hc; simp at hc; obtain ⟨x, hx, rfl⟩ := hc; exact h3 x hx

theorem zRep_rd {ok : Nat → Prop} {z : PV} : ∀ (vs : List Value) (n : Nat), zRep z vs n = true → RdL ok w (List.replicate n z) vs ∧ (0 < n → z.one = true) := by
  intro vs
  induction vs with
  | nil => intro n h; cases n with
    | zero => simp [RdL]
    | succ n => cases h
  | cons v vs ih =>
    intro n h
    cases n with
    | zero => cases h
    | succ n =>
      replace h : (match zIs z v with | true => zRep z vs n | false => false) = true := h
      cases hz : zIs z v with
      | false => rw [hz] at h; cases h
      | true =>
        rw [hz] at h
        have h3 := zIs_rd (ok := ok) (w := w) hz
        rw [List.replicate_succ]
        exact ⟨by simp only [RdL]; exact ⟨v, vs, rfl, h3.1, (ih n h).1⟩, fun _ => h3.2⟩

theorem opt_some' {α β : Type} {o : Option α} {f : α → Option β} {r : β} (h : opt o f = some r) : ∃ x, o = some x ∧ f x = some r := by
  unfold opt at h
  cases o with
  | none => cases h
  | some x => exact ⟨x, rfl, h⟩

theorem arrInfo_some {P : Program} {t : TypeId} {q : PV × Nat} (h : arrInfo P t = some q) : ∃ e i it vs, P.underlying t = some (.array q.2 e) ∧ P.info? e = some i ∧ i.size = 1 ∧ P.info? t = some it ∧ it.zero = some (.agg vs) ∧ zRep q.1 vs.toList q.2 = true ∧ 8 < q.2 ∧ q.2 ≤ 1000000 := by
  unfold arrInfo at h
  split at h
  · rename_i n e hu
    obtain ⟨i, hi, h⟩ := opt_some' h
    obtain ⟨z, hz, h⟩ := opt_some' h
    obtain ⟨it, hit, h⟩ := opt_some' h
    obtain ⟨zv, hzv, h⟩ := opt_some' h
    unfold need at h
    split at h
    · rename_i hb
      simp only [Bool.and_eq_true] at hb
      split at h
      · rename_i vs
        split at h
        · rename_i hr
          cases h
          exact ⟨e, i, it, vs, hu, hi, Nat.eq_of_beq_eq_true hb.2, hit, hzv, hr, Nat.le_of_ble_eq_true hb.1.1, Nat.le_of_ble_eq_true hb.1.2⟩
        · cases h
      · cases h
    · cases h
  · cases h

theorem flat_one (z : PV) (hz : z.one = true) (n : Nat) : (List.replicate n z).flatMap PV.cells = List.replicate n z := by
  have hc : z.cells = [z] := by cases z <;> first | rfl | cases hz
  induction n with
  | zero => rfl
  | succ n ih => rw [List.replicate_succ, List.flatMap_cons, ih, hc]; rfl

/-- An array that lies as a row. -/
theorem out_mkarr {K : AV → Sto → Prop} (hr : Rel cx env σ vals a w) (e : TypeId) (q : PV × Nat) (ho : o.op = .alloc e) (hq : arrInfo cx.P e = some q)
    (hK : lenK σ fun m => snocK σ (.row e 1 false (List.replicate q.2 q.1)) fun σ => K (.ref m 0 0) σ) : Out cx env a w o K := by
  obtain ⟨el, i, it, vs, hu, hi, hsz, hit, hz, hrep, h8, hmx⟩ := arrInfo_some hq
  have hK := snocK_spec _ _ _ (lenK_spec σ _ hK)
  have hrd := fun (ok : Nat → Prop) => (zRep_rd (ok := ok) (w := w) vs.toList q.2 hrep).1
  have hone := (zRep_rd (ok := fun _ => True) (w := w) vs.toList q.2 hrep).2 (by omega)
  have hlen : vs.size = q.2 := by have := (hrd (fun _ => True)).length; rw [List.length_replicate, Array.length_toList] at this; exact this
  have hcl : q.1.cells.length = 1 := by generalize q.1 = z at hone; cases z <;> first | rfl | cases hone
  obtain ⟨hs, hk⟩ := hr.s.push (below_alloc w (.cells vs e)) (.row e 1 false (List.replicate q.2 q.1)) (.slice (some ⟨w.heap.size, 0, none⟩) q.2 q.2) rfl (fun _ b h => by cases h; exact Nat.le_refl _)
    (fun hk => ⟨by omega, vs.toList, ⟨by rw [List.length_replicate, Array.length_toList, hlen]; omega, .inr ⟨w.heap.size, q.2, vs, (0, 0), by rw [List.length_replicate], cx.hown _ hr.s.below.size, heap_alloc w _, by simp, by simp only [maxLen]; omega, by omega, by rw [List.length_replicate, List.take_of_length_le (by simp; omega)], .inl rfl⟩⟩,
      fun x hx => by rw [List.mem_replicate] at hx; rw [hx.2]; exact hcl, fun c hc => by rw [flat_one _ hone, List.mem_replicate] at hc; rw [hc.2]; exact hone, by rw [flat_one _ hone]; exact hk.rdL (hrd _)⟩)
  refine Out.run (v := .pointer (some ⟨w.heap.size, 0, none⟩)) (w' := w.alloc (.cells vs e)) ?_ (hr.keep hs hk) (av := .ref σ.length 0 0) ?_ hK
  · simp [execOp, ho, Instr.alloc, zeroValue, typeInfo, hit, hz, newVar, newRow, Value.cells]
  · simp only [RA]
    refine ⟨by simp, ⟨_, rfl⟩, fun e2 sz2 ap2 els2 h => ?_, fun s2 h hb2 => ?_⟩
    · rw [push_get, if_pos rfl] at h; cases h
      exact ⟨.slice (some ⟨w.heap.size, 0, none⟩) q.2 q.2, w.heap.size, by rw [push_get, if_pos hr.s.len.symm], rfl, by simp⟩
    · rw [push_get, if_pos rfl] at h; cases h; cases hb2

theorem cells_one {v : Value} (h : v.oneCell' = true) : v.cells = #[v] := by cases v <;> first | rfl | cases h

/-- The cells of a value that goes into a box. -/
theorem cellsK_spec (hr : RelS cx σ vals w) {av : AV} {v : Value} (h : RA (Ok cx σ vals w) σ vals w av v) {K : List AV → Prop} (hK : cellsK av K) : ∃ cs, K cs ∧ RAL (Ok cx σ vals w) σ vals w cs v.cells.toList ∧ ∀ c ∈ cs, c.one = true := by
  cases av with
  | pv x =>
    simp only [RA] at h
    have one : x.one = true → K [.pv x] → ∃ cs, K cs ∧ RAL (Ok cx σ vals w) σ vals w cs v.cells.toList ∧ ∀ c ∈ cs, c.one = true := fun hx hk =>
      ⟨_, hk, by rw [cells_one (h.oneCell hx)]; simp only [RAL]; exact ⟨v, [], rfl, by simp only [RA]; exact h, rfl⟩, by simpa [AV.one] using hx⟩
    cases x with
    | agg cs =>
      simp only [Rd] at h
      obtain ⟨h0, vs, rfl, h⟩ := h
      exact ⟨_, pvsK_spec _ _ hK, (raL_map_pv _ _).2 h, fun c hc => by simp at hc; obtain ⟨x, hx, rfl⟩ := hc; exact h0 x hx⟩
    | tup cs => exact hK.elim
    | _ => exact one rfl hK
  | agg cs =>
    simp only [RA] at h
    obtain ⟨h0, vs, rfl, h⟩ := h
    exact ⟨cs, hK, h, h0⟩
  | own id =>
    have h' := h
    simp only [RA] at h
    have h1 := hr.one v (List.mem_of_getElem? h)
    exact ⟨_, hK, by rw [cells_one h1]; simp only [RAL]; exact ⟨v, [], rfl, h', rfl⟩, by simp [AV.one]⟩
  | ref id idx off =>
    have h' := h
    simp only [RA] at h
    obtain ⟨_, ⟨ad, rfl⟩, _⟩ := h
    exact ⟨_, hK, by rw [cells_one rfl]; simp only [RAL]; exact ⟨_, [], rfl, h', rfl⟩, by simp [AV.one]⟩
  | sub id sz lo n =>
    have h' := h
    simp only [RA] at h
    obtain ⟨_, ad, c, rfl, _⟩ := h
    exact ⟨_, hK, by rw [cells_one rfl]; simp only [RAL]; exact ⟨_, [], rfl, h', rfl⟩, by simp [AV.one]⟩
  | clo f caps =>
    have h' := h
    simp only [RA] at h
    obtain ⟨cv, rfl, _⟩ := h
    exact ⟨_, hK, by rw [cells_one rfl]; simp only [RAL]; exact ⟨_, [], rfl, h', rfl⟩, by simp [AV.one]⟩
  | _ => exact hK.elim

theorem out_box {K : AV → Sto → Prop} (hr : Rel cx env σ vals a w) (e : TypeId) (x : Operand) (ho : o.op = .box e x)
    (hK : cellsK (evF env x) fun cs => lenK σ fun n => snocK σ (.box e cs) fun σ => K (.ref n 0 0) σ) : Out cx env a w o K := by
  obtain ⟨cs, hk, h1, h2⟩ := cellsK_spec hr.s (hr.ev x) hK
  exact out_newbox hr e cs (a.eval x).cells (by simp [execOp, ho, Instr.box, newVar, newRow]) h2 h1 hk

/-! ### Aggregates -/
theorem set_take {α : Type} (l : List α) (m : Nat) (c : α) (h : m < l.length) : (l.set m c).take (m + 1) = l.take m ++ [c] := by
  apply List.ext_getElem?
  intro j
  rw [List.getElem?_take, List.getElem?_set]
  by_cases h1 : j < m
  · rw [if_pos (by omega), if_neg (by omega), List.getElem?_append_left (by simp; omega), List.getElem?_take, if_pos h1]
  · by_cases h2 : j = m
    · subst h2
      rw [if_pos (by omega), if_pos rfl, if_pos h, List.getElem?_append_right (by simp; omega)]
      simp [Nat.min_eq_left (Nat.le_of_lt h)]
    · rw [if_neg (by omega), List.getElem?_eq_none (by simp; omega)]

theorem set_drop {α : Type} (l : List α) (m n : Nat) (c : α) (h : m < n) : (l.set m c).drop n = l.drop n := by
  apply List.ext_getElem?
  intro j
  rw [List.getElem?_drop, List.getElem?_drop, List.getElem?_set, if_neg (by omega)]

theorem splice_toList (vs : List Value) (off : Nat) : ∀ (k : Nat) (cs : Array Value), off + k + vs.length ≤ cs.size →
    ((vs.zipIdx k).foldl (fun (cs : Array Value) (p : Value × Nat) => cs.setIfInBounds (off + p.2) p.1) cs).toList = cs.toList.take (off + k) ++ vs ++ cs.toList.drop (off + k + vs.length) := by
  induction vs with
  | nil => intro k cs _; simp
  | cons c vs ih =>
    intro k cs h
    simp only [List.length_cons] at h
    rw [List.zipIdx_cons, List.foldl_cons, ih (k + 1) _ (by simp; omega)]
    rw [Array.toList_setIfInBounds, show off + (k + 1) = off + k + 1 from rfl, set_take _ _ _ (by simp; omega), set_drop _ _ _ _ (by omega)]
    simp [Nat.add_assoc, Nat.add_comm, Nat.add_left_comm]

/-- One part put among the cells: the model's, and ours. -/
theorem splice_ra {ok : Nat → Prop} {z vs : List AV} {off : Nat} {K : List AV → Prop} (hK : spliceK vs z off K) {cur : Array Value} (hz : RAL ok σ vals w z cur.toList) {us : Array Value} (hv : RAL ok σ vals w vs us.toList) :
    ∃ z', K z' ∧ off + us.size ≤ cur.size ∧ RAL ok σ vals w z' ((us.zipIdx.foldl (fun (cs : Array Value) (p : Value × Nat) => cs.setIfInBounds (off + p.2) p.1) cur)).toList ∧ ∀ P : AV → Prop, (∀ c ∈ z, P c) → (∀ c ∈ vs, P c) → ∀ c ∈ z', P c := by
  obtain ⟨pre, mid, post, rfl, h1, h2, hk⟩ := spliceK_spec vs z off K hK
  obtain ⟨u1, u3, hc, g1, g3⟩ := (raL_append _ _ _).1 hz
  obtain ⟨u1, u2, rfl, g1, g2⟩ := (raL_append _ _ _).1 g1
  have l1 := g1.length
  have l2 := g2.length
  have l3 := hv.length
  have hsz : cur.size = u1.length + u2.length + u3.length := by rw [← Array.length_toList, hc]; simp [Nat.add_assoc]
  have hus : us.toList.length = us.size := Array.length_toList
  have hle : off + us.size ≤ cur.size := by rw [← hus]; omega
  refine ⟨_, hk, hle, ?_, fun P hz hv c hc => ?_⟩
  · have hs := splice_toList us.toList off 0 cur (by simpa using hle)
    have e : us.zipIdx.foldl (fun (cs : Array Value) (p : Value × Nat) => cs.setIfInBounds (off + p.2) p.1) cur = (us.toList.zipIdx 0).foldl (fun (cs : Array Value) (p : Value × Nat) => cs.setIfInBounds (off + p.2) p.1) cur := by
      rw [← Array.foldl_toList]; simp
    rw [e, hs, hc]
    refine (raL_append _ _ _).2 ⟨u1 ++ us.toList, u3, ?_, (raL_append _ _ _).2 ⟨u1, us.toList, rfl, g1, hv⟩, g3⟩
    have e1 : (u1 ++ u2 ++ u3).take (off + 0) = u1 := by
      rw [Nat.add_zero, List.append_assoc]; exact List.take_left' (by omega)
    have e2 : (u1 ++ u2 ++ u3).drop (off + 0 + us.toList.length) = u3 := List.drop_left' (by simp only [List.length_append]; omega)
    rw [e1, e2]
  · simp only [List.mem_append] at hc
    rcases hc with (hc | hc) | hc
    · exact hz c (by simp [hc])
    · exact hv c hc
    · exact hz c (by simp [hc])

/-- Parts put among the cells one after the other. -/
theorem fill_ra (hr : Rel cx env σ vals a w) (place : Nat → Option (Nat × Nat)) : ∀ (ps : List (Nat × Operand)) (qs : List (Nat × Nat × Operand)) (z : List AV) (cur : Array Value) (K : List AV → Prop),
    ps.map (fun p => (place p.1).map fun q => (q.1, q.2, p.2)) = qs.map some → RAL (Ok cx σ vals w) σ vals w z cur.toList → (∀ c ∈ z, c.one = true) → buildK z (qs.map fun p => (p.1, p.2.1, evF env p.2.2)) K →
    ∃ z' arr, K z' ∧ Instr.fill place cur (ps.map fun p => (p.1, a.eval p.2)) = some arr ∧ RAL (Ok cx σ vals w) σ vals w z' arr.toList ∧ ∀ c ∈ z', c.one = true := by
  intro ps
  induction ps with
  | nil =>
    intro qs z cur K hq hz h1 hK
    cases qs with
    | nil => exact ⟨z, cur, hK, rfl, hz, h1⟩
    | cons q qs => simp at hq
  | cons p ps ih =>
    intro qs z cur K hq hz h1 hK
    cases qs with
    | nil => simp at hq
    | cons q qs =>
      simp only [List.map_cons, List.cons.injEq] at hq
      obtain ⟨hq1, hq2⟩ := hq
      cases hp : place p.1 with
      | none => rw [hp] at hq1; cases hq1
      | some pl =>
        rw [hp] at hq1
        simp only [Option.map_some, Option.some.injEq] at hq1
        subst hq1
        obtain ⟨off, size⟩ := pl
        replace hK : cellsK (evF env p.2) fun vs => vs.length = size ∧ spliceK vs z off fun z => buildK z (qs.map fun p => (p.1, p.2.1, evF env p.2.2)) K := hK
        obtain ⟨vs, ⟨hl, hk⟩, hv, hv1⟩ := cellsK_spec hr.s (hr.ev p.2) hK
        obtain ⟨z', hk', hle, hz', hP⟩ := splice_ra hk hz hv
        obtain ⟨z2, arr, g1, g2, g3, g4⟩ := ih qs z' _ K hq2 hz' (hP _ h1 hv1) hk'
        refine ⟨z2, arr, g1, ?_, g3, g4⟩
        have hsize : (a.eval p.2).cells.size = size := by rw [← Array.length_toList, hv.length, hl]
        simp only [List.map_cons, Instr.fill, hp]
        rw [if_neg (by simp [hsize]; omega)]
        exact g2

theorem mapO_spec {α β : Type} (f : α → Option β) (l : List α) : ∀ r, mapO f l = some r → l.map f = r.map some ∧ l.mapM f = some r := by
  induction l with
  | nil => intro r h; cases h; exact ⟨rfl, rfl⟩
  | cons x l ih =>
    intro r h
    have h' : opt (f x) (fun b => opt (mapO f l) fun t => some (b :: t)) = some r := h
    unfold opt at h'
    cases hx : f x with
    | none => rw [hx] at h'; cases h'
    | some b =>
      rw [hx] at h'
      simp only at h'
      cases hl : mapO f l with
      | none => rw [hl] at h'; cases h'
      | some t =>
        rw [hl] at h'
        cases h'
        obtain ⟨h1, h2⟩ := ih t hl
        exact ⟨by simp [hx, h1], by simp [List.mapM_cons, hx, h2]⟩

theorem out_build {K : AV → Sto → Prop} (hr : Rel cx env σ vals a w) (t : TypeId) (parts : Array (Nat × Operand)) (fs : Array Field) (cs : List PV) (pl : List (Nat × Nat)) (qs : List (Nat × Nat × Operand)) (ho : o.op = .build t parts) (hu : cx.P.underlying t = some (.struct fs)) (hz : zPV cx.P t = some (.agg cs))
    (hpl : mapO (fun f : Field => opt (cx.P.info? f.type) fun i => some (f.offset, i.size)) fs.toList = some pl) (hq : mapO (fun p : Nat × Operand => opt (pl[p.1]?) fun q => some (q.1, q.2, p.2)) parts.toList = some qs)
    (hK : evParts env qs fun ps => pvsK cs fun z => buildK z ps fun cs => aggK cs fun a => K a σ) : Out cx env a w o K := by
  obtain ⟨i, zv, hi, hzv, h1, h2, h3⟩ := zPV_spec hz
  have hK := pvsK_spec _ _ (evParts_spec env qs _ hK)
  have hopt : ∀ {α β : Type} (o : Option α) (f : α → β), (opt o fun x => some (f x)) = o.map f := fun o f => by cases o <;> rfl
  have hq' : parts.toList.map (fun p => ((pl[·]?) p.1).map fun q => (q.1, q.2, p.2)) = qs.map some := by
    rw [← (mapO_spec _ _ _ hq).1]
    apply List.map_congr_left
    intro p _
    exact (hopt _ _).symm
  obtain ⟨z', arr, g1, g2, g3, g4⟩ := fill_ra hr (pl[·]?) parts.toList qs (cs.map .pv) zv.cells _ hq' ((raL_map_pv _ _).2 (h2 _ _)) (fun c hc => by simp at hc; obtain ⟨x, hx, rfl⟩ := hc; exact h3 x hx) hK
  have hbuilt : cx.P.built t (parts.map fun p => (p.1, a.eval p.2)).toList = some arr := by
    have hm : fs.toList.mapM (fun f => (cx.P.info? f.type).map fun i => (f.offset, i.size)) = some pl := by
      rw [← (mapO_spec _ _ _ hpl).2]
      congr 1
      funext f
      exact (hopt _ _).symm
    simp only [Program.built, hi, hu, hzv, hm, Array.toList_map]
    rw [← g2]
    congr 1
    funext i
    simp
  have hrun : (execOp a.eval o).run cx.P w = .ok (.value (.agg arr)) w := by
    have := run_build (P := cx.P) w t (parts.map fun p => (p.1, a.eval p.2)) arr hbuilt
    simp only [execOp, ho, Sem.run_bind, this, Result.andThen_ok, Sem.run_pure]
  rcases aggK_spec z' _ g1 with ⟨l, rfl, hk⟩ | hk
  · refine Out.run hrun hr (av := .pv (.agg l)) ?_ hk
    simp only [RA, Rd]
    exact ⟨fun c hc => g4 (.pv c) (by simpa using hc), arr, rfl, (raL_map_pv _ _).1 g3⟩
  · refine Out.run hrun hr (av := .agg z') ?_ hk
    simp only [RA]
    exact ⟨g4, arr, rfl, g3⟩

end
end Go.Dv
end
section
/-
  What is read out of a slot as a value alone; rows that are read alone from then on.
-/
set_option linter.unusedSimpArgs false
namespace Go.Dv
open Go.RowKit
section
variable {cx : Cx} {env : Env} {σ : Sto} {vals : List Value} {a : Act} {w w' : World} {o : Oper}

theorem readAV_list (σ : Sto) (cs : List AV) : (AV.rec_1 (motive_1 := fun _ => (PV → Prop) → Prop) (motive_2 := fun _ => (List PV → Prop) → Prop)
    (fun _ => False) (fun x K => K x)
    (fun id K => nthK σ id fun b => match b with
      | .row _ sz _ els => K (.sl sz els)
      | .fz x => K x
      | _ => False)
    (fun _ _ _ _ => False) (fun id sz lo n K => nthK σ id fun b => winK sz lo n b fun els => K (.sl sz els)) (fun _ ih K => ih fun l => K (.agg l)) (fun _ ih K => ih fun l => K (.tup l)) (fun _ _ _ _ => False) (fun K => K []) (fun _ _ h t K => h fun x => t fun l => K (x :: l)) cs : (List PV → Prop) → Prop) = readAVs σ cs := by
  induction cs with
  | nil => rfl
  | cons c cs ih =>
    funext K
    exact congrArg (fun f : (List PV → Prop) → Prop => readAV σ c fun x => f fun l => K (x :: l)) ih

theorem readAV_agg (σ : Sto) (cs : List AV) (K : PV → Prop) (h : readAV σ (.agg cs) K) : readAVs σ cs fun l => K (.agg l) := by
  rw [← readAV_list]; exact h
theorem readAV_agg' (σ : Sto) (cs : List AV) (K : PV → Prop) (h : readAVs σ cs fun l => K (.agg l)) : readAV σ (.agg cs) K := by
  rw [← readAV_list] at h; exact h
theorem readAV_tup' (σ : Sto) (cs : List AV) (K : PV → Prop) (h : readAVs σ cs fun l => K (.tup l)) : readAV σ (.tup cs) K := by
  rw [← readAV_list] at h; exact h
theorem nthK_mk {α : Type} (l : List α) : ∀ (i : Nat) (x : α) (K : α → Prop), l[i]? = some x → K x → nthK l i K := by
  induction l with
  | nil => intro i x K h; simp at h
  | cons y l ih =>
    intro i x K h hk
    cases i with
    | zero => simp at h; subst h; exact hk
    | succ i => exact ih i x K (by simpa using h) hk
theorem readAV_tup (σ : Sto) (cs : List AV) (K : PV → Prop) (h : readAV σ (.tup cs) K) : readAVs σ cs fun l => K (.tup l) := by
  rw [← readAV_list]; exact h

theorem freezeAV_list (cs : List AV) : (AV.rec_1 (motive_1 := fun _ => Sto → (Sto → Prop) → Prop) (motive_2 := fun _ => Sto → (Sto → Prop) → Prop)
    (fun _ _ => False)
    (fun _ σ K => K σ)
    (fun id σ K => nthK σ id fun b => match b with
      | .row _ sz _ els => setK σ id (.fz (.sl sz els)) K
      | .fz _ => K σ
      | _ => False)
    (fun _ _ _ _ _ => False) (fun id _ _ _ σ K => nthK σ id fun b => match b with
      | .row _ sz _ els => setK σ id (.fz (.sl sz els)) K
      | .fz _ => K σ
      | _ => False) (fun _ ih σ K => ih σ K) (fun _ ih σ K => ih σ K) (fun _ _ _ _ _ => False) (fun σ K => K σ) (fun _ _ h t σ K => h σ fun σ => t σ K) cs : Sto → (Sto → Prop) → Prop) = freezeAVs cs := by
  induction cs with
  | nil => rfl
  | cons c cs ih =>
    funext σ K
    exact congrArg (fun f : Sto → (Sto → Prop) → Prop => freezeAV c σ fun σ => f σ K) ih

theorem freezeAV_agg (cs : List AV) (σ : Sto) (K : Sto → Prop) (h : freezeAV (.agg cs) σ K) : freezeAVs cs σ K := by
  rw [← freezeAV_list]; exact h
theorem freezeAV_tup (cs : List AV) (σ : Sto) (K : Sto → Prop) (h : freezeAV (.tup cs) σ K) : freezeAVs cs σ K := by
  rw [← freezeAV_list]; exact h

/-- Where a value may be read that names rows of the call's own, too. -/
def OkM (cx : Cx) (σ : Sto) (vals : List Value) (w : World) (b : Nat) : Prop := Ok cx σ vals w b ∨ Mut σ vals b

theorem rd_okM {x : PV} {v : Value} (h : Rd (Ok cx σ vals w) w x v) : Rd (OkM cx σ vals w) w x v := Rd.mono (fun _ h => .inl h) (fun _ _ _ => rfl) x v h

theorem one_of_rd {ok : Nat → Prop} {x : PV} {v : Value} (h : Rd ok w x v) (hv : v.oneCell' = true) : x.one = true := by
  cases x with
  | agg cs => simp only [Rd] at h; obtain ⟨_, vs, rfl, _⟩ := h; cases hv
  | tup cs => simp only [Rd] at h; obtain ⟨vs, rfl, _⟩ := h; cases hv
  | _ => rfl

mutual
theorem read_spec (hr : RelS cx σ vals w) : ∀ (av : AV) (v : Value) (K : PV → Prop), RA (Ok cx σ vals w) σ vals w av v → readAV σ av K → ∃ x, K x ∧ Rd (OkM cx σ vals w) w x v ∧ (av.one = true → x.one = true) ∧ ∀ K2 : PV → Prop, K2 x → readAV σ av K2
  | .bad, _, _, _, h => h.elim
  | .pv x, v, K, hv, h => ⟨x, h, rd_okM (by simpa only [RA] using hv), fun h => h, fun _ h => h⟩
  | .own id, v, K, hv, h => by
    simp only [RA] at hv
    obtain ⟨b, hb, hk⟩ := nthK_iff σ id _ h
    obtain ⟨v', hv', hrb⟩ := hr.val hb
    obtain rfl := getElem?_of hv hv'
    have h1 := hr.one v (List.mem_of_getElem? hv)
    cases b with
    | row e sz ap els =>
      refine ⟨_, hk, ?_, fun _ => rfl, fun K2 h2 => nthK_mk σ id _ _ hb h2⟩
      obtain ⟨ad, c, g1, g2, g3, g4⟩ := slV_of_row hrb
      simp only [Rd]
      refine ⟨ad, c, g1, g2, g3, g4.imp_right ?_⟩
      rintro ⟨b, o', rfl, hrow⟩
      exact ⟨b, o', rfl, .inr ⟨id, _, v, hb, rfl, hv, by rw [g1]; rfl⟩, RdRow.mono (fun _ h => .inl h) (fun _ _ _ => rfl) b sz o' (fun _ => rfl) els hrow⟩
    | fz x => exact ⟨x, hk, rd_okM hrb, fun _ => one_of_rd hrb h1, fun K2 h2 => nthK_mk σ id _ _ hb h2⟩
    | _ => exact hk.elim
  | .ref _ _ _, _, _, _, h => h.elim
  | .sub id sz lo n, v, K, hv, h => by
    obtain ⟨b, hb, hk⟩ := nthK_iff σ id _ h
    obtain ⟨els, h1, h2, h3, ad, c, h4, h5, h6, h7, _⟩ := win_spec hr hv hb hk
    refine ⟨_, h1, ?_, fun _ => rfl, fun K2 hk2 => nthK_mk σ id _ _ hb (h3 _ hk2)⟩
    simp only [Rd]
    refine ⟨ad, c, by rw [h2]; exact h4, by omega, h6, h7.imp_right ?_⟩
    rintro ⟨g, g1, g2, g3⟩
    refine ⟨g, _, g1, ?_, RdRow.mono (fun _ h => .inl h) (fun _ _ _ => rfl) g sz _ (fun _ => rfl) els g2⟩
    rcases g3 with ⟨e, ap, els0, u, rfl, hu, hg⟩ | ⟨g3, _⟩
    · exact .inr ⟨id, _, u, hb, rfl, hu, hg⟩
    · exact .inl g3
  | .clo _ _, _, _, _, h => (show False from h).elim
  | .agg cs, v, K, hv, h => by
    simp only [RA] at hv
    obtain ⟨h0, vs, rfl, hv⟩ := hv
    obtain ⟨xs, hk, h1, h2, h3⟩ := reads_spec hr cs _ _ hv (readAV_agg σ cs K h)
    exact ⟨_, hk, by simp only [Rd]; exact ⟨h2 h0, vs, rfl, h1⟩, (fun h => by cases h), fun K2 hk2 => readAV_agg' σ cs K2 (h3 _ hk2)⟩
  | .tup cs, v, K, hv, h => by
    simp only [RA] at hv
    obtain ⟨vs, rfl, hv⟩ := hv
    obtain ⟨xs, hk, h1, h2, h3⟩ := reads_spec hr cs _ _ hv (readAV_tup σ cs K h)
    exact ⟨_, hk, by simp only [Rd]; exact ⟨vs, rfl, h1⟩, (fun h => by cases h), fun K2 hk2 => readAV_tup' σ cs K2 (h3 _ hk2)⟩
theorem reads_spec (hr : RelS cx σ vals w) : ∀ (l : List AV) (vs : List Value) (K : List PV → Prop), RAL (Ok cx σ vals w) σ vals w l vs → readAVs σ l K → ∃ xs, K xs ∧ RdL (OkM cx σ vals w) w xs vs ∧ ((∀ c ∈ l, c.one = true) → ∀ c ∈ xs, c.one = true) ∧ ∀ K2 : List PV → Prop, K2 xs → readAVs σ l K2
  | [], vs, K, hv, h => ⟨[], h, by simpa only [RAL, RdL] using hv, (fun _ _ h => by cases h), fun _ h => h⟩
  | c :: l, vs, K, hv, h => by
    simp only [RAL] at hv
    obtain ⟨v, r, rfl, h1, h2⟩ := hv
    obtain ⟨x, hk, h3, h4, h7⟩ := read_spec hr c v _ h1 h
    obtain ⟨xs, hk, h5, h6, h8⟩ := reads_spec hr l r _ h2 hk
    refine ⟨x :: xs, hk, by simp only [RdL]; exact ⟨v, r, rfl, h3, h5⟩, fun hc y hy => ?_, fun K2 hk2 => h7 _ (h8 _ hk2)⟩
    rcases List.mem_cons.1 hy with rfl | hy
    · exact h4 (hc c (by simp))
    · exact h6 (fun d hd => hc d (by simp [hd])) y hy
end

/-- A store in which some rows have been given up. -/
def Fz (σ0 σ : Sto) : Prop := ∀ i : Nat, σ[i]? = σ0[i]? ∨ ∃ e sz ap els, σ0[i]? = some (.row e sz ap els) ∧ σ[i]? = some (.fz (.sl sz els))

mutual
theorem freeze_spec : ∀ (av : AV) (σ0 σ : Sto) (v : Value) (K : PV → Prop) (K' : Sto → Prop), Fz σ0 σ → RelS cx σ vals w → RA (Ok cx σ vals w) σ vals w av v → readAV σ0 av K → freezeAV av σ K' →
    ∃ x σ', K x ∧ K' σ' ∧ Fz σ0 σ' ∧ RelS cx σ' vals w ∧ Keep cx σ vals w σ' vals w ∧ Rd (Ok cx σ' vals w) w x v ∧ (av.one = true → x.one = true)
  | .bad, _, _, _, _, _, _, _, _, h, _ => h.elim
  | .pv x, σ0, σ, v, K, K', hf, hr, hv, h, h' => ⟨x, σ, h, h', hf, hr, .refl, by simpa only [RA] using hv, fun h => h⟩
  | .own id, σ0, σ, v, K, K', hf, hr, hv, h, h' => by
    simp only [RA] at hv
    obtain ⟨b0, hb0, hk⟩ := nthK_iff σ0 id _ h
    obtain ⟨b, hb, hk'⟩ := nthK_iff σ id _ h'
    obtain ⟨v', hv', hrb⟩ := hr.val hb
    obtain rfl := getElem?_of hv hv'
    have h1 := hr.one v (List.mem_of_getElem? hv)
    have fzc : ∀ x, b = .fz x → K x → ∃ x σ', K x ∧ K' σ' ∧ Fz σ0 σ' ∧ RelS cx σ' vals w ∧ Keep cx σ vals w σ' vals w ∧ Rd (Ok cx σ' vals w) w x v ∧ ((AV.own id).one = true → x.one = true) := by
      intro x hx hk
      subst hx
      exact ⟨x, σ, hk, hk', hf, hr, .refl, hrb, fun _ => one_of_rd hrb h1⟩
    rcases hf id with he | ⟨e, sz, ap, els, h0, h2⟩
    · rw [he, hb0] at hb
      cases hb
      cases b0 with
      | row e sz ap els =>
        have hbσ : σ[id]? = some (.row e sz ap els) := he.trans hb0
        obtain ⟨hs, hkp⟩ := hr.freeze hbσ
        obtain ⟨hlt, hk'⟩ := setK_spec _ _ _ _ hk'
        refine ⟨_, _, hk, hk', fun i => ?_, hs, hkp, hs.sto id (.fz (.sl sz els)) v (by rw [set_get hlt]; simp) hv, fun _ => rfl⟩
        rw [set_get hlt]
        split
        · rename_i hi; subst hi; exact .inr ⟨e, sz, ap, els, hb0, rfl⟩
        · exact hf i
      | fz x => exact fzc x rfl hk
      | _ => exact hk.elim
    · rw [h0] at hb0
      cases hb0
      rw [h2] at hb
      cases hb
      exact fzc _ rfl hk
  | .ref _ _ _, _, _, _, _, _, _, _, _, h, _ => h.elim
  | .sub id sz lo n, σ0, σ, v, K, K', hf, hr, hv, h, h' => by
    obtain ⟨b0, hb0, hk⟩ := nthK_iff σ0 id _ h
    obtain ⟨b, hb, hk'⟩ := nthK_iff σ id _ h'
    -- the part of a frozen row reads as it stands
    have fzc : ∀ (els : List PV) (σ1 : Sto), RelS cx σ1 vals w → σ1[id]? = some (.fz (.sl sz els)) → lo + n ≤ els.length → Rd (Ok cx σ1 vals w) w (.sl sz (cut lo (lo + n) els)) v := by
      intro els σ1 hr1 hb1 hle
      have hv1 : RA (Ok cx σ1 vals w) σ1 vals w (.sub id sz lo n) v := by
        simp only [RA] at hv ⊢
        exact ⟨(List.getElem?_eq_some_iff.1 hb1).1, hv.2⟩
      have hw : winK sz lo n (.fz (.sl sz els)) (fun x => x = cut lo (lo + n) els) := by
        show (match Nat.beq sz sz with | true => lo + n ≤ els.length ∧ _ | false => False)
        rw [show Nat.beq sz sz = true from Nat.beq_refl sz]; exact ⟨hle, rfl⟩
      obtain ⟨els2, rfl, h2, _, ad, c, h4, h5, h6, h7, _⟩ := win_spec hr1 hv1 hb1 hw
      simp only [Rd]
      refine ⟨ad, c, by rw [h2]; exact h4, by omega, h6, h7.imp_right ?_⟩
      rintro ⟨g, g1, g2, g3⟩
      refine ⟨g, _, g1, ?_, g2⟩
      rcases g3 with ⟨e, ap, els0, u, hd, _⟩ | ⟨g3, _⟩
      · cases hd
      · exact g3
    rcases hf id with he | ⟨e, sz', ap, els, h0, h2⟩
    · rw [he, hb0] at hb
      cases hb
      have hbσ := he.trans hb0
      obtain ⟨els, h1, _, _, _, _, _, _, _, _, e, ap, els0, hor⟩ := win_spec hr hv hbσ hk
      rcases hor with ⟨rfl, rfl, hle⟩ | ⟨rfl, rfl, hle⟩
      · obtain ⟨hs, hkp⟩ := hr.freeze hbσ
        obtain ⟨hlt, hk'⟩ := setK_spec _ _ _ _ hk'
        refine ⟨_, _, h1, hk', fun i => ?_, hs, hkp, fzc els0 _ hs (by rw [set_get hlt]; simp) hle, fun _ => rfl⟩
        rw [set_get hlt]
        split
        · rename_i hi; subst hi; exact .inr ⟨e, sz, ap, els0, hb0, rfl⟩
        · exact hf i
      · exact ⟨_, σ, h1, hk', hf, hr, .refl, fzc els0 σ hr hbσ hle, fun _ => rfl⟩
    · rw [h0] at hb0
      cases hb0
      rw [h2] at hb
      cases hb
      replace hk : (match Nat.beq sz' sz with | true => lo + n ≤ els.length ∧ K (.sl sz (cut lo (lo + n) els)) | false => False) := hk
      cases hs : Nat.beq sz' sz with
      | false => rw [hs] at hk; exact hk.elim
      | true =>
        rw [hs] at hk
        have := Nat.eq_of_beq_eq_true hs
        subst this
        exact ⟨_, σ, hk.2, hk', hf, hr, .refl, fzc els σ hr h2 hk.1, fun _ => rfl⟩
  | .clo _ _, _, _, _, _, _, _, _, _, h, _ => (show False from h).elim
  | .agg cs, σ0, σ, v, K, K', hf, hr, hv, h, h' => by
    simp only [RA] at hv
    obtain ⟨h0, vs, rfl, hv⟩ := hv
    obtain ⟨xs, σ', g1, g2, g3, g4, g5, g6, g7⟩ := freezes_spec cs σ0 σ _ _ K' hf hr hv (readAV_agg σ0 cs K h) (freezeAV_agg cs σ K' h')
    exact ⟨_, σ', g1, g2, g3, g4, g5, by simp only [Rd]; exact ⟨g7 h0, vs, rfl, g6⟩, fun h => by cases h⟩
  | .tup cs, σ0, σ, v, K, K', hf, hr, hv, h, h' => by
    simp only [RA] at hv
    obtain ⟨vs, rfl, hv⟩ := hv
    obtain ⟨xs, σ', g1, g2, g3, g4, g5, g6, g7⟩ := freezes_spec cs σ0 σ _ _ K' hf hr hv (readAV_tup σ0 cs K h) (freezeAV_tup cs σ K' h')
    exact ⟨_, σ', g1, g2, g3, g4, g5, by simp only [Rd]; exact ⟨vs, rfl, g6⟩, fun h => by cases h⟩
theorem freezes_spec : ∀ (l : List AV) (σ0 σ : Sto) (vs : List Value) (K : List PV → Prop) (K' : Sto → Prop), Fz σ0 σ → RelS cx σ vals w → RAL (Ok cx σ vals w) σ vals w l vs → readAVs σ0 l K → freezeAVs l σ K' →
    ∃ xs σ', K xs ∧ K' σ' ∧ Fz σ0 σ' ∧ RelS cx σ' vals w ∧ Keep cx σ vals w σ' vals w ∧ RdL (Ok cx σ' vals w) w xs vs ∧ ((∀ c ∈ l, c.one = true) → ∀ c ∈ xs, c.one = true)
  | [], σ0, σ, vs, K, K', hf, hr, hv, h, h' => ⟨[], σ, h, h', hf, hr, .refl, by simpa only [RAL, RdL] using hv, fun _ _ h => by cases h⟩
  | c :: l, σ0, σ, vs, K, K', hf, hr, hv, h, h' => by
    simp only [RAL] at hv
    obtain ⟨v, r, rfl, h1, h2⟩ := hv
    obtain ⟨x, σ1, hk, hk', g3, g4, g5, g6, g7⟩ := freeze_spec c σ0 σ v _ _ hf hr h1 h h'
    obtain ⟨xs, σ2, hk, hk', f3, f4, f5, f6, f7⟩ := freezes_spec l σ0 σ1 r _ K' g3 g4 (g5.raL _ _ h2) hk hk'
    refine ⟨x :: xs, σ2, hk, hk', f3, f4, g5.trans f5, by simp only [RdL]; exact ⟨v, r, rfl, f5.rd g6, f6⟩, fun hc y hy => ?_⟩
    rcases List.mem_cons.1 hy with rfl | hy
    · exact g7 (hc c (by simp))
    · exact f7 (fun d hd => hc d (by simp [hd])) y hy
end

theorem Fz.refl (σ : Sto) : Fz σ σ := fun _ => .inl rfl
end
end Go.Dv
end
