/-
  A part of the proof: own texts, laid together by a tool of our own: DvOps7 DvOps8 DvRen DvOps9 DvOps10 DvOps11 DvOps12 DvMut DvCode.
-/
import Derived.Test.YtklihepoaoceoaaDv1
import Derived.Lib.AppendStr
import Derived.Laws.AppendOwnNone
import Derived.Great.BuildSlice
import Derived.Laws.IdiomStrings
import Derived.RangeFuncNested
section
/-
  Rows that are made, grown, written.
-/
set_option linter.unusedSimpArgs false
namespace Go.Dv
open Go.RowKit Go.Great Go.Lib
section
variable {cx : Cx} {env : Env} {σ : Sto} {vals : List Value} {a : Act} {w w' : World} {o : Oper}

theorem rd_cells {ok : Nat → Prop} {x : PV} {v : Value} (h : Rd ok w x v) (hx : ∀ l, x ≠ .tup l) : RdL ok w x.cells v.cells.toList ∧ ∀ c ∈ x.cells, c.one = true := by
  have one : x.one = true → x.cells = [x] → RdL ok w x.cells v.cells.toList ∧ ∀ c ∈ x.cells, c.one = true := fun h1 hc => by
    rw [hc, cells_one (h.oneCell h1)]
    exact ⟨by simp only [RdL]; exact ⟨v, [], rfl, h, rfl⟩, by simpa using h1⟩
  cases x with
  | agg cs => simp only [Rd] at h; obtain ⟨h0, vs, rfl, h1⟩ := h; exact ⟨h1, h0⟩
  | tup l => exact (hx l rfl).elim
  | _ => exact one rfl rfl

theorem lenB_spec (sz : Nat) (xs : List PV) (h : lenB sz xs = true) : ∀ x ∈ xs, x.cells.length = sz ∧ ∀ l, x ≠ .tup l := by
  induction xs with
  | nil => intro x hx; cases hx
  | cons x xs ih =>
    have main : (∀ l, x ≠ .tup l) → (match Nat.beq x.cells.length sz with | true => lenB sz xs | false => false) = true → ∀ y ∈ x :: xs, y.cells.length = sz ∧ ∀ l, y ≠ .tup l := by
      intro hx h y hy
      cases hb : Nat.beq x.cells.length sz with
      | false => rw [hb] at h; cases h
      | true =>
        rw [hb] at h
        rcases List.mem_cons.1 hy with rfl | hy
        · exact ⟨Nat.eq_of_beq_eq_true hb, hx⟩
        · exact ih h y hy
    cases x with
    | tup l => cases h
    | _ => exact main (by simp) h

/-- Elements that read as said: their cells one after the other. -/
theorem rdL_flat {ok : Nat → Prop} (xs : List PV) : ∀ (vs : List Value), RdL ok w xs vs → (∀ x ∈ xs, ∀ l, x ≠ .tup l) → RdL ok w (xs.flatMap PV.cells) (vs.flatMap (·.cells.toList)) ∧ ∀ c ∈ xs.flatMap PV.cells, c.one = true := by
  induction xs with
  | nil => intro vs h _; simp only [RdL] at h; subst h; exact ⟨by simp [RdL], by simp⟩
  | cons x xs ih =>
    intro vs h hx
    simp only [RdL] at h
    obtain ⟨v, r, rfl, h1, h2⟩ := h
    obtain ⟨g1, g2⟩ := ih r h2 (fun y hy => hx y (by simp [hy]))
    obtain ⟨f1, f2⟩ := rd_cells h1 (hx x (by simp))
    rw [List.flatMap_cons, List.flatMap_cons]
    exact ⟨(rdL_append _ _ _).2 ⟨_, _, rfl, f1, g1⟩, fun c hc => by rcases List.mem_append.1 hc with h | h; exact f2 c h; exact g2 c h⟩

theorem fill_row (sz : Nat) : ∀ (vs : List Value) (k : Nat) (cur : Array Value), (∀ v ∈ vs, v.cells.size = sz) → (k + vs.length) * sz ≤ cur.size →
    ∃ arr, Instr.fill (fun i => some (i * sz, sz)) cur ((vs.zipIdx k).map fun p => (p.2, p.1)) = some arr ∧ arr.toList = cur.toList.take (k * sz) ++ vs.flatMap (·.cells.toList) ++ cur.toList.drop ((k + vs.length) * sz) := by
  intro vs
  induction vs with
  | nil => intro k cur _ _; exact ⟨cur, rfl, by simp⟩
  | cons v vs ih =>
    intro k cur h1 h2
    simp only [List.length_cons] at h2
    have hv : v.cells.size = sz := h1 v (by simp)
    have hm : (k + (vs.length + 1)) * sz = k * sz + sz + vs.length * sz := by simp only [Nat.add_mul, Nat.one_mul]; omega
    have hsp := splice_toList v.cells.toList (k * sz) 0 cur (by rw [Array.length_toList]; omega)
    rw [Nat.add_zero, Array.length_toList, hv] at hsp
    obtain ⟨arr, g1, g2⟩ := ih (k + 1) ((v.cells.toList.zipIdx 0).foldl (fun (cs : Array Value) (p : Value × Nat) => cs.setIfInBounds (k * sz + p.2) p.1) cur) (fun u hu => h1 u (by simp [hu])) (by
      rw [← Array.length_toList, hsp]
      simp only [List.length_append, List.length_take, List.length_drop, Array.length_toList, hv, Nat.add_mul, Nat.one_mul]
      omega)
    refine ⟨arr, ?_, ?_⟩
    · simp only [List.zipIdx_cons, List.map_cons, Instr.fill]
      rw [if_neg (by simp [hv]; omega)]
      rw [← g1]
      congr 1
      rw [← Array.foldl_toList]
      simp
    · rw [g2, hsp]
      have e1 : (k + 1) * sz = k * sz + sz := by rw [Nat.add_mul, Nat.one_mul]
      have l1 : (cur.toList.take (k * sz) ++ v.cells.toList).length = (k + 1) * sz := by
        rw [List.length_append, List.length_take, Array.length_toList, Array.length_toList, hv, Nat.min_eq_left (by omega), e1]
      rw [List.take_left' l1]
      have e2 : (k + 1 + vs.length) * sz = (k + 1) * sz + vs.length * sz := by rw [Nat.add_mul]
      rw [e2, ← List.drop_drop, List.drop_left' l1, List.drop_drop]
      simp only [List.flatMap_cons, List.append_assoc, List.length_cons]
      congr 4
      exact hm.symm

theorem inOrder_spec (l : List (Nat × Operand)) : ∀ (k : Nat) (ps : List Operand), inOrder l k = some ps → l = (ps.zipIdx k).map fun p => (p.2, p.1) := by
  induction l with
  | nil => intro k ps h; cases h; rfl
  | cons p l ih =>
    intro k ps h
    have h' : (match Nat.beq p.1 k with | true => opt (inOrder l (k + 1)) fun r => some (p.2 :: r) | false => none) = some ps := h
    cases hb : Nat.beq p.1 k with
    | false => rw [hb] at h'; cases h'
    | true =>
      rw [hb] at h'
      simp only [opt] at h'
      cases hi : inOrder l (k + 1) with
      | none => rw [hi] at h'; cases h'
      | some r =>
        rw [hi] at h'
        cases h'
        have := Nat.eq_of_beq_eq_true hb
        subst this
        rw [List.zipIdx_cons, List.map_cons, ← ih _ _ hi]

theorem out_bslice {K : AV → Sto → Prop} (hr : Rel cx env σ vals a w) (t e : TypeId) (ie : TypeInfo) (n : Nat) (parts : Array (Nat × Operand)) (ps : List Operand) (z : PV) (ho : o.op = .buildSlice t n parts)
    (hu : cx.P.underlying t = some (.slice e)) (hie : cx.P.info? e = some ie) (hps : inOrder parts.toList 0 = some ps) (hn : ps.length = n) (hsz : 0 < ie.size) (hsm : n * ie.size ≤ 16777216) (hz : zPV cx.P e = some z)
    (hK : readAVs σ (ps.map (evF env)) fun xs => lenB ie.size xs = true ∧ freezeAVs (ps.map (evF env)) σ fun σ => lenK σ fun n => snocK σ (.row e ie.size true xs) fun σ => K (.own n) σ) : Out cx env a w o K := by
  obtain ⟨i, zv, hi, hzv, _, _, _⟩ := zPV_spec hz
  rw [hie] at hi; cases hi
  obtain ⟨xs, ⟨hlen, hk⟩, _, _, hdet⟩ := reads_spec hr.s _ _ _ (hr.evL ps) hK
  obtain ⟨xs', σ', rfl, hk, _, hs, hkp, hrd, _⟩ := freezes_spec (ps.map (evF env)) σ σ _ (fun ys => ys = xs) _ (Fz.refl σ) hr.s (hr.evL ps) (hdet _ rfl) hk
  have hlb := lenB_spec _ _ hlen
  obtain ⟨hfl, hone⟩ := rdL_flat _ _ hrd (fun x hx => (hlb x hx).2)
  have hl : xs'.length = n := by have := hrd.length; simp at this; omega
  have hvsz : ∀ v ∈ ps.map a.eval, v.cells.size = ie.size := by
    intro v hv
    obtain ⟨j, hj⟩ := List.mem_iff_getElem?.1 hv
    have hjl : j < xs'.length := by have := (List.getElem?_eq_some_iff.1 hj).1; simp at this; omega
    have hx := List.getElem?_eq_getElem hjl
    have h1 := ((rdL_iff _ _).1 hrd).2 j _ v hx hj
    have hmem := List.mem_of_getElem? hx
    have := (rd_cells h1 (hlb _ hmem).2).1.length
    rw [Array.length_toList, (hlb _ hmem).1] at this
    exact this
  obtain ⟨arr, g1, g2⟩ := fill_row ie.size (ps.map a.eval) 0 ((Array.range (n * ie.size)).map (zv.cells[· % zv.cells.size]!)) hvsz (by simp [hn])
  have harr : arr.toList = (ps.map a.eval).flatMap (·.cells.toList) := by
    rw [g2]; simp [hn]
  have hrun : (execOp a.eval o).run cx.P w = .ok (.value (.slice (some ⟨w.heap.size, 0, none⟩) n n)) (w.alloc (.cells arr e)) := by
    by_cases h0 : n = 0
    · subst h0
      have hps0 : ps = [] := List.eq_nil_of_length_eq_zero hn
      subst hps0
      have hp : parts = #[] := by
        have := inOrder_spec _ _ _ hps
        simp at this
        exact this
      have ha : arr = #[] := by apply Array.ext'; rw [harr]; rfl
      subst hp ha
      simp [execOp, ho, Instr.buildSlice, run_underlying hu, sizeOf, typeInfo, hie, Instr.fill, newRow]
      congr 2
      apply Array.ext'
      simp
    · have hpos : ¬ n * ie.size = 0 := by
        intro h; rcases Nat.mul_eq_zero.1 h with h | h <;> omega
      have := run_buildSlice (P := cx.P) w t e n (parts.map fun p => (p.1, a.eval p.2)) arr ie zv hu hie hzv (by omega) hpos (by
        rw [← g1]
        congr 1
        rw [Array.toList_map, inOrder_spec _ _ _ hps, List.zipIdx_map]
        simp [List.map_map, Function.comp_def])
      simp only [execOp, ho, Sem.run_bind, this, Result.andThen_ok, Sem.run_pure]
  refine out_newrow (hr.keep hs hkp) e ie.size true xs' _ (below_alloc w _) _ hrun (fun b h => by cases h; exact Nat.le_refl _) hsz _ ⟨?_, .inr ⟨w.heap.size, n, arr, (0, 0), by rw [hl], cx.hown _ hr.s.below.size, heap_alloc w _, by omega, ?_, ?_, ?_, .inl rfl⟩⟩
    (fun x hx => (hlb x hx).1) hone hfl hk
  · rw [hfl.length, flat_length _ _ (fun x hx => (hlb x hx).1)]
  · simp only [maxLen]; have := Nat.le_mul_of_pos_right n hsz; omega
  · rw [← Array.length_toList, harr, hfl.length, flat_length _ _ (fun x hx => (hlb x hx).1), hl]
  · rw [harr]
    exact List.take_of_length_le (by rw [hfl.length, flat_length _ _ (fun x hx => (hlb x hx).1)]; exact Nat.le_refl _)

/-! ### make -/
theorem flat_replicate (cs : List PV) (n : Nat) : ∀ j, j < n * cs.length → ((List.replicate n cs).flatten)[j]? = cs[j % cs.length]? := by
  induction n with
  | zero => intro j h; simp at h
  | succ n ih =>
    intro j h
    rw [List.replicate_succ, List.flatten_cons]
    by_cases hj : j < cs.length
    · rw [List.getElem?_append_left hj, Nat.mod_eq_of_lt hj]
    · rw [List.getElem?_append_right (by omega), ih _ (by rw [Nat.add_mul, Nat.one_mul] at h; omega), ← Nat.mod_eq_sub_mod (by omega)]

theorem out_mksl {K : AV → Sto → Prop} (hr : Rel cx env σ vals a w) (t e : TypeId) (ie : TypeInfo) (z : PV) (l c : Operand) (ho : o.op = .makeSlice t l c) (hu : cx.P.underlying t = some (.slice e)) (hie : cx.P.info? e = some ie) (hz : zPV cx.P e = some z) (hsz : 0 < ie.size)
    (hzl : z.cells.length = ie.size) (hK : Dv.asInt (evF env l) fun _ l => Dv.asInt (evF env c) fun _ c =>
      (0 ≤ l ∧ l ≤ c ∧ (ie.bytes : Int) * c ≤ 281474976710656 ∧ c ≤ 9223372036854775807) ∧ lenK σ fun n => snocK σ (.row e ie.size true (List.replicate l.toNat z)) fun σ => K (.own n) σ) : Out cx env a w o K := by
  obtain ⟨i, zv, hi, hzv, h1, h2, h3⟩ := zPV_spec hz
  rw [hie] at hi; cases hi
  have hx := hr.ev l
  have hy := hr.ev c
  revert hK hx hy
  cases evF env l with
  | pv pl =>
    cases pl with
    | int kl nl =>
      cases evF env c with
      | pv pc =>
        cases pc with
        | int kc nc =>
          rintro ⟨⟨g0, g1, g2, g3⟩, hk⟩ hx hy
          simp only [RA, Rd] at hx hy
          have hrun : (execOp a.eval o).run cx.P w = .ok (.value (.slice (some ⟨w.heap.size, 0, none⟩) nl.toNat nc.toNat)) (w.alloc (.cells (madeCells zv.cells (nc.toNat * ie.size)) e)) := by
            have := run_make (P := cx.P) w t e ie zv hu hie hzv kl kc nl nc g0 g1 g2 g3
            simp [execOp, ho, hx, hy, this]
          have hzs : zv.cells.size = ie.size := by rw [← Array.length_toList, (h2 (fun _ => True) w).length, hzl]
          have hflat : (List.replicate nl.toNat z).flatMap PV.cells = (List.replicate nl.toNat z.cells).flatten := by
            rw [List.flatMap_def, List.map_replicate]
          have hfl : ((List.replicate nl.toNat z).flatMap PV.cells).length = nl.toNat * ie.size := by
            have := flat_length ie.size (List.replicate nl.toNat z) (fun x hx => by rw [List.mem_replicate] at hx; rw [hx.2]; exact hzl)
            rwa [List.length_replicate] at this
          have hle : nl.toNat * ie.size ≤ nc.toNat * ie.size := Nat.mul_le_mul_right _ (by omega)
          have hmem : ∀ c ∈ (List.replicate nl.toNat z).flatMap PV.cells, c.one = true := by
            intro c hc
            rw [List.mem_flatMap] at hc
            obtain ⟨x, hx, hc⟩ := hc
            rw [List.mem_replicate] at hx
            rw [hx.2] at hc
            exact h3 c hc
          refine out_newrow hr e ie.size true _ _ (below_alloc w _) _ hrun (fun b h => by cases h; exact Nat.le_refl _) hsz ((madeCells zv.cells (nc.toNat * ie.size)).toList.take (nl.toNat * ie.size))
            ⟨?_, .inr ⟨w.heap.size, nc.toNat, _, (0, 0), by rw [List.length_replicate], cx.hown _ hr.s.below.size, heap_alloc w _, ?_, ?_, ?_, ?_, .inl rfl⟩⟩ ?_ hmem ((rdL_iff _ _).2 ⟨?_, ?_⟩) hk
          · rw [List.length_take, Array.length_toList, size_madeCells, Nat.min_eq_left hle, List.length_replicate]
          · rw [List.length_replicate]; omega
          · simp only [maxLen]; omega
          · rw [size_madeCells]
          · rw [List.length_replicate]
          · intro x hx; rw [List.mem_replicate] at hx; rw [hx.2]; exact hzl
          · rw [hfl, List.length_take, Array.length_toList, size_madeCells, Nat.min_eq_left hle]
          · intro j c v hc hv
            have hj : j < nl.toNat * ie.size := by rw [← hfl]; exact (List.getElem?_eq_some_iff.1 hc).1
            rw [hflat, flat_replicate _ _ j (by rw [hzl]; exact hj), hzl] at hc
            rw [List.getElem?_take, if_pos hj] at hv
            have hmod : j % ie.size < zv.cells.size := by rw [hzs]; exact Nat.mod_lt _ hsz
            have hv' : v = zv.cells[j % ie.size] := by
              simp [madeCells, hzs] at hv
              obtain ⟨j', hj', hv⟩ := hv
              have hjj : j' = j := by
                have := (List.getElem?_eq_some_iff.1 hj').2
                simpa using this.symm
              rw [hjj] at hv
              rw [← hv, getElem!_pos zv.cells (j % ie.size) hmod]
            exact ((rdL_iff _ _).1 (h2 (Ok cx σ vals w) w)).2 (j % ie.size) c v hc (by rw [hv', Array.getElem?_toList, Array.getElem?_eq_getElem hmod])
        | _ => intro hK; exact hK.elim
      | _ => intro hK; exact hK.elim
    | _ => intro hK; exact hK.elim
  | _ => intro hK; exact hK.elim

/-! ### A string's bytes in a new row -/
theorem out_stb {K : AV → Sto → Prop} (hr : Rel cx env σ vals a w) (s d e : TypeId) (x : Operand) (ho : o.op = .convert s d x) (hs : cx.P.underlying s = some .string) (hd : cx.P.underlying d = some (.slice e)) (he : cx.P.underlying e = some (.int .u8))
    (hK : match evF env x with
      | .pv x => match x with
        | .str l => l.length ≤ 9223372036854775807 ∧ lenK σ fun n => snocK σ (.row e 1 false (l.map byteP)) fun σ => K (.own n) σ
        | _ => False
      | _ => False) : Out cx env a w o K := by
  have hx := hr.ev x
  revert hK hx
  cases evF env x with
  | pv p =>
    cases p with
    | str l =>
      rintro ⟨hlm, hK⟩ hx
      simp only [RA, Rd] at hx
      have hsz : (⟨l.toArray⟩ : ByteArray).size = l.length := rfl
      have hrun := run_bytes_of_string (P := cx.P) w s d e ⟨l.toArray⟩ hs hd he
      rw [hsz] at hrun
      have hge := grownCap_ge w l.length 0 e
      have hbr : (bytesRow ⟨l.toArray⟩ (grownCap w l.length 0 e)).toList.take l.length = l.map fun b => Value.int .u8 b.toNat := by
        simp [bytesRow]
      have hsize : (bytesRow ⟨l.toArray⟩ (grownCap w l.length 0 e)).size = grownCap w l.length 0 e := by
        simp [bytesRow, hsz]; omega
      have hml : grownCap w l.length 0 e ≤ maxLen := grownCap_le_maxLen w l.length 0 e (by simp only [maxLen]; omega)
      refine out_newrow hr e 1 false (l.map byteP) (w.drew.alloc (.cells (bytesRow ⟨l.toArray⟩ (grownCap w l.length 0 e)) e ((bytesRow ⟨l.toArray⟩ (grownCap w l.length 0 e)).size, (bytesRow ⟨l.toArray⟩ (grownCap w l.length 0 e)).size + 1))) (((Below.refl _ w).drew).alloc (by simp) _) (.slice (some ⟨w.heap.size, 0, none⟩) l.length (grownCap w l.length 0 e)) (by simp [execOp, ho, hx, hrun]) (fun b h => by cases h; exact Nat.le_refl _) (by omega)
        (l.map fun b => Value.int .u8 b.toNat) ⟨by simp, .inr ⟨w.heap.size, _, _, _, by rw [List.length_map], cx.hown _ hr.s.below.size, heap_alloc w.drew _, by rw [List.length_map]; exact hge, hml, by rw [hsize, Nat.mul_one], ?_, .inr ⟨rfl, Nat.le_refl _⟩⟩⟩ ?_ ?_ ?_ hK
      · rw [List.length_map, Nat.mul_one]; exact hbr
      · intro x hx; rw [List.mem_map] at hx; obtain ⟨b, _, rfl⟩ := hx; rfl
      · rw [flat_bytes]; intro c hc; rw [List.mem_map] at hc; obtain ⟨b, _, rfl⟩ := hc; rfl
      · rw [flat_bytes, rdL_bytes]
    | _ => intro hK; exact hK.elim
  | _ => intro hK; exact hK.elim

/-! ### append -/
theorem owns_ownsRow {B : Nat → Prop} {e : TypeId} {sz : Nat} {v : Value} {n : Nat} {xs : List Value} (h : Owns w B e sz true v n xs) : w.ownsRow 0 e sz v n xs ∧ ∀ b, blkOf v = some b → B b := by
  refine ⟨⟨h.1, ?_⟩, ?_⟩
  · rcases h.2 with h2 | ⟨g, cap, cur, fr, h1, h2, h3, h4, h5, h6, h7, h8⟩
    · exact .inl h2
    · rcases h8 with rfl | ⟨h8, _⟩
      · exact .inr ⟨g, cap, cur, h1, Nat.zero_le _, h3, h4, h5, h6, h7⟩
      · cases h8
  · intro b hb
    rcases h.2 with ⟨rfl, _⟩ | ⟨g, cap, cur, fr, rfl, h2, _⟩
    · cases hb
    · cases hb; exact h2

theorem size_zeroCells' (z : Array Value) (n : Nat) : (Builtin.zeroCells z n).size = n * z.size := by simp [Builtin.zeroCells]

/-- What an append leaves: a row of the call's own, where the old one was or behind all that was there. -/
def Appended (w : World) (B : Nat → Prop) (e : TypeId) (sz : Nat) (v : Value) (n m : Nat) (cells : List Value) (v' : Value) (w' : World) : Prop :=
  Owns w' B e sz true v' (n + m) cells ∧ w.grownBy w' v.ownBlock ∧ ∀ b, blkOf v' = some b → blkOf v = some b ∨ w.heap.size ≤ b

theorem append_new {P : Program} {e : TypeId} {i : TypeInfo} {zv : Value} (B : Nat → Prop) (v : Value) (n m : Nat) (xs news : List Value) (hi : i.zero = some zv) (hzs : zv.cells.size = i.size) (hx : xs.length = n * i.size) (hl : news.length = m * i.size) (old : Nat) (hold : old < n + m) (h63 : n + m ≤ maxLen) (hB : B w.heap.size) :
    Appended w B e i.size v n m (xs ++ news) (.slice (some ⟨w.heap.size, 0, none⟩) (n + m) (grownCap w (n + m) old e))
      (w.drew.alloc (.cells (xs.toArray ++ news.toArray ++ Builtin.zeroCells zv.cells (grownCap w (n + m) old e - (n + m))) e)) := by
  have hge := grownCap_ge w (n + m) old e
  have hlen : (xs ++ news).length = (n + m) * i.size := by rw [List.length_append, hx, hl, Nat.add_mul]
  refine ⟨⟨hlen, .inr ⟨w.heap.size, _, _, (0, 0), rfl, hB, heap_alloc w.drew _, hge, grownCap_le_maxLen w (n + m) old e h63, ?_, ?_, .inl rfl⟩⟩, ⟨rfl, rfl, rfl, by simp, fun k hk _ => Below.heap_alloc w.drew _ k hk⟩, fun b h => by cases h; exact .inr (Nat.le_refl _)⟩
  · simp only [Array.size_append, List.size_toArray, size_zeroCells', hzs, hx, hl, ← Nat.add_mul]
    congr 1; omega
  · simp only [Array.toList_append, List.append_assoc]
    rw [← List.append_assoc, ← hlen]
    exact List.take_left

theorem append_room {e : TypeId} {sz : Nat} (B : Nat → Prop) (g n m cap : Nat) (cur : Array Value) (news : List Value) (hl : news.length = m * sz) (hg : w.heap[g]? = some (.cells cur e (0, 0))) (hB : B g) (hroom : n + m ≤ cap) (hcm : cap ≤ maxLen) (hcs : cur.size = cap * sz) :
    Appended w B e sz (.slice (some ⟨g, 0, none⟩) n cap) n m (cur.toList.take (n * sz) ++ news) (.slice (some ⟨g, 0, none⟩) (n + m) cap) (w.setRow g (cur.toList.take (n * sz) ++ news ++ cur.toList.drop (n * sz + news.length)).toArray) := by
  have hle : (n + m) * sz ≤ cap * sz := Nat.mul_le_mul_right _ hroom
  have hns : n * sz ≤ cur.toList.length := by rw [Array.length_toList, hcs]; exact Nat.mul_le_mul_right _ (by omega)
  have hlen : (cur.toList.take (n * sz) ++ news).length = (n + m) * sz := by rw [List.length_append, List.length_take, Nat.min_eq_left hns, hl, Nat.add_mul]
  refine ⟨⟨hlen, .inr ⟨g, cap, _, (0, 0), rfl, hB, setRow_heap w g cur _ e _ hg, hroom, hcm, ?_, ?_, .inl rfl⟩⟩, ⟨rfl, rfl, rfl, by simp [World.setRow], fun k _ hk => setRow_other w g k _ (fun h => hk (by simp [Value.ownBlock, h]))⟩, fun b h => .inl h⟩
  · rw [Nat.add_mul] at hle
    simp only [List.size_toArray, List.length_append, List.length_take, List.length_drop, Array.length_toList] at hns ⊢
    omega
  · simp only []
    rw [← hlen]; exact List.take_left

theorem app_slice {P : Program} (B : Nat → Prop) (t ty e : TypeId) (i : TypeInfo) (zv : Value) (ht : P.underlying t = some (.slice e)) (hi : P.info? e = some i) (hz : i.zero = some zv) (hzs : zv.cells.size = i.size)
    (v : Value) (n : Nat) (xs : List Value) (hown : Owns w B e i.size true v n xs) (ad : Option Addr) (m c : Nat) (hmc : m ≤ c) (news : List Value) (hl : news.length = m * i.size) (hnews : m = 0 ∨ ∃ a, ad = some a ∧ ∀ (j : Nat) (u : Value), news[j]? = some u → w.cell? (a.add j) = some u) (h1 : ∀ u ∈ news, u.oneCell' = true)
    (h63 : n + m ≤ maxLen) (hbytes : (n + m) * i.bytes ≤ 140737488355328) (hB : B w.heap.size) :
    ∃ v' w', (Builtin.append_ #[t, t] ty #[v, .slice ad m c]).run P w = .ok v' w' ∧ Appended w B e i.size v n m (xs ++ news) v' w' := by
  have h63' : n + m ≤ 9223372036854775807 := by simp only [maxLen] at h63; omega
  rcases hnews with rfl | ⟨ad, rfl, hnews⟩
  · have : news = [] := List.eq_nil_of_length_eq_zero (by simpa using hl)
    subst this
    refine ⟨v, w, ?_, by simpa using hown, ⟨rfl, rfl, rfl, Nat.le_refl _, fun _ _ _ => rfl⟩, fun b h => .inl h⟩
    rcases hown.2 with ⟨rfl, rfl⟩ | ⟨g, cap, cur, fr, rfl, _, _, hnc, _⟩
    · cases ad <;> simp [Builtin.append_, run_underlying ht, sizeOf, typeInfo, hi, Builtin.lenOf, Builtin.firstCells, loadCells, loadCellsFrom]
    · cases ad <;> simp [Builtin.append_, run_underlying ht, sizeOf, typeInfo, hi, Builtin.lenOf, Builtin.firstCells, loadCells, loadCellsFrom, hnc, storeCells]
  · by_cases hm : m = 0
    · subst hm
      have : news = [] := List.eq_nil_of_length_eq_zero (by simpa using hl)
      subst this
      refine ⟨v, w, ?_, by simpa using hown, ⟨rfl, rfl, rfl, Nat.le_refl _, fun _ _ _ => rfl⟩, fun b h => .inl h⟩
      rcases hown.2 with ⟨rfl, rfl⟩ | ⟨g, cap, cur, fr, rfl, _, _, hnc, _⟩
      · simp [Builtin.append_, run_underlying ht, sizeOf, typeInfo, hi, Builtin.lenOf, Builtin.firstCells, loadCells, loadCellsFrom]
      · simp [Builtin.append_, run_underlying ht, sizeOf, typeInfo, hi, Builtin.lenOf, Builtin.firstCells, loadCells, loadCellsFrom, hnc, storeCells]
    · obtain ⟨hor, hown'⟩ := owns_ownsRow hown
      rcases hor.2 with ⟨rfl, rfl⟩ | ⟨g, cap, cur, rfl, _, hg, hnc, hcm, hcs, htake⟩
      · have hx : xs = [] := List.eq_nil_of_length_eq_zero (by simpa using hown.1)
        subst hx
        have hr := run_append_nil (P := P) w t ty e i zv ht hi hz ad m c news hl hnews (by omega) (by omega) (by simp only [Nat.zero_add] at hbytes; omega)
        have := append_new (P := P) (e := e) B (.slice none 0 0) 0 m [] news hz hzs (by simp) hl 0 (by omega) h63 hB
        simp only [Nat.zero_add, List.nil_append, Array.empty_append] at this ⊢
        exact ⟨_, _, hr, this⟩
      · by_cases hroom : n + m ≤ cap
        · have hfit : n * i.size + news.length ≤ cur.size := by rw [hl, hcs, ← Nat.add_mul]; exact Nat.mul_le_mul_right _ hroom
          have hr := run_append_room (P := P) w t ty e i ht hi g n cap cur hg ad m c news hl hnews h1 hroom hfit
          exact ⟨_, _, hr, htake ▸ append_room B g n m cap cur news hl hg (hown' g rfl) hroom hcm hcs⟩
        · have holds : ∀ (j : Nat) (u : Value), xs[j]? = some u → w.cell? ((⟨g, 0, none⟩ : Addr).add j) = some u := hor.cells (g := g) rfl
          have hr := run_append_grow (P := P) w t ty e i zv ht hi hz ⟨g, 0, none⟩ n cap xs hown.1 holds ad m c news hl hnews (by omega) (by omega) (growslice_fits (by omega) hbytes)
          exact ⟨_, _, hr, append_new (P := P) (e := e) B _ n m xs news hz hzs hown.1 hl cap (by omega) h63 hB⟩

theorem app_string {P : Program} (B : Nat → Prop) (t u ty e : TypeId) (i : TypeInfo) (zv : Value) (ht : P.underlying t = some (.slice e)) (hu : P.underlying u = some .string) (hi : P.info? e = some i) (hz : i.zero = some zv) (hzs : zv.cells.size = i.size) (hs1 : i.size = 1)
    (v : Value) (n : Nat) (xs : List Value) (hown : Owns w B e i.size true v n xs) (s : ByteArray)
    (h63 : n + s.size ≤ maxLen) (hbytes : (n + s.size) * i.bytes ≤ 140737488355328) (hB : B w.heap.size) :
    ∃ v' w', (Builtin.append_ #[t, u] ty #[v, .string s]).run P w = .ok v' w' ∧ Appended w B e i.size v n s.size (xs ++ strCells s) v' w' := by
  have h63' : n + s.size ≤ 9223372036854775807 := by simp only [maxLen] at h63; omega
  have hl : (strCells s).length = s.size * i.size := by rw [strCells_length, hs1, Nat.mul_one]
  by_cases hm : s.size = 0
  · have hsc : strCells s = [] := List.eq_nil_of_length_eq_zero (by rw [strCells_length, hm])
    rw [hsc, hm]
    refine ⟨v, w, ?_, by simpa using hown, ⟨rfl, rfl, rfl, Nat.le_refl _, fun _ _ _ => rfl⟩, fun b h => .inl h⟩
    have hfc := run_firstCells_string (P := P) w i.size s
    rw [hm, hsc] at hfc
    rcases hown.2 with ⟨rfl, rfl⟩ | ⟨g, cap, cur, fr, rfl, _, _, hnc, _⟩
    · simp [Builtin.append_, run_underlying ht, run_underlying hu, sizeOf, typeInfo, hi, Builtin.lenOf, hm, hfc]
    · simp [Builtin.append_, run_underlying ht, run_underlying hu, sizeOf, typeInfo, hi, Builtin.lenOf, hm, hfc, hnc, storeCells]
  · obtain ⟨hor, hown'⟩ := owns_ownsRow hown
    rcases hor.2 with ⟨rfl, rfl⟩ | ⟨g, cap, cur, rfl, _, hg, hnc, hcm, hcs, htake⟩
    · have hx : xs = [] := List.eq_nil_of_length_eq_zero (by simpa using hown.1)
      subst hx
      have hr := run_append_nil_string (P := P) w t u ty e i zv ht hu hi hz s (by omega) (by omega) (by simp only [Nat.zero_add] at hbytes; omega)
      have := append_new (P := P) (e := e) B (.slice none 0 0) 0 s.size [] (strCells s) hz hzs (by simp) hl 0 (by omega) h63 hB
      simp only [Nat.zero_add, List.nil_append, Array.empty_append] at this ⊢
      have e0 : (strCells s).toArray = s.data.map (fun b => Value.int .u8 b.toNat) := by apply Array.ext'; simp [strCells]
      rw [e0] at this
      exact ⟨_, _, hr, this⟩
    · by_cases hroom : n + s.size ≤ cap
      · have hr := run_append_room_string (P := P) w t u ty e i ht hu hi hs1 g n cap cur hg s hroom (by rw [hcs, hs1, Nat.mul_one]; exact hroom)
        have := append_room B g n s.size cap cur (strCells s) hl hg (hown' g rfl) hroom hcm hcs
        rw [htake] at this
        refine ⟨_, _, hr, ?_⟩
        have e1 : cur.toList.take n = xs := by rw [hs1, Nat.mul_one] at htake; exact htake
        have e2 : n * i.size + (strCells s).length = n + s.size := by rw [hs1, strCells_length, Nat.mul_one]
        rw [e2] at this
        rw [e1]; exact this
      · have holds : ∀ (j : Nat) (u : Value), xs[j]? = some u → w.cell? ((⟨g, 0, none⟩ : Addr).add j) = some u := hor.cells (g := g) rfl
        have hr := run_append_grow_string (P := P) w t u ty e i zv ht hu hi hz ⟨g, 0, none⟩ n cap xs hown.1 holds s (by omega) (by omega) (growslice_fits (by omega) hbytes)
        exact ⟨_, _, hr, append_new (P := P) (e := e) B _ n s.size xs (strCells s) hz hzs hown.1 hl cap (by omega) h63 hB⟩

theorem blkOf_own {v : Value} {b : Nat} (hs : ∀ p, v ≠ .pointer p) : blkOf v = some b ↔ v.ownBlock = some b := by
  cases v with
  | slice a n c => cases a <;> simp [blkOf, Value.ownBlock]
  | pointer p => exact (hs p rfl).elim
  | _ => simp [blkOf, Value.ownBlock]

/-- A row that has been appended to: the elder name is given up. -/
theorem RelS.app (hr : RelS cx σ vals w) {id : Nat} {e : TypeId} {sz n m : Nat} {els els' : List PV} {v v' : Value} (hi : σ[id]? = some (.row e sz true els)) (hv : vals[id]? = some v) {cells : List Value} (ha : Appended w cx.own e sz v n m cells v' w')
    (hn : n + m = els'.length) (hl : ∀ x ∈ els', x.cells.length = sz) (h1 : ∀ c ∈ els'.flatMap PV.cells, c.one = true) (hcs : RdL (Ok cx σ vals w) w (els'.flatMap PV.cells) cells) :
    RelS cx (σ.set id .dead ++ [.row e sz true els']) (vals ++ [v']) w' ∧ Keep cx σ vals w (σ.set id .dead ++ [.row e sz true els']) (vals ++ [v']) w' := by
  obtain ⟨hown, hg, hfresh⟩ := ha
  have hlt := (List.getElem?_eq_some_iff.1 hi).1
  have hrb := hr.sto id _ _ hi hv
  have hsz : 0 < sz := hrb.1
  have hvs : ∀ p, v ≠ .pointer p := by
    obtain ⟨_, c0, h, _⟩ := hrb
    rcases h.2 with ⟨rfl, _⟩ | ⟨_, _, _, _, rfl, _⟩ <;> simp
  have hone : v'.oneCell' = true := by rcases hown.2 with ⟨rfl, _⟩ | ⟨_, _, _, _, rfl, _⟩ <;> rfl
  have hmv : ∀ b, blkOf v = some b → Mut σ vals b := fun b h => ⟨id, _, v, hi, rfl, hv, h⟩
  -- the entries of the new store
  have get : ∀ j s, (σ.set id Blk.dead ++ [Blk.row e sz true els'])[j]? = some s → (j = σ.length ∧ s = .row e sz true els') ∨ (j < σ.length ∧ j ≠ id ∧ σ[j]? = some s) ∨ s = .dead := by
    intro j s h
    rw [push_get, List.length_set] at h
    split at h
    · rename_i hj; exact .inl ⟨hj, by cases h; rfl⟩
    · rw [set_get hlt] at h
      split at h
      · cases h; exact .inr (.inr rfl)
      · rename_i hj; exact .inr (.inl ⟨(List.getElem?_eq_some_iff.1 h).1, fun h => hj h.symm, h⟩)
  have vget : ∀ j u, j < σ.length → (vals ++ [v'])[j]? = some u → vals[j]? = some u := by
    intro j u hj h; rw [push_get, hr.len, if_neg (by omega)] at h; exact h
  have vnew : ∀ u, (vals ++ [v'])[σ.length]? = some u → u = v' := by
    intro u h; rw [push_get, hr.len, if_pos rfl] at h; cases h; rfl
  have hmut : ∀ b, Mut (σ.set id .dead ++ [.row e sz true els']) (vals ++ [v']) b → Mut σ vals b ∨ w.heap.size ≤ b := by
    rintro b ⟨j, s, u, g1, g2, g3, g4⟩
    rcases get j s g1 with ⟨rfl, rfl⟩ | ⟨hj, _, hs⟩ | rfl
    · rw [vnew u g3] at g4
      rcases hfresh b g4 with h | h
      · exact .inl (hmv b h)
      · exact .inr h
    · exact .inl ⟨j, s, u, hs, g2, vget j u hj g3, g4⟩
    · cases g2
  have hk : Keep cx σ vals w (σ.set id .dead ++ [.row e sz true els']) (vals ++ [v']) w' := by
    refine ⟨fun i u h => ?_, by simp, fun b h => ⟨h.1, Nat.lt_of_lt_of_le h.2.1 hg.size, fun hm => ?_⟩, fun b h => hg.block b h.2.1 (fun he => h.2.2 (hmv b ((blkOf_own hvs).2 he.symm))), fun i hi' e2 sz2 ap2 els2 h => ?_, fun i hi' s2 h hb2 => ?_⟩
    · rw [push_get, if_neg (by have := (List.getElem?_eq_some_iff.1 h).1; omega)]; exact h
    · rcases hmut b hm with h' | h'
      · exact h.2.2 h'
      · have := h.2.1; omega
    · rcases get i _ h with ⟨hj, _⟩ | ⟨_, _, hs⟩ | hd
      · omega
      · exact ⟨ap2, els2, hs⟩
      · cases hd
    · rcases get i _ h with ⟨hj, _⟩ | ⟨_, _, hs⟩ | hd
      · omega
      · exact ⟨s2, hs, hb2⟩
      · subst hd; cases hb2
  have hfr : Fr cx (σ.set id .dead ++ [.row e sz true els']) (vals ++ [v']) w' := ⟨Nat.le_trans hr.fr.size hg.size, fun b hb => (hg.block b (Nat.lt_of_lt_of_le (cx.hk b hb) hr.fr.size) (fun he => hr.fr.mutn b (hmv b ((blkOf_own hvs).2 he.symm)) hb)).trans (hr.fr.same b hb), fun b hm hkp => by
    rcases hmut b hm with hm | hm
    · exact hr.fr.mutn b hm hkp
    · have := cx.hk b hkp; have := hr.fr.size; omega⟩
  refine ⟨⟨hr.below.grown hg (fun k h => (hrb.block rfl ((blkOf_own hvs).2 h)).1), fun u hu => by rcases List.mem_append.1 hu with hu | hu; exact hr.one u hu; simp at hu; exact hu ▸ hone, by simp [hr.len], fun i s u g1 g2 => ?_, fun i j s1 s2 u1 u2 b hij g1 g2 g3 g4 g5 g6 g7 => ?_, hfr, hr.pin.keep hk⟩, hk⟩
  · rcases get i s g1 with ⟨rfl, rfl⟩ | ⟨hj, hne, hs⟩ | rfl
    · rw [vnew u g2]
      exact ⟨hsz, cells, hn ▸ hown, hl, h1, hk.rdL hcs⟩
    · have hu := vget i u hj g2
      refine hk.rb (hr.sto i s u hs hu) (fun hlv b hb => hg.block b ((hr.sto i s u hs hu).block hlv hb).2 (fun he => ?_))
      exact hr.dis i id s _ u v b hne hs hi hlv rfl hu hv hb ((blkOf_own hvs).2 he.symm)
    · trivial
  · intro g8
    rcases get i s1 g1 with ⟨rfl, rfl⟩ | ⟨hi1, hne1, hs1⟩ | rfl
    · rw [vnew u1 g5] at g7
      rcases get j s2 g2 with ⟨rfl, rfl⟩ | ⟨hj, hne, hs⟩ | rfl
      · exact hij rfl
      · have hu := vget j u2 hj g6
        rcases hfresh b g7 with h | h
        · exact hr.dis j id s2 _ u2 v b hne hs hi g4 rfl hu hv g8 h
        · have := ((hr.sto j s2 u2 hs hu).block g4 g8).2; omega
      · cases g4
    · have hu1 := vget i u1 hi1 g5
      rcases get j s2 g2 with ⟨rfl, rfl⟩ | ⟨hj, hne, hs⟩ | rfl
      · rw [vnew u2 g6] at g8
        rcases hfresh b g8 with h | h
        · exact hr.dis i id s1 _ u1 v b hne1 hs1 hi g3 rfl hu1 hv g7 h
        · have := ((hr.sto i s1 u1 hs1 hu1).block g3 g7).2; omega
      · exact hr.dis i j s1 s2 u1 u2 b hij hs1 hs g3 g4 hu1 (vget j u2 hj g6) g7 g8
      · cases g4
    · cases g3

theorem owns_nil (w : World) (B : Nat → Prop) (e : TypeId) (sz : Nat) (ap : Bool) : Owns w B e sz ap (.slice none 0 0) 0 [] := ⟨by simp, .inl ⟨rfl, rfl⟩⟩

theorem out_appK {K : AV → Sto → Prop} (hr : Rel cx env σ vals a w) (e : TypeId) (ie : TypeInfo) (zv : Value) (x : Operand) (ys : List PV) (news : List Value) (hie : cx.P.info? e = some ie) (hzs : zv.cells.size = ie.size) (hsz : 0 < ie.size)
    (hl : ∀ y ∈ ys, y.cells.length = ie.size) (h1 : ∀ c ∈ ys.flatMap PV.cells, c.one = true) (hcs : RdL (Ok cx σ vals w) w (ys.flatMap PV.cells) news)
    (hrun : ∀ (v : Value) (n : Nat) (xs : List Value), a.eval x = v → Owns w cx.own e ie.size true v n xs → n + ys.length ≤ maxLen → (n + ys.length) * ie.bytes ≤ 140737488355328 →
      ∃ v' w', (execOp a.eval o).run cx.P w = .ok (.value v') w' ∧ Appended w cx.own e ie.size v n ys.length (xs ++ news) v' w')
    (hK : appK σ e ie.size ie.bytes (evF env x) ys K) : Out cx env a w o K := by
  have hx := hr.ev x
  cases hev : evF env x with
  | pv p =>
    rw [hev] at hK hx
    simp only [RA] at hx
    cases p with
    | nil s =>
      simp only [Rd] at hx
      obtain ⟨⟨hb, hm⟩, hk⟩ := hK
      obtain ⟨v', w', hr', hown, hg, hf⟩ := hrun _ 0 [] hx (owns_nil w _ e ie.size true) (by simp only [maxLen]; omega) (by rw [Nat.zero_add]; exact hb)
      simp only [Nat.zero_add, List.nil_append] at hown
      refine out_newrow hr e ie.size true ys w' ⟨hg.os, hg.tape, hg.output, hg.size, fun k hk => hg.block k hk (by simp [Value.ownBlock])⟩ v' hr' (fun b h => ?_) hsz news hown hl h1 hcs hk
      rcases hf b h with h | h
      · cases h
      · exact h
    | _ => exact hK.elim
  | own id =>
    rw [hev] at hK hx
    simp only [RA] at hx
    obtain ⟨b, hb, hk⟩ := nthK_iff σ id _ hK
    cases b with
    | row e' s ap els =>
      cases ap with
      | false => exact hk.elim
      | true =>
        cases h2 : Nat.beq s ie.size with
        | false => simp only [h2] at hk
        | true =>
          cases h3 : Nat.beq e' e with
          | false => simp only [h2, h3] at hk
          | true =>
            simp only [h2, h3] at hk
            have := Nat.eq_of_beq_eq_true h2
            subst this
            have := Nat.eq_of_beq_eq_true h3
            subst this
            obtain ⟨⟨hb1, hb2⟩, hk⟩ := hk
            obtain ⟨_, hk⟩ := setK_spec _ _ _ _ hk
            have hk := snocK_spec _ _ _ (lenK_spec _ _ hk)
            have hrb := hr.s.sto id _ _ hb hx
            obtain ⟨_, cells, g1, g2, g3, g4⟩ := hrb
            obtain ⟨v', w', hr', ha⟩ := hrun _ els.length cells rfl g1 (by simp only [maxLen]; omega) hb1
            obtain ⟨hs, hkp⟩ := hr.s.app hb hx ha (els' := els ++ ys) (by rw [List.length_append]) (fun x hx => by rcases List.mem_append.1 hx with h | h; exact g2 x h; exact hl x h)
              (fun c hc => by rw [List.flatMap_append] at hc; rcases List.mem_append.1 hc with h | h; exact g3 c h; exact h1 c h) (by rw [List.flatMap_append]; exact (rdL_append _ _ _).2 ⟨_, _, rfl, g4, hcs⟩)
            refine Out.run hr' (hr.keep hs hkp) (av := .own (σ.set id .dead).length) ?_ hk
            rw [List.length_set]
            simp only [RA]
            rw [push_get, if_pos hr.s.len.symm]
    | _ => exact hk.elim
  | _ => rw [hev] at hK; exact hK.elim

theorem out_app {K : AV → Sto → Prop} (hr : Rel cx env σ vals a w) (t e : TypeId) (ie : TypeInfo) (z : PV) (x y : Operand) (c : Call) (ho : o.op = .call c) (hc : c.callee = .builtin .append) (hargs : c.args.toList = [x, y]) (hat : c.argTypes.toList = [t, t])
    (hu : cx.P.underlying t = some (.slice e)) (hie : cx.P.info? e = some ie) (hz : zPV cx.P e = some z) (hzl : z.cells.length = ie.size) (hsz : 0 < ie.size)
    (hK : rowK σ (evF env y) fun s ys => match Nat.beq s ie.size with
      | true => appK σ e ie.size ie.bytes (evF env x) ys K
      | false => False) : Out cx env a w o K := by
  obtain ⟨i, zv, hi, hzv, _, h2, _⟩ := zPV_spec hz
  rw [hie] at hi; cases hi
  have hzs : zv.cells.size = ie.size := by rw [← Array.length_toList, (h2 (fun _ => True) w).length, hzl]
  obtain ⟨s, ys, ⟨ad, cc, hv, hle, _, hrow⟩, hK⟩ := rowK_spec hr.s (hr.ev y) hK
  have hargs' : c.args = #[x, y] := by rw [← hargs]
  have hat' : c.argTypes = #[t, t] := by rw [← hat]
  cases hs : Nat.beq s ie.size with
  | false => rw [hs] at hK; exact hK.elim
  | true =>
    rw [hs] at hK
    have := Nat.eq_of_beq_eq_true hs
    subst this
    obtain ⟨news, hnl, hcs, h1, hl, hnews⟩ : ∃ news : List Value, news.length = ys.length * ie.size ∧ RdL (Ok cx σ vals w) w (ys.flatMap PV.cells) news ∧ (∀ c ∈ ys.flatMap PV.cells, c.one = true) ∧ (∀ y ∈ ys, y.cells.length = ie.size) ∧
        (ys.length = 0 ∨ ∃ a, ad = some a ∧ ∀ (j : Nat) (u : Value), news[j]? = some u → w.cell? (a.add j) = some u) := by
      rcases hrow with rfl | ⟨b, o', rfl, hrow⟩
      · exact ⟨[], by simp, by simp [RdL], by simp, by simp, .inl rfl⟩
      · obtain ⟨g1, g2⟩ := (rdRow_iff b _ ys o').1 hrow
        obtain ⟨g3, us, g4, g5⟩ := (rdCs_iff b _ o').1 g2
        exact ⟨us, by rw [g4.length, flat_length _ _ g1], g4, g3, g1, .inr ⟨_, rfl, fun j u hj => by rw [addr_add]; exact g5 j u hj⟩⟩
    have hone : ∀ u ∈ news, u.oneCell' = true := by
      intro u hu
      obtain ⟨j, hj⟩ := List.mem_iff_getElem?.1 hu
      have hjl : j < (ys.flatMap PV.cells).length := by rw [← hcs.length]; exact (List.getElem?_eq_some_iff.1 hj).1
      have hc := List.getElem?_eq_getElem hjl
      exact (((rdL_iff _ _).1 hcs).2 j _ u hc hj).oneCell (h1 _ (List.mem_of_getElem? hc))
    refine out_appK hr e ie zv x ys news hie hzs hsz hl h1 hcs (fun v n xs hvx hown hm hb => ?_) hK
    obtain ⟨v', w', hrun, ha⟩ := app_slice (P := cx.P) cx.own t o.type e ie zv hu hie hzv hzs v n xs hown ad ys.length cc hle news hnl hnews hone hm hb (cx.hown _ hr.s.below.size)
    exact ⟨v', w', by simp [execOp, ho, resolve, hc, invoke, builtin, hargs', hat', hv, hvx, hrun], ha⟩

theorem out_appS {K : AV → Sto → Prop} (hr : Rel cx env σ vals a w) (t u e : TypeId) (ie : TypeInfo) (z : PV) (x y : Operand) (c : Call) (ho : o.op = .call c) (hc : c.callee = .builtin .append) (hargs : c.args.toList = [x, y]) (hat : c.argTypes.toList = [t, u])
    (hu : cx.P.underlying t = some (.slice e)) (hus : cx.P.underlying u = some .string) (hie : cx.P.info? e = some ie) (hz : zPV cx.P e = some z) (hzl : z.cells.length = ie.size) (hsz : ie.size = 1)
    (hK : match evF env y with
      | .pv y => match y with
        | .str l => appK σ e 1 ie.bytes (evF env x) (l.map byteP) K
        | _ => False
      | _ => False) : Out cx env a w o K := by
  obtain ⟨i, zv, hi, hzv, _, h2, _⟩ := zPV_spec hz
  rw [hie] at hi; cases hi
  have hzs : zv.cells.size = ie.size := by rw [← Array.length_toList, (h2 (fun _ => True) w).length, hzl]
  have hargs' : c.args = #[x, y] := by rw [← hargs]
  have hat' : c.argTypes = #[t, u] := by rw [← hat]
  have hy := hr.ev y
  revert hK hy
  cases evF env y with
  | pv p =>
    cases p with
    | str l =>
      intro hK hy
      simp only [RA, Rd] at hy
      have hlen : (l.map byteP).length = (⟨l.toArray⟩ : ByteArray).size := by rw [List.length_map]; rfl
      refine out_appK hr e ie zv x (l.map byteP) (strCells ⟨l.toArray⟩) hie hzs (by omega) ?_ ?_ ?_ (fun v n xs hvx hown hm hb => ?_) (by rw [hsz]; exact hK)
      · intro y hy; rw [List.mem_map] at hy; obtain ⟨b, _, rfl⟩ := hy; rw [hsz]; rfl
      · rw [flat_bytes]; intro c hc; rw [List.mem_map] at hc; obtain ⟨b, _, rfl⟩ := hc; rfl
      · rw [flat_bytes, rdL_bytes]; rfl
      · rw [hlen] at hm hb ⊢
        obtain ⟨v', w', hrun, ha⟩ := app_string (P := cx.P) cx.own t u o.type e ie zv hu hus hie hzv hzs hsz v n xs hown ⟨l.toArray⟩ hm hb (cx.hown _ hr.s.below.size)
        exact ⟨v', w', by simp [execOp, ho, resolve, hc, invoke, builtin, hargs', hat', hy, hvx, hrun], ha⟩
    | _ => intro hK; exact hK.elim
  | _ => intro hK; exact hK.elim
end
end Go.Dv
end
section
/-
  Stores; calls by contract.
-/
set_option linter.unusedSimpArgs false
namespace Go.Dv
open Go.RowKit
section
variable {cx : Cx} {env : Env} {σ : Sto} {vals : List Value} {a : Act} {w w' : World} {o : Oper}

/-! ### Stores -/
theorem run_stores (P : Program) (g off : Nat) (e : TypeId) (fr : Nat × Nat) : ∀ (vs : List Value) (i : Nat) (cur : Array Value) (w : World), w.heap[g]? = some (.cells cur e fr) → off + i + vs.length ≤ cur.size → (fr = (0, 0) ∨ cur.size ≤ fr.1) → (∀ v ∈ vs, v.oneCell' = true) →
    ∃ w' cur', (storeCells ⟨g, off, none⟩ vs i).run P w = .ok () w' ∧ w'.heap[g]? = some (.cells cur' e fr) ∧ cur'.toList = cur.toList.take (off + i) ++ vs ++ cur.toList.drop (off + i + vs.length) ∧
      (∀ b, b ≠ g → w'.heap[b]? = w.heap[b]?) ∧ w'.heap.size = w.heap.size ∧ w'.os = w.os ∧ w'.tape = w.tape ∧ w'.output = w.output := by
  intro vs
  induction vs with
  | nil => intro i cur w hg _ _ _; exact ⟨w, cur, by simp [storeCells], hg, by simp, fun _ _ => rfl, rfl, rfl, rfl, rfl⟩
  | cons v vs ih =>
    intro i cur w hg hle hfr h1
    simp only [List.length_cons] at hle
    have hc : w.cell? ⟨g, off + i, none⟩ = some cur[off + i] := by simp [World.cell?, hg, show off + i < cur.size from by omega]
    have hf : w.frozen? ⟨g, off + i, none⟩ = false := by
      simp only [World.frozen?, hg]
      rcases hfr with rfl | h
      · simp
      · simp; omega
    have hst : (store ((⟨g, off, none⟩ : Addr).add i) v).run P w = .ok () (w.setCell ⟨g, off + i, none⟩ v) := by
      rw [addr_add, run_store P w _ v _ (h1 v (by simp))]; simp [hc, hf]
    have hg2 : (w.setCell ⟨g, off + i, none⟩ v).heap[g]? = some (.cells (cur.setIfInBounds (off + i) v) e fr) := by
      obtain ⟨hlt, hv⟩ := Array.getElem?_eq_some_iff.1 hg
      simp only [World.setCell]
      rw [Array.getElem?_eq_getElem (by simpa using hlt), Array.getElem_modify_self, hv]
      rfl
    obtain ⟨w', cur', g1, g2, g3, g4, g5, g6, g7, g8⟩ := ih (i + 1) (cur.setIfInBounds (off + i) v) (w.setCell ⟨g, off + i, none⟩ v) hg2 (by simp; omega) (by simpa using hfr) (fun u hu => h1 u (by simp [hu]))
    refine ⟨w', cur', ?_, g2, ?_, fun b hb => (g4 b hb).trans (Below.heap_setCell _ _ _ _ hb), by rw [g5]; simp [World.setCell], by rw [g6]; rfl, by rw [g7]; rfl, by rw [g8]; rfl⟩
    · simp only [storeCells, Sem.run_bind, hst, Result.andThen_ok, g1]
    · rw [g3, Array.toList_setIfInBounds, show off + (i + 1) = off + i + 1 from rfl, set_take _ _ _ (by simp; omega), set_drop _ _ _ _ (by omega)]
      simp [Nat.add_assoc, Nat.add_comm, Nat.add_left_comm]

def Blk.like : Blk → Blk → Prop
  | .row e sz _ _, .row e' sz' _ _ => e = e' ∧ sz = sz'
  | .box _ _, .box _ _ => True
  | _, _ => False

/-- One entry's block has been written. -/
theorem RelS.write (hr : RelS cx σ vals w) {id g : Nat} {s s' : Blk} {u : Value} (hi : σ[id]? = some s) (hl : s.live = true) (hl' : s'.live = true) (hs : Blk.like s s') (hu : vals[id]? = some u) (hg : blkOf u = some g)
    (hsame : ∀ b, b ≠ g → w'.heap[b]? = w.heap[b]?) (hsize : w'.heap.size = w.heap.size) (hos : w'.os = w.os) (htape : w'.tape = w.tape) (hout : w'.output = w.output)
    (hb : Keep cx σ vals w (σ.set id s') vals w' → RB cx (σ.set id s') vals w' s' u) : RelS cx (σ.set id s') vals w' ∧ Keep cx σ vals w (σ.set id s') vals w' := by
  have hlt := (List.getElem?_eq_some_iff.1 hi).1
  have hget := fun j => set_get (x := s') hlt j
  have hmut : ∀ b, Mut (σ.set id s') vals b → Mut σ vals b := by
    rintro b ⟨i, t, v, h1, h2, h3, h4⟩
    rw [hget] at h1
    split at h1
    · rename_i he; subst he; exact ⟨id, s, v, hi, hl, h3, h4⟩
    · exact ⟨i, t, v, h1, h2, h3, h4⟩
  have hne : ∀ b, Ok cx σ vals w b → b ≠ g := fun b h he => h.2.2 (he ▸ ⟨id, s, u, hi, hl, hu, hg⟩)
  have hk : Keep cx σ vals w (σ.set id s') vals w' := by
    refine ⟨fun _ _ h => h, by simp, fun b h => ⟨h.1, hsize ▸ h.2.1, fun hm => h.2.2 (hmut b hm)⟩, fun b h => hsame b (hne b h), fun i _ e sz ap els h => ?_, fun i _ s2 h hb2 => ?_⟩
    · rw [hget] at h
      split at h
      · rename_i he; subst he
        cases h
        cases s <;> simp [Blk.like] at hs
        obtain ⟨rfl, rfl⟩ := hs
        exact ⟨_, _, hi⟩
      · exact ⟨ap, els, h⟩
    · rw [hget] at h
      split at h
      · rename_i he; subst he
        cases h
        refine ⟨s, hi, ?_⟩
        cases s' <;> first | (cases hl'; done) | (cases hb2; done) | skip
        cases s <;> simp [Blk.like] at hs
        rfl
      · exact ⟨s2, h, hb2⟩
  have hblk := (hr.sto id s u hi hu).block hl hg
  have hfr : Fr cx (σ.set id s') vals w' := ⟨by rw [hsize]; exact hr.fr.size, fun b hb => (hsame b (fun he => hr.fr.mutn b (he ▸ ⟨id, s, u, hi, hl, hu, hg⟩) hb)).trans (hr.fr.same b hb), fun b hm => hr.fr.mutn b (hmut b hm)⟩
  refine ⟨⟨⟨hos.trans hr.below.os, htape.trans hr.below.tape, hout.trans hr.below.output, by rw [hsize]; exact hr.below.size, fun k hk ho => (hsame k (fun e => ho (e ▸ hblk.1))).trans (hr.below.block k hk ho)⟩, hr.one, by simp [hr.len], fun i t v h1 h2 => ?_, fun i j t1 t2 u1 u2 b hij h1 h2 h3 h4 h5 h6 h7 => ?_, hfr, hr.pin.keep hk⟩, hk⟩
  · rw [hget] at h1
    split at h1
    · rename_i he; subst he
      cases h1
      rw [hu] at h2; cases h2
      exact hb hk
    · rename_i he
      exact hk.rb (hr.sto i t v h1 h2) (fun hlv b hbv => hsame b (fun hbg => hr.dis i id t s v u b (fun h => he h.symm) h1 hi hlv hl h2 hu hbv (by rw [hg, hbg])))
  · rw [hget] at h1 h2
    have real : ∀ i t, (if id = i then some s' else σ[i]?) = some t → t.live = true → ∃ t', σ[i]? = some t' ∧ t'.live = true := by
      intro i t h hlv
      split at h
      · rename_i he; subst he; exact ⟨s, hi, hl⟩
      · exact ⟨t, h, hlv⟩
    obtain ⟨t1', g1, g2⟩ := real i t1 h1 h3
    obtain ⟨t2', g3, g4⟩ := real j t2 h2 h4
    exact hr.dis i j t1' t2' u1 u2 b hij g1 g3 g2 g4 h5 h6 h7

theorem RAL.oneCells (hr : RelS cx σ vals w) : ∀ (l : List AV) (vs : List Value), RAL (Ok cx σ vals w) σ vals w l vs → (∀ c ∈ l, c.one = true) → ∀ v ∈ vs, v.oneCell' = true := by
  intro l
  induction l with
  | nil => intro vs h _ v hv; simp only [RAL] at h; subst h; cases hv
  | cons c l ih =>
    intro vs h h1 v hv
    simp only [RAL] at h
    obtain ⟨u, r, rfl, h3, h4⟩ := h
    rcases List.mem_cons.1 hv with rfl | hv
    · have hc := h1 c (by simp)
      cases c with
      | pv x => simp only [RA] at h3; exact h3.oneCell hc
      | own id => simp only [RA] at h3; exact hr.one _ (List.mem_of_getElem? h3)
      | ref id idx off => simp only [RA] at h3; obtain ⟨_, ⟨ad, rfl⟩, _⟩ := h3; rfl
      | clo f caps => simp only [RA] at h3; obtain ⟨cv, rfl, _⟩ := h3; rfl
      | sub id sz lo n => simp only [RA] at h3; obtain ⟨_, ad, c, rfl, _⟩ := h3; rfl
      | _ => cases hc
    · exact ih r h4 (fun d hd => h1 d (by simp [hd])) v hv

theorem RdL.oneCells {ok : Nat → Prop} {l : List PV} {vs : List Value} (h : RdL ok w l vs) (h1 : ∀ c ∈ l, c.one = true) : ∀ v ∈ vs, v.oneCell' = true := by
  intro v hv
  obtain ⟨j, hj⟩ := List.mem_iff_getElem?.1 hv
  have hjl : j < l.length := by rw [← h.length]; exact (List.getElem?_eq_some_iff.1 hj).1
  have hc := List.getElem?_eq_getElem hjl
  exact (((rdL_iff _ _).1 h).2 j _ v hc hj).oneCell (h1 _ (List.mem_of_getElem? hc))

theorem run_storeAt {P : Program} {t : TypeId} {i : TypeInfo} (hi : P.info? t = some i) (v : Value) (hsz : v.cells.size = i.size) (b off : Nat) :
    (Instr.storeAt t (.pointer (some ⟨b, off, none⟩)) v).run P w = (storeCells ⟨b, off, none⟩ v.cells.toList).run P w := by
  simp [Instr.storeAt, Instr.sureAddr, storeVar, sizeOf, typeInfo, hi, hsz]

theorem alikeK_spec {y : PV} {cs : List PV} {K : PV → Prop} (h : alikeK y cs K) (hy : ∀ l, y ≠ .tup l) (h1 : ∀ c ∈ cs, c.one = true) : ∃ y', K y' ∧ y'.cells = cs := by
  cases y with
  | agg l => exact ⟨_, h, rfl⟩
  | tup l => exact (hy l rfl).elim
  | _ =>
    cases cs with
    | nil => exact h.elim
    | cons c cs =>
      cases cs with
      | nil => exact ⟨c, h, by have := h1 c (by simp); cases c <;> first | rfl | cases this⟩
      | cons _ _ => exact h.elim

theorem out_store {K : AV → Sto → Prop} (hr : Rel cx env σ vals a w) (t : TypeId) (ti : TypeInfo) (x v : Operand) (ho : o.op = .store t x v) (hti : cx.P.info? t = some ti)
    (hK : storeK σ ti.size (evF env x) (evF env v) fun σ => K .bad σ) : Out cx env a w o K := by
  have hx := hr.ev x
  have hv := hr.ev v
  cases hev : evF env x with
  | ref id idx off =>
    rw [hev] at hK hx
    simp only [RA] at hx
    obtain ⟨hlt, _, hrow, hbox⟩ := hx
    obtain ⟨b, hb, hk⟩ := nthK_iff σ id _ hK
    obtain ⟨u, hu, hrb⟩ := hr.s.val hb
    cases b with
    | box e cs =>
      obtain ⟨u', g, hu', hg', hax⟩ := hbox _ hb rfl
      have hg : blkOf u' = some g := by rw [hg']; rfl
      obtain rfl := getElem?_of hu hu'
      obtain ⟨g', arr, h1, h2, h3, h4, h5⟩ := hrb
      rw [h1] at hg
      obtain rfl : g' = g := by cases hg; rfl
      obtain ⟨vs, ⟨hlen, hk⟩, hra, hone⟩ := cellsK_spec hr.s hv hk
      obtain ⟨pre, mid, post, rfl, g1, g2, hk⟩ := spliceK_spec vs cs off _ hk
      obtain ⟨_, hk⟩ := setK_spec _ _ _ _ hk
      have hvl := hra.length
      have hsize : (a.eval v).cells.size = ti.size := by rw [← Array.length_toList, hvl, hlen]
      have harr := h5.length
      simp only [List.length_append, Array.length_toList] at harr
      obtain ⟨w', cur', f1, f2, f3, f4, f5, f6, f7, f8⟩ := run_stores cx.P g' off e (0, 0) (a.eval v).cells.toList 0 arr w h3 (by rw [hvl]; omega) (.inl rfl) (RAL.oneCells hr.s _ _ hra hone)
      obtain ⟨hs, hkp⟩ := hr.s.write (s' := .box e (pre ++ vs ++ post)) hb rfl rfl trivial hu (by rw [h1]; rfl) f4 f5 f6 f7 f8 (fun hkp => by
        refine ⟨g', cur', h1, h2, f2, ?_, ?_⟩
        · intro c hc
          simp only [List.mem_append] at hc
          rcases hc with (hc | hc) | hc
          · exact h4 c (by simp [hc])
          · exact hone c hc
          · exact h4 c (by simp [hc])
        · obtain ⟨v1, v3, hv1, r1, r3⟩ := (raL_append _ _ _).1 h5
          obtain ⟨v1, v2, rfl, r1, r2⟩ := (raL_append _ _ _).1 r1
          have e1 : arr.toList.take (off + 0) = v1 := by rw [hv1, Nat.add_zero, List.append_assoc]; exact List.take_left' (by rw [r1.length, g1])
          have e2 : arr.toList.drop (off + 0 + (a.eval v).cells.toList.length) = v3 := by
            rw [hv1]; exact List.drop_left' (by rw [List.length_append, r1.length, r2.length, hvl]; omega)
          rw [f3, e1, e2]
          exact (raL_append _ _ _).2 ⟨_, _, rfl, (raL_append _ _ _).2 ⟨_, _, rfl, hkp.raL _ _ r1, hkp.raL _ _ hra⟩, hkp.raL _ _ r3⟩)
      refine Out.skip ?_ (hr.keep hs hkp) hk
      simp [execOp, ho, hax, run_storeAt hti _ hsize, f1]
    | row e sz ap els =>
      obtain ⟨x1, hk2, _, _, hdet⟩ := read_spec hr.s _ _ _ hv hk
      obtain ⟨x2, σ1, rfl, hk3, hfz, hs1, hkp1, hrd, _⟩ := freeze_spec _ σ σ _ (fun z => z = x1) _ (Fz.refl σ) hr.s hv (hdet _ rfl) hk2
      have hr1 := hr.keep hs1 hkp1
      obtain ⟨b1, hb1, hk4⟩ := nthK_iff σ1 id _ hk3
      cases b1 with
      | row e1 sz1 ap1 els1 =>
        obtain ⟨y, hy, hxl, hk5⟩ := hk4
        obtain ⟨pre, mid, post, hycells, g1, g2, hk6⟩ := spliceK_spec _ _ off _ hk5
        have hu1 : vals[id]? = some u := hu
        have hrb1 := hs1.sto id _ _ hb1 hu1
        obtain ⟨hsz, cells, hown, hl, hone, hcs⟩ := hrb1
        -- the same row as before
        have hsame : e1 = e ∧ sz1 = sz ∧ ap1 = ap ∧ els1 = els := by
          rcases hfz id with h | ⟨_, _, _, _, _, h⟩
          · rw [h, hb] at hb1; cases hb1; exact ⟨rfl, rfl, rfl, rfl⟩
          · rw [h] at hb1; cases hb1
        obtain ⟨rfl, rfl, rfl, rfl⟩ := hsame
        obtain ⟨u', g, hu', hg, hax⟩ := hrow _ _ _ _ hb
        obtain rfl := getElem?_of hu hu'
        have hidx := (List.getElem?_eq_some_iff.1 hy).1
        have hymem := List.mem_of_getElem? hy
        have hels : els1 = els1.take idx ++ y :: els1.drop (idx + 1) := by
          have := List.getElem_cons_drop hidx
          rw [(List.getElem?_eq_some_iff.1 hy).2] at this
          rw [this, List.take_append_drop]
        have hxl' := lenB_spec _ _ hxl x2 (by simp)
        obtain ⟨hxc, hxone⟩ := rd_cells hrd hxl'.2
        have hyone : ∀ c ∈ y.cells, c.one = true := fun c hc => hone c (List.mem_flatMap.2 ⟨y, hymem, hc⟩)
        have hyt : ∀ l, y ≠ .tup l := by
          rintro l rfl
          have := hyone (.tup l) (by simp [PV.cells])
          cases this
        have hcsone : ∀ c ∈ pre ++ x2.cells ++ post, c.one = true := by
          intro c hc
          simp only [List.mem_append] at hc
          rcases hc with (hc | hc) | hc
          · exact hyone c (by rw [hycells]; simp [hc])
          · exact hxone c hc
          · exact hyone c (by rw [hycells]; simp [hc])
        obtain ⟨y', hk7, hy'⟩ := alikeK_spec hk6 hyt hcsone
        obtain ⟨_, hk8⟩ := setK_spec _ _ _ _ hk7
        have hset : els1.set idx y' = els1.take idx ++ y' :: els1.drop (idx + 1) := by
          rw [List.set_eq_take_append_cons_drop, if_pos hidx]
        have hyl : y.cells.length = sz1 := hl y hymem
        have hy'l : y'.cells.length = sz1 := by rw [hy', ← hyl, hycells]; simp [g2]
        -- where the cells lie
        have hT : ((els1.take idx).flatMap PV.cells).length = idx * sz1 := by
          rw [flat_length sz1 _ (fun z hz => hl z (List.mem_of_mem_take hz)), List.length_take, Nat.min_eq_left (Nat.le_of_lt hidx)]
        have hf1 : els1.flatMap PV.cells = ((els1.take idx).flatMap PV.cells ++ pre) ++ mid ++ (post ++ (els1.drop (idx + 1)).flatMap PV.cells) := by
          conv => lhs; rw [hels]
          rw [List.flatMap_append, List.flatMap_cons, hycells]; simp [List.append_assoc]
        have hf2 : (els1.set idx y').flatMap PV.cells = ((els1.take idx).flatMap PV.cells ++ pre) ++ x2.cells ++ (post ++ (els1.drop (idx + 1)).flatMap PV.cells) := by
          rw [hset, List.flatMap_append, List.flatMap_cons, hy']; simp [List.append_assoc]
        rw [hf1] at hcs
        obtain ⟨c12, c3, hcell, r12, r3⟩ := (rdL_append _ _ _).1 hcs
        obtain ⟨c1, c2, rfl, r1, r2⟩ := (rdL_append _ _ _).1 r12
        have hc1 : c1.length = idx * sz1 + off := by rw [r1.length, List.length_append, hT, g1]
        have hc2 : c2.length = x2.cells.length := by rw [r2.length, g2]
        have hvl := hxc.length
        have hsize : (a.eval v).cells.size = ti.size := by rw [← Array.length_toList, hvl, hxl'.1]
        rcases hown with ⟨hcl, ⟨_, h0⟩ | ⟨gg, cap, cur, fr, h1, h2, h3, h4, h5, h6, h7, h8⟩⟩
        · rw [h0] at hidx; omega
        · rw [h1] at hg
          obtain rfl : gg = g := by cases hg; rfl
          have hnle : els1.length * sz1 ≤ cur.size := by rw [h6]; exact Nat.mul_le_mul_right _ h4
          have hin : idx * sz1 + off + (a.eval v).cells.toList.length ≤ els1.length * sz1 := by
            have : (c1 ++ c2 ++ c3).length = els1.length * sz1 := by rw [← hcell, hcl]
            rw [List.length_append, List.length_append, hc1, hc2] at this
            omega
          obtain ⟨w', cur', f1, f2, f3, f4, f5, f6, f7, f8⟩ := run_stores cx.P gg (idx * sz1 + off) e1 fr (a.eval v).cells.toList 0 cur w h3 (by omega) (h8.imp (fun h => h) fun h => h.2) (RdL.oneCells hxc hxone)
          have hcurl : cur.toList = (c1 ++ c2 ++ c3) ++ cur.toList.drop (els1.length * sz1) := by
            rw [← hcell, ← h7, List.take_append_drop]
          have hcur' : cur'.toList = (c1 ++ (a.eval v).cells.toList ++ c3) ++ cur.toList.drop (els1.length * sz1) := by
            rw [f3, Nat.add_zero]
            have e1 : cur.toList.take (idx * sz1 + off) = c1 := by
              rw [hcurl, List.append_assoc, List.append_assoc]; exact List.take_left' hc1
            have e2 : cur.toList.drop (idx * sz1 + off + (a.eval v).cells.toList.length) = c3 ++ cur.toList.drop (els1.length * sz1) := by
              conv => lhs; rw [hcurl]
              rw [List.append_assoc]
              exact List.drop_left' (by rw [List.length_append, hc1, hc2, hvl])
            rw [e1, e2]; simp [List.append_assoc]
          have hnl : (els1.set idx y').length = els1.length := List.length_set
          obtain ⟨hs, hkp⟩ := hs1.write (s' := .row e1 sz1 ap1 (els1.set idx y')) hb1 rfl rfl ⟨rfl, rfl⟩ hu1 (by rw [h1]; rfl) f4 f5 f6 f7 f8 (fun hkp => by
            have hcsz : cur'.size = cur.size := by
              have e1 := congrArg List.length hcur'
              have e2 := congrArg List.length hcurl
              simp only [List.length_append, Array.length_toList, hvl, hc2] at e1 e2
              omega
            refine ⟨hsz, c1 ++ (a.eval v).cells.toList ++ c3, ⟨?_, .inr ⟨gg, cap, cur', fr, by rw [hnl]; exact h1, h2, f2, by rw [hnl]; exact h4, h5, by rw [hcsz, h6], ?_, by rw [hcsz]; exact h8⟩⟩, ?_, ?_, ?_⟩
            · rw [hnl, ← hcl, hcell]; simp only [List.length_append, hvl, hc2]
            · rw [hnl, hcur']
              refine List.take_left' ?_
              rw [← hcl, hcell]; simp only [List.length_append, hvl, hc2]
            · intro z hz
              rcases List.mem_or_eq_of_mem_set hz with hz | rfl
              · exact hl z hz
              · exact hy'l
            · intro c hc
              rw [hf2] at hc
              rw [hf1] at hone
              simp only [List.mem_append] at hc hone
              rcases hc with ((hc | hc) | hc) | hc
              · exact hone c (.inl (.inl (.inl hc)))
              · exact hone c (.inl (.inl (.inr hc)))
              · exact hxone c hc
              · exact hone c (.inr hc)
            · rw [hf2]
              exact (rdL_append _ _ _).2 ⟨_, _, rfl, (rdL_append _ _ _).2 ⟨_, _, rfl, hkp.rdL r1, hkp.rdL hxc⟩, hkp.rdL r3⟩)
          refine Out.skip ?_ (hr1.keep hs hkp) hk8
          simp [execOp, ho, hax, run_storeAt hti _ hsize, f1]
      | _ => exact hk4.elim
    | _ => exact hk.elim
  | _ => rw [hev] at hK; exact hK.elim
end
end Go.Dv
end
section
/-
  A part of the store, its entries numbered anew.
-/
set_option linter.unusedSimpArgs false
namespace Go.Dv
open Go.RowKit
section
variable {cx : Cx} {env : Env} {σ : Sto} {vals : List Value} {a : Act} {w w' : World}

theorem memB_spec (n : Nat) (l : List Nat) (h : memB n l = false) : n ∉ l := by
  induction l with
  | nil => simp
  | cons a l ih =>
    have h' : Bool.rec (motive := fun _ => Bool) (memB n l) true (Nat.beq a n) = false := h
    cases hb : Nat.beq a n with
    | true => rw [hb] at h'; cases h'
    | false =>
      rw [hb] at h'
      intro hm
      rcases List.mem_cons.1 hm with rfl | hm
      · simp at hb
      · exact ih h' hm

theorem addK_spec {n : Nat} {l : List Nat} {K : List Nat → Prop} (hl : l.Nodup) (h : addK n l K) : ∃ l', K l' ∧ l'.Nodup ∧ l <+: l' := by
  unfold addK at h
  cases hb : memB n l with
  | true => rw [hb] at h; exact ⟨l, h, hl, List.prefix_refl l⟩
  | false =>
    rw [hb] at h
    refine ⟨_, snocK_spec _ _ _ h, ?_, List.prefix_append _ _⟩
    rw [List.nodup_append]
    exact ⟨hl, by simp, fun a ha b hb' => by
      simp at hb'; subst hb'
      exact fun e => memB_spec _ _ hb (e ▸ ha)⟩

theorem idsAV_both : ∀ (a : AV) (l : List Nat) (K : List Nat → Prop), l.Nodup → idsAV a l K → ∃ l', K l' ∧ l'.Nodup ∧ l <+: l' := by
  intro a
  refine AV.rec (motive_1 := fun a => ∀ (l : List Nat) (K : List Nat → Prop), l.Nodup → idsAV a l K → ∃ l', K l' ∧ l'.Nodup ∧ l <+: l')
    (motive_2 := fun as => ∀ (l : List Nat) (K : List Nat → Prop), l.Nodup → (AV.rec_1 (motive_1 := fun _ => List Nat → (List Nat → Prop) → Prop) (motive_2 := fun _ => List Nat → (List Nat → Prop) → Prop)
      (fun l K => K l) (fun _ l K => K l) (fun id l K => addK id l K) (fun id _ _ l K => addK id l K) (fun id _ _ _ l K => addK id l K)
      (fun _ ih l K => ih l K) (fun _ ih l K => ih l K) (fun _ _ ih l K => ih l K) (fun l K => K l) (fun _ _ h t l K => h l fun l => t l K) as : List Nat → (List Nat → Prop) → Prop) l K → ∃ l', K l' ∧ l'.Nodup ∧ l <+: l')
    ?_ ?_ ?_ ?_ ?_ ?_ ?_ ?_ ?_ ?_ a
  · intro l K hl h; exact ⟨l, h, hl, List.prefix_refl l⟩
  · intro x l K hl h; exact ⟨l, h, hl, List.prefix_refl l⟩
  · intro id l K hl h; exact addK_spec hl h
  · intro id _ _ l K hl h; exact addK_spec hl h
  · intro id _ _ _ l K hl h; exact addK_spec hl h
  · intro cs ih l K hl h; exact ih l K hl h
  · intro cs ih l K hl h; exact ih l K hl h
  · intro f cs ih l K hl h; exact ih l K hl h
  · intro l K hl h; exact ⟨l, h, hl, List.prefix_refl l⟩
  · intro x xs h1 h2 l K hl h
    obtain ⟨l', h3, h4, h5⟩ := h1 l _ hl h
    obtain ⟨l2, h6, h7, h8⟩ := h2 l' K h4 h3
    exact ⟨l2, h6, h7, h5.trans h8⟩

theorem idsAVs_spec (as : List AV) : ∀ (l : List Nat) (K : List Nat → Prop), l.Nodup → idsAVs as l K → ∃ l', K l' ∧ l'.Nodup ∧ l <+: l' := by
  induction as with
  | nil => intro l K hl h; exact ⟨l, h, hl, List.prefix_refl l⟩
  | cons a as ih =>
    intro l K hl h
    obtain ⟨l', h1, h2, h3⟩ := idsAV_both a l _ hl h
    obtain ⟨l2, h4, h5, h6⟩ := ih l' K h2 h1
    exact ⟨l2, h4, h5, h3.trans h6⟩

theorem idsEnv_spec (e : Env) : ∀ (l : List Nat) (K : List Nat → Prop), l.Nodup → idsEnv e l K → ∃ l', K l' ∧ l'.Nodup ∧ l <+: l' := by
  induction e with
  | nil => intro l K hl h; exact ⟨l, h, hl, List.prefix_refl l⟩
  | cons a as ih =>
    intro l K hl h
    obtain ⟨l', h1, h2, h3⟩ := idsAV_both a.2 l _ hl h
    obtain ⟨l2, h4, h5, h6⟩ := ih l' K h2 h1
    exact ⟨l2, h4, h5, h3.trans h6⟩

theorem idsBox_spec (σ : Sto) (r : List Nat) : ∀ (l : List Nat) (K : List Nat → Prop), l.Nodup → idsBox σ r l K → ∃ l', K l' ∧ l'.Nodup ∧ l <+: l' := by
  induction r with
  | nil => intro l K hl h; exact ⟨l, h, hl, List.prefix_refl l⟩
  | cons i r ih =>
    intro l K hl h
    obtain ⟨b, h1, h2⟩ := nthK_iff _ _ _ h
    cases b with
    | box e cs =>
      obtain ⟨l', h3, h4, h5⟩ := idsAVs_spec cs l _ hl h2
      obtain ⟨l2, h6, h7, h8⟩ := ih l' K h4 h3
      exact ⟨l2, h6, h7, h5.trans h8⟩
    | _ => exact ih l K hl h2

theorem placeK_spec (n : Nat) (r : List Nat) : ∀ (K : Nat → Prop), placeK n r K False → ∃ j, r[j]? = some n ∧ K j := by
  induction r with
  | nil => intro K h; exact h.elim
  | cons a r ih =>
    intro K h
    have h' : Bool.rec (motive := fun _ => Prop) (placeK n r (fun j => K (Nat.succ j)) False) (K 0) (Nat.beq a n) := h
    cases hb : Nat.beq a n with
    | true =>
      rw [hb] at h'
      exact ⟨0, by simp [Nat.eq_of_beq_eq_true hb], h'⟩
    | false =>
      rw [hb] at h'
      obtain ⟨j, h1, h2⟩ := ih _ h'
      exact ⟨j + 1, by simpa using h1, h2⟩

mutual
/-- The same slot, its rows numbered anew. -/
def Ren (r : List Nat) : AV → AV → Prop
  | .bad, y => y = .bad
  | .pv x, y => y = .pv x
  | .own i, y => ∃ j, r[j]? = some i ∧ y = .own j
  | .ref i k o, y => ∃ j, r[j]? = some i ∧ y = .ref j k o
  | .sub i s l n, y => ∃ j, r[j]? = some i ∧ y = .sub j s l n
  | .agg cs, y => ∃ ds, y = .agg ds ∧ RenL r cs ds
  | .tup cs, y => ∃ ds, y = .tup ds ∧ RenL r cs ds
  | .clo f cs, y => ∃ ds, y = .clo f ds ∧ RenL r cs ds
def RenL (r : List Nat) : List AV → List AV → Prop
  | [], ys => ys = []
  | x :: xs, ys => ∃ y t, ys = y :: t ∧ Ren r x y ∧ RenL r xs t
end

theorem renAV_spec (r : List Nat) : ∀ (a : AV) (K : AV → Prop), renAV r a K → ∃ b, K b ∧ Ren r a b := by
  intro a
  refine AV.rec (motive_1 := fun a => ∀ K : AV → Prop, renAV r a K → ∃ b, K b ∧ Ren r a b)
    (motive_2 := fun as => ∀ K : List AV → Prop, (AV.rec_1 (motive_1 := fun _ => (AV → Prop) → Prop) (motive_2 := fun _ => (List AV → Prop) → Prop)
      (fun K => K .bad) (fun x K => K (.pv x)) (fun id K => placeK id r (fun j => K (.own j)) False) (fun id i o K => placeK id r (fun j => K (.ref j i o)) False) (fun id s l n K => placeK id r (fun j => K (.sub j s l n)) False)
      (fun _ ih K => ih fun l => K (.agg l)) (fun _ ih K => ih fun l => K (.tup l)) (fun f _ ih K => ih fun l => K (.clo f l)) (fun K => K []) (fun _ _ h t K => h fun a => t fun l => K (a :: l)) as : (List AV → Prop) → Prop) K → ∃ bs, K bs ∧ RenL r as bs)
    ?_ ?_ ?_ ?_ ?_ ?_ ?_ ?_ ?_ ?_ a
  · intro K h; exact ⟨_, h, by simp only [Ren]⟩
  · intro x K h; exact ⟨_, h, by simp only [Ren]⟩
  · intro id K h
    obtain ⟨j, h1, h2⟩ := placeK_spec _ _ _ h
    exact ⟨_, h2, by simp only [Ren]; exact ⟨j, h1, rfl⟩⟩
  · intro id i o K h
    obtain ⟨j, h1, h2⟩ := placeK_spec _ _ _ h
    exact ⟨_, h2, by simp only [Ren]; exact ⟨j, h1, rfl⟩⟩
  · intro id s l n K h
    obtain ⟨j, h1, h2⟩ := placeK_spec _ _ _ h
    exact ⟨_, h2, by simp only [Ren]; exact ⟨j, h1, rfl⟩⟩
  · intro cs ih K h
    obtain ⟨bs, h1, h2⟩ := ih _ h
    exact ⟨_, h1, by simp only [Ren]; exact ⟨bs, rfl, h2⟩⟩
  · intro cs ih K h
    obtain ⟨bs, h1, h2⟩ := ih _ h
    exact ⟨_, h1, by simp only [Ren]; exact ⟨bs, rfl, h2⟩⟩
  · intro f cs ih K h
    obtain ⟨bs, h1, h2⟩ := ih _ h
    exact ⟨_, h1, by simp only [Ren]; exact ⟨bs, rfl, h2⟩⟩
  · intro K h; exact ⟨[], h, by simp only [RenL]⟩
  · intro x xs h1 h2 K h
    obtain ⟨b, h3, h4⟩ := h1 _ h
    obtain ⟨bs, h5, h6⟩ := h2 _ h3
    exact ⟨_, h5, by simp only [RenL]; exact ⟨b, bs, rfl, h4, h6⟩⟩

theorem renAVs_spec (r : List Nat) (as : List AV) : ∀ (K : List AV → Prop), renAVs r as K → ∃ bs, K bs ∧ RenL r as bs := by
  induction as with
  | nil => intro K h; exact ⟨[], h, by simp only [RenL]⟩
  | cons x xs ih =>
    intro K h
    obtain ⟨b, h3, h4⟩ := renAV_spec r x _ h
    obtain ⟨bs, h5, h6⟩ := ih _ h3
    exact ⟨_, h5, by simp only [RenL]; exact ⟨b, bs, rfl, h4, h6⟩⟩

theorem renEnv_spec (r : List Nat) (e : Env) : ∀ (K : Env → Prop), renEnv r e K → ∃ e', K e' ∧ ∀ p, Ren r (lookF p e) (lookF p e') := by
  induction e with
  | nil => intro K h; exact ⟨[], h, fun p => by simp only [lookF, Ren]⟩
  | cons x xs ih =>
    intro K h
    obtain ⟨b, h3, h4⟩ := renAV_spec r x.2 _ h
    obtain ⟨bs, h5, h6⟩ := ih _ h3
    refine ⟨_, h5, fun p => ?_⟩
    obtain ⟨q, v⟩ := x
    simp only [lookF]
    cases Nat.beq q p with
    | true => exact h4
    | false => exact h6 p

/-- The same row, its cells' rows numbered anew. -/
def RenB (r : List Nat) : Blk → Blk → Prop
  | .box e cs, t => ∃ ds, t = .box e ds ∧ RenL r cs ds
  | s, t => t = s

theorem renBlk_spec (r : List Nat) (b : Blk) (K : Blk → Prop) (h : renBlk r b K) : ∃ t, K t ∧ RenB r b t := by
  cases b with
  | box e cs =>
    obtain ⟨ds, h1, h2⟩ := renAVs_spec r cs _ h
    exact ⟨_, h1, ds, rfl, h2⟩
  | _ => exact ⟨_, h, rfl⟩

theorem renSto_spec (σ : Sto) (r l : List Nat) : ∀ (K : Sto → Prop), renSto σ r l K → ∃ σ', K σ' ∧ σ'.length = l.length ∧ ∀ (j i : Nat), l[j]? = some i → ∃ s t, σ[i]? = some s ∧ σ'[j]? = some t ∧ RenB r s t := by
  induction l with
  | nil => intro K h; exact ⟨[], h, rfl, fun j i hj => by simp at hj⟩
  | cons i l ih =>
    intro K h
    obtain ⟨s, h1, h2⟩ := nthK_iff _ _ _ h
    obtain ⟨t, h3, h4⟩ := renBlk_spec r s _ h2
    obtain ⟨σ', h5, h6, h7⟩ := ih _ h3
    refine ⟨_, h5, by simp [h6], fun j i' hj => ?_⟩
    cases j with
    | zero => simp at hj; subst hj; exact ⟨s, t, h1, rfl, h4⟩
    | succ j => exact h7 j i' (by simpa using hj)

theorem RenB.boxy {r : List Nat} {s t : Blk} (h : RenB r s t) : t.boxy = s.boxy := by
  cases s with
  | box e cs => obtain ⟨ds, rfl, _⟩ := h; rfl
  | _ => cases h; rfl

theorem RenB.live {r : List Nat} {s t : Blk} (h : RenB r s t) : t.live = s.live := by
  cases s with
  | box e cs => obtain ⟨ds, rfl, _⟩ := h; rfl
  | _ => cases h; rfl

mutual
theorem Ren.one {r : List Nat} : ∀ {x y : AV}, Ren r x y → x.one = true → y.one = true
  | .pv x, y, h, hx => by simp only [Ren] at h; rw [h]; exact hx
  | .own i, y, h, _ => by simp only [Ren] at h; obtain ⟨j, _, rfl⟩ := h; rfl
  | .bad, _, _, hx => by cases hx
  | .ref _ _ _, y, h, _ => by simp only [Ren] at h; obtain ⟨j, _, rfl⟩ := h; rfl
  | .sub _ _ _ _, y, h, _ => by simp only [Ren] at h; obtain ⟨j, _, rfl⟩ := h; rfl
  | .clo _ _, y, h, _ => by simp only [Ren] at h; obtain ⟨j, rfl, _⟩ := h; rfl
  | .agg _, _, _, hx => by cases hx
  | .tup _, _, _, hx => by cases hx
end

theorem Ren.oneB {r : List Nat} : ∀ {x y : AV}, Ren r x y → y.one = true → x.one = true := by
  intro x y h hy
  cases x with
  | pv x => simp only [Ren] at h; subst h; exact hy
  | own i => rfl
  | ref _ _ _ => rfl
  | sub _ _ _ _ => rfl
  | clo _ _ => rfl
  | bad => simp only [Ren] at h; subst h; exact hy
  | agg cs => simp only [Ren] at h; obtain ⟨ds, rfl, _⟩ := h; cases hy
  | tup cs => simp only [Ren] at h; obtain ⟨ds, rfl, _⟩ := h; cases hy

theorem RenL.onesB {r : List Nat} : ∀ {xs ys : List AV}, RenL r xs ys → (∀ c ∈ ys, c.one = true) → ∀ c ∈ xs, c.one = true
  | [], ys, h, _ => by simp
  | x :: xs, ys, h, hx => by
    simp only [RenL] at h
    obtain ⟨y, t, rfl, h1, h2⟩ := h
    intro c hc
    rcases List.mem_cons.1 hc with rfl | hc
    · exact h1.oneB (hx y (by simp))
    · exact h2.onesB (fun c hc => hx c (by simp [hc])) c hc

theorem RenL.ones {r : List Nat} : ∀ {xs ys : List AV}, RenL r xs ys → (∀ c ∈ xs, c.one = true) → ∀ c ∈ ys, c.one = true
  | [], ys, h, _ => by simp only [RenL] at h; subst h; simp
  | x :: xs, ys, h, hx => by
    simp only [RenL] at h
    obtain ⟨y, t, rfl, h1, h2⟩ := h
    intro c hc
    rcases List.mem_cons.1 hc with rfl | hc
    · exact h1.one (hx x (by simp))
    · exact h2.ones (fun c hc => hx c (by simp [hc])) c hc

/-- The world of a store that is numbered anew. -/
structure Anew (r : List Nat) (σ σ' : Sto) (vals vals' : List Value) : Prop where
  nodup : r.Nodup
  len : σ'.length = r.length
  sto : ∀ (j i : Nat), r[j]? = some i → ∃ s t, σ[i]? = some s ∧ σ'[j]? = some t ∧ RenB r s t
  vlen : vals'.length = r.length
  vals : ∀ (j i : Nat), r[j]? = some i → vals'[j]? = vals[i]? ∧ ∃ v, vals[i]? = some v

mutual
theorem Ren.ra {r : List Nat} {σ' : Sto} {vals' : List Value} (hA : Anew r σ σ' vals vals') {ok ok' : Nat → Prop} (hok : ∀ b, ok b → ok' b) : ∀ (x y : AV) (v : Value), Ren r x y → RA ok σ vals w x v → RA ok' σ' vals' w y v
  | .bad, y, v, h, _ => by simp only [Ren] at h; subst h; simp only [RA]
  | .pv x, y, v, h, hv => by
    simp only [Ren] at h; subst h; simp only [RA] at hv ⊢
    exact Rd.mono hok (fun _ _ _ => rfl) x v hv
  | .own i, y, v, h, hv => by
    simp only [Ren] at h; obtain ⟨j, hj, rfl⟩ := h
    simp only [RA] at hv ⊢
    rw [(hA.vals j i hj).1]; exact hv
  | .ref i k o, y, v, h, hv => by
    simp only [Ren] at h; obtain ⟨j, hj, rfl⟩ := h
    simp only [RA] at hv ⊢
    obtain ⟨_, hp, h1, h2⟩ := hv
    obtain ⟨s, t, hs, ht, hst⟩ := hA.sto j i hj
    refine ⟨(List.getElem?_eq_some_iff.1 ht).1, hp, fun e sz ap els he => ?_, fun s2 he hb2 => ?_⟩
    · rw [ht] at he
      cases he
      have : s = .row e sz ap els := by
        cases s with
        | box e cs => obtain ⟨ds, h, _⟩ := hst; cases h
        | _ => exact hst.symm
      subst this
      rw [(hA.vals j i hj).1]
      exact h1 _ _ _ _ hs
    · rw [ht] at he
      cases he
      rw [(hA.vals j i hj).1]
      exact h2 _ hs (by rw [← hst.boxy]; exact hb2)
  | .sub i s l n, y, v, h, hv => by
    simp only [Ren] at h; obtain ⟨j, hj, rfl⟩ := h
    simp only [RA] at hv ⊢
    obtain ⟨s, t, hs, ht, hst⟩ := hA.sto j i hj
    refine ⟨(List.getElem?_eq_some_iff.1 ht).1, ?_⟩
    rw [(hA.vals j i hj).1]; exact hv.2
  | .agg cs, y, v, h, hv => by
    simp only [Ren] at h; obtain ⟨ds, rfl, h⟩ := h
    simp only [RA] at hv ⊢
    obtain ⟨h1, vs, rfl, h2⟩ := hv
    exact ⟨h.ones h1, vs, rfl, RenL.ra hA hok cs ds _ h h2⟩
  | .tup cs, y, v, h, hv => by
    simp only [Ren] at h; obtain ⟨ds, rfl, h⟩ := h
    simp only [RA] at hv ⊢
    obtain ⟨vs, rfl, h2⟩ := hv
    exact ⟨vs, rfl, RenL.ra hA hok cs ds _ h h2⟩
  | .clo f cs, y, v, h, hv => by
    simp only [Ren] at h; obtain ⟨ds, rfl, h⟩ := h
    simp only [RA] at hv ⊢
    obtain ⟨vs, rfl, h2⟩ := hv
    exact ⟨vs, rfl, RenL.ra hA hok cs ds _ h h2⟩
theorem RenL.ra {r : List Nat} {σ' : Sto} {vals' : List Value} (hA : Anew r σ σ' vals vals') {ok ok' : Nat → Prop} (hok : ∀ b, ok b → ok' b) : ∀ (xs ys : List AV) (vs : List Value), RenL r xs ys → RAL ok σ vals w xs vs → RAL ok' σ' vals' w ys vs
  | [], ys, vs, h, hv => by simp only [RenL] at h; subst h; simpa only [RAL] using hv
  | x :: xs, ys, vs, h, hv => by
    simp only [RenL] at h
    obtain ⟨y, t, rfl, h1, h2⟩ := h
    simp only [RAL] at hv ⊢
    obtain ⟨v, u, rfl, h3, h4⟩ := hv
    exact ⟨v, u, rfl, Ren.ra hA hok x y v h1 h3, RenL.ra hA hok xs t u h2 h4⟩
end

end
end Go.Dv
end
section
/-
  Calls by contract.
-/
set_option linter.unusedSimpArgs false
namespace Go.Dv
open Go.RowKit

mutual
/-- A result reads as said; 'us' are the rows that it hands out as new ones. -/
def RR (ok : Nat → Prop) (B : Nat → Prop) (w : World) : RV → Value → List Value → Prop
  | .pv x, v, us => Rd ok w x v ∧ us = []
  | .fresh e sz els, v, us => us = [v] ∧ 0 < sz ∧ ∃ cells, Owns w B e sz true v els.length cells ∧ (∀ x ∈ els, x.cells.length = sz) ∧ (∀ c ∈ els.flatMap PV.cells, c.one = true) ∧ RdL ok w (els.flatMap PV.cells) cells
  | .row e sz els, v, us => us = [v] ∧ 0 < sz ∧ ∃ cells, Owns w B e sz false v els.length cells ∧ (∀ x ∈ els, x.cells.length = sz) ∧ (∀ c ∈ els.flatMap PV.cells, c.one = true) ∧ RdL ok w (els.flatMap PV.cells) cells
  | .agg rs, v, us => ∃ vs, v = .agg vs ∧ (∀ r ∈ rs, match r with | .pv x => x.one = true | .fresh _ _ _ => True | .row _ _ _ => True | _ => False) ∧ RRL ok B w rs vs.toList us
  | .tup rs, v, us => ∃ vs, v = .tuple vs ∧ RRL ok B w rs vs.toList us
def RRL (ok : Nat → Prop) (B : Nat → Prop) (w : World) : List RV → List Value → List Value → Prop
  | [], vs, us => vs = [] ∧ us = []
  | r :: rs, vs, us => ∃ v t us1 us2, vs = v :: t ∧ us = us1 ++ us2 ∧ RR ok B w r v us1 ∧ RRL ok B w rs t us2
end

/-- What a contract's results may reach: the arguments' memory (unless 'lone'), and what the call has made. -/
def OkR (ok : Nat → Prop) (lone : Bool) (w w' : World) (us : List Value) (b : Nat) : Prop :=
  ((lone = false ∧ ok b) ∨ w.heap.size ≤ b) ∧ b < w'.heap.size ∧ ∀ u ∈ us, blkOf u ≠ some b

/-- A number, a string or a bool as the model has it; a struct of such. -/
def encC : PV → Value
  | .bool b => .bool b
  | .int k n => .int k n
  | .str l => .string ⟨l.toArray⟩
  | _ => undef
def encV : PV → Value
  | .agg cs => .agg (cs.map encC).toArray
  | x => encC x

/-- What a round keeps for an iterator: the blocks that it reads. -/
def KpOf (okI : Nat → Prop) (W W' : World) : Prop := W.heap.size ≤ W'.heap.size ∧ ∀ b, okI b → W'.heap[b]? = W.heap[b]?

/-- What a contract says of an iterator. -/
def IterAt (P : Program) (g : FuncId) (iter : List PV → List (List PV) → Prop) : Prop :=
  ∀ (m : Nat) (w : World) (okI : Nat → Prop) (caps : List PV) (vs : Array Value) (L : List (List PV)), (∀ b, okI b → b < w.heap.size) → RdL okI w caps vs.toList → iter caps L →
    SeqStopsK Fence.wide m P g vs (fun x : { x : List PV // x ∈ L } => (x.1.map encV).toArray) (KpOf okI) (fun xs => xs.map (·.1) = L) (fun pre => pre.map (·.1) <+: L) L.length w ∧
      ∀ (args : Array Value) (w : World), (callFunc g args).run P w = .ok (.enter g args) w

/-- The setting of a call that is handed a part of the store. -/
def mcx (P : Program) (w : World) (ok : Nat → Prop) (hok : ∀ b, ok b → b < w.heap.size) (σ0 : Sto) (vals0 : List Value) : Cx :=
  { P := P, w0 := w, okA := ok, hA := hok, own := fun b => w.heap.size ≤ b ∨ Mut σ0 vals0 b, hown := fun _ h => .inl h, pinS := σ0, pinV := vals0 }

/-- A call of f enters it. -/
def Enters (P : Program) (f : FuncId) : Prop := ∀ (args : Array Value) (w : World), (callFunc f args).run P w = .ok (.enter f args) w

/-- What a contract says of the model's own run. -/
def SoundAt (P : Program) (f : FuncId) (S : Spec) : Prop :=
  (S.fn = true → ∀ ps K, S.run ps K → ∃ x, K (.pv x) ∧ ∀ K' : RV → Prop, K' (.pv x) → S.run ps K') ∧ (S.fn = true → S.lone = true ∧ S.mu = false) ∧
  (∀ (w : World) (ok : Nat → Prop) (ps : List PV) (vs : Array Value) (K : RV → Prop), S.mu = false → (∀ b, ok b → b < w.heap.size) → RdL ok w ps vs.toList → S.run ps K →
    Enters P f ∧ Calls P f vs w fun e w' => ∃ v r us, e = .returned v ∧ K r ∧ Below w.heap.size w w' ∧ RR (OkR ok S.lone w w' us) (fun b => w.heap.size ≤ b) w' r v us ∧
      (∀ u ∈ us, ∀ b, blkOf u = some b → w.heap.size ≤ b) ∧ ∀ (i j : Nat) (u t : Value) (b : Nat), i ≠ j → us[i]? = some u → us[j]? = some t → blkOf u = some b → blkOf t ≠ some b) ∧ IterAt P f S.iter ∧
  (∀ (w : World) (ok : Nat → Prop) (hok : ∀ b, ok b → b < w.heap.size) (σ0 : Sto) (vals0 : List Value) (as : List AV) (vs : Array Value) (K : AV → Sto → Prop), S.mu = true → RelS (mcx P w ok hok σ0 vals0) σ0 vals0 w →
    RAL (Ok (mcx P w ok hok σ0 vals0) σ0 vals0 w) σ0 vals0 w as vs.toList → S.mrun as σ0 K →
    Enters P f ∧ Calls P f vs w fun e w' => ∃ v res σ1 vals1, e = .returned v ∧ K res σ1 ∧ RelS (mcx P w ok hok σ0 vals0) σ1 vals1 w' ∧ RA (Ok (mcx P w ok hok σ0 vals0) σ1 vals1 w') σ1 vals1 w' res v)

def Sound (P : Program) (Γ : Ctx) : Prop := ∀ f, SoundAt P f (Γ f)

section
variable {cx : Cx} {env : Env} {σ : Sto} {vals : List Value} {a : Act} {w w' : World} {o : Oper}

theorem app_get {α : Type} (l m : List α) (j : Nat) : (l ++ m)[j]? = if j < l.length then l[j]? else m[j - l.length]? := by
  by_cases h : j < l.length
  · rw [if_pos h, List.getElem?_append_left h]
  · rw [if_neg h, List.getElem?_append_right (by omega)]

/-- New entries of the store, over a world that has grown. -/
theorem RelS.pushes (hr : RelS cx σ vals w) (hbw : Below w.heap.size w w') (ss : List Blk) (us : List Value) (hlen : us.length = ss.length) (hone : ∀ u ∈ us, u.oneCell' = true) (hfresh : ∀ u ∈ us, ∀ b, blkOf u = some b → w.heap.size ≤ b)
    (hdis : ∀ (i j : Nat) (u t : Value) (b : Nat), i ≠ j → us[i]? = some u → us[j]? = some t → blkOf u = some b → blkOf t ≠ some b)
    (hb : Keep cx σ vals w (σ ++ ss) (vals ++ us) w' → ∀ (i : Nat) (s : Blk) (u : Value), ss[i]? = some s → us[i]? = some u → RB cx (σ ++ ss) (vals ++ us) w' s u) :
    RelS cx (σ ++ ss) (vals ++ us) w' ∧ Keep cx σ vals w (σ ++ ss) (vals ++ us) w' := by
  obtain ⟨hr', hk'⟩ := hr.grow hbw
  have hmut : ∀ b, Mut (σ ++ ss) (vals ++ us) b → Mut σ vals b ∨ w.heap.size ≤ b := by
    rintro b ⟨i, s, u, h1, h2, h3, h4⟩
    rw [app_get] at h1 h3
    rw [hr.len] at h3
    split at h1
    · rename_i he; rw [if_pos he] at h3; exact .inl ⟨i, s, u, h1, h2, h3, h4⟩
    · rename_i he; rw [if_neg he] at h3; exact .inr (hfresh u (List.mem_of_getElem? h3) b h4)
  have hk : Keep cx σ vals w (σ ++ ss) (vals ++ us) w' := by
    refine ⟨fun i u h => ?_, by simp, fun b h => ⟨h.1, Nat.lt_of_lt_of_le h.2.1 hbw.size, fun hm => ?_⟩, fun b h => hbw.block b h.2.1, fun i hi e sz ap els h => ?_, fun i hi s2 h hb2 => ?_⟩
    · rw [app_get, if_pos (List.getElem?_eq_some_iff.1 h).1]; exact h
    · rcases hmut b hm with hm | h2
      · exact h.2.2 hm
      · have := h.2.1; omega
    · rw [app_get, if_pos hi] at h; exact ⟨ap, els, h⟩
    · rw [app_get, if_pos hi] at h; exact ⟨s2, h, hb2⟩
  have hfr : Fr cx (σ ++ ss) (vals ++ us) w' := ⟨hr'.fr.size, hr'.fr.same, fun b hm hkp => by
    rcases hmut b hm with hm | hm
    · exact hr.fr.mutn b hm hkp
    · have := cx.hk b hkp; have := hr.fr.size; omega⟩
  refine ⟨⟨hr'.below, fun u hu => by rcases List.mem_append.1 hu with hu | hu; exact hr.one u hu; exact hone u hu, by simp [hr.len, hlen], fun i t u h1 h2 => ?_, fun i j t1 t2 u1 u2 b hij h1 h2 h3 h4 h5 h6 h7 => ?_, hfr, hr.pin.keep hk⟩, hk⟩
  · rw [app_get] at h1 h2
    rw [hr.len] at h2
    split at h1
    · rename_i he
      rw [if_pos he] at h2
      exact hk.rb (hr.sto i t u h1 h2) (fun hl b hbl => hbw.block b ((hr.sto i t u h1 h2).block hl hbl).2)
    · rename_i he
      rw [if_neg he] at h2
      exact hb hk _ t u h1 h2
  · rw [app_get] at h1 h2 h5 h6
    rw [hr.len] at h5 h6
    intro h8
    split at h1
    · rename_i hi
      rw [if_pos hi] at h5
      have g1 := ((hr.sto i t1 u1 h1 h5).block h3 h7).2
      split at h2
      · rename_i hj
        rw [if_pos hj] at h6
        exact hr.dis i j t1 t2 u1 u2 b hij h1 h2 h3 h4 h5 h6 h7 h8
      · rename_i hj
        rw [if_neg hj] at h6
        have := hfresh u2 (List.mem_of_getElem? h6) b h8
        omega
    · rename_i hi
      rw [if_neg hi] at h5
      have g1 := hfresh u1 (List.mem_of_getElem? h5) b h7
      split at h2
      · rename_i hj
        rw [if_pos hj] at h6
        have := ((hr.sto j t2 u2 h2 h6).block h4 h8).2
        omega
      · rename_i hj
        rw [if_neg hj] at h6
        exact hdis _ _ u1 u2 b (by omega) h5 h6 h7 h8

/-! ### A result comes into the store -/
mutual
def newsOf : RV → List Blk
  | .pv _ => []
  | .fresh e sz els => [.row e sz true els]
  | .row e sz els => [.row e sz false els]
  | .agg rs => newsL rs
  | .tup rs => newsL rs
def newsL : List RV → List Blk
  | [] => []
  | r :: rs => newsOf r ++ newsL rs
end

mutual
def avOf : Nat → RV → AV
  | _, .pv x => .pv x
  | n, .fresh _ _ _ => .own n
  | n, .row _ _ _ => .own n
  | n, .agg rs => .agg (avL n rs)
  | n, .tup rs => .tup (avL n rs)
def avL : Nat → List RV → List AV
  | _, [] => []
  | n, r :: rs => avOf n r :: avL (n + (newsOf r).length) rs
end

theorem takeRV_both : (∀ (r : RV) (σ : Sto) (K : AV → Sto → Prop), takeRV r σ K → K (avOf σ.length r) (σ ++ newsOf r)) := by
  intro r
  refine RV.rec (motive_1 := fun r => ∀ (σ : Sto) (K : AV → Sto → Prop), takeRV r σ K → K (avOf σ.length r) (σ ++ newsOf r))
    (motive_2 := fun rs => ∀ (σ : Sto) (K : List AV → Sto → Prop),
      (RV.rec_1 (motive_1 := fun _ => Sto → (AV → Sto → Prop) → Prop) (motive_2 := fun _ => Sto → (List AV → Sto → Prop) → Prop)
        (fun x σ K => K (.pv x) σ) (fun e sz els σ K => lenK σ fun n => snocK σ (.row e sz true els) fun σ => K (.own n) σ) (fun e sz els σ K => lenK σ fun n => snocK σ (.row e sz false els) fun σ => K (.own n) σ)
        (fun _ ih σ K => ih σ fun l σ => K (.agg l) σ) (fun _ ih σ K => ih σ fun l σ => K (.tup l) σ) (fun σ K => K [] σ)
        (fun _ _ h t σ K => h σ fun a σ => t σ fun l σ => K (a :: l) σ) rs : Sto → (List AV → Sto → Prop) → Prop) σ K → K (avL σ.length rs) (σ ++ newsL rs))
    ?_ ?_ ?_ ?_ ?_ ?_ ?_ r
  · intro x σ K h
    have h' : K (.pv x) σ := h
    simpa [avOf, newsOf] using h'
  · intro e sz els σ K h; exact snocK_spec _ _ _ (lenK_spec σ _ h)
  · intro e sz els σ K h; exact snocK_spec _ _ _ (lenK_spec σ _ h)
  · intro rs ih σ K h; exact ih σ _ h
  · intro rs ih σ K h; exact ih σ _ h
  · intro σ K h
    have h' : K [] σ := h
    simpa [avL, newsL] using h'
  · intro r rs ih1 ih2 σ K h
    have h1 := ih1 σ _ h
    have h2 := ih2 _ _ h1
    simpa [avL, newsL, List.append_assoc] using h2

theorem RR.news {ok : Nat → Prop} {B : Nat → Prop} : (∀ (r : RV) (v : Value) (us : List Value), RR ok B w r v us → us.length = (newsOf r).length ∧ ∀ (i : Nat) (s : Blk) (u : Value), (newsOf r)[i]? = some s → us[i]? = some u →
    ∃ e sz ap els cells, s = .row e sz ap els ∧ 0 < sz ∧ Owns w B e sz ap u els.length cells ∧ (∀ x ∈ els, x.cells.length = sz) ∧ (∀ c ∈ els.flatMap PV.cells, c.one = true) ∧ RdL ok w (els.flatMap PV.cells) cells) := by
  intro r
  refine RV.rec (motive_1 := fun r => ∀ (v : Value) (us : List Value), RR ok B w r v us → us.length = (newsOf r).length ∧ ∀ (i : Nat) (s : Blk) (u : Value), (newsOf r)[i]? = some s → us[i]? = some u →
      ∃ e sz ap els cells, s = .row e sz ap els ∧ 0 < sz ∧ Owns w B e sz ap u els.length cells ∧ (∀ x ∈ els, x.cells.length = sz) ∧ (∀ c ∈ els.flatMap PV.cells, c.one = true) ∧ RdL ok w (els.flatMap PV.cells) cells)
    (motive_2 := fun rs => ∀ (vs : List Value) (us : List Value), RRL ok B w rs vs us → us.length = (newsL rs).length ∧ ∀ (i : Nat) (s : Blk) (u : Value), (newsL rs)[i]? = some s → us[i]? = some u →
      ∃ e sz ap els cells, s = .row e sz ap els ∧ 0 < sz ∧ Owns w B e sz ap u els.length cells ∧ (∀ x ∈ els, x.cells.length = sz) ∧ (∀ c ∈ els.flatMap PV.cells, c.one = true) ∧ RdL ok w (els.flatMap PV.cells) cells)
    ?_ ?_ ?_ ?_ ?_ ?_ ?_ r
  · intro x v us h; simp only [RR] at h; rw [h.2]; exact ⟨rfl, fun i s u h => by simp [newsOf] at h⟩
  · intro e sz els v us h
    simp only [RR] at h
    obtain ⟨rfl, h0, cells, h1, h2, h3, h4⟩ := h
    refine ⟨rfl, fun i s u g1 g2 => ?_⟩
    cases i with
    | zero => simp [newsOf] at g1 g2; subst g1 g2; exact ⟨e, sz, true, els, cells, rfl, h0, h1, h2, h3, h4⟩
    | succ i => simp [newsOf] at g1
  · intro e sz els v us h
    simp only [RR] at h
    obtain ⟨rfl, h0, cells, h1, h2, h3, h4⟩ := h
    refine ⟨rfl, fun i s u g1 g2 => ?_⟩
    cases i with
    | zero => simp [newsOf] at g1 g2; subst g1 g2; exact ⟨e, sz, false, els, cells, rfl, h0, h1, h2, h3, h4⟩
    | succ i => simp [newsOf] at g1
  · intro rs ih v us h; simp only [RR] at h; obtain ⟨vs, _, _, h⟩ := h; exact ih _ _ h
  · intro rs ih v us h; simp only [RR] at h; obtain ⟨vs, _, h⟩ := h; exact ih _ _ h
  · intro vs us h; simp only [RRL] at h; rw [h.2]; exact ⟨rfl, fun i s u h => by simp [newsL] at h⟩
  · intro r rs ih1 ih2 vs us h
    simp only [RRL] at h
    obtain ⟨v, t, us1, us2, rfl, rfl, h1, h2⟩ := h
    obtain ⟨l1, g1⟩ := ih1 _ _ h1
    obtain ⟨l2, g2⟩ := ih2 _ _ h2
    refine ⟨by simp [newsL, l1, l2], fun i s u f1 f2 => ?_⟩
    simp only [newsL, app_get] at f1 f2
    rw [l1] at f2
    split at f1
    · rename_i hi; rw [if_pos hi] at f2; exact g1 i s u f1 f2
    · rename_i hi; rw [if_neg hi] at f2; exact g2 _ s u f1 f2

/-- The result in its slot. -/
theorem RR.ra {ok ok' : Nat → Prop} {B : Nat → Prop} (hok : ∀ b, ok b → ok' b) (σ' : Sto) (vals' : List Value) : ∀ (r : RV) (v : Value) (us : List Value) (n : Nat), RR ok B w r v us → (∀ (i : Nat) (u : Value), us[i]? = some u → vals'[n + i]? = some u) → RA ok' σ' vals' w (avOf n r) v := by
  intro r
  refine RV.rec (motive_1 := fun r => ∀ (v : Value) (us : List Value) (n : Nat), RR ok B w r v us → (∀ (i : Nat) (u : Value), us[i]? = some u → vals'[n + i]? = some u) → RA ok' σ' vals' w (avOf n r) v)
    (motive_2 := fun rs => ∀ (vs : List Value) (us : List Value) (n : Nat), RRL ok B w rs vs us → (∀ (i : Nat) (u : Value), us[i]? = some u → vals'[n + i]? = some u) → RAL ok' σ' vals' w (avL n rs) vs)
    ?_ ?_ ?_ ?_ ?_ ?_ ?_ r
  · intro x v us n h _; simp only [RR] at h; simp only [avOf, RA]; exact Rd.mono hok (fun _ _ _ => rfl) x v h.1
  · intro e sz els v us n h hv; simp only [RR] at h; obtain ⟨rfl, _⟩ := h; simp only [avOf, RA]; exact hv 0 v rfl
  · intro e sz els v us n h hv; simp only [RR] at h; obtain ⟨rfl, _⟩ := h; simp only [avOf, RA]; exact hv 0 v rfl
  · intro rs ih v us n h hv
    simp only [RR] at h; obtain ⟨vs, rfl, h1, h⟩ := h
    simp only [avOf, RA]
    refine ⟨fun c hc => ?_, vs, rfl, ih _ _ n h hv⟩
    have : ∀ (rs : List RV) (n : Nat), (∀ r ∈ rs, match r with | .pv x => x.one = true | .fresh _ _ _ => True | .row _ _ _ => True | _ => False) → ∀ c ∈ avL n rs, c.one = true := by
      intro rs
      induction rs with
      | nil => intro n _ c hc; simp [avL] at hc
      | cons r rs ih =>
        intro n h c hc
        simp only [avL] at hc
        rcases List.mem_cons.1 hc with rfl | hc
        · have := h r (by simp)
          cases r with
          | pv x => exact this
          | fresh e sz els => rfl
          | row e sz els => rfl
          | _ => exact this.elim
        · exact ih _ (fun r hr => h r (by simp [hr])) c hc
    exact this rs n h1 c hc
  · intro rs ih v us n h hv
    simp only [RR] at h; obtain ⟨vs, rfl, h⟩ := h
    simp only [avOf, RA]
    exact ⟨vs, rfl, ih _ _ n h hv⟩
  · intro vs us n h _; simp only [RRL] at h; simp only [avL, RAL]; exact h.1
  · intro r rs ih1 ih2 vs us n h hv
    simp only [RRL] at h
    obtain ⟨v, t, us1, us2, rfl, rfl, h1, h2⟩ := h
    simp only [avL, RAL]
    have l1 := (RR.news r v us1 h1).1
    refine ⟨v, t, rfl, ih1 v us1 n h1 (fun i u hi => hv i u (by rw [app_get, if_pos (List.getElem?_eq_some_iff.1 hi).1]; exact hi)), ih2 t us2 _ h2 (fun i u hi => ?_)⟩
    have := hv (us1.length + i) u (by rw [app_get, if_neg (by omega), Nat.add_sub_cancel_left]; exact hi)
    rwa [← l1, Nat.add_assoc]

theorem out_callF {K : AV → Sto → Prop} {Γ : Ctx} (hΓ : Sound cx.P Γ) (hr : Rel cx env σ vals a w) (f : FuncId) (as : List AV) (vs : Array Value) (hrun0 : (execOp a.eval o).run cx.P w = (callFunc f vs).run cx.P w) (hral : RAL (Ok cx σ vals w) σ vals w as vs.toList) (hmu : (Γ f).mu = false)
    (hK : readAVs σ as fun ps => match (Γ f).lone with
      | true => (Γ f).run ps fun r => takeRV r σ K
      | false => freezeAVs as σ fun σ => (Γ f).run ps fun r => takeRV r σ K) : Out cx env a w o K := by
  -- the call, behind which the result comes into the store
  have main : ∀ (σ1 : Sto) (ok : Nat → Prop) (ps : List PV), Rel cx env σ1 vals a w → (∀ b, ok b → b < w.heap.size) → ((Γ f).lone = false → ∀ b, ok b → Ok cx σ1 vals w b) → RdL ok w ps vs.toList → ((Γ f).run ps fun r => takeRV r σ1 K) → Out cx env a w o K := by
    intro σ1 ok ps hr1 hok1 hok2 hrd hrun next Q hnext
    obtain ⟨hent, hcall⟩ := (hΓ f).2.2.1 w ok ps vs _ hmu hok1 hrd hrun
    unfold Oper.wp
    rw [hrun0, hent, Oper.upon_enter]
    refine hcall.mono ?_
    rintro e w' ⟨v, r, us, rfl, hK, hbw, hrr, hfresh, hdis⟩
    have hK := takeRV_both r σ1 K hK
    obtain ⟨hl, hnews⟩ := RR.news r v us hrr
    have hone : ∀ u ∈ us, u.oneCell' = true := by
      intro u hu
      obtain ⟨i, hi⟩ := List.mem_iff_getElem?.1 hu
      have hin : i < (newsOf r).length := by rw [← hl]; exact (List.getElem?_eq_some_iff.1 hi).1
      obtain ⟨_, _, _, _, _, _, _, h, _⟩ := hnews i _ u (List.getElem?_eq_getElem hin) hi
      rcases h.2 with ⟨rfl, _⟩ | ⟨_, _, _, _, rfl, _⟩ <;> rfl
    have hokR : ∀ b, OkR ok (Γ f).lone w w' us b → Ok cx (σ1 ++ newsOf r) (vals ++ us) w' b := by
      rintro b ⟨h1, h2, h3⟩
      refine ⟨?_, h2, ?_⟩
      · rcases h1 with ⟨h0, h1⟩ | h1
        · exact (hok2 h0 b h1).1
        · exact .inr (cx.hown _ (Nat.le_trans hr1.s.below.size h1))
      · rintro ⟨i, s, u, g1, g2, g3, g4⟩
        rw [app_get] at g1 g3
        rw [hr1.s.len] at g3
        split at g1
        · rename_i hi; rw [if_pos hi] at g3
          rcases h1 with ⟨h0, h1⟩ | h1
          · exact (hok2 h0 b h1).2.2 ⟨i, s, u, g1, g2, g3, g4⟩
          · have := ((hr1.s.sto i s u g1 g3).block g2 g4).2; omega
        · rename_i hi; rw [if_neg hi] at g3
          exact h3 u (List.mem_of_getElem? g3) g4
    obtain ⟨hs, hkp⟩ := hr1.s.pushes hbw (newsOf r) us hl hone hfresh hdis (fun hkp i s u g1 g2 => by
      obtain ⟨e, sz, ap, els, cells, rfl, h0, h1, h2, h3, h4⟩ := hnews i s u g1 g2
      refine ⟨h0, cells, ⟨h1.1, ?_⟩, h2, h3, RdL.mono hokR (fun _ _ _ => rfl) _ _ h4⟩
      rcases h1.2 with h | ⟨g, cap, cur, fr, f1, f2, f3⟩
      · exact .inl h
      · exact .inr ⟨g, cap, cur, fr, f1, cx.hown _ (Nat.le_trans hr1.s.below.size f2), f3⟩)
    refine hnext _ _ _ v w' hK (hr1.keep hs hkp) ?_
    refine RR.ra hokR _ _ r v us σ1.length hrr (fun i u hi => ?_)
    rw [app_get, if_neg (by rw [hr1.s.len]; omega), hr1.s.len, Nat.add_sub_cancel_left]
    exact hi
  obtain ⟨ps, hk, hrd, _, hdet⟩ := reads_spec hr.s _ _ _ hral hK
  cases hlone : (Γ f).lone with
  | true =>
    simp only [hlone] at hk
    refine main σ (OkM cx σ vals w) ps hr (fun b hb => ?_) (fun h => by rw [hlone] at h; cases h) hrd hk
    rcases hb with hb | ⟨i, s, u, h1, h2, h3, h4⟩
    · exact hb.2.1
    · exact ((hr.s.sto i s u h1 h3).block h2 h4).2
  | false =>
    simp only [hlone] at hk
    obtain ⟨xs, σ1, rfl, hk, _, hs1, hkp1, hrd, _⟩ := freezes_spec _ σ σ _ (fun z => z = ps) _ (Fz.refl σ) hr.s hral (hdet _ rfl) hk
    exact main σ1 (Ok cx σ1 vals w) _ (hr.keep hs1 hkp1) (fun b hb => hb.2.1) (fun _ b hb => hb) hrd hk
end
end Go.Dv
end
section
/-
  Functions that capture variables which are written no more.
-/
set_option linter.unusedSimpArgs false
namespace Go.Dv
open Go.RowKit
section
variable {cx : Cx} {env : Env} {σ : Sto} {vals : List Value} {a : Act} {w w' : World} {o : Oper}

theorem boxVal_cptr {cs : List PV} {K : PV → Prop} (h : boxVal cs K) (h1 : ∀ c ∈ cs, c.one = true) :
    ∃ x, K x ∧ ∀ (ok : Nat → Prop) (arr : Array Value) (b : Nat) (e : TypeId) (fr : Nat × Nat), w.heap[b]? = some (.cells arr e fr) → RdL ok w cs arr.toList → ok b → Rd ok w (.cptr x) (.pointer (some ⟨b, 0, none⟩)) := by
  have hcell : ∀ (arr : Array Value) (b : Nat) (e : TypeId) (fr : Nat × Nat), w.heap[b]? = some (.cells arr e fr) → ∀ (j : Nat) (u : Value), arr.toList[j]? = some u → w.cell? ⟨b, 0 + j, none⟩ = some u := by
    intro arr b e fr hb j u hj
    have : arr[j]? = some u := by simpa using hj
    simp [World.cell?, hb, this]
  have agg : (∀ c ∈ cs, c.one = true) → ∀ (ok : Nat → Prop) (arr : Array Value) (b : Nat) (e : TypeId) (fr : Nat × Nat), w.heap[b]? = some (.cells arr e fr) → RdL ok w cs arr.toList → ok b → Rd ok w (.cptr (.agg cs)) (.pointer (some ⟨b, 0, none⟩)) := by
    intro h1 ok arr b e fr hb h hok
    simp only [Rd]
    exact ⟨b, 0, rfl, hok, (rdCs_iff b cs 0).2 ⟨h1, arr.toList, h, hcell arr b e fr hb⟩⟩
  cases cs with
  | nil => exact ⟨_, h, agg h1⟩
  | cons c r =>
    cases r with
    | cons d r => exact ⟨_, h, agg h1⟩
    | nil =>
      have hone : c.one = true := h1 c (by simp)
      have hx : c.one = true → ∀ (ok : Nat → Prop) (arr : Array Value) (b : Nat) (e : TypeId) (fr : Nat × Nat), w.heap[b]? = some (.cells arr e fr) → RdL ok w [c] arr.toList → ok b → Rd ok w (.cptr c) (.pointer (some ⟨b, 0, none⟩)) := by
        intro hone ok arr b e fr hb hrd hok
        simp only [RdL] at hrd
        obtain ⟨u, t, hu, hc, rfl⟩ := hrd
        have h0 := hcell arr b e fr hb 0 u (by rw [hu]; rfl)
        cases c with
        | agg cs => cases hone
        | _ => simp only [Rd]; exact ⟨b, 0, rfl, hok, hone, u, h0, by simpa only [Rd] using hc⟩
      cases c with
      | agg cs => cases hone
      | _ => exact ⟨_, h, hx hone⟩

theorem boxes_spec : ∀ (l : List AV) (σ : Sto) (vs : List Value) (K : List PV → Sto → Prop), RelS cx σ vals w → RAL (Ok cx σ vals w) σ vals w l vs → boxesK l σ K →
    ∃ xs σ', K xs σ' ∧ RelS cx σ' vals w ∧ Keep cx σ vals w σ' vals w ∧ RdL (Ok cx σ' vals w) w xs vs := by
  intro l
  induction l with
  | nil =>
    intro σ vs K hr h hK
    simp only [RAL] at h
    exact ⟨[], σ, hK, hr, Keep.refl, by simp only [RdL]; exact h⟩
  | cons av l ih =>
    intro σ vs K hr h hK
    simp only [RAL] at h
    obtain ⟨v, t, rfl, hv, ht⟩ := h
    have fin : ∀ (σ1 : Sto) (y : PV), RelS cx σ1 vals w → Keep cx σ vals w σ1 vals w → Rd (Ok cx σ1 vals w) w (.cptr y) v → (boxesK l σ1 fun xs σ => K (.cptr y :: xs) σ) →
        ∃ xs σ', K xs σ' ∧ RelS cx σ' vals w ∧ Keep cx σ vals w σ' vals w ∧ RdL (Ok cx σ' vals w) w xs (v :: t) := by
      intro σ1 y hr1 hk1 hrd hK1
      obtain ⟨xs, σ', h1, h2, h3, h4⟩ := ih σ1 t _ hr1 (hk1.raL _ _ ht) hK1
      exact ⟨_, σ', h1, h2, hk1.trans h3, by simp only [RdL]; exact ⟨v, t, rfl, h3.rd hrd, h4⟩⟩
    cases av with
    | pv x =>
      cases x with
      | cptr y => simp only [RA] at hv; exact fin σ y hr Keep.refl hv hK
      | _ => exact (show False from hK).elim
    | ref id idx off =>
      simp only [RA] at hv
      obtain ⟨hlt, _, _, hbox⟩ := hv
      obtain ⟨b, hb, hk⟩ := nthK_iff _ _ _ (show nthK σ id _ from hK)
      cases b with
      | box e cs =>
        cases off with
        | zero =>
          have hk : readAVs σ cs fun t => boxVal t fun x => freezeAVs cs σ fun σ => setK σ id (.fz (.cptr x)) fun σ => boxesK l σ fun xs σ => K (.cptr x :: xs) σ := hk
          obtain ⟨u, hu, hrb⟩ := hr.val hb
          obtain ⟨u', g, hu', hg', hv⟩ := hbox _ hb rfl
          rw [hu] at hu'; cases hu'
          obtain ⟨b, arr, e1, e2, e3, e4, e5⟩ := hrb
          obtain ⟨txs, hk2, _, _, hdet⟩ := reads_spec hr cs _ _ e5 hk
          have hbv : ∃ x, (∀ (K : PV → Prop), boxVal txs K → K x) ∧ boxVal txs fun y => y = x := by
            have : ∀ K : PV → Prop, boxVal txs K → ∃ x, (∀ (K : PV → Prop), boxVal txs K → K x) ∧ boxVal txs fun y => y = x := by
              intro K h
              cases txs with
              | nil => exact ⟨_, fun _ h => h, rfl⟩
              | cons c r => cases r with
                | cons d r => exact ⟨_, fun _ h => h, rfl⟩
                | nil => cases c with
                  | agg cs => exact h.elim
                  | _ => exact ⟨_, fun _ h => h, rfl⟩
            exact this _ hk2
          obtain ⟨x, hx1, hx2⟩ := hbv
          have hk3 := hx1 _ hk2
          obtain ⟨xs2, σ1, rfl, hk4, hfz, hr1, hk1, hrdL, hone⟩ := freezes_spec cs σ σ _ (fun z => z = txs) _ (Fz.refl σ) hr e5 (hdet _ rfl) hk3
          have hb1 : σ1[id]? = some (.box e cs) := by
            rcases hfz id with h | ⟨_, _, _, _, h, _⟩
            · rw [h]; exact hb
            · rw [hb] at h; cases h
          have hlt1 : id < σ1.length := (List.getElem?_eq_some_iff.1 hb1).1
          obtain ⟨x', hx3, hx4⟩ := boxVal_cptr (w := w) hx2 (hone e4)
          subst hx3
          obtain ⟨_, hset⟩ := setK_spec _ _ _ _ hk4
          obtain ⟨hr2, hk2'⟩ := hr1.freezeTo (x := .cptr x') hb1 rfl (fun ok' v' hv' _ hok hbl => by
            rw [hu] at hv'; cases hv'
            rw [e1]
            exact hx4 ok' arr b _ _ e3 (RdL.mono hok (fun _ _ _ => rfl) _ _ hrdL) (hbl b (by rw [e1]; rfl))) (fun _ => rfl)
          refine fin _ x' hr2 (hk1.trans hk2') ?_ hset
          have := hr2.sto id _ _ (by rw [List.getElem?_set_self hlt1]) hu
          have hvu : v = u := by rw [hv, hg']
          rw [hvu]; exact this
        | succ off => exact (show False from hk).elim
      | fz y =>
        cases off with
        | zero =>
          cases y with
          | cptr y =>
            obtain ⟨u, hu, hrb⟩ := hr.val hb
            obtain ⟨u', g, hu', hg', hv⟩ := hbox _ hb rfl
            rw [hu] at hu'; cases hu'
            have hvu : v = u := by rw [hv, hg']
            exact fin σ y hr Keep.refl (by rw [hvu]; exact hrb) hk
          | _ => exact (show False from hk).elim
        | succ off => exact (show False from hk).elim
      | _ => cases off <;> exact (show False from hk).elim
    | _ => exact (show False from hK).elim

theorem out_mkf {K : AV → Sto → Prop} (hr : Rel cx env σ vals a w) (f : FuncId) (first caps : Array Operand) (ho : o.op = .makeFunc (.func f) first caps) (hf : first.toList = [])
    (hK : boxesK (caps.toList.map (evF env)) σ fun xs σ => K (.pv (.clo f xs)) σ) : Out cx env a w o K := by
  obtain ⟨xs, σ', h1, h2, h3, h4⟩ := boxes_spec _ σ _ _ hr.s (hr.evL caps.toList) hK
  have hf' : first = #[] := Array.toList_eq_nil_iff.1 hf
  refine Out.run (v := .func (.func f) #[] (caps.map a.eval)) (by simp [execOp, ho, Instr.makeFunc, hf']) (hr.keep h2 h3) (av := .pv (.clo f xs)) ?_ h1
  simp only [RA, Rd]
  exact ⟨_, rfl, by simpa using h4⟩
end
end Go.Dv
end
section
/-
  Elements put over others; arrays that lie as rows.
-/
set_option linter.unusedSimpArgs false
namespace Go.Dv
open Go.RowKit Go.Lib
section
variable {cx : Cx} {env : Env} {σ : Sto} {vals : List Value} {a : Act} {w w' : World} {o : Oper}

/-- Elements put over those of a row from one place on. -/
theorem RelS.over (P : Program) (hr : RelS cx σ vals w) {id : Nat} {e : TypeId} {sz : Nat} {ap : Bool} {els : List PV} (hb : σ[id]? = some (.row e sz ap els)) {g n0 c0 : Nat} (hu : vals[id]? = some (.slice (some ⟨g, 0, none⟩) n0 c0)) (lo : Nat) (zs : List PV) (us : List Value)
    (hz : RdL (Ok cx σ vals w) w (zs.flatMap PV.cells) us) (hone : ∀ c ∈ zs.flatMap PV.cells, c.one = true) (hl : ∀ x ∈ zs, x.cells.length = sz) (hle : lo + zs.length ≤ els.length) :
    ∃ w', (storeCells ⟨g, lo * sz, none⟩ us).run P w = .ok () w' ∧ RelS cx (σ.set id (.row e sz ap (els.take lo ++ zs ++ els.drop (lo + zs.length)))) vals w' ∧ Keep cx σ vals w (σ.set id (.row e sz ap (els.take lo ++ zs ++ els.drop (lo + zs.length)))) vals w' := by
  have hrb := hr.sto id _ _ hb hu
  obtain ⟨hsz, cells, hown, hel, helo, hcs⟩ := hrb
  have hn0 : n0 = els.length := by
    rcases hown.2 with ⟨h1, _⟩ | ⟨_, _, _, _, h1, _⟩
    · cases h1
    · cases h1; rfl
  subst hn0
  rcases hown with ⟨hcl, ⟨h1, _⟩ | ⟨gg, cap, cur, fr, h1, h2, h3, h4, h5, h6, h7, h8⟩⟩
  · cases h1
  cases h1
  have husl : us.length = zs.length * sz := by rw [hz.length, flat_length _ _ hl]
  have hT : ((els.take lo).flatMap PV.cells).length = lo * sz := by
    rw [flat_length sz _ (fun z hz => hel z (List.mem_of_mem_take hz)), List.length_take, Nat.min_eq_left (by omega)]
  have hM : (((els.drop lo).take zs.length).flatMap PV.cells).length = zs.length * sz := by
    rw [flat_length sz _ (fun z hz => hel z (List.mem_of_mem_drop (List.mem_of_mem_take hz))), List.length_take, List.length_drop, Nat.min_eq_left (by omega)]
  have hels : els = els.take lo ++ (els.drop lo).take zs.length ++ els.drop (lo + zs.length) := by
    rw [List.append_assoc, ← List.drop_drop, List.take_append_drop, List.take_append_drop]
  have hf1 : els.flatMap PV.cells = (els.take lo).flatMap PV.cells ++ ((els.drop lo).take zs.length).flatMap PV.cells ++ (els.drop (lo + zs.length)).flatMap PV.cells := by
    conv => lhs; rw [hels]
    rw [List.flatMap_append, List.flatMap_append]
  have hf2 : (els.take lo ++ zs ++ els.drop (lo + zs.length)).flatMap PV.cells = (els.take lo).flatMap PV.cells ++ zs.flatMap PV.cells ++ (els.drop (lo + zs.length)).flatMap PV.cells := by
    rw [List.flatMap_append, List.flatMap_append]
  have hcs0 := hcs
  rw [hf1] at hcs
  obtain ⟨c12, c3, hcell, r12, r3⟩ := (rdL_append _ _ _).1 hcs
  obtain ⟨c1, c2, rfl, r1, r2⟩ := (rdL_append _ _ _).1 r12
  have hc1 : c1.length = lo * sz := by rw [r1.length, hT]
  have hc2 : c2.length = zs.length * sz := by rw [r2.length, hM]
  have hmul : lo * sz + zs.length * sz ≤ els.length * sz := by rw [← Nat.add_mul]; exact Nat.mul_le_mul_right _ hle
  have hnle : els.length * sz ≤ cur.size := by rw [h6]; exact Nat.mul_le_mul_right _ h4
  obtain ⟨w', cur', f1, f2, f3, f4, f5, f6, f7, f8⟩ := run_stores P g (lo * sz) e fr us 0 cur w h3 (by omega) (h8.imp (fun h => h) fun h => h.2) (RdL.oneCells hz hone)
  have hcurl : cur.toList = (c1 ++ c2 ++ c3) ++ cur.toList.drop (els.length * sz) := by
    rw [← hcell, ← h7, List.take_append_drop]
  have hcur' : cur'.toList = (c1 ++ us ++ c3) ++ cur.toList.drop (els.length * sz) := by
    rw [f3, Nat.add_zero]
    have e1 : cur.toList.take (lo * sz) = c1 := by
      rw [hcurl, List.append_assoc, List.append_assoc]; exact List.take_left' hc1
    have e2 : cur.toList.drop (lo * sz + us.length) = c3 ++ cur.toList.drop (els.length * sz) := by
      conv => lhs; rw [hcurl]
      rw [List.append_assoc]
      exact List.drop_left' (by rw [List.length_append, hc1, hc2, husl])
    rw [e1, e2]; simp [List.append_assoc]
  have hnl : (els.take lo ++ zs ++ els.drop (lo + zs.length)).length = els.length := by simp; omega
  obtain ⟨hs, hkp⟩ := hr.write (s' := .row e sz ap (els.take lo ++ zs ++ els.drop (lo + zs.length))) hb rfl rfl ⟨rfl, rfl⟩ hu rfl f4 f5 f6 f7 f8 (fun hkp => by
    have hcsz : cur'.size = cur.size := by
      have e1 := congrArg List.length hcur'
      have e2 := congrArg List.length hcurl
      simp only [List.length_append, Array.length_toList, husl, hc2] at e1 e2
      omega
    refine ⟨hsz, c1 ++ us ++ c3, ⟨?_, .inr ⟨g, c0, cur', fr, by rw [hnl], h2, f2, by rw [hnl]; exact h4, h5, by rw [hcsz, h6], ?_, by rw [hcsz]; exact h8⟩⟩, ?_, ?_, ?_⟩
    · rw [hnl, ← hcl, hcell]; simp only [List.length_append, husl, hc2]
    · rw [hnl, hcur']
      refine List.take_left' ?_
      rw [← hcl, hcell]; simp only [List.length_append, husl, hc2]
    · intro z hz
      simp only [List.mem_append] at hz
      rcases hz with (hz | hz) | hz
      · exact hel z (List.mem_of_mem_take hz)
      · exact hl z hz
      · exact hel z (List.mem_of_mem_drop hz)
    · intro c hc
      rw [hf2] at hc
      rw [hf1] at helo
      simp only [List.mem_append] at hc helo
      rcases hc with (hc | hc) | hc
      · exact helo c (.inl (.inl hc))
      · exact hone c hc
      · exact helo c (.inr hc)
    · rw [hf2]
      exact (rdL_append _ _ _).2 ⟨_, _, rfl, (rdL_append _ _ _).2 ⟨_, _, rfl, hkp.rdL r1, hkp.rdL hz⟩, hkp.rdL r3⟩)
  exact ⟨w', f1, hs, hkp⟩

theorem flat_take (sz : Nat) (ys : List PV) (hl : ∀ y ∈ ys, y.cells.length = sz) : ∀ n : Nat, (ys.take n).flatMap PV.cells = (ys.flatMap PV.cells).take (n * sz) := by
  induction ys with
  | nil => intro n; simp
  | cons y ys ih =>
    intro n
    cases n with
    | zero => simp
    | succ n =>
      rw [List.take_succ_cons, List.flatMap_cons, List.flatMap_cons, ih (fun z hz => hl z (by simp [hz])) n, List.take_append, hl y (by simp), Nat.add_mul, Nat.one_mul]
      rw [List.take_of_length_le (show y.cells.length ≤ n * sz + sz by rw [hl y (by simp)]; omega), Nat.add_sub_cancel]

theorem rdL_take {ok : Nat → Prop} (l : List PV) (vs : List Value) (n : Nat) (h : RdL ok w l vs) : RdL ok w (l.take n) (vs.take n) := by
  obtain ⟨h1, h2⟩ := (rdL_iff l vs).1 h
  refine (rdL_iff _ _).2 ⟨by simp [h1], fun j c v hc hv => ?_⟩
  rw [List.getElem?_take] at hc hv
  split at hc
  · rename_i hj; rw [if_pos hj] at hv; exact h2 j c v hc hv
  · cases hc

/-- What is put over a row, or a part of one. -/
theorem over_spec' (hr : Rel cx env σ vals a w) (sz : Nat) (x : Operand) (ys : List PV) (us : List Value) (hz : RdL (Ok cx σ vals w) w (ys.flatMap PV.cells) us) (hone : ∀ c ∈ ys.flatMap PV.cells, c.one = true) (hl : ∀ y ∈ ys, y.cells.length = sz) {K : Nat → Sto → Prop}
    (hK : overK σ sz (evF env x) ys K) : ∃ ad len cap σ' w', a.eval x = .slice ad len cap ∧ K (min ys.length len) σ' ∧ Rel cx env σ' vals a w' ∧
      ((min ys.length len = 0 ∧ w' = w) ∨ ∃ g, ad = some g ∧ (storeCells g (us.take (min ys.length len * sz))).run cx.P w = .ok () w') := by
  have hx := hr.ev x
  cases hev : evF env x with
  | pv p =>
    rw [hev] at hK hx
    cases p with
    | nil s =>
      simp only [RA, Rd] at hx
      exact ⟨none, 0, 0, σ, w, hx, by simpa using (show K 0 σ from hK), hr, .inl ⟨by simp, rfl⟩⟩
    | _ => exact (show False from hK).elim
  | own id =>
    rw [hev] at hK hx
    simp only [RA] at hx
    obtain ⟨b, hb, hk⟩ := nthK_iff σ id _ hK
    cases b with
    | row e s ap els =>
      replace hk : (match Nat.beq s sz with
        | true => setK σ id (.row e s ap (ys.take els.length ++ els.drop ys.length)) fun σ => K (min ys.length els.length) σ
        | false => False) := hk
      cases hs : Nat.beq s sz with
      | false => rw [hs] at hk; exact hk.elim
      | true =>
        rw [hs] at hk
        have := Nat.eq_of_beq_eq_true hs
        subst this
        obtain ⟨_, hk⟩ := setK_spec _ _ _ _ hk
        obtain ⟨_, cells, ⟨_, hown⟩, _⟩ := hr.s.sto id _ _ hb hx
        rcases hown with ⟨hv2, h0⟩ | ⟨g, cap, cur, fr, hv2, _⟩
        · have : els = [] := List.eq_nil_of_length_eq_zero h0
          subst this
          rw [show σ.set id (.row e s ap (ys.take ([] : List PV).length ++ ([] : List PV).drop ys.length)) = σ from by
            have hlt := (List.getElem?_eq_some_iff.1 hb)
            apply List.ext_getElem?
            intro j
            rw [set_get hlt.1]
            split
            · rename_i hj; subst hj; rw [hb]; simp
            · rfl] at hk
          exact ⟨none, 0, 0, σ, w, hv2, by simpa using hk, hr, .inl ⟨by simp, rfl⟩⟩
        · obtain ⟨w', f1, f2, f3⟩ := hr.s.over cx.P hb (by rw [hx, hv2]) 0 (ys.take els.length) (us.take (els.length * s)) (by rw [flat_take _ _ hl]; exact rdL_take _ _ _ hz)
            (fun c hc => by rw [flat_take _ _ hl] at hc; exact hone c (List.mem_of_mem_take hc)) (fun y hy => hl y (List.mem_of_mem_take hy)) (by simp; omega)
          have e1 : els.take 0 ++ ys.take els.length ++ els.drop (0 + (ys.take els.length).length) = ys.take els.length ++ els.drop ys.length := by
            rw [List.take_zero, List.nil_append, Nat.zero_add, List.length_take]
            by_cases h : ys.length ≤ els.length
            · rw [Nat.min_eq_right h]
            · rw [Nat.min_eq_left (by omega), List.drop_length, List.drop_eq_nil_of_le (by omega)]
          rw [e1] at f2 f3
          refine ⟨_, _, _, _, w', hv2, hk, hr.keep f2 f3, .inr ⟨_, rfl, ?_⟩⟩
          rw [Nat.zero_mul] at f1
          rw [← f1]
          congr 2
          have hul : us.length = ys.length * s := by rw [hz.length, flat_length _ _ hl]
          by_cases h : ys.length ≤ els.length
          · rw [Nat.min_eq_left h, List.take_of_length_le (by omega), List.take_of_length_le (by rw [hul]; exact Nat.mul_le_mul_right _ h)]
          · rw [Nat.min_eq_right (by omega)]
    | _ => exact hk.elim
  | sub id z lo n =>
    rw [hev] at hK hx
    replace hK : (match Nat.beq z sz with
      | true => nthK σ id fun b => match b with
        | .row e s ap els => match Nat.beq s sz with
          | true => lo + n ≤ els.length ∧ setK σ id (.row e s ap (els.take lo ++ ys.take n ++ els.drop (lo + min ys.length n))) fun σ => K (min ys.length n) σ
          | false => False
        | _ => False
      | false => False) := hK
    cases hs : Nat.beq z sz with
    | false => rw [hs] at hK; exact hK.elim
    | true =>
      rw [hs] at hK
      have := Nat.eq_of_beq_eq_true hs
      subst this
      obtain ⟨b, hb, hk⟩ := nthK_iff σ id _ hK
      cases b with
      | row e s ap els =>
        replace hk : (match Nat.beq s z with
          | true => lo + n ≤ els.length ∧ setK σ id (.row e s ap (els.take lo ++ ys.take n ++ els.drop (lo + min ys.length n))) fun σ => K (min ys.length n) σ
          | false => False) := hk
        cases hs : Nat.beq s z with
        | false => rw [hs] at hk; exact hk.elim
        | true =>
          rw [hs] at hk
          have := Nat.eq_of_beq_eq_true hs
          subst this
          obtain ⟨hle, hk⟩ := hk
          obtain ⟨hlt, hk⟩ := setK_spec _ _ _ _ hk
          simp only [RA] at hx
          obtain ⟨_, ad, c, hv2, hnc, hcm, hor⟩ := hx
          rcases hor with h0 | ⟨g, n0, c0, f1, rfl⟩
          · subst h0
            rw [show σ.set id (.row e s ap (els.take lo ++ ys.take 0 ++ els.drop (lo + min ys.length 0))) = σ from by
              apply List.ext_getElem?
              intro j
              rw [set_get hlt]
              split
              · rename_i hj; subst hj; rw [hb]; simp
              · rfl] at hk
            exact ⟨ad, 0, c, σ, w, hv2, hk, hr, .inl ⟨by simp, rfl⟩⟩
          · obtain ⟨w', f1, f2, f3⟩ := hr.s.over cx.P hb f1 lo (ys.take n) (us.take (n * s)) (by rw [flat_take _ _ hl]; exact rdL_take _ _ _ hz)
              (fun c hc => by rw [flat_take _ _ hl] at hc; exact hone c (List.mem_of_mem_take hc)) (fun y hy => hl y (List.mem_of_mem_take hy)) (by simp; omega)
            rw [List.length_take, Nat.min_comm] at f2 f3
            refine ⟨_, _, _, _, w', hv2, hk, hr.keep f2 f3, .inr ⟨_, rfl, ?_⟩⟩
            rw [← f1]
            congr 2
            have hul : us.length = ys.length * s := by rw [hz.length, flat_length _ _ hl]
            by_cases h : ys.length ≤ n
            · rw [Nat.min_eq_left h, List.take_of_length_le (by omega), List.take_of_length_le (by rw [hul]; exact Nat.mul_le_mul_right _ h)]
            · rw [Nat.min_eq_right (by omega)]
      | _ => exact hk.elim
  | _ => rw [hev] at hK; exact (show False from hK).elim
theorem out_junk {K : AV → Sto → Prop} (hr : Rel cx env σ vals a w) (t : TypeId) (x : Operand) (ho : o.op = .makeInterface t x) (d : TypeDesc) (hd : cx.P.underlying t = some d) (hn : ∀ m, d ≠ .interface m) (hK : K .bad σ) : Out cx env a w o K := by
  refine Out.run (v := .iface t (a.eval x)) ?_ hr (av := .bad) (by simp only [RA]) hK
  cases d <;> first | exact absurd rfl (hn _) | simp [execOp, ho, Instr.makeInterface, run_underlying hd]

theorem strCells_take (l : List UInt8) (n : Nat) : ((((⟨l.toArray⟩ : ByteArray).extract 0 n).data.map fun b => Value.int .u8 b.toNat)).toList = (strCells ⟨l.toArray⟩).take n := by
  rw [extract_mk]
  simp [strCells, cut]

theorem out_cpyS {K : AV → Sto → Prop} (hr : Rel cx env σ vals a w) (t u e : TypeId) (ie : TypeInfo) (x y : Operand) (c : Call) (ho : o.op = .call c) (hc : c.callee = .builtin .copy) (hargs : c.args.toList = [x, y]) (hat : c.argTypes.toList = [t, u])
    (hu : cx.P.underlying t = some (.slice e)) (hie : cx.P.info? e = some ie) (hsz : ie.size = 1)
    (hK : match evF env y with
      | .pv y => match y with
        | .str l => overK σ 1 (evF env x) (l.map byteP) fun n σ => K (.pv (.int .i64 n)) σ
        | _ => False
      | _ => False) : Out cx env a w o K := by
  have hargs' : c.args = #[x, y] := by rw [← hargs]
  have hat' : c.argTypes = #[t, u] := by rw [← hat]
  have hy := hr.ev y
  revert hK hy
  cases evF env y with
  | pv p =>
    cases p with
    | str l =>
      intro hK hy
      simp only [RA, Rd] at hy
      obtain ⟨ad, len, cap, σ', w', hv, hk, hr', hw⟩ := over_spec' hr 1 x (l.map byteP) (strCells ⟨l.toArray⟩) (by rw [flat_bytes, rdL_bytes]; rfl)
        (by rw [flat_bytes]; intro c hc; rw [List.mem_map] at hc; obtain ⟨b, _, rfl⟩ := hc; rfl) (by intro y hy; rw [List.mem_map] at hy; obtain ⟨b, _, rfl⟩ := hy; rfl) hK
      rw [List.length_map] at hk hw
      refine Out.run (v := .int .i64 (min l.length len : Nat)) (w' := w') ?_ hr' (av := .pv (.int .i64 (min l.length len : Nat))) (by simp only [RA, Rd]) hk
      have hs : (⟨l.toArray⟩ : ByteArray).size = l.length := rfl
      rcases hw with ⟨h0, rfl⟩ | ⟨g, rfl, hw⟩
      · have hm : Nat.min l.length len = 0 := h0
        cases ad with
        | none => simp [execOp, ho, resolve, hc, invoke, builtin, hargs', hat', hy, hv, Builtin.copy_, Builtin.lenOf, Builtin.firstCells, run_underlying hu, sizeOf, typeInfo, hie, hs, goInt, hm, h0]
        | some g =>
          have he : ((⟨l.toArray⟩ : ByteArray).extract 0 0).data.map (fun b => Value.int .u8 b.toNat) = #[] := by
            apply Array.ext'; rw [strCells_take]; simp
          simp [execOp, ho, resolve, hc, invoke, builtin, hargs', hat', hy, hv, Builtin.copy_, Builtin.lenOf, Builtin.firstCells, run_underlying hu, sizeOf, typeInfo, hie, hs, goInt, hm, h0, he, storeCells]
      · have hst := strCells_take l (min l.length len)
        rw [Nat.mul_one] at hw
        have hm : Nat.min l.length len = min l.length len := rfl
        simp [execOp, ho, resolve, hc, invoke, builtin, hargs', hat', hy, hv, Builtin.copy_, Builtin.lenOf, Builtin.firstCells, run_underlying hu, sizeOf, typeInfo, hie, hs, goInt, hm]
        have e2 : List.take (min l.length len) (List.map (fun b : UInt8 => Value.int IntKind.u8 b.toNat) l) = (strCells ⟨l.toArray⟩).take (min l.length len) := by simp [strCells]
        rw [e2, hw]; rfl
    | _ => intro hK; exact hK.elim
  | _ => intro hK; exact hK.elim

theorem out_cpy {K : AV → Sto → Prop} (hr : Rel cx env σ vals a w) (t u e : TypeId) (ie : TypeInfo) (x y : Operand) (c : Call) (ho : o.op = .call c) (hc : c.callee = .builtin .copy) (hargs : c.args.toList = [x, y]) (hat : c.argTypes.toList = [t, u])
    (hu : cx.P.underlying t = some (.slice e)) (hie : cx.P.info? e = some ie)
    (hK : rowK σ (evF env y) fun s ys => match Nat.beq s ie.size with
      | true => overK σ ie.size (evF env x) ys fun n σ => K (.pv (.int .i64 n)) σ
      | false => False) : Out cx env a w o K := by
  have hargs' : c.args = #[x, y] := by rw [← hargs]
  have hat' : c.argTypes = #[t, u] := by rw [← hat]
  obtain ⟨s, ys, ⟨ady, cy, hvy, hley, _, hrow⟩, hK⟩ := rowK_spec hr.s (hr.ev y) hK
  cases hs : Nat.beq s ie.size with
  | false => rw [hs] at hK; exact hK.elim
  | true =>
    rw [hs] at hK
    have := Nat.eq_of_beq_eq_true hs
    subst this
    obtain ⟨news, hnl, hcs, h1, hl, hnews⟩ : ∃ news : List Value, news.length = ys.length * ie.size ∧ RdL (Ok cx σ vals w) w (ys.flatMap PV.cells) news ∧ (∀ c ∈ ys.flatMap PV.cells, c.one = true) ∧ (∀ y ∈ ys, y.cells.length = ie.size) ∧
        (ys.length = 0 ∨ ∃ a, ady = some a ∧ ∀ (j : Nat) (u : Value), news[j]? = some u → w.cell? (a.add j) = some u) := by
      rcases hrow with rfl | ⟨b, o', rfl, hrow⟩
      · exact ⟨[], by simp, by simp [RdL], by simp, by simp, .inl rfl⟩
      · obtain ⟨g1, g2⟩ := (rdRow_iff b _ ys o').1 hrow
        obtain ⟨g3, us, g4, g5⟩ := (rdCs_iff b _ o').1 g2
        exact ⟨us, by rw [g4.length, flat_length _ _ g1], g4, g3, g1, .inr ⟨_, rfl, fun j u hj => by rw [addr_add]; exact g5 j u hj⟩⟩
    obtain ⟨ad, len, cap, σ', w', hv, hk, hr', hw⟩ := over_spec' hr ie.size x ys news hcs h1 hl hK
    have hfc : ∃ arr : Array Value, arr.toList = news.take (min ys.length len * ie.size) ∧ (Builtin.firstCells ie.size (min ys.length len) (.slice ady ys.length cy)).run cx.P w = .ok arr w := by
      rcases hnews with h0 | ⟨g, rfl, hn⟩
      · have h00 : min ys.length len = 0 := by omega
        rw [h00]
        cases ady with
        | none => exact ⟨#[], by simp, by simp [Builtin.firstCells]⟩
        | some g => exact ⟨#[], by simp, by
            have := run_loadCells_list (P := cx.P) w g [] (by simp)
            simp only [List.length_nil] at this
            simp [Builtin.firstCells, this]⟩
      · have := run_loadCells_list (P := cx.P) w g (news.take (min ys.length len * ie.size)) (fun j v hj => by
          rw [List.getElem?_take] at hj
          split at hj
          · exact hn j v hj
          · cases hj)
        have hlen : (news.take (min ys.length len * ie.size)).length = min ys.length len * ie.size := by
          rw [List.length_take, hnl]; exact Nat.min_eq_left (Nat.mul_le_mul_right _ (Nat.min_le_left _ _))
        rw [hlen] at this
        exact ⟨(news.take (min ys.length len * ie.size)).toArray, by simp, by simp [Builtin.firstCells, this]⟩
    obtain ⟨arr, harr, hfc⟩ := hfc
    refine Out.run (v := .int .i64 (min ys.length len : Nat)) (w' := w') ?_ hr' (av := .pv (.int .i64 (min ys.length len : Nat))) (by simp only [RA, Rd]) hk
    have hvy' : a.eval y = .slice ady ys.length cy := hvy
    have hm : Nat.min ys.length len = min ys.length len := rfl
    rcases hw with ⟨h0, rfl⟩ | ⟨g, rfl, hw⟩
    · have ha : arr = #[] := by apply Array.ext'; rw [harr, h0]; simp
      subst ha
      cases ad with
      | none => simp [execOp, ho, resolve, hc, invoke, builtin, hargs', hat', hvy', hv, Builtin.copy_, Builtin.lenOf, run_underlying hu, sizeOf, typeInfo, hie, hm, hfc, goInt]
      | some g => simp [execOp, ho, resolve, hc, invoke, builtin, hargs', hat', hvy', hv, Builtin.copy_, Builtin.lenOf, run_underlying hu, sizeOf, typeInfo, hie, hm, hfc, goInt, storeCells]
    · rw [← harr] at hw
      simp [execOp, ho, resolve, hc, invoke, builtin, hargs', hat', hvy', hv, Builtin.copy_, Builtin.lenOf, run_underlying hu, sizeOf, typeInfo, hie, hm, hfc, goInt, hw]

theorem zeroCells_list (zv : Array Value) (sz n : Nat) (hz : zv.size = sz) : (Builtin.zeroCells zv n).toList = (List.replicate n zv.toList).flatten := by
  apply List.ext_getElem?
  intro j
  by_cases hj : j < n * sz
  · have h0 : 0 < sz := by rcases Nat.eq_zero_or_pos sz with h | h; (subst h; simp at hj); exact h
    have hmod : j % sz < zv.size := by rw [hz]; exact Nat.mod_lt _ h0
    have : ((List.replicate n zv.toList).flatten)[j]? = zv.toList[j % sz]? := by
      have hg : ∀ n j, j < n * zv.toList.length → ((List.replicate n zv.toList).flatten)[j]? = zv.toList[j % zv.toList.length]? := by
        intro n
        induction n with
        | zero => intro j h; simp at h
        | succ n ih =>
          intro j h
          rw [List.replicate_succ, List.flatten_cons]
          by_cases hj : j < zv.toList.length
          · rw [List.getElem?_append_left hj, Nat.mod_eq_of_lt hj]
          · rw [List.getElem?_append_right (by omega), ih _ (by rw [Nat.add_mul, Nat.one_mul] at h; omega), ← Nat.mod_eq_sub_mod (by omega)]
      have := hg n j (by rw [Array.length_toList, hz]; exact hj)
      rw [Array.length_toList, hz] at this
      exact this
    rw [this, Array.getElem?_toList, Array.getElem?_toList]
    simp only [Builtin.zeroCells, hz]
    rw [Array.getElem?_map, Array.getElem?_range, if_pos hj, Option.map_some, getElem!_pos zv (j % sz) hmod, Array.getElem?_eq_getElem hmod]
  · rw [List.getElem?_eq_none (by simp [Builtin.zeroCells, hz]; omega), List.getElem?_eq_none (by simp [hz]; omega)]

theorem out_clr {K : AV → Sto → Prop} (hr : Rel cx env σ vals a w) (t e : TypeId) (ie : TypeInfo) (z : PV) (x : Operand) (c : Call) (ho : o.op = .call c) (hc : c.callee = .builtin .clear) (hargs : c.args.toList = [x]) (hat : c.argTypes[0]? = some t)
    (hu : cx.P.underlying t = some (.slice e)) (hie : cx.P.info? e = some ie) (hz : zPV cx.P e = some z) (hzl : z.cells.length = ie.size)
    (hK : rowK σ (evF env x) fun _ els => overK σ ie.size (evF env x) (List.replicate els.length z) fun _ σ => K .bad σ) : Out cx env a w o K := by
  have hargs' : c.args = #[x] := by rw [← hargs]
  obtain ⟨i, zv, hi, hzv, h1, h2, h3⟩ := zPV_spec hz
  rw [hie] at hi; cases hi
  obtain ⟨s, els, ⟨adx, cx2, hvx, _⟩, hK⟩ := rowK_spec hr.s (hr.ev x) hK
  have hzs : zv.cells.size = ie.size := by rw [← Array.length_toList, (h2 (fun _ => True) w).length, hzl]
  have hflat : (List.replicate els.length z).flatMap PV.cells = (List.replicate els.length z.cells).flatten := by
    rw [List.flatMap_def, List.map_replicate]
  have hrd : RdL (Ok cx σ vals w) w ((List.replicate els.length z).flatMap PV.cells) (List.replicate els.length zv.cells.toList).flatten := by
    rw [hflat]
    generalize els.length = n
    induction n with
    | zero => simp [RdL]
    | succ n ih => rw [List.replicate_succ, List.replicate_succ, List.flatten_cons, List.flatten_cons]; exact (rdL_append _ _ _).2 ⟨_, _, rfl, h2 _ _, ih⟩
  obtain ⟨ad, len, cap, σ', w', hv, hk, hr', hw⟩ := over_spec' hr ie.size x _ _ hrd
    (fun c hc => by rw [List.mem_flatMap] at hc; obtain ⟨y, hy, hc⟩ := hc; rw [List.mem_replicate] at hy; rw [hy.2] at hc; exact h3 c hc)
    (fun y hy => by rw [List.mem_replicate] at hy; rw [hy.2]; exact hzl) hK
  rw [hvx] at hv
  cases hv
  rw [List.length_replicate, Nat.min_self] at hw
  refine Out.run (v := .tuple #[]) (w' := w') ?_ hr' (av := .bad) (by simp only [RA]) hk
  have hzc := zeroCells_list zv.cells ie.size els.length hzs
  have hvx' : a.eval x = .slice adx els.length cx2 := hvx
  rcases hw with ⟨h0, rfl⟩ | ⟨g, rfl, hw⟩
  · rw [h0] at hvx'
    cases adx with
    | none => simp [execOp, ho, resolve, hc, invoke, builtin, hargs', hat, hvx', Builtin.clear_, run_underlying hu]
    | some g => simp [execOp, ho, resolve, hc, invoke, builtin, hargs', hat, hvx', Builtin.clear_, run_underlying hu]
  · rw [List.take_of_length_le (by rw [hrd.length, flat_length ie.size _ (fun y hy => by rw [List.mem_replicate] at hy; rw [hy.2]; exact hzl), List.length_replicate]; exact Nat.le_refl _), ← hzc] at hw
    cases hn : els.length with
    | zero =>
      rw [hn] at hw hvx'
      simp [Builtin.zeroCells, storeCells] at hw
      subst hw
      simp [execOp, ho, resolve, hc, invoke, builtin, hargs', hat, hvx', Builtin.clear_, run_underlying hu]
    | succ m =>
      rw [hn] at hw hvx'
      simp [execOp, ho, resolve, hc, invoke, builtin, hargs', hat, hvx', Builtin.clear_, run_underlying hu, zeroValue, typeInfo, hie, hzv, hw]

/-! ### Arrays that lie as rows -/
theorem arr_base (hr : RelS cx σ vals w) {id : Nat} {e : TypeId} {sz : Nat} {ap : Bool} {els : List PV} (hb : σ[id]? = some (.row e sz ap els)) {v : Value} (hv : RA (Ok cx σ vals w) σ vals w (.ref id 0 0) v) (hn : 0 < els.length) :
    ∃ g c, v = .pointer (some ⟨g, 0, none⟩) ∧ vals[id]? = some (.slice (some ⟨g, 0, none⟩) els.length c) ∧ els.length ≤ c ∧ c ≤ maxLen := by
  simp only [RA] at hv
  obtain ⟨_, _, hrow, _⟩ := hv
  obtain ⟨u, g, hu, hg, rfl⟩ := hrow _ _ _ _ hb
  obtain ⟨_, cells, ⟨_, hown⟩, _⟩ := hr.sto id _ _ hb hu
  rcases hown with ⟨_, h0⟩ | ⟨g', cap, cur, fr, hv2, _, _, h4, h5, _⟩
  · omega
  · subst hv2
    cases hg
    exact ⟨_, cap, by simp, hu, h4, h5⟩

theorem out_idxAr {K : AV → Sto → Prop} (hr : Rel cx env σ vals a w) (t : TypeId) (q : PV × Nat) (x ix : Operand) (ho : o.op = .indexAddr t x ix) (hq : arrInfo cx.P t = some q)
    (hK : Dv.asInt (evF env ix) fun _ n => idxArK σ q.2 1 (evF env x) n fun a => K a σ) : Out cx env a w o K := by
  obtain ⟨el, i, it, vs, hu, hi, hsz, hit, hz, hrep, h8, hmx⟩ := arrInfo_some hq
  have hx := hr.ev x
  have hix := hr.ev ix
  cases hevi : evF env ix with
  | pv pi =>
    rw [hevi] at hK hix
    cases pi with
    | int k n =>
      simp only [RA, Rd] at hix
      replace hK : idxArK σ q.2 1 (evF env x) n fun a => K a σ := hK
      cases hev : evF env x with
      | ref id idx off =>
        rw [hev] at hK hx
        cases idx with
        | succ idx => exact (show False from hK).elim
        | zero =>
          cases off with
          | succ off => exact (show False from hK).elim
          | zero =>
            obtain ⟨b, hb, hk⟩ := nthK_iff σ id _ (show nthK σ id _ from hK)
            cases b with
            | row e s ap els =>
              replace hk : (match Nat.beq s 1 with
                | true => (els.length = q.2 ∧ 0 ≤ n ∧ n.toNat < q.2) ∧ K (.ref id n.toNat 0) σ
                | false => False) := hk
              cases hs : Nat.beq s 1 with
              | false => rw [hs] at hk; exact hk.elim
              | true =>
                rw [hs] at hk
                have := Nat.eq_of_beq_eq_true hs
                subst this
                obtain ⟨⟨hl, h0, hlt⟩, hk⟩ := hk
                obtain ⟨g, c, hv, hval, _, _⟩ := arr_base hr.s hb hx (by omega)
                refine Out.run (v := .pointer (some ⟨g, n.toNat, none⟩)) ?_ hr (av := .ref id n.toNat 0) ?_ hk
                · have hlt2 : n < (q.2 : Int) := by omega
                  simp [execOp, ho, hv, hix, Instr.indexAt, Instr.sureAddr, asIntOf, run_underlying hu, h0, hlt2, sizeOf, typeInfo, hi, hsz, addr_add]
                · simp only [RA]
                  refine ⟨(List.getElem?_eq_some_iff.1 hb).1, ⟨_, rfl⟩, fun e2 sz2 ap2 els2 h => ?_, fun s2 h hb2 => ?_⟩
                  · rw [hb] at h; cases h
                    exact ⟨_, g, hval, rfl, by simp⟩
                  · rw [hb] at h; cases h; cases hb2
            | _ => exact hk.elim
      | _ => rw [hev] at hK; exact (show False from hK).elim
    | _ => exact (show False from hK).elim
  | _ => rw [hevi] at hK; exact (show False from hK).elim

theorem out_slcA {K : AV → Sto → Prop} (hr : Rel cx env σ vals a w) (t : TypeId) (q : PV × Nat) (x : Operand) (lo hi : Option Operand) (ho : o.op = .slice t x lo hi none) (hq : arrInfo cx.P t = some q)
    (hK : slcAK σ q.2 1 (evF env x) (lo.map (evF env)) (hi.map (evF env)) K) : Out cx env a w o K := by
  obtain ⟨el, i, it, vs, hu, hi', hsz, hit, hz, hrep, h8, hmx⟩ := arrInfo_some hq
  have hx := hr.ev x
  cases hev : evF env x with
  | ref id idx off =>
    rw [hev] at hK hx
    cases idx with
    | succ idx => exact (show False from hK).elim
    | zero =>
      cases off with
      | succ off => exact (show False from hK).elim
      | zero =>
        obtain ⟨b, hb, hk⟩ := nthK_iff σ id _ (show nthK σ id _ from hK)
        cases b with
        | row e s ap els =>
          replace hk : (match Nat.beq s 1 with
            | true => els.length = q.2 ∧ boundsK q.2 (lo.map (evF env)) (hi.map (evF env)) fun l h => K (.sub id 1 l (h - l)) σ
            | false => False) := hk
          cases hs : Nat.beq s 1 with
          | false => rw [hs] at hk; exact hk.elim
          | true =>
            rw [hs] at hk
            have := Nat.eq_of_beq_eq_true hs
            subst this
            obtain ⟨hl, hk⟩ := hk
            obtain ⟨g, c, hv, hval, hc1, hc2⟩ := arr_base hr.s hb hx (by omega)
            obtain ⟨l, u, h1, h2, h3, h4⟩ := bounds_of hr lo hi false q.2 q.2 (Nat.le_refl _) _ hk
            refine Out.run (v := .slice (some (if q.2 = l then ⟨g, 0, none⟩ else (⟨g, 0, none⟩ : Addr).add (l * 1))) (u - l) (q.2 - l)) ?_ hr (av := .sub id 1 l (u - l)) ?_ h3
            · simp [execOp, ho, hv, Instr.sliceAt, Instr.sureAddr, run_underlying hu, h4, sizeOf, typeInfo, hi', hsz]
            · simp only [RA]
              refine ⟨(List.getElem?_eq_some_iff.1 hb).1, _, _, rfl, by omega, by simp only [maxLen]; omega, ?_⟩
              by_cases hlu : u - l = 0
              · exact .inl hlu
              · refine .inr ⟨g, _, c, hval, ?_⟩
                rw [if_neg (by omega), addr_add]; simp
        | _ => exact hk.elim
  | _ => rw [hev] at hK; exact (show False from hK).elim

/-- The address of an element of a small array, by a number that is written there. -/
theorem run_idxC (P : Program) (t : TypeId) (x i : Operand) (q : Nat × Bool × Nat) (ho : o.op = .indexAddr t x i) (hq : arrPlace P t i = some q) (b n : Nat) (hv : a.eval x = .pointer (some ⟨b, n, none⟩)) :
    (execOp a.eval o).run P w = .ok (.value (.pointer (some ⟨b, n + q.1, none⟩))) w := by
  unfold arrPlace at hq
  split at hq
  · rename_i m e hu
    split at hq
    · rename_i v
      split at hq
      · rename_i kd k
        obtain ⟨s, hs, hq⟩ := opt_some' hq
        unfold need at hq
        split at hq
        · rename_i hb
          cases hq
          simp only [Bool.and_eq_true, decide_eq_true_eq] at hb
          obtain ⟨j, hj, hjs⟩ := (shape_of hs).info
          have hev : a.eval (.const (.int kd k)) = .int kd k := rfl
          have hlt : k < (m : Int) := by omega
          simp [execOp, ho, hv, hev, Instr.indexAt, Instr.sureAddr, asIntOf, run_underlying hu, hb.1.1, hlt, sizeOf, typeInfo, hj, hjs, addr_add]
        · cases hq
      · cases hq
    · cases hq
  · cases hq
end
end Go.Dv
end
section
/-
  Slices held against nil; elements of small arrays at any place; arrays that are built.
-/
set_option linter.unusedSimpArgs false
namespace Go.Dv
open Go.RowKit
section
variable {cx : Cx} {env : Env} {σ : Sto} {vals : List Value} {a : Act} {w w' : World} {o : Oper}

theorem run_equalNil {P : Program} (w : World) (d : Nat) (t e : TypeId) (ad : Option Addr) (n c : Nat) (ht : P.underlying t = some (.slice e)) : (Op.equalIn (d + 1) t (.slice ad n c) (.slice none 0 0)).run P w = .ok ad.isNone w := by
  cases ad <;> simp [Op.equalIn, run_underlying ht]
theorem run_nilEq {P : Program} (w : World) (neg : Bool) (t u : TypeId) (x y : Operand) (e : TypeId) (ad : Option Addr) (n c : Nat) (ht : P.underlying t = some (.slice e)) (ρ : Operand → Value) (hx : ρ x = .slice ad n c) (hy : ρ y = .slice none 0 0) (ho : o.op = .binOp (if neg then .neq else .eql) t x y u) :
    (execOp ρ o).run P w = .ok (.value (.bool (xor ad.isNone neg))) w := by
  have he : (Op.equalIn 10000 t (.slice ad n c) (.slice none 0 0)).run P w = .ok ad.isNone w := run_equalNil w 9999 t e ad n c ht
  cases neg with
  | false => cases ad <;> simp [execOp, ho, hx, hy, eqGuard, binOp, Op.equal, he, Op.maxDepth, Sem.run_bind, Sem.run_pure]
  | true => cases ad <;> simp [execOp, ho, hx, hy, eqGuard, binOp, Op.equal, he, Op.maxDepth, Sem.run_bind, Sem.run_pure]

theorem out_isnil {K : AV → Sto → Prop} (hr : Rel cx env σ vals a w) (neg : Bool) (t u e : TypeId) (x y : Operand) (ho : o.op = .binOp (if neg then .neq else .eql) t x y u) (ht : cx.P.underlying t = some (.slice e)) (hy : isNilS y = true)
    (hK : nilK σ (evF env x) fun r => K (.pv (.bool (xor r neg))) σ) : Out cx env a w o K := by
  have hyv : a.eval y = .slice none 0 0 := by
    unfold isNilS at hy
    split at hy
    · rfl
    · cases hy
  have hx := hr.ev x
  have fin : ∀ (ad : Option Addr) (n c : Nat) (r : Bool), a.eval x = .slice ad n c → r = ad.isNone → K (.pv (.bool (xor r neg))) σ → Out cx env a w o K := by
    intro ad n c r hv hr' hk
    subst hr'
    exact Out.run (v := .bool (xor ad.isNone neg)) (run_nilEq w neg t u x y e ad n c ht a.eval hv hyv ho) hr (av := .pv (.bool (xor ad.isNone neg))) (by simp only [RA, Rd]) hk
  have sl : ∀ (els : List PV) (sz : Nat), Rd (Ok cx σ vals w) w (.sl sz els) (a.eval x) → (∀ r : Bool, (els ≠ [] → r = false) → K (.pv (.bool (xor r neg))) σ) → Out cx env a w o K := by
    intro els sz h hk
    simp only [Rd] at h
    obtain ⟨ad, c, hv, _, _, h4⟩ := h
    refine fin ad _ c _ hv rfl (hk _ fun hne => ?_)
    rcases h4 with h4 | ⟨b, of, rfl, _⟩
    · exact absurd h4 hne
    · rfl
  revert hK hx
  cases evF env x with
  | pv px =>
    intro hK hx
    simp only [RA] at hx
    cases px with
    | nil sz => simp only [Rd] at hx; exact fin none 0 0 true hx rfl hK
    | sl sz els => exact sl els sz hx hK
    | _ => exact hK.elim
  | own id =>
    intro hK hx
    simp only [RA] at hx
    obtain ⟨b, hb, hK⟩ := nthK_iff σ id _ hK
    cases b with
    | row e2 sz ap els =>
      obtain ⟨_, cells, ⟨hl, ho'⟩, _⟩ := hr.s.sto id _ _ hb hx
      rcases ho' with ⟨hv, h0⟩ | ⟨g, cap, cur, fr, hv, _⟩
      · refine fin none 0 0 true hv rfl (hK _ fun hne => ?_)
        exact absurd (List.eq_nil_of_length_eq_zero h0) hne
      · exact fin _ _ _ false hv rfl (hK _ fun _ => rfl)
    | fz z =>
      cases z with
      | sl sz els => exact sl els sz (hr.s.sto id _ _ hb hx) hK
      | _ => exact hK.elim
    | _ => exact hK.elim
  | _ => intro hK; exact hK.elim

/-- An element of a small array, at any place. -/
theorem out_idxW {K : AV → Sto → Prop} (hr : Rel cx env σ vals a w) (t e : TypeId) (x i : Operand) (m sz : Nat) (ag : Bool) (n : Nat) (ho : o.op = .index t x i) (hu : cx.P.underlying t = some (.array m e)) (hs : Shape cx.P e ag sz) (hn : n = if ag then sz else 1)
    (hK : Dv.asInt (evF env i) fun _ k => (0 ≤ k ∧ k.toNat < m) ∧ match evF env x with
      | .pv x => match x with
        | .agg cs => partK (Nat.mul k.toNat sz) ag n cs fun r => K (.pv r) σ
        | _ => False
      | .agg cs => dropK (Nat.mul k.toNat sz) cs fun r => takeK n r fun t => ofAVs ag t fun a => K a σ
      | _ => False) : Out cx env a w o K := by
  have hi := hr.ev i
  revert hK hi
  cases evF env i with
  | pv pi =>
    cases pi with
    | int kd k =>
      intro hK hi
      simp only [RA, Rd] at hi
      obtain ⟨hk, hK⟩ := hK
      obtain ⟨j, hj, hjs⟩ := hs.info
      refine out_fldG hr x e (k.toNat * sz) ag n (fun arr v hv hp => ?_) ⟨_, hs, hn⟩ hK
      have hlt : k < (m : Int) := by omega
      simp [execOp, ho, hv, hi, Instr.index, asIntOf, run_underlying hu, hk.1, hlt, sizeOf, typeInfo, hj, hjs, hp]
    | _ => intro hK; exact hK.elim
  | _ => intro hK; exact hK.elim

theorem out_fldW {K : AV → Sto → Prop} (hr : Rel cx env σ vals a w) (t e : TypeId) (x i : Operand) (m sz : Nat) (ag : Bool) (ho : o.op = .indexAddr t x i) (hu : cx.P.underlying t = some (.array m e)) (hs : Shape cx.P e ag sz)
    (hK : Dv.asInt (evF env i) fun _ k => (0 ≤ k ∧ k.toNat < m) ∧ fldAK σ (Nat.mul k.toNat sz) (evF env x) fun a => K a σ) : Out cx env a w o K := by
  have hi := hr.ev i
  revert hK hi
  cases evF env i with
  | pv pi =>
    cases pi with
    | int kd k =>
      intro hK hi
      simp only [RA, Rd] at hi
      obtain ⟨hk, hK⟩ := hK
      obtain ⟨j, hj, hjs⟩ := hs.info
      refine out_fldA hr x (k.toNat * sz) (fun b n hv => ?_) hK
      have hlt : k < (m : Int) := by omega
      simp [execOp, ho, hv, hi, Instr.indexAt, Instr.sureAddr, asIntOf, run_underlying hu, hk.1, hlt, sizeOf, typeInfo, hj, hjs, addr_add]
    | _ => intro hK; exact hK.elim
  | _ => intro hK; exact hK.elim

theorem out_buildA {K : AV → Sto → Prop} (hr : Rel cx env σ vals a w) (t e : TypeId) (m sz : Nat) (ag : Bool) (parts : Array (Nat × Operand)) (cs : List PV) (ho : o.op = .build t parts) (hu : cx.P.underlying t = some (.array m e)) (hz : zPV cx.P t = some (.agg cs)) (hs : Shape cx.P e ag sz)
    (hK : evParts env (parts.toList.map fun p => (p.1 * sz, sz, p.2)) fun ps => pvsK cs fun z => buildK z ps fun cs => aggK cs fun a => K a σ) : Out cx env a w o K := by
  obtain ⟨i, zv, hi, hzv, h1, h2, h3⟩ := zPV_spec hz
  have hK := pvsK_spec _ _ (evParts_spec env _ _ hK)
  obtain ⟨j, hj, hjs⟩ := hs.info
  obtain ⟨z', arr, g1, g2, g3, g4⟩ := fill_ra hr (fun x => some (x * sz, sz)) parts.toList (parts.toList.map fun p => (p.1 * sz, sz, p.2)) (cs.map .pv) zv.cells _ (by simp) ((raL_map_pv _ _).2 (h2 _ _)) (fun c hc => by simp at hc; obtain ⟨x, hx, rfl⟩ := hc; exact h3 x hx) hK
  have hbuilt : cx.P.built t (parts.map fun p => (p.1, a.eval p.2)).toList = some arr := by
    simp only [Program.built, hi, hu, hzv, hj, Array.toList_map, hjs]
    rw [← g2]
  have hrun : (execOp a.eval o).run cx.P w = .ok (.value (.agg arr)) w := by
    have := run_build (P := cx.P) w t (parts.map fun p => (p.1, a.eval p.2)) arr hbuilt
    simp only [execOp, ho, Sem.run_bind, this, Result.andThen_ok, Sem.run_pure]
  rcases aggK_spec z' _ g1 with ⟨l, rfl, hk⟩ | hk
  · refine Out.run hrun hr (av := .pv (.agg l)) ?_ hk
    simp only [RA, Rd]
    exact ⟨fun c hc => g4 (.pv c) (by simpa using hc), arr, rfl, (raL_map_pv _ _).1 g3⟩
  · refine Out.run hrun hr (av := .agg z') ?_ hk
    simp only [RA]
    exact ⟨g4, arr, rfl, g3⟩
end
end Go.Dv
end
section
/-
  Calls of functions that write what they are handed.
-/
set_option linter.unusedSimpArgs false
namespace Go.Dv
open Go.RowKit
section
variable {cx : Cx} {env : Env} {σ : Sto} {vals : List Value} {a : Act} {w w' : World} {o : Oper}

/-- Where the entries of a part of the store go back to. -/
def rhoL : Sto → List Nat → Nat → List Nat
  | [], _, _ => []
  | _ :: σ, a :: r, L => a :: rhoL σ r L
  | _ :: σ, [], L => L :: rhoL σ [] (L + 1)

theorem rhoK_spec (σ : Sto) : ∀ (r : List Nat) (L : Nat) (K : List Nat → Prop), rhoK σ r L K → K (rhoL σ r L) := by
  induction σ with
  | nil => intro r L K h; exact h
  | cons s σ ih =>
    intro r L K h
    cases r with
    | nil => exact ih [] (L + 1) _ h
    | cons a r => exact ih r L _ h

theorem rhoL_len (σ : Sto) : ∀ (r : List Nat) (L : Nat), (rhoL σ r L).length = σ.length := by
  induction σ with
  | nil => intro r L; rfl
  | cons s σ ih => intro r L; cases r <;> simp [rhoL, ih]

theorem rhoL_lo (σ : Sto) : ∀ (r : List Nat) (L j : Nat), j < r.length → j < σ.length → (rhoL σ r L)[j]? = r[j]? := by
  induction σ with
  | nil => intro r L j _ h; simp at h
  | cons s σ ih =>
    intro r L j h1 h2
    cases r with
    | nil => simp at h1
    | cons a r =>
      cases j with
      | zero => rfl
      | succ j => simpa [rhoL] using ih r L j (by simpa using h1) (by simpa using h2)

theorem rhoL_hi (σ : Sto) : ∀ (r : List Nat) (L j : Nat), r.length ≤ j → j < σ.length → (rhoL σ r L)[j]? = some (L + (j - r.length)) := by
  induction σ with
  | nil => intro r L j _ h; simp at h
  | cons s σ ih =>
    intro r L j h1 h2
    cases r with
    | nil =>
      cases j with
      | zero => rfl
      | succ j =>
        have := ih [] (L + 1) j (by simp) (by simpa using h2)
        simp only [rhoL, List.getElem?_cons_succ, this, List.length_nil]
        congr 1; omega
    | cons a r =>
      cases j with
      | zero => simp at h1
      | succ j =>
        have := ih r L j (by simpa using h1) (by simpa using h2)
        simp only [rhoL, List.getElem?_cons_succ, this, List.length_cons]
        congr 1; omega

theorem unAV_spec (ρ : List Nat) : ∀ (x : AV) (K : AV → Prop), unAV ρ x K → ∃ y, K y ∧ Ren ρ y x := by
  intro x
  refine AV.rec (motive_1 := fun x => ∀ K : AV → Prop, unAV ρ x K → ∃ y, K y ∧ Ren ρ y x)
    (motive_2 := fun xs => ∀ K : List AV → Prop, (AV.rec_1 (motive_1 := fun _ => (AV → Prop) → Prop) (motive_2 := fun _ => (List AV → Prop) → Prop)
      (fun K => K .bad) (fun x K => K (.pv x)) (fun id K => nthK ρ id fun j => K (.own j)) (fun id i o K => nthK ρ id fun j => K (.ref j i o)) (fun id s l n K => nthK ρ id fun j => K (.sub j s l n))
      (fun _ ih K => ih fun l => K (.agg l)) (fun _ ih K => ih fun l => K (.tup l)) (fun f _ ih K => ih fun l => K (.clo f l)) (fun K => K []) (fun _ _ h t K => h fun a => t fun l => K (a :: l)) xs : (List AV → Prop) → Prop) K → ∃ ys, K ys ∧ RenL ρ ys xs)
    ?_ ?_ ?_ ?_ ?_ ?_ ?_ ?_ ?_ ?_ x
  · intro K h; exact ⟨_, h, by simp only [Ren]⟩
  · intro x K h; exact ⟨_, h, by simp only [Ren]⟩
  · intro id K h
    obtain ⟨j, h1, h2⟩ := nthK_iff _ _ _ h
    exact ⟨_, h2, by simp only [Ren]; exact ⟨id, h1, rfl⟩⟩
  · intro id i o K h
    obtain ⟨j, h1, h2⟩ := nthK_iff _ _ _ h
    exact ⟨_, h2, by simp only [Ren]; exact ⟨id, h1, rfl⟩⟩
  · intro id s l n K h
    obtain ⟨j, h1, h2⟩ := nthK_iff _ _ _ h
    exact ⟨_, h2, by simp only [Ren]; exact ⟨id, h1, rfl⟩⟩
  · intro cs ih K h
    obtain ⟨bs, h1, h2⟩ := ih _ h
    exact ⟨_, h1, by simp only [Ren]; exact ⟨cs, rfl, h2⟩⟩
  · intro cs ih K h
    obtain ⟨bs, h1, h2⟩ := ih _ h
    exact ⟨_, h1, by simp only [Ren]; exact ⟨cs, rfl, h2⟩⟩
  · intro f cs ih K h
    obtain ⟨bs, h1, h2⟩ := ih _ h
    exact ⟨_, h1, by simp only [Ren]; exact ⟨cs, rfl, h2⟩⟩
  · intro K h; exact ⟨[], h, by simp only [RenL]⟩
  · intro x xs h1 h2 K h
    obtain ⟨b, h3, h4⟩ := h1 _ h
    obtain ⟨bs, h5, h6⟩ := h2 _ h3
    exact ⟨_, h5, by simp only [RenL]; exact ⟨x, xs, rfl, h4, h6⟩⟩

theorem unAVs_spec (ρ : List Nat) (xs : List AV) : ∀ (K : List AV → Prop), unAVs ρ xs K → ∃ ys, K ys ∧ RenL ρ ys xs := by
  induction xs with
  | nil => intro K h; exact ⟨[], h, by simp only [RenL]⟩
  | cons x xs ih =>
    intro K h
    obtain ⟨b, h3, h4⟩ := unAV_spec ρ x _ h
    obtain ⟨bs, h5, h6⟩ := ih _ h3
    exact ⟨_, h5, by simp only [RenL]; exact ⟨x, xs, rfl, h4, h6⟩⟩

theorem unBlk_spec (ρ : List Nat) (s : Blk) (K : Blk → Prop) (h : unBlk ρ s K) : ∃ t, K t ∧ RenB ρ t s := by
  cases s with
  | box e cs =>
    obtain ⟨ds, h1, h2⟩ := unAVs_spec ρ cs _ h
    exact ⟨_, h1, cs, rfl, h2⟩
  | _ => exact ⟨_, h, rfl⟩

theorem backS_spec (ρ : List Nat) (σ1 : Sto) : ∀ (r : List Nat) (σ : Sto) (K : Sto → Prop), backS ρ σ1 r σ K → r.Nodup → (∀ i ∈ r, i < σ.length) → r.length ≤ σ1.length →
    ∃ σ2, K σ2 ∧ σ2.length = σ.length + (σ1.length - r.length) ∧ (∀ (j : Nat) (s : Blk), σ1[j]? = some s → ∃ i t, (rhoL σ1 r σ.length)[j]? = some i ∧ σ2[i]? = some t ∧ RenB ρ t s) ∧ ∀ i, i < σ.length → i ∉ r → σ2[i]? = σ[i]? := by
  induction σ1 with
  | nil =>
    intro r σ K h _ _ hl
    have : r = [] := List.eq_nil_of_length_eq_zero (by simpa using hl)
    subst this
    exact ⟨σ, h, by simp, fun j s hj => by simp at hj, fun i _ _ => rfl⟩
  | cons b σ1 ih =>
    intro r σ K h hn hlt hl
    cases r with
    | nil =>
      obtain ⟨t, h, ht⟩ := unBlk_spec ρ b (fun b => snocK σ b fun σ => backS ρ σ1 [] σ K) h
      have h := snocK_spec _ _ _ h
      obtain ⟨σ2, h1, h2, h3, h4⟩ := ih [] _ K h (by simp) (by simp) (by simp)
      simp only [List.length_append, List.length_cons, List.length_nil, Nat.sub_zero, Nat.zero_add] at h2 h3 h4
      refine ⟨σ2, h1, by simp only [List.length_cons, List.length_nil, Nat.sub_zero]; omega, fun j s hj => ?_, fun i hi hir => ?_⟩
      · cases j with
        | zero =>
          simp at hj; subst hj
          exact ⟨σ.length, t, rfl, by rw [h4 _ (by omega) (by simp), push_get, if_pos rfl], ht⟩
        | succ j => exact h3 j s (by simpa using hj)
      · rw [h4 i (by omega) (by simp), push_get, if_neg (by omega)]
    | cons x r =>
      obtain ⟨t, h, ht⟩ := unBlk_spec ρ b (fun b => setK σ x b fun σ => backS ρ σ1 r σ K) h
      obtain ⟨hx, h⟩ := setK_spec _ _ _ _ h
      rw [List.nodup_cons] at hn
      obtain ⟨σ2, h1, h2, h3, h4⟩ := ih r _ K h hn.2 (fun i hi => by rw [List.length_set]; exact hlt i (by simp [hi])) (by simpa using hl)
      rw [List.length_set] at h2 h3 h4
      refine ⟨σ2, h1, by simp only [List.length_cons]; omega, fun j s hj => ?_, fun i hi hir => ?_⟩
      · cases j with
        | zero =>
          simp at hj; subst hj
          exact ⟨x, t, rfl, by rw [h4 x hx hn.1, set_get hx, if_pos rfl], ht⟩
        | succ j => exact h3 j s (by simpa using hj)
      · rw [h4 i hi (fun h => hir (by simp [h])), set_get hx, if_neg (fun e => hir (by simp [e]))]

/-- A part of the store in its setting: read back into the whole. -/
structure Back (ρ : List Nat) (σ1 σ2 : Sto) (vals1 vals2 : List Value) : Prop where
  sto : ∀ (j : Nat) (s : Blk), σ1[j]? = some s → ∃ i t, ρ[j]? = some i ∧ σ2[i]? = some t ∧ RenB ρ t s
  vals : ∀ (j i : Nat), ρ[j]? = some i → vals2[i]? = vals1[j]?

theorem RenB.eqv {ρ : List Nat} {t s : Blk} (h : RenB ρ t s) : (∀ e sz ap els, t = .row e sz ap els → s = .row e sz ap els) ∧ ∀ e cs, t = .box e cs → ∃ ds, s = .box e ds ∧ RenL ρ cs ds := by
  cases t with
  | box e cs =>
    obtain ⟨ds, rfl, hd⟩ := h
    exact ⟨(fun _ _ _ _ h => by cases h), (fun e' cs' h => by cases h; exact ⟨ds, rfl, hd⟩)⟩
  | row e sz ap els => exact ⟨(fun _ _ _ _ e => by rw [← e]; exact h), (fun _ _ h => by cases h)⟩
  | dead => exact ⟨(fun _ _ _ _ h => by cases h), fun _ _ h => by cases h⟩
  | fz x => exact ⟨(fun _ _ _ _ h => by cases h), fun _ _ h => by cases h⟩

mutual
theorem Ren.back {ρ : List Nat} {σ1 σ2 : Sto} {vals1 vals2 : List Value} (hB : Back ρ σ1 σ2 vals1 vals2) {ok ok' : Nat → Prop} (hok : ∀ b, ok b → ok' b) : ∀ (y x : AV) (v : Value), Ren ρ y x → RA ok σ1 vals1 w x v → RA ok' σ2 vals2 w y v
  | .bad, x, v, h, _ => by simp only [RA]
  | .pv y, x, v, h, hv => by
    simp only [Ren] at h; subst h; simp only [RA] at hv ⊢
    exact Rd.mono hok (fun _ _ _ => rfl) y v hv
  | .own i, x, v, h, hv => by
    simp only [Ren] at h; obtain ⟨j, hj, rfl⟩ := h
    simp only [RA] at hv ⊢
    rw [hB.vals j i hj]; exact hv
  | .ref i k o, x, v, h, hv => by
    simp only [Ren] at h; obtain ⟨j, hj, rfl⟩ := h
    simp only [RA] at hv ⊢
    obtain ⟨h0, hp, h1, h2⟩ := hv
    obtain ⟨i', t, hi', ht, hst⟩ := hB.sto j _ (List.getElem?_eq_getElem h0)
    rw [hj] at hi'; cases hi'
    refine ⟨(List.getElem?_eq_some_iff.1 ht).1, hp, fun e sz ap els he => ?_, fun s2 he hb2 => ?_⟩
    · rw [ht] at he; cases he
      obtain ⟨u, b, h3, h4⟩ := h1 e sz ap els (by rw [List.getElem?_eq_getElem h0, hst.eqv.1 _ _ _ _ rfl])
      exact ⟨u, b, by rw [hB.vals j i hj]; exact h3, h4⟩
    · rw [ht] at he; cases he
      obtain ⟨u, b, h3, h4⟩ := h2 _ (List.getElem?_eq_getElem h0) (by rw [hst.boxy]; exact hb2)
      exact ⟨u, b, by rw [hB.vals j i hj]; exact h3, h4⟩
  | .sub i s l n, x, v, h, hv => by
    simp only [Ren] at h; obtain ⟨j, hj, rfl⟩ := h
    simp only [RA] at hv ⊢
    obtain ⟨h0, hv⟩ := hv
    obtain ⟨i', t, hi', ht, hst⟩ := hB.sto j _ (List.getElem?_eq_getElem h0)
    rw [hj] at hi'; cases hi'
    refine ⟨(List.getElem?_eq_some_iff.1 ht).1, ?_⟩
    rw [hB.vals j i hj]; exact hv
  | .agg cs, x, v, h, hv => by
    simp only [Ren] at h; obtain ⟨ds, rfl, h⟩ := h
    simp only [RA] at hv ⊢
    obtain ⟨h1, vs, rfl, h2⟩ := hv
    exact ⟨h.onesB h1, vs, rfl, RenL.back hB hok cs ds _ h h2⟩
  | .tup cs, x, v, h, hv => by
    simp only [Ren] at h; obtain ⟨ds, rfl, h⟩ := h
    simp only [RA] at hv ⊢
    obtain ⟨vs, rfl, h2⟩ := hv
    exact ⟨vs, rfl, RenL.back hB hok cs ds _ h h2⟩
  | .clo f cs, x, v, h, hv => by
    simp only [Ren] at h; obtain ⟨ds, rfl, h⟩ := h
    simp only [RA] at hv ⊢
    obtain ⟨vs, rfl, h2⟩ := hv
    exact ⟨vs, rfl, RenL.back hB hok cs ds _ h h2⟩
theorem RenL.back {ρ : List Nat} {σ1 σ2 : Sto} {vals1 vals2 : List Value} (hB : Back ρ σ1 σ2 vals1 vals2) {ok ok' : Nat → Prop} (hok : ∀ b, ok b → ok' b) : ∀ (ys xs : List AV) (vs : List Value), RenL ρ ys xs → RAL ok σ1 vals1 w xs vs → RAL ok' σ2 vals2 w ys vs
  | [], xs, vs, h, hv => by simp only [RenL] at h; subst h; simpa only [RAL] using hv
  | y :: ys, xs, vs, h, hv => by
    simp only [RenL] at h
    obtain ⟨x, t, rfl, h1, h2⟩ := h
    simp only [RAL] at hv ⊢
    obtain ⟨v, u, rfl, h3, h4⟩ := hv
    exact ⟨v, u, rfl, Ren.back hB hok y x v h1 h3, RenL.back hB hok ys t u h2 h4⟩
end

theorem nth_mem {α : Type} {l : List α} {i : Nat} {x : α} (h : l[i]? = some x) : x ∈ l := List.mem_of_getElem? h

theorem out_callM {K : AV → Sto → Prop} {Γ : Ctx} (hΓ : Sound cx.P Γ) (hr : Rel cx env σ vals a w) (f : FuncId) (as : List AV) (vs : Array Value) (hrun0 : (execOp a.eval o).run cx.P w = (callFunc f vs).run cx.P w) (hral : RAL (Ok cx σ vals w) σ vals w as vs.toList) (hmu : (Γ f).mu = true)
    (hK : mcallK (Γ f).mrun as σ K) : Out cx env a w o K := by
  intro next Q hnext
  obtain ⟨l, hK, hln, _⟩ := idsAVs_spec as [] _ (by simp) hK
  obtain ⟨r, hK, hrn, _⟩ := idsBox_spec σ l l _ hln hK
  obtain ⟨as', hK, has⟩ := renAVs_spec r as _ hK
  obtain ⟨σ0, hK, hσ0l, hσ0⟩ := renSto_spec σ r r _ hK
  obtain ⟨vals0, hA⟩ : ∃ vals0, Anew r σ σ0 vals vals0 := by
    refine ⟨r.map fun i => (vals[i]?).getD undef, hrn, hσ0l, hσ0, by simp, fun j i hj => ?_⟩
    obtain ⟨s, t, hs, _⟩ := hσ0 j i hj
    have : i < vals.length := by rw [hr.s.len]; exact (List.getElem?_eq_some_iff.1 hs).1
    rw [List.getElem?_map, hj]
    simp only [Option.map_some]
    rw [List.getElem?_eq_getElem this]
    exact ⟨rfl, _, rfl⟩
  have back : ∀ {j : Nat} {t : Blk}, σ0[j]? = some t → ∃ i s, r[j]? = some i ∧ σ[i]? = some s ∧ RenB r s t := by
    intro j t ht
    have hj : j < r.length := by rw [← hσ0l]; exact (List.getElem?_eq_some_iff.1 ht).1
    obtain ⟨s, t', hs, ht', hst⟩ := hσ0 j _ (List.getElem?_eq_getElem hj)
    rw [ht] at ht'; cases ht'
    exact ⟨_, s, List.getElem?_eq_getElem hj, hs, hst⟩
  -- the entries of the part are live where those of the whole are
  have hm0 : ∀ b, Mut σ0 vals0 b → ∃ (i : Nat) (s : Blk) (v : Value), i ∈ r ∧ σ[i]? = some s ∧ s.live = true ∧ vals[i]? = some v ∧ blkOf v = some b := by
    rintro b ⟨j, t, v, ht, hl, hv, hb⟩
    obtain ⟨i, s, hj, hs, hst⟩ := back ht
    exact ⟨i, s, v, nth_mem hj, hs, hst.live ▸ hl, by rw [← (hA.vals j i hj).1]; exact hv, hb⟩
  have hm0' : ∀ b, Mut σ0 vals0 b → Mut σ vals b := fun b h => by
    obtain ⟨i, s, v, _, h1, h2, h3, h4⟩ := hm0 b h
    exact ⟨i, s, v, h1, h2, h3, h4⟩
  have hok0 : ∀ b, Ok cx σ vals w b → b < w.heap.size := fun b h => h.2.1
  have hokm : ∀ b, Ok cx σ vals w b → Ok (mcx cx.P w (Ok cx σ vals w) hok0 σ0 vals0) σ0 vals0 w b := fun b h => ⟨.inl h, h.2.1, fun hm => h.2.2 (hm0' b hm)⟩
  have hrel0 : RelS (mcx cx.P w (Ok cx σ vals w) hok0 σ0 vals0) σ0 vals0 w := by
    refine ⟨Since.refl _ _, fun v hv => ?_, by rw [hA.vlen, hσ0l], fun j t v ht hv => ?_, fun j k t1 t2 u v b hjk ht1 ht2 l1 l2 hu hv hbu hbv => ?_, ⟨Nat.le_refl _, fun b hb => hb.elim, fun _ _ hb => hb⟩, ⟨fun i v h => h, Nat.le_refl _, fun i _ e sz ap els h => ⟨ap, els, h⟩, fun i _ s h hb => ⟨s, h, hb⟩⟩⟩
    · obtain ⟨j, hj⟩ := List.mem_iff_getElem?.1 hv
      have hjr : j < r.length := by rw [← hA.vlen]; exact (List.getElem?_eq_some_iff.1 hj).1
      rw [(hA.vals j _ (List.getElem?_eq_getElem hjr)).1] at hj
      exact hr.s.one v (List.mem_of_getElem? hj)
    · obtain ⟨i, s, hj, hs, hst⟩ := back ht
      have hv0 := hv
      rw [(hA.vals j i hj).1] at hv
      have := hr.s.sto i s v hs hv
      cases s with
      | dead => cases hst; trivial
      | fz x => cases hst; exact Rd.mono hokm (fun _ _ _ => rfl) _ _ this
      | row e sz ap els =>
        cases hst
        obtain ⟨h0, cells, g1, g2, g3, g4⟩ := this
        refine ⟨h0, cells, ⟨g1.1, ?_⟩, g2, g3, RdL.mono hokm (fun _ _ _ => rfl) _ _ g4⟩
        rcases g1.2 with h | ⟨g, cap, cur, fr, e1, _, e2⟩
        · exact .inl h
        · exact .inr ⟨g, cap, cur, fr, e1, .inr ⟨j, _, v, ht, rfl, hv0, by rw [e1]; rfl⟩, e2⟩
      | box e cs =>
        obtain ⟨ds, rfl, hd⟩ := hst
        obtain ⟨b, arr, g1, g2, g3, g4, g5⟩ := this
        exact ⟨b, arr, g1, .inr ⟨j, _, v, ht, rfl, hv0, by rw [g1]; rfl⟩, g3, hd.ones g4, hd.ra hA hokm _ _ _ g5⟩
    · obtain ⟨i1, s1, hj1, hs1, hst1⟩ := back ht1
      obtain ⟨i2, s2, hj2, hs2, hst2⟩ := back ht2
      rw [(hA.vals _ _ hj1).1] at hu
      rw [(hA.vals _ _ hj2).1] at hv
      refine hr.s.dis i1 i2 s1 s2 u v b ?_ hs1 hs2 (hst1.live ▸ l1) (hst2.live ▸ l2) hu hv hbu hbv
      intro e
      subst e
      exact hjk ((List.getElem?_inj (List.getElem?_eq_some_iff.1 hj1).1 hrn).1 (hj1.trans hj2.symm))
  obtain ⟨hent, hcall⟩ := (hΓ f).2.2.2.2 w (Ok cx σ vals w) hok0 σ0 vals0 as' vs _ hmu hrel0 (RenL.ra hA hokm _ _ _ has hral) hK
  unfold Oper.wp
  rw [hrun0, hent, Oper.upon_enter]
  refine hcall.mono ?_
  rintro e w' ⟨v, res, σ1, vals1, rfl, hK, hs1, hra⟩
  generalize hmd : mcx cx.P w (Ok cx σ vals w) hok0 σ0 vals0 = m at *
  have hK := rhoK_spec _ _ _ _ (lenK_spec σ _ hK)
  obtain ⟨res', hK, hres⟩ := unAV_spec _ _ _ hK
  have hrlt : ∀ i ∈ r, i < σ.length := fun i hi => by
    obtain ⟨j, hj⟩ := List.mem_iff_getElem?.1 hi
    obtain ⟨s, t, hs, _⟩ := hσ0 j i hj
    exact (List.getElem?_eq_some_iff.1 hs).1
  have hpinS : m.pinS = σ0 := by rw [← hmd]; rfl
  have hpinV : m.pinV = vals0 := by rw [← hmd]; rfl
  have hown : ∀ b, m.own b ↔ w.heap.size ≤ b ∨ Mut σ0 vals0 b := fun b => by rw [← hmd]; rfl
  have hokA : ∀ b, m.okA b ↔ Ok cx σ vals w b := fun b => by rw [← hmd]; rfl
  have hw0 : m.w0 = w := by rw [← hmd]; rfl
  have hle : r.length ≤ σ1.length := by have := hs1.pin.len; rw [hpinS, hσ0l] at this; exact this
  obtain ⟨σ2, hK, hlen2, hsto2, hoth⟩ := backS_spec _ σ1 r σ _ hK hrn hrlt hle
  let ρ := rhoL σ1 r σ.length
  have hρ : ρ = rhoL σ1 r σ.length := rfl
  have hρlen : ρ.length = σ1.length := rhoL_len _ _ _
  have hlen1 : vals1.length = σ1.length := hs1.len
  let vals2 := vals ++ vals1.drop r.length
  have hv2lo : ∀ i, i < σ.length → vals2[i]? = vals[i]? := fun i hi => by
    show (vals ++ vals1.drop r.length)[i]? = _
    rw [List.getElem?_append_left (by rw [hr.s.len]; exact hi)]
  have hv2hi : ∀ i, σ.length ≤ i → vals2[i]? = vals1[i - σ.length + r.length]? := fun i hi => by
    show (vals ++ vals1.drop r.length)[i]? = _
    rw [List.getElem?_append_right (by rw [hr.s.len]; exact hi), List.getElem?_drop, hr.s.len, Nat.add_comm]
  have hB : Back ρ σ1 σ2 vals1 vals2 := by
    refine ⟨hsto2, fun j i hj => ?_⟩
    have hjl : j < σ1.length := by rw [← hρlen]; exact (List.getElem?_eq_some_iff.1 hj).1
    rcases Nat.lt_or_ge j r.length with h | h
    · rw [hρ, rhoL_lo _ _ _ _ h hjl] at hj
      rw [hv2lo i (hrlt i (nth_mem hj))]
      have h1 : j < vals0.length := by rw [hA.vlen]; exact h
      have h2 := hs1.pin.vs j _ (by rw [hpinV]; exact List.getElem?_eq_getElem h1)
      rw [h2, ← List.getElem?_eq_getElem h1, (hA.vals j i hj).1]
    · rw [hρ, rhoL_hi _ _ _ _ h hjl] at hj
      cases hj
      rw [hv2hi _ (by omega)]
      congr 1; omega
  -- each entry of the new store
  have ent : ∀ (i : Nat) (t : Blk), σ2[i]? = some t → (i < σ.length ∧ i ∉ r ∧ σ[i]? = some t ∧ vals2[i]? = vals[i]?) ∨ ∃ (j : Nat) (s : Blk), ρ[j]? = some i ∧ σ1[j]? = some s ∧ RenB ρ t s ∧ vals2[i]? = vals1[j]? := by
    intro i t ht
    have part : ∀ j : Nat, ρ[j]? = some i → ∃ (j : Nat) (s : Blk), ρ[j]? = some i ∧ σ1[j]? = some s ∧ RenB ρ t s ∧ vals2[i]? = vals1[j]? := by
      intro j hj
      have hjl : j < σ1.length := by rw [← hρlen]; exact (List.getElem?_eq_some_iff.1 hj).1
      obtain ⟨i', t', hi', ht', hst⟩ := hsto2 j _ (List.getElem?_eq_getElem hjl)
      rw [← hρ, hj] at hi'; cases hi'
      rw [ht] at ht'; cases ht'
      exact ⟨j, _, hj, List.getElem?_eq_getElem hjl, hst, hB.vals j i hj⟩
    have hi2 : i < σ.length + (σ1.length - r.length) := by rw [← hlen2]; exact (List.getElem?_eq_some_iff.1 ht).1
    rcases Nat.lt_or_ge i σ.length with h | h
    · by_cases hir : i ∈ r
      · obtain ⟨j, hj⟩ := List.mem_iff_getElem?.1 hir
        have hjr : j < r.length := (List.getElem?_eq_some_iff.1 hj).1
        exact .inr (part j (by rw [hρ, rhoL_lo _ _ _ _ hjr (by omega)]; exact hj))
      · exact .inl ⟨h, hir, by rw [← hoth i h hir]; exact ht, hv2lo i h⟩
    · exact .inr (part (i - σ.length + r.length) (by rw [hρ, rhoL_hi _ _ _ _ (by omega) (by omega)]; congr 1; omega))
  have ρinj : ∀ j k i : Nat, ρ[j]? = some i → ρ[k]? = some i → j = k := by
    intro j k i hj hk
    have hjl : j < σ1.length := by rw [← hρlen]; exact (List.getElem?_eq_some_iff.1 hj).1
    have hkl : k < σ1.length := by rw [← hρlen]; exact (List.getElem?_eq_some_iff.1 hk).1
    rcases Nat.lt_or_ge j r.length with h | h <;> rcases Nat.lt_or_ge k r.length with h' | h'
    · rw [hρ, rhoL_lo _ _ _ _ h hjl] at hj
      rw [hρ, rhoL_lo _ _ _ _ h' hkl] at hk
      exact (List.getElem?_inj h hrn).1 (hj.trans hk.symm)
    · rw [hρ, rhoL_lo _ _ _ _ h hjl] at hj
      rw [hρ, rhoL_hi _ _ _ _ h' hkl] at hk
      cases hk
      have := hrlt _ (nth_mem hj); omega
    · rw [hρ, rhoL_hi _ _ _ _ h hjl] at hj
      rw [hρ, rhoL_lo _ _ _ _ h' hkl] at hk
      cases hj
      have := hrlt _ (nth_mem hk); omega
    · rw [hρ, rhoL_hi _ _ _ _ h hjl] at hj
      rw [hρ, rhoL_hi _ _ _ _ h' hkl] at hk
      cases hj
      simp only [Option.some.injEq] at hk
      omega
  have ownC : ∀ b, m.own b → cx.own b := by
    intro b hb
    rcases (hown b).1 hb with h | h
    · exact cx.hown _ (Nat.le_trans hr.s.below.size h)
    · obtain ⟨i, s, v, _, h1, h2, h3, h4⟩ := hm0 b h
      exact ((hr.s.sto i s v h1 h3).block h2 h4).1
  have mut1 : ∀ b, Mut σ1 vals1 b → m.own b ∧ b < w'.heap.size := by
    rintro b ⟨j, s, v, h1, h2, h3, h4⟩
    exact (hs1.sto j s v h1 h3).block h2 h4
  -- what is not of the part has no block of it
  have apart : ∀ (i : Nat) (s : Blk) (v : Value) (b : Nat), i ∉ r → σ[i]? = some s → s.live = true → vals[i]? = some v → blkOf v = some b → ¬ m.own b := by
    intro i s v b hir hs hl hv hb ho
    rcases (hown b).1 ho with h | h
    · have := ((hr.s.sto i s v hs hv).block hl hb).2; omega
    · obtain ⟨i', s', v', h0, h1, h2, h3, h4⟩ := hm0 b h
      exact hr.s.dis i i' s s' v v' b (fun e => hir (e ▸ h0)) hs h1 hl h2 hv h3 hb h4
  have same : ∀ b, b < w.heap.size → ¬ m.own b → w'.heap[b]? = w.heap[b]? := by
    intro b hb ho
    have := hs1.below.block b (by rw [hw0]; exact hb) ho
    rw [hw0] at this; exact this
  have hsize : w.heap.size ≤ w'.heap.size := by have := hs1.below.size; rw [hw0] at this; exact this
  have mut2 : ∀ b, Mut σ2 vals2 b → (∃ (i : Nat) (s : Blk) (v : Value), i ∉ r ∧ σ[i]? = some s ∧ s.live = true ∧ vals[i]? = some v ∧ blkOf v = some b) ∨ Mut σ1 vals1 b := by
    rintro b ⟨i, t, v, ht, hl, hv, hb⟩
    rcases ent i t ht with ⟨_, hir, hs, hve⟩ | ⟨j, s, hj, hs, hst, hve⟩
    · exact .inl ⟨i, t, v, hir, hs, hl, by rw [← hve]; exact hv, hb⟩
    · exact .inr ⟨j, s, v, hs, hst.live.trans hl, by rw [← hve]; exact hv, hb⟩
  have okC : ∀ b, Ok cx σ vals w b → ¬ m.own b := by
    intro b hb ho
    rcases (hown b).1 ho with h | h
    · have := hb.2.1; omega
    · exact hb.2.2 (hm0' b h)
  have hkeep : Keep cx σ vals w σ2 vals2 w' := by
    refine ⟨fun i v h => ?_, by omega, fun b hb => ⟨hb.1, Nat.lt_of_lt_of_le hb.2.1 hsize, fun hm => ?_⟩, fun b hb => same b hb.2.1 (okC b hb), fun i hi e sz ap els h => ?_, fun i hi s2 h hb2 => ?_⟩
    · rw [hv2lo i (by rw [← hr.s.len]; exact (List.getElem?_eq_some_iff.1 h).1)]; exact h
    · rcases mut2 b hm with ⟨i, s, v, _, h1, h2, h3, h4⟩ | h
      · exact hb.2.2 ⟨i, s, v, h1, h2, h3, h4⟩
      · exact okC b hb (mut1 b h).1
    · rcases ent i _ h with ⟨_, _, hs, _⟩ | ⟨j, s, hj, hs, hst, _⟩
      · exact ⟨ap, els, hs⟩
      · have hjl : j < σ1.length := (List.getElem?_eq_some_iff.1 hs).1
        have hjr : j < r.length := by
          rcases Nat.lt_or_ge j r.length with h | h
          · exact h
          · rw [hρ, rhoL_hi _ _ _ _ h hjl] at hj; cases hj; omega
        rw [hρ, rhoL_lo _ _ _ _ hjr hjl] at hj
        have := hst.eqv.1 _ _ _ _ rfl
        subst this
        obtain ⟨ap', els', h3⟩ := hs1.pin.refr j (by rw [hpinS, hσ0l]; exact hjr) e sz ap els hs
        rw [hpinS] at h3
        obtain ⟨i', s', hi', hs', hst'⟩ := back h3
        rw [hj] at hi'; cases hi'
        cases s' with
        | box e' cs' => obtain ⟨ds, hd, _⟩ := hst'; cases hd
        | row e' sz' ap2 els2 => cases hst'; exact ⟨_, _, hs'⟩
        | _ => cases hst'
    · rcases ent i _ h with ⟨_, _, hs, _⟩ | ⟨j, s, hj, hs, hst, _⟩
      · exact ⟨s2, hs, hb2⟩
      · have hjl : j < σ1.length := (List.getElem?_eq_some_iff.1 hs).1
        have hjr : j < r.length := by
          rcases Nat.lt_or_ge j r.length with h | h
          · exact h
          · rw [hρ, rhoL_hi _ _ _ _ h hjl] at hj; cases hj; omega
        rw [hρ, rhoL_lo _ _ _ _ hjr hjl] at hj
        obtain ⟨s3, h3, hb3⟩ := hs1.pin.refb j (by rw [hpinS, hσ0l]; exact hjr) s hs (by rw [hst.boxy]; exact hb2)
        rw [hpinS] at h3
        obtain ⟨i', s', hi', hs', hst'⟩ := back h3
        rw [hj] at hi'; cases hi'
        exact ⟨s', hs', by rw [← hst'.boxy]; exact hb3⟩
  have okB : ∀ b, Ok m σ1 vals1 w' b → Ok cx σ2 vals2 w' b := by
    rintro b ⟨h1, h2, h3⟩
    have ho : m.own b → (cx.okA b ∨ cx.own b) := fun h => .inr (ownC b h)
    refine ⟨?_, h2, fun hm => ?_⟩
    · rcases h1 with h1 | h1
      · exact ((hokA b).1 h1).1
      · exact ho h1
    · rcases mut2 b hm with ⟨i, s, v, hir, g1, g2, g3, g4⟩ | h
      · rcases h1 with h1 | h1
        · exact ((hokA b).1 h1).2.2 ⟨i, s, v, g1, g2, g3, g4⟩
        · exact apart i s v b hir g1 g2 g3 g4 h1
      · exact h3 h
  have hs2 : RelS cx σ2 vals2 w' := by
    refine ⟨⟨?_, ?_, ?_, Nat.le_trans hr.s.below.size hsize, fun k hk ho => ?_⟩, fun v hv => ?_, ?_, fun i t v ht hv => ?_, fun i j t1 t2 u1 u2 b hij h1 h2 l1 l2 g1 g2 g3 g4 => ?_, ⟨Nat.le_trans hr.s.fr.size hsize, fun b hb => ?_, fun b hm hb => ?_⟩, hr.s.pin.keep hkeep⟩
    · have := hs1.below.os; rw [hw0] at this; exact this.trans hr.s.below.os
    · have := hs1.below.tape; rw [hw0] at this; exact this.trans hr.s.below.tape
    · have := hs1.below.output; rw [hw0] at this; exact this.trans hr.s.below.output
    · exact (same k (Nat.lt_of_lt_of_le hk hr.s.below.size) (fun h => ho (ownC k h))).trans (hr.s.below.block k hk ho)
    · rcases List.mem_append.1 hv with hv | hv
      · exact hr.s.one v hv
      · exact hs1.one v (List.mem_of_mem_drop hv)
    · show (vals ++ vals1.drop r.length).length = _
      rw [List.length_append, List.length_drop, hr.s.len, hlen1, hlen2]
    · rcases ent i t ht with ⟨_, hir, hs, hve⟩ | ⟨j, s, hj, hs, hst, hve⟩
      · rw [hve] at hv
        have hrb := hr.s.sto i t v hs hv
        exact hkeep.rb hrb (fun hl b hb => same b (hrb.block hl hb).2 (apart i t v b hir hs hl hv hb))
      · rw [hve] at hv
        have hrb := hs1.sto j s v hs hv
        cases t with
        | dead => trivial
        | fz x => cases hst; exact Rd.mono okB (fun _ _ _ => rfl) _ _ hrb
        | row e sz ap els =>
          cases hst
          obtain ⟨h0, cells, f1, f2, f3, f4⟩ := hrb
          refine ⟨h0, cells, ⟨f1.1, ?_⟩, f2, f3, RdL.mono okB (fun _ _ _ => rfl) _ _ f4⟩
          rcases f1.2 with h | ⟨g, cap, cur, fr, e1, e2, e3⟩
          · exact .inl h
          · exact .inr ⟨g, cap, cur, fr, e1, ownC g e2, e3⟩
        | box e cs =>
          obtain ⟨ds, rfl, hd⟩ := hst
          obtain ⟨b, arr, f1, f2, f3, f4, f5⟩ := hrb
          exact ⟨b, arr, f1, ownC b f2, f3, hd.onesB f4, RenL.back hB okB _ _ _ hd f5⟩
    · rcases ent i t1 h1 with ⟨_, hir, hs, hve⟩ | ⟨j1, s1, hj1, hsj1, hst1, hve⟩
      · rw [hve] at g1
        rcases ent j t2 h2 with ⟨_, hjr, hsj, hvj⟩ | ⟨j2, s2, hj2, hsj2, hst2, hvj⟩
        · rw [hvj] at g2
          exact hr.s.dis i j t1 t2 u1 u2 b hij hs hsj l1 l2 g1 g2 g3 g4
        · rw [hvj] at g2
          exact apart i t1 u1 b hir hs l1 g1 g3 (mut1 b ⟨j2, s2, u2, hsj2, hst2.live.trans l2, g2, g4⟩).1
      · rw [hve] at g1
        rcases ent j t2 h2 with ⟨_, hjr, hsj, hvj⟩ | ⟨j2, s2, hj2, hsj2, hst2, hvj⟩
        · rw [hvj] at g2
          exact apart j t2 u2 b hjr hsj l2 g2 g4 (mut1 b ⟨j1, s1, u1, hsj1, hst1.live.trans l1, g1, g3⟩).1
        · rw [hvj] at g2
          refine hs1.dis j1 j2 s1 s2 u1 u2 b (fun e => ?_) hsj1 hsj2 (hst1.live.trans l1) (hst2.live.trans l2) g1 g2 g3 g4
          subst e
          rw [hj1] at hj2; cases hj2; exact hij rfl
    · refine (same b (Nat.lt_of_lt_of_le (cx.hk b hb) hr.s.fr.size) (fun ho => ?_)).trans (hr.s.fr.same b hb)
      rcases (hown b).1 ho with h | h
      · have := cx.hk b hb; have := hr.s.fr.size; omega
      · exact hr.s.fr.mutn b (hm0' b h) hb
    · rcases mut2 b hm with ⟨i, s, v, _, f1, f2, f3, f4⟩ | h
      · exact hr.s.fr.mutn b ⟨i, s, v, f1, f2, f3, f4⟩ hb
      · rcases (hown b).1 (mut1 b h).1 with h | h
        · have := cx.hk b hb; have := hr.s.fr.size; omega
        · exact hr.s.fr.mutn b (hm0' b h) hb
  exact hnext _ _ _ v w' hK (hr.keep hs2 hkeep) (Ren.back hB okB _ _ _ hres hra)

theorem out_callK {K : AV → Sto → Prop} {Γ : Ctx} (hΓ : Sound cx.P Γ) (hr : Rel cx env σ vals a w) (f : FuncId) (as : List AV) (vs : Array Value) (hrun0 : (execOp a.eval o).run cx.P w = (callFunc f vs).run cx.P w) (hral : RAL (Ok cx σ vals w) σ vals w as vs.toList)
    (hK : callK (Γ f) as σ K) : Out cx env a w o K := by
  unfold callK at hK
  cases hmu : (Γ f).mu with
  | true => rw [hmu] at hK; exact out_callM hΓ hr f as vs hrun0 hral hmu hK
  | false => rw [hmu] at hK; exact out_callF hΓ hr f as vs hrun0 hral hmu hK

theorem out_call {K : AV → Sto → Prop} {Γ : Ctx} (hΓ : Sound cx.P Γ) (hr : Rel cx env σ vals a w) (f : FuncId) (args : List Operand) (c : Call) (ho : o.op = .call c) (hc : c.callee = .value (.func f)) (hargs : c.args.toList = args)
    (hK : callK (Γ f) (args.map (evF env)) σ K) : Out cx env a w o K := by
  refine out_callK hΓ hr f _ (args.map a.eval).toArray ?_ (by simpa using hr.evL args) hK
  have hargs' : c.args = args.toArray := by rw [← hargs]
  simp [execOp, ho, resolve, hc, invoke, hargs', Deferred.ofValue, Act.eval]

theorem appK2_spec (l m : List AV) : ∀ (K : List AV → Prop), appK2 l m K → K (l ++ m) := by
  induction l with
  | nil => intro K h; exact h
  | cons x l ih => intro K h; exact ih _ h

theorem out_callv {K : AV → Sto → Prop} {Γ : Ctx} (hΓ : Sound cx.P Γ) (hr : Rel cx env σ vals a w) (x : Operand) (args : List Operand) (c : Call) (ho : o.op = .call c) (hc : c.callee = .value x) (hargs : c.args.toList = args)
    (hK : callvK Γ (evF env x) (args.map (evF env)) σ K) : Out cx env a w o K := by
  have hargs' : c.args = args.toArray := by rw [← hargs]
  have hx := hr.ev x
  have main : ∀ (g : FuncId) (cs : List AV) (cv : Array Value), a.eval x = .func (.func g) #[] cv → RAL (Ok cx σ vals w) σ vals w cs cv.toList → callK (Γ g) (args.map (evF env) ++ cs) σ K → Out cx env a w o K := by
    intro g cs cv hv hral hK
    refine out_callK hΓ hr g _ ((args.map a.eval).toArray ++ cv) ?_ ?_ hK
    · simp [execOp, ho, resolve, hc, invoke, hargs', Deferred.ofValue, hv]
    · rw [raL_append]
      exact ⟨_, _, by simp, hr.evL args, hral⟩
  cases hev : evF env x with
  | pv p =>
    rw [hev] at hK hx
    cases p with
    | clo g caps =>
      simp only [RA, Rd] at hx
      obtain ⟨cv, hv, hcs⟩ := hx
      exact main g _ cv hv ((raL_map_pv _ _).2 hcs) (appK2_spec _ _ _ (pvsK_spec _ _ hK))
    | _ => exact (show False from hK).elim
  | clo g cs =>
    rw [hev] at hK hx
    simp only [RA] at hx
    obtain ⟨cv, hv, hcs⟩ := hx
    exact main g cs cv hv hcs (appK2_spec _ _ _ hK)
  | _ => rw [hev] at hK; exact (show False from hK).elim

theorem out_mkfK {K : AV → Sto → Prop} {Γ : Ctx} (hr : Rel cx env σ vals a w) (f : FuncId) (first caps : Array Operand) (ho : o.op = .makeFunc (.func f) first caps) (hf : first.toList = [])
    (hK : match (Γ f).mu with
      | true => K (.clo f (caps.toList.map (evF env))) σ
      | false => boxesK (caps.toList.map (evF env)) σ fun xs σ => K (.pv (.clo f xs)) σ) : Out cx env a w o K := by
  cases hmu : (Γ f).mu with
  | false => rw [hmu] at hK; exact out_mkf hr f first caps ho hf hK
  | true =>
    rw [hmu] at hK
    have hf' : first = #[] := Array.toList_eq_nil_iff.1 hf
    refine Out.run (v := .func (.func f) #[] (caps.map a.eval)) (by simp [execOp, ho, Instr.makeFunc, hf']) hr (av := .clo f (caps.toList.map (evF env))) ?_ hK
    simp only [RA]
    exact ⟨_, rfl, by simpa using hr.evL caps.toList⟩
end
end Go.Dv
end
section
/-
  From operations to regions and code.
-/
set_option linter.unusedSimpArgs false
namespace Go.Dv
open Go.RowKit
section
variable {cx : Cx} {env : Env} {σ : Sto} {vals : List Value} {a : Act} {w w' : World} {o : Oper}

theorem opt_some {α β : Type} {o : Option α} {f : α → Option β} {r : β} (h : opt o f = some r) : ∃ x, o = some x ∧ f x = some r := by
  unfold opt at h
  cases o with
  | none => cases h
  | some x => exact ⟨x, rfl, h⟩

theorem need_some {α : Type} {b : Bool} {x : Option α} {r : α} (h : need b x = some r) : b = true ∧ x = some r := by
  unfold need at h
  cases b with
  | true => exact ⟨rfl, h⟩
  | false => cases h

theorem slInfo_some {P : Program} {t : TypeId} {i : TypeId × Nat × Nat} (h : slInfo P t = some i) : ∃ ti, P.underlying t = some (.slice i.1) ∧ P.info? i.1 = some ti ∧ ti.size = i.2.1 ∧ ti.bytes = i.2.2 := by
  unfold slInfo at h
  split at h
  · rename_i e hu
    obtain ⟨ti, hi, h⟩ := opt_some h
    cases h
    exact ⟨ti, hu, hi, rfl, rfl⟩
  · cases h

theorem fieldPlace_some {P : Program} {t : TypeId} {f : Nat} {q : Nat × Bool × Nat} (h : Dv.fieldPlace P t f = some q) : ∃ fs fd, P.underlying t = some (.struct fs) ∧ fs[f]? = some fd ∧ q.1 = fd.offset ∧ Shape P fd.type q.2.1 q.2.2 ∧ 0 < q.2.2 := by
  unfold Dv.fieldPlace at h
  split at h
  · rename_i fs hu
    obtain ⟨fd, hf, h⟩ := opt_some h
    obtain ⟨s, hs, h⟩ := opt_some h
    obtain ⟨h0, h⟩ := need_some h
    cases h
    exact ⟨fs, fd, hu, hf, rfl, shape_of hs, by simpa using h0⟩
  · cases h

theorem isNilS_eq {x : Operand} (h : isNilS x = true) : x = .const (.slice none 0 0) := by
  unfold isNilS at h
  split at h
  · rfl
  · cases h

theorem out_nilR {K : AV → Sto → Prop} (hr : Rel cx env σ vals a w) (e : TypeId) (sz : Nat) (hz : 0 < sz) (hrun : (execOp a.eval o).run cx.P w = .ok (.value (.slice none 0 0)) w) (hK : K (.own σ.length) (σ ++ [.row e sz true []])) : Out cx env a w o K := by
  obtain ⟨h1, h2⟩ := hr.s.pushes (Below.refl _ w) [.row e sz true []] [.slice none 0 0] rfl (by simp [Value.oneCell']) (by intro u hu b hb; simp at hu; subst hu; cases hb)
    (by intro i j u t b hij hu _ hb; cases i with
        | zero => simp at hu; subst hu; cases hb
        | succ i => simp at hu)
    (by intro _ i s u hs hu
        cases i with
        | zero => simp at hs hu; subst hs hu; exact ⟨hz, [], owns_nil _ _ _ _ _, by simp, by simp, by simp [RdL]⟩
        | succ i => simp at hs)
  refine Out.run hrun ⟨h1, fun p => h2.ra _ _ (hr.env p), hr.defers, fun x v hq => h2.ra _ _ (hr.gh x v hq), hr.lo⟩ (av := .own σ.length) ?_ hK
  simp only [RA]
  rw [← hr.s.len]
  simp

theorem op_sound {Γ : Ctx} (hΓ : Sound cx.P Γ) (hr : Rel cx env σ vals a w) {k : PK} {dr : Bool} (hc : compK cx.P dr o = some k) {K : AV → Sto → Prop} (hK : evK Γ env σ k K) : Out cx env a w o K := by
  unfold compK at hc
  split at hc
  · -- move
    rename_i x ho
    split at hc
    · rename_i hn
      obtain ⟨i, _, hc⟩ := opt_some hc
      have := isNilS_eq hn
      subst this
      cases dr with
      | true =>
        cases hc
        exact Out.run (v := .slice none 0 0) (by simp [execOp, ho, Act.eval]) hr (av := .pv (.nil i.2.1)) (by simp only [RA, Rd]) hK
      | false =>
        cases hz : Nat.blt 0 i.2.1 with
        | true =>
          rw [hz] at hc
          cases hc
          exact out_nilR hr _ _ (Nat.le_of_ble_eq_true hz) (by simp [execOp, ho, Act.eval]) (snocK_spec _ _ _ (lenK_spec σ _ hK))
        | false =>
          rw [hz] at hc
          cases hc
          exact Out.run (v := .slice none 0 0) (by simp [execOp, ho, Act.eval]) hr (av := .pv (.nil i.2.1)) (by simp only [RA, Rd]) hK
    · cases hc
      exact out_move hr x (.inl ho) (ev_spec _ _ _ hK)
  · -- assign
    rename_i x ho
    split at hc
    · rename_i hn
      obtain ⟨i, _, hc⟩ := opt_some hc
      have := isNilS_eq hn
      subst this
      cases dr with
      | true =>
        cases hc
        exact Out.run (v := .slice none 0 0) (by simp [execOp, ho, Act.eval]) hr (av := .pv (.nil i.2.1)) (by simp only [RA, Rd]) hK
      | false =>
        cases hz : Nat.blt 0 i.2.1 with
        | true =>
          rw [hz] at hc
          cases hc
          exact out_nilR hr _ _ (Nat.le_of_ble_eq_true hz) (by simp [execOp, ho, Act.eval]) (snocK_spec _ _ _ (lenK_spec σ _ hK))
        | false =>
          rw [hz] at hc
          cases hc
          exact Out.run (v := .slice none 0 0) (by simp [execOp, ho, Act.eval]) hr (av := .pv (.nil i.2.1)) (by simp only [RA, Rd]) hK
    · cases hc
      exact out_move hr x (.inr ho) (ev_spec _ _ _ hK)
  · -- pick
    rename_i c x y ho
    cases hc
    refine out_pick hr c x y ho ?_
    have h := ev_spec _ _ _ hK
    revert h
    cases evF env c with
    | pv p =>
      cases p with
      | bool b => cases b with
        | true => intro h; exact ev_spec _ _ _ h
        | false => intro h; exact ev_spec _ _ _ h
      | _ => exact fun h => h
    | _ => exact fun h => h
  · -- binOp
    rename_i op t x y u ho
    have bin : ∀ op, o.op = .binOp op t x y u → evK Γ env σ (.bin op x y) K → Out cx env a w o K := fun op ho hK => out_bin hr op t u x y ho (ev_spec _ _ _ (ev_spec _ _ _ hK))
    split at hc
    · split at hc
      · cases hc; exact bin _ ho hK
      · cases hc; exact bin _ ho hK
      · rename_i ht
        cases hc
        exact out_eqb hr false t u x y (ev_spec _ _ _ (ev_spec _ _ _ hK)) ho ht
      · rename_i e ht
        obtain ⟨hy, hc⟩ := need_some hc
        cases hc
        exact out_isnil hr false t u e x y ho ht hy (ev_spec _ _ _ hK)
      · rename_i fs ht
        obtain ⟨ks, hk, hc⟩ := opt_some hc
        obtain ⟨h1, hc⟩ := need_some hc
        cases hc
        simp only [Bool.and_eq_true, Bool.not_eq_true'] at h1
        exact out_eqs hr false ks t u x y (ev_spec _ _ _ (ev_spec _ _ _ hK)) ho fs ht hk h1.1 h1.2
      · cases hc
    · split at hc
      · cases hc; exact bin _ ho hK
      · cases hc; exact bin _ ho hK
      · rename_i ht
        cases hc
        exact out_eqb hr true t u x y (ev_spec _ _ _ (ev_spec _ _ _ hK)) ho ht
      · rename_i e ht
        obtain ⟨hy, hc⟩ := need_some hc
        cases hc
        exact out_isnil hr true t u e x y ho ht hy (ev_spec _ _ _ hK)
      · rename_i fs ht
        obtain ⟨ks, hk, hc⟩ := opt_some hc
        obtain ⟨h1, hc⟩ := need_some hc
        cases hc
        simp only [Bool.and_eq_true, Bool.not_eq_true'] at h1
        exact out_eqs hr true ks t u x y (ev_spec _ _ _ (ev_spec _ _ _ hK)) ho fs ht hk h1.1 h1.2
      · cases hc
    · cases hc; exact bin _ ho hK
  · -- unOp
    rename_i op t x ho
    cases hc
    exact out_un hr op t x ho (ev_spec _ _ _ hK)
  · -- convert
    rename_i s d x ho
    split at hc
    · rename_i k0 k hs hd
      cases hc
      exact out_toInt hr s d k k0 x ho hs hd (ev_spec _ _ _ hK)
    · rename_i hs hd
      cases hc
      exact out_same hr s d x ho hs hd (ev_spec _ _ _ hK)
    · rename_i e hs hd
      split at hc
      · rename_i he
        cases hc
        exact out_bts hr s d e x ho hs he hd (ev_spec _ _ _ hK)
      · cases hc
    · rename_i e hs hd
      split at hc
      · rename_i he
        cases hc
        exact out_stb hr s d e x ho hs hd he (ev_spec _ _ _ hK)
      · cases hc
    · cases hc
  · -- load
    rename_i t x ho
    obtain ⟨s, hs, hc⟩ := opt_some hc
    have hsh := shape_of hs
    split at hc
    · rename_i h1
      cases hc
      rw [h1] at hsh
      exact out_load hr t x true _ ho ⟨_, hsh, rfl⟩ (ev_spec _ _ _ hK)
    · rename_i h1
      cases hc
      rw [h1] at hsh
      exact out_load hr t x false _ ho ⟨_, hsh, rfl⟩ (ev_spec _ _ _ hK)
  · -- store
    rename_i t x v ho
    obtain ⟨i, hi, hc⟩ := opt_some hc
    cases hc
    exact out_store hr t i x v ho hi (ev_spec _ _ _ (ev_spec _ _ _ hK))
  · -- alloc
    rename_i e ho
    split at hc
    · rename_i q hq
      cases hc
      exact out_mkarr hr e q ho hq hK
    · obtain ⟨z, hz, hc⟩ := opt_some hc
      cases hc
      exact out_alloc hr e z ho hz hK
  · -- box
    rename_i e x ho
    cases hc
    exact out_box hr e x ho (ev_spec _ _ _ hK)
  · -- build
    rename_i t parts ho
    split at hc
    · rename_i fs hu
      obtain ⟨z, hz, hc⟩ := opt_some hc
      obtain ⟨pl, hpl, hc⟩ := opt_some hc
      obtain ⟨ps, hps, hc⟩ := opt_some hc
      split at hc
      · cases hc
        exact out_build hr t parts fs _ pl ps ho hu hz hpl hps hK
      · cases hc
    · rename_i m e hu
      obtain ⟨z, hz, hc⟩ := opt_some hc
      obtain ⟨s, hs, hc⟩ := opt_some hc
      split at hc
      · cases hc
        exact out_buildA hr t e m s.2 s.1 parts _ ho hu hz (shape_of hs) hK
      · cases hc
    · cases hc
  · -- buildSlice
    rename_i t n parts ho
    obtain ⟨i, hi, hc⟩ := opt_some hc
    obtain ⟨ps, hps, hc⟩ := opt_some hc
    obtain ⟨h1, hc⟩ := need_some hc
    obtain ⟨z, hz, hc⟩ := opt_some hc
    cases hc
    obtain ⟨ti, hu, hie, hsz, _⟩ := slInfo_some hi
    simp only [Bool.and_eq_true, decide_eq_true_eq] at h1
    obtain ⟨⟨h1, h2⟩, h3⟩ := h1
    rw [← hsz] at h2 h3 hK
    exact out_bslice hr t i.1 ti n parts ps z ho hu hie hps (Nat.eq_of_beq_eq_true h1) h2 (Nat.le_of_ble_eq_true h3) hz (evs_spec _ _ _ hK)
  · -- call
    rename_i c ho
    split at hc
    · rename_i b hcal
      split at hc
      · rename_i x hargs
        obtain ⟨t, ht, hc⟩ := opt_some hc
        split at hc
        · rename_i hu
          cases hc
          exact out_lenS hr x t c ho hcal hargs ht hu (ev_spec _ _ _ hK)
        · rename_i e hu
          cases hc
          exact out_lenR hr x t e c ho hcal hargs ht hu (ev_spec _ _ _ hK)
        · cases hc
      · rename_i x y hargs
        split at hc
        · rename_i t u hat
          obtain ⟨i, hi, hc⟩ := opt_some hc
          obtain ⟨z, hz, hc⟩ := opt_some hc
          obtain ⟨h1, hc⟩ := need_some hc
          obtain ⟨ti, hu, hie, hsz, hby⟩ := slInfo_some hi
          simp only [Bool.and_eq_true, decide_eq_true_eq] at h1
          obtain ⟨h1, h2⟩ := h1
          have h2 := Nat.eq_of_beq_eq_true h2
          split at hc
          · rename_i htu
            cases hc
            have := Nat.eq_of_beq_eq_true htu
            subst this
            rw [← hsz] at h1 h2 hK
            rw [← hby] at hK
            exact out_app hr t i.1 ti z x y c ho hcal hargs hat hu hie hz h2 h1 (ev_spec _ _ _ (ev_spec _ _ _ hK))
          · split at hc
            · rename_i hus
              split at hc
              · rename_i he
                obtain ⟨h3, hc⟩ := need_some hc
                have h3 := Nat.eq_of_beq_eq_true h3
                cases hc
                rw [← hby] at hK
                exact out_appS hr t u i.1 ti z x y c ho hcal hargs hat hu hus hie hz (by rw [h2, hsz]) (by rw [hsz, h3]) (ev_spec _ _ _ (ev_spec _ _ _ hK))
              · cases hc
            · cases hc
        · cases hc
      · rename_i x y hargs
        split at hc
        · rename_i t u hat
          obtain ⟨i, hi, hc⟩ := opt_some hc
          obtain ⟨ti, hu, hie, hsz, hby⟩ := slInfo_some hi
          split at hc
          · rename_i hus
            split at hc
            · rename_i he
              obtain ⟨h3, hc⟩ := need_some hc
              have h3 := Nat.eq_of_beq_eq_true h3
              cases hc
              exact out_cpyS hr t u i.1 ti x y c ho hcal hargs hat hu hie (by rw [hsz, h3]) (ev_spec _ _ _ (ev_spec _ _ _ hK))
            · cases hc
          · obtain ⟨h3, hc⟩ := need_some hc
            cases hc
            rw [← hsz] at hK
            exact out_cpy hr t u i.1 ti x y c ho hcal hargs hat hu hie (ev_spec _ _ _ (ev_spec _ _ _ hK))
          · cases hc
        · cases hc
      · rename_i x hargs
        obtain ⟨t, ht, hc⟩ := opt_some hc
        obtain ⟨i, hi, hc⟩ := opt_some hc
        obtain ⟨z, hz, hc⟩ := opt_some hc
        obtain ⟨h1, hc⟩ := need_some hc
        obtain ⟨ti, hu, hie, hsz, hby⟩ := slInfo_some hi
        cases hc
        simp only [Bool.and_eq_true, decide_eq_true_eq] at h1
        rw [← hsz] at hK h1
        exact out_clr hr t i.1 ti z x c ho hcal hargs ht hu hie hz (Nat.eq_of_beq_eq_true h1.2) (ev_spec _ _ _ hK)
      · rename_i x y hargs
        cases hc
        exact out_mm hr false x y (ev_spec _ _ _ (ev_spec _ _ _ hK)) c ho hcal hargs
      · rename_i x y hargs
        cases hc
        exact out_mm hr true x y (ev_spec _ _ _ (ev_spec _ _ _ hK)) c ho hcal hargs
      · cases hc
    · rename_i f hcal
      split at hc
      · rename_i f
        obtain ⟨fn, hf, hc⟩ := opt_some hc
        split at hc
        · rename_i bd hbd
          obtain ⟨h1, hc⟩ := need_some hc
          cases hc
          exact out_call hΓ hr f c.args.toList c ho hcal rfl (evs_spec _ _ _ hK)
        · cases hc
      · rename_i t
        cases hc
        exact out_callv hΓ hr (.tmp t) c.args.toList c ho hcal rfl (evs_spec env _ (fun as => callvK Γ (evF env (.tmp t)) as σ K) (ev_spec env (.tmp t) (fun f => evs env c.args.toList fun as => callvK Γ f as σ K) hK))
      · cases hc
    · cases hc
  · -- extract
    rename_i x i ho
    cases hc
    exact out_ext hr x i ho (ev_spec _ _ _ hK)
  · -- slice
    rename_i t x lo hi mx ho
    split at hc
    · split at hc
      · rename_i hu
        cases hc
        exact out_slcS hr t x lo hi ho hu (evO_spec _ _ _ (evO_spec _ _ _ (ev_spec _ _ _ hK)))
      · rename_i e hu
        obtain ⟨i, hi, hc⟩ := opt_some hc
        cases hc
        exact out_slcR hr t e i x lo _ ho hu hi (evO_spec _ _ _ (evO_spec _ _ _ (ev_spec _ _ _ hK)))
      · obtain ⟨q, hq, hc⟩ := opt_some hc
        cases hc
        exact out_slcA hr t q x lo _ ho hq (evO_spec _ _ _ (evO_spec _ _ _ (ev_spec _ _ _ hK)))
      · cases hc
    · cases hc
  · -- index
    rename_i t x i ho
    split at hc
    · rename_i hu
      cases hc
      exact out_idx hr t x i ho hu (ev_spec _ _ _ (ev_spec _ _ _ hK))
    · rename_i m e hu
      split at hc
      · rename_i q hq
        unfold arrPlace at hq
        rw [hu] at hq
        simp only at hq
        split at hq
        · split at hq
          · rename_i kd k
            obtain ⟨s, hs, hq⟩ := opt_some hq
            obtain ⟨hb, hq⟩ := need_some hq
            cases hq
            simp only [Bool.and_eq_true, decide_eq_true_eq] at hb
            have hsh := shape_of hs
            split at hc
            · rename_i hag
              cases hc
              have hag : s.1 = true := hag
              rw [hag] at hsh
              exact out_idxV hr t e x _ m kd k s.2 true s.2 ho hu rfl hb.1 hsh rfl (ev_spec _ _ _ hK)
            · rename_i hag
              cases hc
              have hag : s.1 = false := hag
              rw [hag] at hsh
              exact out_idxV hr t e x _ m kd k s.2 false 1 ho hu rfl hb.1 hsh rfl (ev_spec _ _ _ hK)
          · cases hq
        · cases hq
      · obtain ⟨s, hs, hc⟩ := opt_some hc
        obtain ⟨hb, hc⟩ := need_some hc
        have hsh := shape_of hs
        split at hc
        · rename_i hag
          cases hc
          have hag : s.1 = true := hag
          rw [hag] at hsh
          exact out_idxW hr t e x i m s.2 true s.2 ho hu hsh rfl (ev_spec _ _ _ (ev_spec _ _ _ hK))
        · rename_i hag
          cases hc
          have hag : s.1 = false := hag
          rw [hag] at hsh
          exact out_idxW hr t e x i m s.2 false 1 ho hu hsh rfl (ev_spec _ _ _ (ev_spec _ _ _ hK))
    · cases hc
  · -- indexAddr
    rename_i t x i ho
    split at hc
    · rename_i m e hu
      split at hc
      · rename_i q hq
        cases hc
        exact out_idxAr hr t q x i ho hq (ev_spec _ _ _ (ev_spec _ _ _ hK))
      · split at hc
        · rename_i q hq
          cases hc
          exact out_fldA hr x q.1 (fun b n hv => run_idxC cx.P t x i q ho hq b n hv) (ev_spec _ _ _ hK)
        · obtain ⟨s, hs, hc⟩ := opt_some hc
          obtain ⟨hb, hc⟩ := need_some hc
          cases hc
          exact out_fldW hr t e x i m s.2 s.1 ho hu (shape_of hs) (ev_spec _ _ _ (ev_spec _ _ _ hK))
    · obtain ⟨s, hs, hc⟩ := opt_some hc
      cases hc
      obtain ⟨ti, hu, hie, hsz, _⟩ := slInfo_some hs
      rw [← hsz] at hK
      exact out_idxA hr t s.1 ti x i ho hu hie (ev_spec _ _ _ (ev_spec _ _ _ hK))
  · -- fieldAddr
    rename_i s x f ho
    obtain ⟨q, hq, hc⟩ := opt_some hc
    cases hc
    obtain ⟨fs, fd, hu, hf, h1, h2, h3⟩ := fieldPlace_some hq
    exact out_fldA hr x q.1 (fun b n hv => by rw [h1]; simp [execOp, ho, hv, run_fieldAt cx.P s f fs fd _ _ hu hf h2 h3 b n]) (ev_spec _ _ _ hK)
  · -- field
    rename_i s x f ho
    obtain ⟨q, hq, hc⟩ := opt_some hc
    obtain ⟨fs, fd, hu, hf, h1, h2, h3⟩ := fieldPlace_some hq
    split at hc
    · rename_i hag
      cases hc
      rw [hag] at h2
      rw [h1] at hK
      exact out_fld hr s x f fs fd true _ ho hu hf ⟨_, h2, rfl⟩ (ev_spec _ _ _ hK)
    · rename_i hag
      cases hc
      rw [hag] at h2
      rw [h1] at hK
      exact out_fld hr s x f fs fd false _ ho hu hf ⟨_, h2, rfl⟩ (ev_spec _ _ _ hK)
  · -- nilCheck
    rename_i x ho
    cases hc
    exact out_nilck hr x ho (ev_spec _ _ _ hK)
  · -- makeFunc
    rename_i f first caps ho
    split at hc
    · rename_i f hf
      cases hc
      exact out_mkfK hr _ first caps ho hf (evs_spec _ _ _ hK)
    · cases hc
  · -- makeSlice
    rename_i t l c ho
    obtain ⟨i, hi, hc⟩ := opt_some hc
    obtain ⟨z, hz, hc⟩ := opt_some hc
    obtain ⟨h1, hc⟩ := need_some hc
    cases hc
    obtain ⟨ti, hu, hie, hsz, hby⟩ := slInfo_some hi
    simp only [Bool.and_eq_true, decide_eq_true_eq] at h1
    obtain ⟨h1, h2⟩ := h1
    have h2 := Nat.eq_of_beq_eq_true h2
    rw [← hsz] at h1 h2 hK
    rw [← hby] at hK
    exact out_mksl hr t i.1 ti z l c ho hu hie hz h1 h2 (ev_spec _ _ _ (ev_spec _ _ _ hK))
  · cases hc
    exact (show False from hK).elim
  · -- makeInterface
    rename_i t x ho
    split at hc
    · cases hc
    · rename_i d hn hd
      cases hc
      exact out_junk hr t x ho d hd (fun m e => hn m e) hK
    · cases hc
  · cases hc
theorem op_soundF {Γ : Ctx} (hΓ : Sound cx.P Γ) (hr : Rel cx env σ vals a w) {k : PK} {dr : Bool} (hc : compF cx.P dr o = some k) {K : AV → Sto → Prop} (hK : evK Γ env σ k K) : Out cx env a w o K := by
  unfold compF at hc
  split at hc
  · rename_i k' h
    cases hc
    exact op_sound hΓ hr h hK
  · split at hc
    · cases hc; exact hK.elim
    · cases hc
end
end Go.Dv
end
