/-
  A part of the proof: own texts, laid together by a tool of our own: L06 F06n F06o F06p F06q F06r.
-/
import Derived.Shelf.Strings.Builder1
import Derived.Shelf.Strings.Repeat
import Derived.Test.YthibkikicnaciaaCd2
import Derived.Test.YthibkikicnaciaaWalks1
section
/-
  Contracts of the library's functions, out of the shelf: strings.Repeat, strings.Builder.
-/
namespace Go.Proofs
def Try.lays105_ren : Go.Shelf.Ren := ⟨fun | 105 => 101 | 212 => 106 | 99 => 107 | 165 => 108 | 166 => 92 | 170 => 93 | 169 => 94 | 263 => 110 | 264 => 111 | 206 => 112 | 240 => 103 | 241 => 113 | 276 => 109 | 277 => 114 | n => n, fun | 9 => 9 | 3 => 3 | 4 => 4 | 20 => 20 | 0 => 0 | 46 => 110 | 109 => 118 | 5 => 5 | 72 => 98 | 76 => 103 | 51 => 115 | 146 => 124 | 53 => 117 | 148 => 126 | 70 => 96 | 37 => 85 | 75 => 101 | 127 => 113 | 164 => 122 | 80 => 106 | n => n, fun | n => n⟩
theorem Try.lays105 : Go.Proofs.Lays.n105 Try.prog Try.lays105_ren := {
  mixed := by kernel_rfl
  f99 := Try.func107.trans (congrArg some (by kernel_rfl))
  f105 := Try.func101.trans (congrArg some (by kernel_rfl))
  f165 := Try.func108.trans (congrArg some (by kernel_rfl))
  f166 := Try.func92.trans (congrArg some (by kernel_rfl))
  f169 := Try.func94.trans (congrArg some (by kernel_rfl))
  f170 := Try.func93.trans (congrArg some (by kernel_rfl))
  f206 := Try.func112.trans (congrArg some (by kernel_rfl))
  f212 := Try.func106.trans (congrArg some (by kernel_rfl))
  f240 := Try.func103.trans (congrArg some (by kernel_rfl))
  f241 := Try.func113.trans (congrArg some (by kernel_rfl))
  f263 := Try.func110.trans (congrArg some (by kernel_rfl))
  f264 := Try.func111.trans (congrArg some (by kernel_rfl))
  f276 := Try.func109.trans (congrArg some (by kernel_rfl))
  f277 := Try.func114.trans (congrArg some (by kernel_rfl))
  t0 := Try.underlying0
  a0 := Try.isAgg0
  z0 := Try.sizeOf0
  v0 := Try.zeroValue0
  t3 := Try.underlying3
  a3 := Try.isAgg3
  z3 := Try.sizeOf3
  v3 := Try.zeroValue3
  t4 := Try.underlying4
  a4 := Try.isAgg4
  z4 := Try.sizeOf4
  v4 := Try.zeroValue4
  t5 := Try.underlying5
  a5 := Try.isAgg5
  z5 := Try.sizeOf5
  v5 := Try.zeroValue5
  t9 := Try.underlying9
  a9 := Try.isAgg9
  z9 := Try.sizeOf9
  v9 := Try.zeroValue9
  t20 := Try.underlying20
  a20 := Try.isAgg20
  z20 := Try.sizeOf20
  v20 := Try.zeroValue20
  t37 := Try.underlying85
  a37 := Try.isAgg85
  z37 := Try.sizeOf85
  v37 := Try.zeroValue85
  t46 := Try.underlying110
  a46 := Try.isAgg110
  z46 := Try.sizeOf110
  v46 := Try.zeroValue110
  t51 := Try.underlying115
  a51 := Try.isAgg115
  z51 := Try.sizeOf115
  v51 := Try.zeroValue115
  t53 := Try.underlying117
  a53 := Try.isAgg117
  z53 := Try.sizeOf117
  v53 := Try.zeroValue117
  t70 := Try.underlying96
  a70 := Try.isAgg96
  z70 := Try.sizeOf96
  v70 := Try.zeroValue96
  t72 := Try.underlying98
  a72 := Try.isAgg98
  z72 := Try.sizeOf98
  v72 := Try.zeroValue98
  t75 := Try.underlying101
  a75 := Try.isAgg101
  z75 := Try.sizeOf101
  v75 := Try.zeroValue101
  t76 := Try.underlying103
  a76 := Try.isAgg103
  z76 := Try.sizeOf103
  v76 := Try.zeroValue103
  t109 := Try.underlying118
  a109 := Try.isAgg118
  z109 := Try.sizeOf118
  v109 := Try.zeroValue118
  t127 := Try.underlying113
  a127 := Try.isAgg113
  z127 := Try.sizeOf113
  v127 := Try.zeroValue113
  t146 := Try.underlying124
  a146 := Try.isAgg124
  z146 := Try.sizeOf124
  v146 := Try.zeroValue124
  t148 := Try.underlying126
  a148 := Try.isAgg126
  z148 := Try.sizeOf126
  v148 := Try.zeroValue126
  t164 := Try.underlying122
  a164 := Try.isAgg122
  z164 := Try.sizeOf122
  v164 := Try.zeroValue122 }
theorem Try.Builder_Extra_105 : Builder.Extra Try.prog Try.lays105_ren := {
  sizeBuilder := by kernel_rfl
  liesBuilder := by kernel_rfl
  t5 := Try.underlying5
  a5 := Try.isAgg5
  z5 := Try.sizeOf5
  v5 := Try.zeroValue5
  infoByte := by kernel_rfl
  cellsByte := by kernel_rfl
  sizeByte := by kernel_rfl
  neB5 := by decide }
end Go.Proofs
namespace Go.Dv.Try
open Go Go.Dv Go.RowKit

def repN (l : List UInt8) : Nat → List UInt8
  | 0 => []
  | c + 1 => l ++ repN l c
theorem repN_eq (l : List UInt8) : ∀ c, Lib.repeatL l c = repN l c
  | 0 => rfl
  | c + 1 => by simp only [Lib.repeatL, repN, repN_eq l c]

/-- What a function owes that turns nothing and gives one value without addresses. -/
theorem at_flat {P : Program} {f : FuncId} (R : List PV → PV → Prop) (hent : Enters P f) (hflat : ∀ ps x, R ps x → x.flat) (h : ∀ (w : World) (ok : Nat → Prop) (ps : List PV) (x : PV) (vs : Array Value), RdL ok w ps vs.toList → R ps x → Calls P f vs w fun e w' => ∃ v, e = .returned v ∧ Rd (fun _ => False) w' x v ∧ Below w.heap.size w w') : SoundAt P f (fnSpec R) := by
  refine ⟨fun e => ((fnSpec_ok R).1 e).2, fun _ => ⟨rfl, rfl⟩, ?_, fun _ _ _ _ _ _ _ _ h => (show False from h).elim, fun _ _ _ _ _ _ _ _ e => (by cases e)⟩
  rintro w ok ps vs K _ hok hrd ⟨x, hx, hK⟩
  refine ⟨hent, (h w ok ps x vs hrd hx).mono ?_⟩
  rintro e w' ⟨v, rfl, h1, h2⟩
  exact ⟨v, .pv x, [], rfl, hK, h2, by simp only [RR]; exact ⟨rd_flat (hflat ps x hx) h1, trivial⟩, by simp, fun i j u t b _ hu => by simp at hu⟩

def R_Repeat (ps : List PV) (x : PV) : Prop := ∃ (l : List UInt8) (c : Int), ps = [.str l, .int .i64 c] ∧ (0 ≤ c ∧ c ≤ 1000000 ∧ l.length ≤ 1000000) ∧ x = .str (repN l c.toNat)
theorem at_Repeat : SoundAt Go.Proofs.Try.prog n_strings_Repeat (fnSpec R_Repeat) := by
  refine at_flat R_Repeat (Go.Proofs.enters_of Go.Proofs.Try.lays105.f105 (by kernel_rfl) rfl) ?_ ?_
  · rintro ps x ⟨l, c, rfl, _, rfl⟩; trivial
  · rintro w ok ps x vs hrd ⟨l, c, rfl, ⟨h1, h2, h3⟩, rfl⟩
    simp only [RdL, Rd] at hrd
    obtain ⟨_, _, e, rfl, _, _, rfl, rfl, rfl⟩ := hrd
    have : vs = #[.string ⟨l.toArray⟩, .int .i64 c] := by rw [← Array.toList_inj]; exact e
    subst this
    have hb : l.length * c.toNat ≤ 1000000 * 1000000 := Nat.mul_le_mul h3 (by omega)
    have := Go.Proofs.Any.strings_Repeat Go.Proofs.Try.lays105 Go.Proofs.Try.Builder_Extra_105 ⟨l.toArray⟩ c.toNat w (by omega) (by show l.length * c.toNat ≤ _; omega)
    rw [show ((c.toNat : Nat) : Int) = c by omega] at this
    refine this.mono ?_
    rintro e w' ⟨rfl, h⟩
    exact ⟨_, rfl, by simp only [Rd, repN_eq], h⟩

/-! ### strings.Builder -/
def nilP : PV := .val (.pointer none)
/-- A builder: never written; or used, with its bytes. -/
def bld0 : Sto := [.box 98 [.pv nilP, .pv (.nil 1)]]
def bld1 (l : List UInt8) : Sto := [.box 98 [.ref 0 0 0, .own 1], .row 5 1 true (l.map byteP)]

def M_copyCheck (xs : List AV) (σ : Sto) (K : AV → Sto → Prop) : Prop :=
  xs = [.ref 0 0 0] ∧ ((σ = bld0 ∧ K (.tup []) [.box 98 [.ref 0 0 0, .pv (.nil 1)]]) ∨ ∃ l, σ = bld1 l ∧ K (.tup []) (bld1 l))

theorem enters_copyCheck : Enters Go.Proofs.Try.prog n_strings_Builder_copyCheck := Go.Proofs.enters_of Go.Proofs.Try.lays105.f240 (by kernel_rfl) rfl

theorem at_copyCheck : SoundAt Go.Proofs.Try.prog n_strings_Builder_copyCheck (mkM M_copyCheck) := by
  refine ⟨fun e => (by cases e), fun e => (by cases e), fun _ _ _ _ _ e => (by cases e), fun _ _ _ _ _ _ _ _ h => (show False from h).elim, ?_⟩
  rintro w ok hok σ0 vals0 xs vs K _ hrel hral ⟨rfl, hK⟩
  refine ⟨enters_copyCheck, ?_⟩
  simp only [RAL] at hral
  obtain ⟨v, _, hv, hra, rfl⟩ := hral
  have hvs : vs = #[v] := by rw [← Array.toList_inj]; exact hv
  subst hvs
  rcases hK with ⟨rfl, hK⟩ | ⟨l, rfl, hK⟩
  · have hl := hrel.len
    obtain ⟨u, rfl⟩ : ∃ u, vals0 = [u] := by
      cases vals0 with
      | nil => simp [bld0] at hl
      | cons u t => cases t with
        | nil => exact ⟨u, rfl⟩
        | cons _ _ => simp [bld0] at hl
    have hrb := hrel.sto 0 _ u rfl rfl
    obtain ⟨b, arr, rfl, hown, hb, h1, h2⟩ := hrb
    simp only [RA] at hra
    obtain ⟨_, _, _, hbox⟩ := hra
    obtain ⟨u, b', hu, hb', rfl⟩ := hbox 98 _ rfl
    simp at hu; subst hu; simp [blkOf] at hb'; subst hb'
    simp only [RAL, RA, Rd, nilP] at h2
    obtain ⟨x, r, e, ⟨rfl, _⟩, y, r2, rfl, rfl, rfl⟩ := h2
    have harr : arr = #[.pointer none, .slice none 0 0] := by rw [← Array.toList_inj]; exact e
    subst harr
    refine (Go.Proofs.Any.Builder_copyCheck_fresh { Go.Proofs.Try.lays105 with } Go.Proofs.Try.Builder_Extra_105.toX72 b w (by simp [World.cell?, hb]) (by simp [World.shape?, hb]; rfl) (by simp [World.frozen?, hb])).mono ?_
    rintro e w' ⟨rfl, rfl⟩
    have hne : ∀ k, k ≠ b → (w.setCell ⟨b, 0, none⟩ (.pointer (some ⟨b, 0, none⟩))).heap[k]? = w.heap[k]? := fun k hk => Below.heap_setCell _ _ _ _ hk
    have hnew : (w.setCell ⟨b, 0, none⟩ (.pointer (some ⟨b, 0, none⟩))).heap[b]? = some (.cells #[.pointer (some ⟨b, 0, none⟩), .slice none 0 0] 98 (0, 0)) := by
      simp [World.setCell, Array.getElem?_modify, hb]
    obtain ⟨h3, _⟩ := hrel.write (id := 0) (s := .box 98 [.pv nilP, .pv (.nil 1)]) (s' := .box 98 [.ref 0 0 0, .pv (.nil 1)]) (u := .pointer (some ⟨b, 0, none⟩)) (g := b) rfl rfl rfl trivial rfl rfl hne (by simp [World.setCell]) rfl rfl rfl
      (fun _ => ⟨b, _, rfl, hown, hnew, by simp [AV.one, PV.one], by
        simp only [RAL, RA, Rd]
        refine ⟨_, _, rfl, ⟨by simp [bld0], ⟨_, rfl⟩, fun e sz ap els h => by simp [bld0] at h, fun e cs h => ⟨_, b, rfl, rfl, rfl⟩⟩, _, _, rfl, rfl, rfl⟩⟩)
    exact ⟨_, _, _, _, rfl, hK, h3, by simp only [RA]; exact ⟨#[], rfl, by simp [RAL]⟩⟩
  · obtain ⟨u, t, rfl⟩ : ∃ u t, vals0 = [u, t] := by
      have hl := hrel.len
      match vals0, hl with
      | [u, t], _ => exact ⟨u, t, rfl⟩
    have hrb := hrel.sto 0 _ u rfl rfl
    obtain ⟨b, arr, rfl, hown, hb, h1, h2⟩ := hrb
    simp only [RA] at hra
    obtain ⟨_, _, _, hbox⟩ := hra
    obtain ⟨u, b', hu, hb', rfl⟩ := hbox 98 _ rfl
    simp at hu; subst hu; simp [blkOf] at hb'; subst hb'
    simp only [RAL, RA] at h2
    obtain ⟨x, r, e, ⟨_, _, _, hx⟩, y, r2, rfl, hy, rfl⟩ := h2
    obtain ⟨u, b', hu, hb', rfl⟩ := hx 98 _ rfl
    simp at hu; subst hu; simp [blkOf] at hb'; subst hb'
    have harr : arr = #[.pointer (some ⟨b, 0, none⟩), y] := by rw [← Array.toList_inj]; exact e
    subst harr
    refine (Go.Proofs.Any.Builder_copyCheck_used { Go.Proofs.Try.lays105 with } Go.Proofs.Try.Builder_Extra_105.toX72 b w (by simp [World.cell?, hb])).mono ?_
    rintro e w' ⟨rfl, rfl⟩
    exact ⟨_, _, _, _, rfl, hK, hrel, by simp only [RA]; exact ⟨#[], rfl, by simp [RAL]⟩⟩

open Go.Shelf Go.Proofs in
set_option maxHeartbeats 2000000 in
set_option maxRecDepth 100000 in
theorem string_run (b g cap : Nat) (q : Value) (cur : Array Value) (l : List UInt8) (w : World) (hbk : w.heap[b]? = some (.cells #[q, .slice (some ⟨g, 0, none⟩) l.length cap] 98 (0, 0))) (hg : w.heap[g]? = some (.cells cur 5 (0, 0))) (h0 : l ≠ []) (hnc : l.length ≤ cap) (hcm : cap ≤ maxLen) (hcs : cur.size = cap * 1)
    (htake : cur.toList.take (l.length * 1) = Lib.byteCells l) :
    Calls Go.Proofs.Try.prog 94 #[.pointer (some ⟨b, 0, none⟩)] w fun e w' => e = .returned (.string ⟨l.toArray⟩) ∧ (w'.os = w.os ∧ w'.tape = w.tape ∧ w'.output = w.output ∧ w'.heap.size = w.heap.size ∧ ∀ k, k ≠ g → w'.heap[k]? = w.heap[k]?) := by
  have hl0 : l.length ≠ 0 := by simpa using h0
  have L : Go.Proofs.Lays.n169 Go.Proofs.Try.prog Go.Proofs.Try.lays105_ren := { Go.Proofs.Try.lays105 with }
  have X := Go.Proofs.Try.Builder_Extra_105
  have hown : w.ownsRow 0 5 1 (.slice (some ⟨g, 0, none⟩) l.length cap) l.length (Lib.byteCells l) := ⟨by rw [Lib.byteCells_length, Nat.mul_one], .inr ⟨g, cap, cur, rfl, Nat.zero_le _, hg, hnc, hcm, hcs, htake⟩⟩
  have c1 : w.drew.cell? ⟨b, 1, none⟩ = some (.slice (some ⟨g, 0, none⟩) l.length cap) := by
    have : w.drew.heap[b]? = some (.cells #[q, .slice (some ⟨g, 0, none⟩) l.length cap] 98 (0, 0)) := hbk
    rw [Lib.cell_of_heap this]; rfl
  have hSD : (Builtin.unsafeSliceData_ #[(Go.Proofs.Try.lays105_ren.t 37)] (Go.Proofs.Try.lays105_ren.t 127) #[.slice (some ⟨g, 0, none⟩) l.length cap]).run Go.Proofs.Try.prog w.drew = .ok (.pointer (some ⟨g, 0, none⟩)) w.drew :=
    Lib.run_unsafeSliceData_row _ _ _ _ _ _ (by omega)
  have hUS : (Builtin.unsafeString_ #[(Go.Proofs.Try.lays105_ren.t 127), (Go.Proofs.Try.lays105_ren.t 3)] (Go.Proofs.Try.lays105_ren.t 9) #[.pointer (some ⟨g, 0, none⟩), .int .i64 l.length]).run Go.Proofs.Try.prog w.drew = .ok (.string ⟨l.toArray⟩) (w.drew.freeze ⟨g, 0, none⟩ l.length) := by
    refine Lib.run_unsafeString_row w.drew (Go.Proofs.Try.lays105_ren.t 127) (Go.Proofs.Try.lays105_ren.t 3) (Go.Proofs.Try.lays105_ren.t 9) (Go.Proofs.Try.lays105_ren.t 5) L.t127 X.cellsByte g cur.size (by have hg' : w.drew.heap[g]? = some (.cells cur 5 (0, 0)) := hg; simp [World.shape?, hg']; rfl) l h0 (by omega) (by unfold maxLen at hcm; omega) ?_
    intro j x hx
    have := hown.cells (g := g) rfl j (.int .u8 x.toNat) (by simp [Lib.byteCells, hx])
    exact this
  have mixed := L.mixed
  have t72 := L.t72; have a72 := L.a72; have z72 := L.z72; have v72 := L.v72; have u72 := run_underlying L.t72
  have t70 := L.t70; have a70 := L.a70; have z70 := L.z70; have v70 := L.v70; have u70 := run_underlying L.t70
  have t37 := L.t37; have a37 := L.a37; have z37 := L.z37; have v37 := L.v37; have u37 := run_underlying L.t37
  have t127 := L.t127; have a127 := L.a127; have z127 := L.z127; have v127 := L.v127; have u127 := run_underlying L.t127
  have t3 := L.t3; have a3 := L.a3; have z3 := L.z3; have v3 := L.v3; have u3 := run_underlying L.t3
  have t9 := L.t9; have a9 := L.a9; have z9 := L.z9; have v9 := L.v9; have u9 := run_underlying L.t9
  have t5 := X.t5; have a5 := X.a5; have z5 := X.z5; have v5 := X.v5; have u5 := run_underlying X.t5
  have fin : ∀ n, (w.drew.freeze ⟨g, 0, none⟩ n).os = w.os ∧ (w.drew.freeze ⟨g, 0, none⟩ n).tape = w.tape ∧ (w.drew.freeze ⟨g, 0, none⟩ n).output = w.output ∧ (w.drew.freeze ⟨g, 0, none⟩ n).heap.size = w.heap.size ∧ ∀ k, k ≠ g → (w.drew.freeze ⟨g, 0, none⟩ n).heap[k]? = w.heap[k]? := by
    intro n
    unfold World.freeze
    split
    · exact ⟨rfl, rfl, rfl, rfl, fun _ _ => rfl⟩
    · refine ⟨rfl, rfl, rfl, by simp, fun k hk => ?_⟩
      simp only [Array.getElem?_modify]
      rw [if_neg (fun e => hk e.symm)]; rfl
  go_enter L.f169, Body.n169_ntmps Go.Proofs.Try.lays105_ren
  go_wp2
  go_region_o
  all_goals (go_wp2; go_ret; exact ⟨rfl, fin _⟩)

def M_String (xs : List AV) (σ : Sto) (K : AV → Sto → Prop) : Prop :=
  xs = [.ref 0 0 0] ∧ ∃ l : List UInt8, l ≠ [] ∧ σ = bld1 l ∧ K (.pv (.str l)) [.dead, .dead]

theorem at_String : SoundAt Go.Proofs.Try.prog n_strings_Builder_String (mkM M_String) := by
  refine ⟨fun e => (by cases e), fun e => (by cases e), fun _ _ _ _ _ e => (by cases e), fun _ _ _ _ _ _ _ _ h => (show False from h).elim, ?_⟩
  rintro w ok hok σ0 vals0 xs vs K _ hrel hral ⟨rfl, l, h0, rfl, hK⟩
  refine ⟨Go.Proofs.enters_of Go.Proofs.Try.lays105.f169 (by kernel_rfl) rfl, ?_⟩
  simp only [RAL] at hral
  obtain ⟨v, _, hv, hra, rfl⟩ := hral
  have hvs : vs = #[v] := by rw [← Array.toList_inj]; exact hv
  subst hvs
  obtain ⟨u, t, rfl⟩ : ∃ u t, vals0 = [u, t] := by
    have hl := hrel.len
    match vals0, hl with
    | [u, t], _ => exact ⟨u, t, rfl⟩
  have hrb := hrel.sto 0 _ u rfl rfl
  obtain ⟨b, arr, rfl, hown, hb, h1, h2⟩ := hrb
  simp only [RA] at hra
  obtain ⟨_, _, _, hbox⟩ := hra
  obtain ⟨u, b', hu, hb', rfl⟩ := hbox 98 _ rfl
  simp at hu; subst hu; simp [blkOf] at hb'; subst hb'
  simp only [RAL, RA] at h2
  obtain ⟨x, r, e, ⟨_, _, _, hx⟩, y, r2, rfl, hy, rfl⟩ := h2
  obtain ⟨u, b', hu, hb', rfl⟩ := hx 98 _ rfl
  simp at hu; subst hu; simp [blkOf] at hb'; subst hb'
  simp at hy; subst hy
  have harr : arr = #[.pointer (some ⟨b, 0, none⟩), t] := by rw [← Array.toList_inj]; exact e
  subst harr
  have hrow := hrel.sto 1 _ t rfl rfl
  obtain ⟨_, cells, h3, h4, h5, h6⟩ := hrow
  have hcells : cells = Lib.byteCells l := by
    rw [flat_bytes, rdL_bytes] at h6; exact h6
  subst hcells
  rw [List.length_map] at h3
  rcases h3.2 with ⟨_, hz⟩ | ⟨g, cap, cur, fr, rfl, hog, hg, hnc, hcm, hcs, htake, hfr⟩
  · exact absurd (List.eq_nil_of_length_eq_zero hz) h0
  have hfr0 : fr = (0, 0) := by
    rcases hfr with h | ⟨h, _⟩
    · exact h
    · cases h
  subst hfr0
  refine (string_run b g cap _ cur l w hb hg h0 hnc hcm hcs htake).mono ?_
  rintro e w' ⟨rfl, ho, ht, hou, hsz, hsame⟩
  refine ⟨_, .pv (.str l), [.dead, .dead], [.pointer (some ⟨b, 0, none⟩), .slice (some ⟨g, 0, none⟩) l.length cap], rfl, hK, ?_, by simp only [RA, Rd]⟩
  have hnm : ∀ b2, ¬ Mut [Blk.dead, Blk.dead] [Value.pointer (some ⟨b, 0, none⟩), Value.slice (some ⟨g, 0, none⟩) l.length cap] b2 := by
    rintro b2 ⟨i, s, v, hi, hl, _⟩
    rcases i with _ | _ | i
    · cases hi; cases hl
    · cases hi; cases hl
    · simp at hi
  refine ⟨⟨ho, ht, hou, by rw [hsz]; exact Nat.le_refl _, fun k hk hno => hsame k (fun e => hno (e ▸ hog))⟩, hrel.one, rfl, fun i s v hi hv => ?_, fun i j s t u v b2 _ hi _ hl => ?_, ⟨by rw [hsz]; exact Nat.le_refl _, fun _ h => h.elim, fun b2 hm => absurd hm (hnm b2)⟩, ⟨fun i v h => h, by simp [mcx, bld1], fun i hi e sz ap els h => ?_, fun i hi e cs h => ?_⟩⟩
  · rcases i with _ | _ | i
    · cases hi; trivial
    · cases hi; trivial
    · simp at hi
  · rcases i with _ | _ | i
    · cases hi; cases hl
    · cases hi; cases hl
    · simp at hi
  · rcases i with _ | _ | i
    · cases h
    · cases h
    · simp at h
  · rcases i with _ | _ | i
    · cases h
    · cases h
    · simp at h
end Go.Dv.Try
end
section
/-
  Contracts of chapter 6: strings.Builder's methods, bytes of tokens.
-/
namespace Go.Dv.Try
open Go Go.Dv

/-- A builder that has been written once more. -/
def bld2 (l : List UInt8) : Sto := [.box 98 [.ref 0 0 0, .own 2], .dead, .row 5 1 true (l.map byteP)]
def nilI : PV := .val .nilIface

def M_WriteByte (xs : List AV) (σ : Sto) (K : AV → Sto → Prop) : Prop :=
  ∃ b : UInt8, xs = [.ref 0 0 0, .pv (byteP b)] ∧ ((σ = bld0 ∧ K (.pv nilI) (bld1 [b])) ∨ ∃ l : List UInt8, l.length ≤ 1000000 ∧ σ = bld1 l ∧ K (.pv nilI) (bld2 (l ++ [b])))
theorem meets_WriteByte : MeetsM (ctxOf [(n_strings_Builder_copyCheck, mkM M_copyCheck)]) s_strings_Builder_WriteByte c_strings_Builder_WriteByte r_strings_Builder_WriteByte (mkM M_WriteByte) := by
  rintro _ _ K ⟨b, rfl, ⟨rfl, hK⟩ | ⟨l, hl, rfl, hK⟩⟩
  · refine ⟨rfl, .inl ⟨rfl, ?_⟩⟩
    refine ⟨rfl, ?_⟩
    refine ⟨⟨by simp, by simp⟩, ?_⟩
    refine ⟨rfl, ?_⟩
    exact hK
  · refine ⟨rfl, .inr ⟨l, rfl, ?_⟩⟩
    refine ⟨rfl, ?_⟩
    refine ⟨⟨by rw [List.length_map]; show (l.length + 1) * 1 ≤ _; omega, by rw [List.length_map]; show l.length + 1 ≤ _; omega⟩, ?_⟩
    refine ⟨rfl, ?_⟩
    rw [show bld2 (l ++ [b]) = [.box 98 [.ref 0 0 0, .own 2], .dead, .row 5 1 true (l.map byteP ++ [byteP b])] by simp [bld2]] at hK
    exact hK

def M_WriteString (xs : List AV) (σ : Sto) (K : AV → Sto → Prop) : Prop :=
  ∃ s : List UInt8, xs = [.ref 0 0 0, .pv (.str s)] ∧ ∃ l : List UInt8, l.length ≤ 1000000 ∧ s.length ≤ 1000000 ∧ σ = bld1 l ∧ K (.tup [.pv (pI s.length), .pv nilI]) (bld2 (l ++ s))
theorem meets_WriteString : MeetsM (ctxOf [(n_strings_Builder_copyCheck, mkM M_copyCheck)]) s_strings_Builder_WriteString c_strings_Builder_WriteString r_strings_Builder_WriteString (mkM M_WriteString) := by
  rintro _ _ K ⟨s, rfl, l, hl, hs, rfl, hK⟩
  refine ⟨rfl, .inr ⟨l, rfl, ?_⟩⟩
  refine ⟨⟨by rw [List.length_map, List.length_map]; omega, by rw [List.length_map, List.length_map]; omega⟩, ?_⟩
  refine ⟨rfl, ?_⟩
  rw [show bld2 (l ++ s) = [.box 98 [.ref 0 0 0, .own 2], .dead, .row 5 1 true (l.map byteP ++ s.map byteP)] by simp [bld2]] at hK
  exact hK

def M_Len (xs : List AV) (σ : Sto) (K : AV → Sto → Prop) : Prop :=
  ∃ l : List UInt8, xs = [.ref 0 0 0] ∧ σ = bld1 l ∧ K (.pv (pI l.length)) (bld1 l)
theorem meets_Len : MeetsM (ctxOf []) s_strings_Builder_Len c_strings_Builder_Len r_strings_Builder_Len (mkM M_Len) := by
  rintro _ _ K ⟨l, rfl, rfl, hK⟩
  refine fun _ => ?_
  rw [List.length_map]
  exact hK
end Go.Dv.Try
end
section
/-
  Contracts of chapter 6: chunks.
-/
namespace Go.Dv.Try
open Go Go.Dv

theorem shl64 {x s : Int} (hx : 0 ≤ x) (hs : 0 ≤ s ∧ s ≤ 63) (h : x.toNat * 2 ^ s.toNat ≤ 9223372036854775807) : IntKind.i64.wrap (x * 2 ^ min s.toNat IntKind.i64.bits) = ((x.toNat * 2 ^ s.toNat : Nat) : Int) := by
  have hb : IntKind.i64.bits = 64 := rfl
  have : min s.toNat IntKind.i64.bits = s.toNat := by omega
  rw [this]
  have e : x * 2 ^ s.toNat = ((x.toNat * 2 ^ s.toNat : Nat) : Int) := by
    rw [Int.natCast_mul, Int.natCast_pow, show ((x.toNat : Nat) : Int) = x by omega]; rfl
  rw [e]
  exact wrap64 (by omega)

def R_tokenBytes (ps : List PV) (x : PV) : Prop := ∃ (t : Tok) (a : Nat), ps = [t.pv, pI a] ∧ TokOk t a ∧ x = .str (tokB t a)
theorem meets_tokenBytes : Meets (ctxOf [(n_compress_isCopy, fnSpec R_compress_isCopy), (n_compress_shift, fnSpec R_compress_shift), (n_compress_word, fnSpec R_word)]) s_compress_tokenBytes c_compress_tokenBytes r_compress_tokenBytes (fnSpec R_tokenBytes) := by
  rintro _ K ⟨_, ⟨t, a, rfl, ht, rfl⟩, hK⟩
  refine ⟨_, ⟨t, rfl, rfl⟩, ?_⟩
  refine fun b hb => ?_
  have ht' := ht
  unfold TokOk at ht'
  rcases cmp hb with ⟨rfl, h⟩ | ⟨rfl, h⟩
  · have hd : t.d = 0 := by
      unfold Tok.copy at h
      simpa using h
    rw [if_neg (by omega)] at ht'
    refine fun x hx => ?_
    rw [wrapU8] at hx
    refine ⟨rfl, ?_⟩
    refine ⟨tokB t a, ?_, ?_⟩
    · unfold tokB
      rw [if_neg (by omega), byteP_of (n := x) (by omega)]
      show [byteP (byteN x.toNat)] = [byteP (byteN t.b.toNat)]
      congr 3; omega
    exact ⟨.pv (.str _), rfl, trivial, hK⟩
  · have hd : t.d ≠ 0 := by
      intro e
      apply h
      unfold Tok.copy
      simp [e]
    rw [if_pos hd] at ht'
    have hc := code_lt ht hd
    have hs := shiftN_le (a := a) (by omega)
    have hs2 := shiftN_ge a
    refine ⟨by kernel_rfl, ?_⟩
    refine fun x hx => ?_
    obtain rfl := n64 hx (by omega)
    refine ⟨_, ⟨a, rfl, ⟨by omega, by omega⟩, rfl⟩, ?_⟩
    unfold shiftZ
    rw [Int.toNat_natCast]
    refine fun x hx => ?_
    obtain rfl := n64 hx (by omega)
    have es : (16 - (shiftN a : Int)).toNat = 16 - shiftN a := by omega
    have ed : (t.d - 1).toNat = t.d.toNat - 1 := by omega
    refine ⟨by omega, ?_⟩
    refine fun x hx => ?_
    rw [shl64 (by omega) (by omega) (by rw [es, ed]; omega), es, ed] at hx
    subst hx
    generalize hp : (t.d.toNat - 1) * 2 ^ (16 - shiftN a) = p at hc
    refine fun x hx => ?_
    obtain rfl := n64 hx (by omega)
    refine fun x hx => ?_
    obtain rfl := n64 hx (by omega)
    refine ⟨_, ⟨_, rfl, by omega, rfl⟩, ?_⟩
    refine ⟨.pv (.str _), ?_, trivial, hK⟩
    show PV.str (tokB t a) = PV.str (wordN _)
    unfold tokB
    rw [if_pos hd, hp]
    congr 2; omega

theorem toksOk_len : ∀ (l : List Tok) (a : Nat), ToksOk l a → l ≠ [] → a + l.length ≤ 4096 := by
  intro l
  induction l with
  | nil => intro a _ h; exact absurd rfl h
  | cons t l ih =>
    intro a h _
    obtain ⟨h1, h2⟩ := h
    have h3 := tok_made h1
    by_cases hl : l = []
    · subst hl; simp; omega
    · have := ih _ h2 hl
      simp only [List.length_cons]; omega

theorem tokB_len (t : Tok) (a : Nat) : 1 ≤ (tokB t a).length ∧ (tokB t a).length ≤ 2 := by
  unfold tokB wordN
  split <;> simp
theorem bytesT_len : ∀ (l : List Tok) (a : Nat), (bytesT l a).length ≤ 2 * l.length := by
  intro l
  induction l with
  | nil => intro a; simp [bytesT]
  | cons t l ih =>
    intro a
    have := ih (a + t.made.toNat)
    have h := tokB_len t a
    simp only [bytesT, List.length_append, List.length_cons]; omega
theorem bodyRun_len : ∀ (n : Nat) (l : List Tok) (a : Nat), (bodyRun n l a).length ≤ 3 * l.length := by
  intro n
  induction n with
  | zero => intro l a; simp [bodyRun]
  | succ n ih =>
    intro l a
    unfold bodyRun
    split
    · simp
    · rename_i hl
      have : 0 < l.length := List.length_pos_iff.2 hl
      have h1 := bytesT_len (l.take 8) a
      have h2 := ih (l.drop 8) (posT (l.take 8) a)
      simp only [List.length_cons, List.length_append]
      rw [List.length_take] at h1
      rw [List.length_drop] at h2
      omega

theorem bodyRun_same (l : List Tok) (a : Nat) : ∀ (j n : Nat), l.length ≤ n → bodyRun (n + j) l a = bodyRun n l a := by
  intro j
  induction j with
  | zero => intro n _; rfl
  | succ j ih => intro n hn; rw [← Nat.add_assoc, ← bodyRun_more (n + j) l a (by omega), ih n hn]

/-- The builder of a chunk: so many bytes. -/
def bldO (out : List UInt8) : Sto := match out with | [] => bld0 | _ => bld1 out

def S_chunk : Spec := mkS true false fun ps K => ∃ l : List Tok, ps = [.sl 3 (l.map Tok.pv)] ∧ (l ≠ [] ∧ ToksOk l 0) ∧
  (4096 < (bodyN l).length → K (.tup [.pv (.str []), .pv (pI 8)])) ∧ ((bodyN l).length ≤ 4096 → K (.tup [.pv (.str (headN (bodyN l).length true ++ bodyN l)), .pv (pI 0)]))
theorem cut_take {α : Type} (n : Nat) (l : List α) : cut 0 n l = l.take n := by simp [cut]
theorem cut_drop {α : Type} (n : Nat) (l : List α) : cut n l.length l = l.drop n := by simp [cut]

theorem meets_chunk : Meets (ctxOf [(n_compress_isCopy, fnSpec R_compress_isCopy), (n_compress_tokenBytes, fnSpec R_tokenBytes), (n_compress_made, fnSpec R_compress_made), (n_strings_Builder_WriteByte, mkM M_WriteByte), (n_strings_Builder_WriteString, mkM M_WriteString), (n_strings_Builder_Len, mkM M_Len), (n_strings_Builder_String, mkM M_String), (n_compress_head, fnSpec R_head)]) s_compress_chunk c_compress_chunk r_compress_chunk S_chunk := by
  rintro _ K ⟨l, rfl, ⟨hne, hok⟩, hK1, hK2⟩
  have hlen := toksOk_len l 0 hok hne
  have hbl := bodyRun_len l.length l 0
  refine ⟨fun m env σ => ∃ (out : List UInt8) (l' : List Tok) (a : Nat), (l'.length = m ∧ ToksOk l' a ∧ l'.length ≤ l.length ∧ bodyN l = out ++ bodyRun m l' a ∧ (l' = [] → out ≠ [])) ∧ σ = bldO out ∧ env = [(0, .pv (.sl 3 (l'.map Tok.pv))), (4, .ref 0 0 0), (5, .pv (pI a))], l.length, ⟨[], l, 0, ⟨rfl, hok, Nat.le_refl _, rfl, fun h => absurd h hne⟩, rfl, rfl⟩, ?_⟩
  rintro m env σ ⟨out, l', a, ⟨hm, hok', hle, hrun, hout⟩, rfl, rfl⟩
  have hol : out.length ≤ 3 * l.length := by
    have : (bodyN l).length = _ := congrArg List.length hrun
    unfold bodyN at this
    rw [List.length_append] at this; omega
  refine fun _ => ?_
  rw [List.length_map]
  refine fun b hb => ?_
  rcases cmp hb with ⟨rfl, h⟩ | ⟨rfl, h⟩
  · cases m with
    | zero => omega
    | succ m =>
    have hl' : l' ≠ [] := by intro e; subst e; simp at h
    refine fun _ => ?_
    rw [List.length_map]
    refine fun x hx => ?_
    have hx : x = ((min l'.length 8 : Nat) : Int) := by omega
    subst hx
    have e19 : cut 0 ((min l'.length 8 : Nat) : Int).toNat (l'.map Tok.pv) = (l'.take 8).map Tok.pv := by
      rw [Int.toNat_natCast, cut_take, ← List.map_take]
      congr 1
      rcases Nat.le_total l'.length 8 with h8 | h8
      · rw [Nat.min_eq_left h8, List.take_length, List.take_of_length_le h8]
      · rw [Nat.min_eq_right h8]
    have e0 : cut ((min l'.length 8 : Nat) : Int).toNat (l'.map Tok.pv).length (l'.map Tok.pv) = (l'.drop 8).map Tok.pv := by
      rw [Int.toNat_natCast, cut_drop, ← List.map_drop]
      congr 1
      rcases Nat.le_total l'.length 8 with h8 | h8
      · rw [Nat.min_eq_left h8, List.drop_length, List.drop_of_length_le h8]
      · rw [Nat.min_eq_right h8]
    obtain ⟨g, hgd⟩ : ∃ g, l'.take 8 = g := ⟨_, rfl⟩
    have hgl8 : g.length ≤ 8 := by rw [← hgd, List.length_take]; omega
    have hokg : ToksOk g a := by
      rw [← List.take_append_drop 8 l', toksOk_append, hgd] at hok'
      exact hok'.1
    rw [hgd] at e19
    refine ⟨⟨by omega, by rw [List.length_map]; omega⟩, ?_⟩
    refine fun _ => ?_
    cases out with
    | nil =>
      refine ⟨fun m2 env σ => ∃ g1 g2 : List Tok, (g1 ++ g2 = g ∧ g2.length = m2) ∧ σ = bldO [] ∧ env = [(0, .pv (.sl 3 (l'.map Tok.pv))), (4, .ref 0 0 0), (5, .pv (pI (posT g1 a))), (6, .pv (.int .u8 (signN 0 g1))), (7, .pv (.str (bytesT g1 a))), (8, .pv (pI (min l'.length 8 : Nat))), (19, .pv (.sl 3 (g.map Tok.pv))), (20, .pv (pI g.length)), (21, .pv (pI g1.length))], g.length, ⟨[], g, ⟨rfl, rfl⟩, rfl, ?_⟩, ?_⟩
      · show [(0, AV.pv (.sl 3 (l'.map Tok.pv))), (4, .ref 0 0 0), (5, .pv (pI a)), (6, .pv (.int .u8 0)), (7, .pv (.str [])), (8, .pv (pI (min l'.length 8 : Nat))), (19, .pv (.sl 3 (cut 0 ((min l'.length 8 : Nat) : Int).toNat (l'.map Tok.pv)))), (20, .pv (pI ((cut 0 ((min l'.length 8 : Nat) : Int).toNat (l'.map Tok.pv)).length : Nat))), (21, .pv (pI 0))] = _
        rw [e19, List.length_map]; rfl
      rintro m2 env σ ⟨g1, g2, ⟨hg, hm2⟩, rfl, rfl⟩
      have hgl : g1.length + g2.length = g.length := by rw [← hg, List.length_append]
      refine fun b hb => ?_
      rcases cmp hb with ⟨rfl, h2⟩ | ⟨rfl, h2⟩
      · cases g2 with
        | nil => simp at hgl; omega
        | cons t g2 =>
        simp only [List.length_cons] at hgl
        have hokt : TokOk t (posT g1 a) ∧ ToksOk g2 (posT g1 a + t.made.toNat) := by
          rw [← hg, toksOk_append] at hokg
          exact hokg.2
        have hmt := tok_made hokt.1
        have hbT := bytesT_len g1 a
        have htB := tokB_len t (posT g1 a)
        have hsg := signN_lt g1 0
        have hp8 : 2 ^ g1.length ≤ 2 ^ 7 := Nat.pow_le_pow_right (by omega) (by omega)
        have hp0 := Nat.two_pow_pos g1.length
        rw [Nat.zero_add] at hsg
        refine ⟨t.pv, ⟨by omega, by rw [Int.toNat_natCast, List.getElem?_map, ← hg, List.getElem?_append_right (Nat.le_refl _), Nat.sub_self]; rfl⟩, ?_⟩
        refine ⟨rfl, ?_⟩
        have next : ∀ x : Int, x = (posT g1 a : Int) + t.made → x = (posT (g1 ++ [t]) a : Nat) := by
          intro x hx
          rw [posT_append, hx]; simp only [posT]; omega
        cases hc : t.copy with
        | true =>
          have hd : t.d ≠ 0 := by unfold Tok.copy at hc; simpa using hc
          refine ⟨pB true, ⟨t, rfl, by rw [hc]⟩, ?_⟩
          refine ⟨by omega, ?_⟩
          refine fun x hx => ?_
          have hx : x = ((2 ^ g1.length : Nat) : Int) := by
            rw [hx]
            have e8 : min ((g1.length : Int)).toNat IntKind.u8.bits = g1.length := by
              have : IntKind.u8.bits = 8 := rfl
              omega
            rw [e8, Int.one_mul, show ((2 : Int) ^ g1.length) = ((2 ^ g1.length : Nat) : Int) by simp]
            exact wrap8n (by omega)
          subst hx
          refine fun x hx => ?_
          rw [or8 (by omega) (by omega), show 2 ^ g1.length = 2 ^ g1.length * 1 by omega, or_add (by omega)] at hx
          refine ⟨_, ⟨t, posT g1 a, rfl, hokt.1, rfl⟩, ?_⟩
          refine ⟨by omega, ?_⟩
          refine ⟨_, ⟨t, rfl, rfl⟩, ?_⟩
          refine fun y hy => ?_
          have hy := next y (n64 hy (by omega))
          subst hy
          refine fun z hz => ?_
          obtain rfl := n64 hz (by omega)
          refine ⟨g2.length, by simp at hm2; omega, g1 ++ [t], g2, ⟨by simp [hg], rfl⟩, rfl, ?_⟩
          have e6 : x = (signN 0 (g1 ++ [t]) : Nat) := by rw [hx, signN_append]; simp [signN, hd]
          have e7 : bytesT g1 a ++ tokB t (posT g1 a) = bytesT (g1 ++ [t]) a := by rw [bytesT_append]; simp [bytesT]
          have e21 : ((g1.length : Int) + 1) = ((g1 ++ [t]).length : Nat) := by simp
          rw [e6, e7, e21]
        | false =>
          have hd : ¬ t.d ≠ 0 := by unfold Tok.copy at hc; simpa using hc
          refine ⟨pB false, ⟨t, rfl, by rw [hc]⟩, ?_⟩
          refine ⟨_, ⟨t, posT g1 a, rfl, hokt.1, rfl⟩, ?_⟩
          refine ⟨by omega, ?_⟩
          refine ⟨_, ⟨t, rfl, rfl⟩, ?_⟩
          refine fun y hy => ?_
          have hy := next y (n64 hy (by omega))
          subst hy
          refine fun z hz => ?_
          obtain rfl := n64 hz (by omega)
          refine ⟨g2.length, by simp at hm2; omega, g1 ++ [t], g2, ⟨by simp [hg], rfl⟩, rfl, ?_⟩
          have e6 : signN 0 (g1 ++ [t]) = signN 0 g1 := by rw [signN_append]; simp [signN, hd]
          have e7 : bytesT g1 a ++ tokB t (posT g1 a) = bytesT (g1 ++ [t]) a := by rw [bytesT_append]; simp [bytesT]
          have e21 : ((g1.length : Int) + 1) = ((g1 ++ [t]).length : Nat) := by simp
          rw [e6, e7, e21]
      · have hg2 : g2 = [] := List.eq_nil_of_length_eq_zero (by omega)
        subst hg2
        rw [List.append_nil] at hg
        subst hg
        have hsg := signN_lt g1 0
        rw [Nat.zero_add] at hsg
        have hp8 : 2 ^ g1.length ≤ 2 ^ 8 := Nat.pow_le_pow_right (by omega) (by omega)
        have hbT := bytesT_len g1 a
        refine ⟨byteN (signN 0 g1), ?_, .inl ⟨rfl, ?_⟩⟩
        · rw [byteP_of (by omega), Int.toNat_natCast]
        refine ⟨bytesT g1 a, rfl, [] ++ [byteN (signN 0 g1)], by simp only [List.length_append, List.length_cons, List.length_nil] at hol ⊢; omega, by omega, rfl, ?_⟩
        refine ⟨⟨by omega, by rw [List.length_map]; omega⟩, ?_⟩
        refine ⟨(l'.drop 8).length, by rw [List.length_drop]; omega, ([] ++ [byteN (signN 0 g1)]) ++ bytesT g1 a, l'.drop 8, posT g1 a, ⟨rfl, ?_, by rw [List.length_drop]; omega, ?_, fun _ => by simp⟩, ?_, ?_⟩
        · rw [← List.take_append_drop 8 l', toksOk_append, hgd] at hok'
          exact hok'.2
        · rw [hrun]
          rw [bodyRun, if_neg hl', hgd]
          have e := bodyRun_same (l'.drop 8) (posT g1 a) (m - (l'.drop 8).length) (l'.drop 8).length (Nat.le_refl _)
          rw [Nat.add_sub_cancel' (by rw [List.length_drop]; omega)] at e
          rw [e]
          simp
        · rfl
        · show [(0, AV.pv (.sl 3 (cut ((min l'.length 8 : Nat) : Int).toNat (l'.map Tok.pv).length (l'.map Tok.pv)))), (4, .ref 0 0 0), (5, .pv (pI (posT g1 a)))] = _
          rw [e0]
    | cons o os =>
      refine ⟨fun m2 env σ => ∃ g1 g2 : List Tok, (g1 ++ g2 = g ∧ g2.length = m2) ∧ σ = bldO (o :: os) ∧ env = [(0, .pv (.sl 3 (l'.map Tok.pv))), (4, .ref 0 0 0), (5, .pv (pI (posT g1 a))), (6, .pv (.int .u8 (signN 0 g1))), (7, .pv (.str (bytesT g1 a))), (8, .pv (pI (min l'.length 8 : Nat))), (19, .pv (.sl 3 (g.map Tok.pv))), (20, .pv (pI g.length)), (21, .pv (pI g1.length))], g.length, ⟨[], g, ⟨rfl, rfl⟩, rfl, ?_⟩, ?_⟩
      · show [(0, AV.pv (.sl 3 (l'.map Tok.pv))), (4, .ref 0 0 0), (5, .pv (pI a)), (6, .pv (.int .u8 0)), (7, .pv (.str [])), (8, .pv (pI (min l'.length 8 : Nat))), (19, .pv (.sl 3 (cut 0 ((min l'.length 8 : Nat) : Int).toNat (l'.map Tok.pv)))), (20, .pv (pI ((cut 0 ((min l'.length 8 : Nat) : Int).toNat (l'.map Tok.pv)).length : Nat))), (21, .pv (pI 0))] = _
        rw [e19, List.length_map]; rfl
      rintro m2 env σ ⟨g1, g2, ⟨hg, hm2⟩, rfl, rfl⟩
      have hgl : g1.length + g2.length = g.length := by rw [← hg, List.length_append]
      refine fun b hb => ?_
      rcases cmp hb with ⟨rfl, h2⟩ | ⟨rfl, h2⟩
      · cases g2 with
        | nil => simp at hgl; omega
        | cons t g2 =>
        simp only [List.length_cons] at hgl
        have hokt : TokOk t (posT g1 a) ∧ ToksOk g2 (posT g1 a + t.made.toNat) := by
          rw [← hg, toksOk_append] at hokg
          exact hokg.2
        have hmt := tok_made hokt.1
        have hbT := bytesT_len g1 a
        have htB := tokB_len t (posT g1 a)
        have hsg := signN_lt g1 0
        have hp8 : 2 ^ g1.length ≤ 2 ^ 7 := Nat.pow_le_pow_right (by omega) (by omega)
        have hp0 := Nat.two_pow_pos g1.length
        rw [Nat.zero_add] at hsg
        refine ⟨t.pv, ⟨by omega, by rw [Int.toNat_natCast, List.getElem?_map, ← hg, List.getElem?_append_right (Nat.le_refl _), Nat.sub_self]; rfl⟩, ?_⟩
        refine ⟨rfl, ?_⟩
        have next : ∀ x : Int, x = (posT g1 a : Int) + t.made → x = (posT (g1 ++ [t]) a : Nat) := by
          intro x hx
          rw [posT_append, hx]; simp only [posT]; omega
        cases hc : t.copy with
        | true =>
          have hd : t.d ≠ 0 := by unfold Tok.copy at hc; simpa using hc
          refine ⟨pB true, ⟨t, rfl, by rw [hc]⟩, ?_⟩
          refine ⟨by omega, ?_⟩
          refine fun x hx => ?_
          have hx : x = ((2 ^ g1.length : Nat) : Int) := by
            rw [hx]
            have e8 : min ((g1.length : Int)).toNat IntKind.u8.bits = g1.length := by
              have : IntKind.u8.bits = 8 := rfl
              omega
            rw [e8, Int.one_mul, show ((2 : Int) ^ g1.length) = ((2 ^ g1.length : Nat) : Int) by simp]
            exact wrap8n (by omega)
          subst hx
          refine fun x hx => ?_
          rw [or8 (by omega) (by omega), show 2 ^ g1.length = 2 ^ g1.length * 1 by omega, or_add (by omega)] at hx
          refine ⟨_, ⟨t, posT g1 a, rfl, hokt.1, rfl⟩, ?_⟩
          refine ⟨by omega, ?_⟩
          refine ⟨_, ⟨t, rfl, rfl⟩, ?_⟩
          refine fun y hy => ?_
          have hy := next y (n64 hy (by omega))
          subst hy
          refine fun z hz => ?_
          obtain rfl := n64 hz (by omega)
          refine ⟨g2.length, by simp at hm2; omega, g1 ++ [t], g2, ⟨by simp [hg], rfl⟩, rfl, ?_⟩
          have e6 : x = (signN 0 (g1 ++ [t]) : Nat) := by rw [hx, signN_append]; simp [signN, hd]
          have e7 : bytesT g1 a ++ tokB t (posT g1 a) = bytesT (g1 ++ [t]) a := by rw [bytesT_append]; simp [bytesT]
          have e21 : ((g1.length : Int) + 1) = ((g1 ++ [t]).length : Nat) := by simp
          rw [e6, e7, e21]
        | false =>
          have hd : ¬ t.d ≠ 0 := by unfold Tok.copy at hc; simpa using hc
          refine ⟨pB false, ⟨t, rfl, by rw [hc]⟩, ?_⟩
          refine ⟨_, ⟨t, posT g1 a, rfl, hokt.1, rfl⟩, ?_⟩
          refine ⟨by omega, ?_⟩
          refine ⟨_, ⟨t, rfl, rfl⟩, ?_⟩
          refine fun y hy => ?_
          have hy := next y (n64 hy (by omega))
          subst hy
          refine fun z hz => ?_
          obtain rfl := n64 hz (by omega)
          refine ⟨g2.length, by simp at hm2; omega, g1 ++ [t], g2, ⟨by simp [hg], rfl⟩, rfl, ?_⟩
          have e6 : signN 0 (g1 ++ [t]) = signN 0 g1 := by rw [signN_append]; simp [signN, hd]
          have e7 : bytesT g1 a ++ tokB t (posT g1 a) = bytesT (g1 ++ [t]) a := by rw [bytesT_append]; simp [bytesT]
          have e21 : ((g1.length : Int) + 1) = ((g1 ++ [t]).length : Nat) := by simp
          rw [e6, e7, e21]
      · have hg2 : g2 = [] := List.eq_nil_of_length_eq_zero (by omega)
        subst hg2
        rw [List.append_nil] at hg
        subst hg
        have hsg := signN_lt g1 0
        rw [Nat.zero_add] at hsg
        have hp8 : 2 ^ g1.length ≤ 2 ^ 8 := Nat.pow_le_pow_right (by omega) (by omega)
        have hbT := bytesT_len g1 a
        refine ⟨byteN (signN 0 g1), ?_, .inr ⟨o :: os, by omega, rfl, ?_⟩⟩
        · rw [byteP_of (by omega), Int.toNat_natCast]
        refine ⟨bytesT g1 a, rfl, (o :: os) ++ [byteN (signN 0 g1)], by simp only [List.length_append, List.length_cons, List.length_nil] at hol ⊢; omega, by omega, rfl, ?_⟩
        refine ⟨⟨by omega, by rw [List.length_map]; omega⟩, ?_⟩
        refine ⟨(l'.drop 8).length, by rw [List.length_drop]; omega, ((o :: os) ++ [byteN (signN 0 g1)]) ++ bytesT g1 a, l'.drop 8, posT g1 a, ⟨rfl, ?_, by rw [List.length_drop]; omega, ?_, fun _ => by simp⟩, ?_, ?_⟩
        · rw [← List.take_append_drop 8 l', toksOk_append, hgd] at hok'
          exact hok'.2
        · rw [hrun]
          rw [bodyRun, if_neg hl', hgd]
          have e := bodyRun_same (l'.drop 8) (posT g1 a) (m - (l'.drop 8).length) (l'.drop 8).length (Nat.le_refl _)
          rw [Nat.add_sub_cancel' (by rw [List.length_drop]; omega)] at e
          rw [e]
          simp
        · rfl
        · show [(0, AV.pv (.sl 3 (cut ((min l'.length 8 : Nat) : Int).toNat (l'.map Tok.pv).length (l'.map Tok.pv)))), (4, .ref 0 0 0), (5, .pv (pI (posT g1 a)))] = _
          rw [e0]
  · have hl' : l' = [] := List.eq_nil_of_length_eq_zero (by omega)
    subst hl'
    have hb : bodyN l = out := by
      rw [hrun]
      cases m with
      | zero => simp [bodyRun]
      | succ m => simp [bodyRun]
    rw [hb] at hK1 hK2
    cases out with
    | nil => exact absurd rfl (hout rfl)
    | cons o os =>
      refine ⟨o :: os, rfl, rfl, ?_⟩
      refine fun b hb => ?_
      rcases cmp hb with ⟨rfl, h2⟩ | ⟨rfl, h2⟩
      · exact ⟨[.pv _, .pv _], ⟨rfl, rfl, trivial⟩, ⟨trivial, trivial, trivial⟩, hK1 (by omega)⟩
      · have h3 : (o :: os).length ≤ 4096 := by omega
        refine ⟨o :: os, rfl, rfl, ?_⟩
        refine ⟨_, ⟨_, true, rfl, by simp only [List.length_cons] at h3 ⊢; omega, rfl⟩, ?_⟩
        refine ⟨rfl, o :: os, by simp, rfl, ?_⟩
        rw [Int.toNat_natCast]
        refine ⟨by simp [headN, wordN] at h3 ⊢; omega, ?_⟩
        exact ⟨[.pv (.str _), .pv _], ⟨rfl, rfl, trivial⟩, ⟨trivial, trivial, trivial⟩, hK2 h3⟩
end Go.Dv.Try
end
section
/-
  Contracts of chapter 6: data encoded.
-/
namespace Go.Dv.Try
open Go Go.Dv

theorem opt_ok (d : List UInt8) (h : d.length ≤ 4096) : ∀ (m a : Nat), a + m = d.length → ToksOk (optRun d (costsN d) m a) a := by
  intro m
  induction m using Nat.strongRecOn with
  | _ m ih =>
    intro a hm
    cases m with
    | zero => trivial
    | succ m =>
      have hmade := optAt_made d a (by omega)
      rw [optRun_step d m a hm]
      refine ⟨⟨by omega, ?_⟩, ih _ (by omega) _ (by omega)⟩
      unfold optAt
      split
      · rename_i hne
        have h1 := opt_find d a (by omega) hne
        have h2 := near_pos d a _ (by omega) h1.2.1
        have h3 := bestN_le d a
        have h4 : roomN d a ≤ longN a := Nat.min_le_left _ _
        unfold copyN
        simp only
        rw [if_pos (by omega)]
        refine ⟨trivial, ?_, ?_, ?_, ?_, ?_⟩ <;> omega
      · unfold litN
        have hlt : a < d.length := by omega
        have := (d[a]?.getD 0).toNat_lt
        simp only [ne_eq, not_true_eq_false, if_false, true_and]
        omega
theorem opt_toks (d : List UInt8) (h : d.length ≤ 4096) : ToksOk (optN d) 0 := opt_ok d h d.length 0 (by omega)
theorem opt_ne (d : List UInt8) (h : 0 < d.length) : optN d ≠ [] := by
  unfold optN
  obtain ⟨m, hm⟩ : ∃ m, d.length = m + 1 := ⟨d.length - 1, by omega⟩
  rw [hm, optRun_step d m 0 (by omega)]
  simp

/-- Data encoded. -/
def encN (d : List UInt8) : List UInt8 :=
  if (bodyN (optN d)).length < d.length then headN (bodyN (optN d)).length true ++ bodyN (optN d) else headN d.length false ++ d

theorem headN_len (n : Nat) (b : Bool) : (headN n b).length = 2 := rfl

def S_Encode : Spec := mkS true false fun ps K => ∃ d : List UInt8, ps = [.str d] ∧ ((dErr d.length ≠ 0 → K (.tup [.pv (.str []), .pv (pI (dErr d.length))])) ∧ (dErr d.length = 0 → K (.tup [.pv (.str (encN d)), .pv (pI 0)])))
theorem meets_Encode : Meets (ctxOf [(n_compress_dataErr, fnSpec R_ref06_DataErr), (n_compress_head, fnSpec R_head), (n_compress_data_optimal, S_optimal), (n_compress_chunk, S_chunk)]) s_compress_Encode c_compress_Encode r_compress_Encode S_Encode := by
  rintro _ K ⟨d, rfl, hK1, hK2⟩
  refine ⟨_, ⟨d, rfl, rfl⟩, ?_⟩
  refine fun b hb => ?_
  rcases cmp hb with ⟨rfl, h⟩ | ⟨rfl, h⟩
  · exact ⟨[.pv (.str _), .pv _], ⟨rfl, rfl, trivial⟩, ⟨trivial, trivial, trivial⟩, hK1 h⟩
  have h0 := dErr_zero h
  have hK := hK2 h0.2.2
  refine ⟨_, ⟨_, false, rfl, by omega, rfl⟩, ?_⟩
  rw [Int.toNat_natCast]
  refine ⟨by rw [headN_len]; omega, ?_⟩
  refine ⟨d, rfl, h0.1, ?_⟩
  refine ⟨optN d, rfl, ⟨opt_ne d h0.2.1, opt_toks d h0.1⟩, ?_, ?_⟩
  · intro h4
    refine fun b hb => ?_
    rcases cmp hb with ⟨rfl, h5⟩ | ⟨rfl, h5⟩
    · cases h5
    · have e : encN d = headN d.length false ++ d := by unfold encN; rw [if_neg (by omega)]
      rw [e] at hK
      exact ⟨[.pv (.str _), .pv _], ⟨rfl, rfl, trivial⟩, ⟨trivial, trivial, trivial⟩, hK⟩
  · intro h4
    refine fun b hb => ?_
    rcases cmp hb with ⟨rfl, h5⟩ | ⟨rfl, h5⟩
    · refine fun b hb => ?_
      rw [List.length_append, List.length_append, headN_len, headN_len] at hb
      rcases cmp hb with ⟨rfl, h6⟩ | ⟨rfl, h6⟩
      · have e : encN d = headN (bodyN (optN d)).length true ++ bodyN (optN d) := by unfold encN; rw [if_pos (by omega)]
        rw [e] at hK
        exact ⟨[.pv (.str _), .pv _], ⟨rfl, rfl, trivial⟩, ⟨trivial, trivial, trivial⟩, hK⟩
      · have e : encN d = headN d.length false ++ d := by unfold encN; rw [if_neg (by omega)]
        rw [e] at hK
        exact ⟨[.pv (.str _), .pv _], ⟨rfl, rfl, trivial⟩, ⟨trivial, trivial, trivial⟩, hK⟩
    · exact absurd rfl h5

theorem meets_refHead : Meets (ctxOf [(n_base_Bit, fnSpec R_base_Bit), (n_base_Little, fnSpec R_Little)]) s_ref06_Head c_ref06_Head r_ref06_Head (fnSpec R_Head) := by
  rintro _ K ⟨_, ⟨n, b, rfl, h, rfl⟩, hK⟩
  refine ⟨_, ⟨b, rfl, rfl⟩, ?_⟩
  have hb : bitZ b = if b then 1 else 0 := by cases b <;> rfl
  have hb1 : bitZ b ≤ 1 ∧ 0 ≤ bitZ b := by cases b <;> decide
  refine fun x hx => ?_
  obtain rfl := n64 hx (by omega)
  refine fun x hx => ?_
  obtain rfl := n64 hx (by omega)
  refine fun x hx => ?_
  obtain rfl := n64 hx (by omega)
  refine fun x hx => ?_
  obtain rfl := n64 hx (by omega)
  refine ⟨_, ⟨_, 2, rfl, by omega, rfl⟩, ?_⟩
  refine ⟨.pv (.str _), ?_, trivial, hK⟩
  show PV.str (headN n.toNat b) = PV.str (wordN _)
  unfold headN
  congr 2
  rw [hb]
  cases b
  · simp only [Bool.false_eq_true, if_false]; omega
  · simp only [if_true]; omega
end Go.Dv.Try
end
section
/-
  Chapter 6: the examples hold; the first laws.
-/
namespace Go.Dv.Try
open Go Go.Dv

def d12 : List UInt8 := [97, 98, 99, 97, 98, 99, 97, 98, 99, 97, 98, 99]
def ab2 : List UInt8 := [97, 98]
def toks4 : List Tok := [⟨0, 0, 97⟩, ⟨0, 0, 98⟩, ⟨0, 0, 99⟩, ⟨3, 9, 0⟩]
theorem greedy12 : greedyN d12 = toks4 := by kernel_rfl
theorem enc12 : encN d12 = [5, 176, 8, 97, 98, 99, 6, 32] := by kernel_rfl
theorem enc2 : encN ab2 = [1, 48, 97, 98] := by kernel_rfl
theorem costs12 : costsN d12 = [44, 35, 26, 17, 17, 17, 17, 17, 17, 17, 18, 9, 0] := by kernel_rfl

def R_true0 (ps : List PV) (x : PV) : Prop := ps = [] ∧ x = pB true
theorem meets_awake : Meets (ctxOf [(n_compress_GreedyOf, S_GreedyOf), (n_compress_Encode, S_Encode), (n_compress_CostsOf, S_CostsOf), (n_ref06_SameTokens, fnSpec R_ref06_SameTokens), (n_base_Ints, fnSpec R_base_Ints)]) s_law06_awake c_law06_awake r_law06_awake (fnSpec R_true0) := by
  rintro _ K ⟨_, ⟨rfl, rfl⟩, hK⟩
  refine ⟨d12, rfl, fun h => absurd rfl h, fun _ => ?_⟩
  rw [greedy12]
  refine ⟨d12, rfl, fun h => absurd rfl h, fun _ => ?_⟩
  rw [enc12]
  refine ⟨d12, rfl, fun h => absurd rfl h, fun _ => ?_⟩
  rw [costs12]
  refine ⟨ab2, rfl, fun h => absurd rfl h, fun _ => ?_⟩
  rw [enc2]
  refine fun b hb => ?_
  rcases cmp hb with ⟨rfl, h⟩ | ⟨rfl, h⟩
  · refine ⟨rfl, ?_⟩
    refine ⟨rfl, ?_⟩
    refine ⟨rfl, ?_⟩
    refine ⟨rfl, ?_⟩
    refine ⟨rfl, ?_⟩
    refine ⟨rfl, ?_⟩
    refine ⟨pB true, ⟨toks4, toks4, rfl, by simp⟩, ?_⟩
    refine fun b hb => ?_
    rcases cmp hb with ⟨rfl, h⟩ | ⟨rfl, h⟩
    case inr => exact absurd rfl h
    refine fun b hb => ?_
    rcases cmp hb with ⟨rfl, h⟩ | ⟨rfl, h⟩
    case inr => exact absurd rfl h
    refine fun b hb => ?_
    rcases cmp hb with ⟨rfl, h⟩ | ⟨rfl, h⟩
    case inr => exact absurd rfl h
    refine ⟨rfl, ?_⟩
    refine ⟨pB true, ⟨[44, 35, 26, 17, 17, 17, 17, 17, 17, 17, 18, 9, 0], [44, 35, 26, 17, 17, 17, 17, 17, 17, 17, 18, 9, 0], rfl, by simp⟩, ?_⟩
    refine fun b hb => ?_
    rcases cmp hb with ⟨rfl, h⟩ | ⟨rfl, h⟩
    case inr => exact absurd rfl h
    refine fun b hb => ?_
    rcases cmp hb with ⟨rfl, h⟩ | ⟨rfl, h⟩
    case inr => exact absurd rfl h
    exact ⟨.pv (pB true), rfl, trivial, hK⟩
  · exact absurd rfl h
end Go.Dv.Try
end
section
/-
  Chapter 6: the first laws.
-/
namespace Go.Dv.Try
open Go Go.Dv

def S_ShiftAt : Spec := mkS true false fun ps K => ∃ a : Int, ps = [pI a] ∧ ((¬ (0 ≤ a ∧ a ≤ 4095) → K (.tup [.pv (pI 0), .pv (pI 2)])) ∧ ((0 ≤ a ∧ a ≤ 4095) → K (.tup [.pv (pI (shiftZ a)), .pv (pI 0)])))
theorem meets_ShiftAt : Meets (ctxOf [(n_compress_within, fnSpec R_compress_within), (n_compress_shift, fnSpec R_compress_shift)]) s_compress_ShiftAt c_compress_ShiftAt r_compress_ShiftAt S_ShiftAt := by
  rintro _ K ⟨a, rfl, hK1, hK2⟩
  refine ⟨_, ⟨_, _, _, rfl, rfl⟩, ?_⟩
  refine fun b hb => ?_
  rw [decide_eq_false_iff_not] at hb
  rcases cmp hb with ⟨rfl, h⟩ | ⟨rfl, h⟩
  · exact ⟨[.pv _, .pv _], ⟨rfl, rfl, trivial⟩, ⟨trivial, trivial, trivial⟩, hK1 h⟩
  · have h' : 0 ≤ a ∧ a ≤ 4095 := Decidable.of_not_not h
    refine ⟨_, ⟨a, rfl, by omega, rfl⟩, ?_⟩
    exact ⟨[.pv _, .pv _], ⟨rfl, rfl, trivial⟩, ⟨trivial, trivial, trivial⟩, hK2 h'⟩

def R_lawShifts (ps : List PV) (x : PV) : Prop := ∃ a : Int, ps = [pI a] ∧ x = pB true
theorem meets_lawShifts : Meets (ctxOf [(n_law06_awake, fnSpec R_true0), (n_compress_ShiftAt, S_ShiftAt), (n_base_Within, fnSpec R_compress_within), (n_ref06_Shift, fnSpec R_compress_shift)]) s_law06_CompressShifts c_law06_CompressShifts r_law06_CompressShifts (fnSpec R_lawShifts) := by
  rintro _ K ⟨_, ⟨a, rfl, rfl⟩, hK⟩
  refine ⟨_, ⟨rfl, rfl⟩, ?_⟩
  refine fun b hb => ?_
  rcases cmp hb with ⟨rfl, h⟩ | ⟨rfl, h⟩
  · cases h
  refine ⟨a, rfl, fun hn => ?_, fun hy => ?_⟩
  · refine ⟨pB false, ⟨_, _, _, rfl, pB_eq (by simpa using hn)⟩, ?_⟩
    refine fun b hb => ?_
    rcases cmp hb with ⟨rfl, h⟩ | ⟨rfl, h⟩
    case inr => exact absurd rfl h
    refine fun b hb => ?_
    rcases cmp hb with ⟨rfl, h⟩ | ⟨rfl, h⟩
    case inr => exact absurd rfl h
    refine fun b hb => ?_
    rcases cmp hb with ⟨rfl, h⟩ | ⟨rfl, h⟩
    case inr => exact absurd rfl h
    exact ⟨.pv (pB true), rfl, trivial, hK⟩
  · refine ⟨pB true, ⟨_, _, _, rfl, pB_eq (by simpa using hy)⟩, ?_⟩
    refine fun b hb => ?_
    rcases cmp hb with ⟨rfl, h⟩ | ⟨rfl, h⟩
    case inl => cases h
    refine fun b hb => ?_
    rcases cmp hb with ⟨rfl, h⟩ | ⟨rfl, h⟩
    case inr => exact absurd rfl h
    refine ⟨_, ⟨a, rfl, by omega, rfl⟩, ?_⟩
    refine fun b hb => ?_
    rcases cmp hb with ⟨rfl, h⟩ | ⟨rfl, h⟩
    case inr => exact absurd rfl h
    exact ⟨.pv (pB true), rfl, trivial, hK⟩

def R_lawD (ps : List PV) (x : PV) : Prop := ∃ d : List UInt8, ps = [.str d] ∧ x = pB true
theorem meets_lawGreedy : Meets (ctxOf [(n_law06_awake, fnSpec R_true0), (n_law06_few, fnSpec R_law06_few), (n_compress_GreedyOf, S_GreedyOf), (n_ref06_DataErr, fnSpec R_ref06_DataErr), (n_ref06_Greedy, S_ref06_Greedy), (n_ref06_SameTokens, fnSpec R_ref06_SameTokens)]) s_law06_CompressGreedy c_law06_CompressGreedy r_law06_CompressGreedy (fnSpec R_lawD) := by
  rintro _ K ⟨_, ⟨d, rfl, rfl⟩, hK⟩
  refine ⟨_, ⟨rfl, rfl⟩, ?_⟩
  refine fun b hb => ?_
  rcases cmp hb with ⟨rfl, h⟩ | ⟨rfl, h⟩
  · cases h
  refine ⟨_, ⟨d, rfl, rfl⟩, ?_⟩
  refine fun b hb => ?_
  rcases cmp hb with ⟨rfl, h⟩ | ⟨rfl, h⟩
  · exact ⟨.pv (pB true), rfl, trivial, hK⟩
  refine ⟨d, rfl, fun hn => ?_, fun hy => ?_⟩
  · refine ⟨_, ⟨d, rfl, rfl⟩, ?_⟩
    refine fun b hb => ?_
    rcases cmp hb with ⟨rfl, h⟩ | ⟨rfl, h⟩
    case inr => exact absurd hn h
    refine fun b hb => ?_
    rcases cmp hb with ⟨rfl, h⟩ | ⟨rfl, h⟩
    case inr => exact absurd rfl h
    refine fun _ => ?_
    refine fun b hb => ?_
    rcases cmp hb with ⟨rfl, h⟩ | ⟨rfl, h⟩
    case inr => exact absurd rfl h
    exact ⟨.pv (pB true), rfl, trivial, hK⟩
  · refine ⟨_, ⟨d, rfl, rfl⟩, ?_⟩
    refine fun b hb => ?_
    rcases cmp hb with ⟨rfl, h⟩ | ⟨rfl, h⟩
    case inl => exact absurd hy h
    refine fun b hb => ?_
    rcases cmp hb with ⟨rfl, h⟩ | ⟨rfl, h⟩
    case inr => exact absurd rfl h
    have h0 := dErr_zero (n := d.length) (by omega)
    refine ⟨d, rfl, h0.1, ?_⟩
    refine ⟨pB true, ⟨greedyN d, greedyN d, rfl, by simp⟩, ?_⟩
    exact ⟨.pv (pB true), rfl, trivial, hK⟩
end Go.Dv.Try
end
