/-
  FnModes returns true for all inputs and leaves its arguments as they were: no condition.
  The row's step is the kit's shell (proof-skeleton.mjs); the walk is by the interpreter of the texts before this one.
-/
import Derived.Test.YtkbpkocalmcphaaRows
import Derived.Test.YtkbpkocalmcphaaMz
import Derived.WalkKit
import Derived.ProofKit
import Derived.OpenShut
import Derived.ShutString
import Derived.ChangeOld
import Derived.Below
namespace Go.Proofs.Ytkbpkocalmcphaa.fnModes
open Go.ChangeShapes Go.WideShapes Go.ChangeAt Go.RowKit
open Go.ChangeMaps (open_string shut_string)
set_option linter.unusedVariables false
set_option maxRecDepth 100000

theorem own : ownKnob Try.prog.godebug = none := by kernel_rfl
theorem laidOut : laidOutB Try.prog = true := by kernel_rfl

theorem shape_lt {w : World} {b : Nat} {x : TypeId × Nat} (h : w.shape? b = some x) : b < w.heap.size := by
  unfold World.shape? at h
  rcases Nat.lt_or_ge b w.heap.size with hb | hb
  · exact hb
  · rw [Array.getElem?_eq_none hb] at h; cases h

/-- What is told of a slice of bytes that came in: it is nil; or it leads to a row of 'cap' cells, of which the first 'len' are its elements. -/
def IsRow (w : World) (a : Option Addr) (len cap : Nat) : Prop :=
  (a = none ∧ len = 0 ∧ cap = 0) ∨ ∃ (b o : Nat) (bs : List UInt8), a = some ⟨b, o, none⟩ ∧ len ≤ cap ∧ bs.length = len ∧ Go.Vc.Lies w b o bs

theorem isRow_of {w : World} {x : Addr} {len cap : Nat} {zs : List Int} (hs : x.spot = none) (hb : x.block < w.heap.size) (hl : len ≤ cap) (hz : zs.length = cap) (hcell : ∀ i, i < zs.length → w.cell? (x.add i) = some (.int .u8 (zs.getD i 0))) (hw : ∀ n ∈ zs, (Lit.int .u8 n).wf = true) : IsRow w (some x) len cap := by
  right
  obtain ⟨b, o, spot⟩ := x
  cases hs
  refine ⟨b, o, (zs.take len).map fun n => UInt8.ofNat n.toNat, rfl, hl, by simp; omega, hb, fun i y hy => ?_⟩
  simp only [List.getElem?_map, Option.map_eq_some_iff] at hy
  obtain ⟨n, hn, rfl⟩ := hy
  rw [List.getElem?_take] at hn
  split at hn
  · rename_i hi
    have hlt : i < zs.length := (List.getElem?_eq_some_iff.1 hn).1
    have h1 := hcell i hlt
    have h2 : zs.getD i 0 = n := by simp [List.getD, hn]
    rw [h2] at h1
    have h3 := hw n (List.mem_of_getElem? hn)
    have h4 : 0 ≤ n ∧ n ≤ 255 := by
      simpa [Lit.wf, IntKind.min, IntKind.max, IntKind.bits, IntKind.signed] using h3
    have h5 : ((UInt8.ofNat n.toNat).toNat : Int) = n := by
      rw [UInt8.toNat_ofNat']
      omega
    rw [h5]
    by_cases hi0 : i = 0
    · subst hi0; simpa [Addr.add] using h1
    · simpa [Addr.add, hi0] using h1
  · cases hn

theorem walk (a0 : Option Addr) (len0 cap0 : Nat) (a1 : Option Addr) (len1 cap1 : Nat) (w : World) (w0 : IsRow w a0 len0 cap0) (w1 : IsRow w a1 len1 cap1) :
    Calls Try.prog 8 #[.slice a0 len0 cap0, .slice a1 len1 cap1] w fun e w' => e = .returned (.bool true) ∧ Below w.heap.size w w' := by
  have fin : ∀ {a b : Go.Vc.AV} {H : Go.Vc.Hp} {β : Go.Vc.Map}, Go.Vc.CallsTo Try.prog 8 [a, b] H (.b true) H → (∀ bl ∈ H, bl.ro = true) → Go.Vc.HR Try.prog β H w → Go.Vc.VR β a (.slice a0 len0 cap0) → Go.Vc.VR β b (.slice a1 len1 cap1) →
      Calls Try.prog 8 #[.slice a0 len0 cap0, .slice a1 len1 cap1] w fun e w' => e = .returned (.bool true) ∧ Below w.heap.size w w' := by
    intro a b H β hc hro hH h0 h1
    refine (Go.Vc.calls_of Go.Vc.jAt8 (by kernel_rfl) (by kernel_rfl) hc hro hH (vs := #[.slice a0 len0 cap0, .slice a1 len1 cap1]) (.cons _ _ _ _ h0 (.cons _ _ _ _ h1 .nil))).mono fun e w' ⟨⟨β', v, he, hv⟩, hb⟩ => ?_
    cases hv
    exact ⟨he, hb⟩
  rcases w0 with ⟨rfl, rfl, rfl⟩ | ⟨b0, o0, bs0, rfl, hl0, rfl, hL0⟩
  · rcases w1 with ⟨rfl, rfl, rfl⟩ | ⟨b1, o1, bs1, rfl, hl1, rfl, hL1⟩
    · refine fin (β := fun _ => none) Go.Vc.law_nil (fun _ h => by cases h) ⟨fun _ _ => rfl, fun k bl h => by simp at h, fun k k' bl bl' pl pl' h => by simp at h⟩ .ns .ns
    · refine fin (Go.Vc.law (bs0 := []) (bs1 := bs1) .nil (.sl (.ex cap1))) (by simp) (Go.Vc.lies_HR (b0 := b1) (o0 := o1) ⟨hL1.lt, fun i x h => by simp at h⟩ hL1) .ns (.sl 1 0 _ _ _ ⟨b1, o1, 0⟩ _ rfl rfl hl1 (.inl rfl))
  · rcases w1 with ⟨rfl, rfl, rfl⟩ | ⟨b1, o1, bs1, rfl, hl1, rfl, hL1⟩
    · refine fin (Go.Vc.law (bs0 := bs0) (bs1 := []) (.sl (.ex cap0)) .nil) (by simp) (Go.Vc.lies_HR (b1 := b0) (o1 := o0) hL0 ⟨hL0.lt, fun i x h => by simp at h⟩) (.sl 0 0 _ _ _ ⟨b0, o0, 0⟩ _ rfl rfl hl0 (.inl rfl)) .ns
    · refine fin (Go.Vc.law (bs0 := bs0) (bs1 := bs1) (.sl (.ex cap0)) (.sl (.ex cap1))) (by simp) (Go.Vc.lies_HR hL0 hL1) (.sl 0 0 _ _ _ ⟨b0, o0, 0⟩ _ rfl rfl hl0 (.inl rfl)) (.sl 1 0 _ _ _ ⟨b1, o1, 0⟩ _ rfl rfl hl1 (.inl rfl))

/-! ### THE ROW's STEP: WRITTEN OUT: LEAVE IT -/
set_option maxRecDepth 100000 in
theorem lifted (os : Os) (started : os.Started) (H : Type) (enc : TypeId × Value → H) :
    ReturnsInHanded {} Try.checked os 8 .any (Rows.fnModesSpec.pre6 enc Try.prog Try.f8 Rows.fnModesRow.domain false) (Rows.fnModesSpec.post enc Try.prog Try.f8 false true false false) := by
  refine returnsInHanded_of_change (C := Try.checked) own started (by kernel_rfl) Try.func8
    (ChangeSpec.witness6 (enc := enc) (C := Try.checked) false ⟨#[], #[.slice none 0 0, .slice none 0 0], []⟩ 8 (by kernel_rfl) (by kernel_rfl) (by kernel_rfl) (by kernel_rfl)) ?_
  intro W base args ds gs before hval0 hW hcnd _
  have hval : ∀ (j : Nat) t v, Try.f8.params[j]? = some t → args[j]? = some v → Value.okWide Try.prog W .any base t v := hval0
  have hW' := hW
  obtain ⟨p, q, hA0, hV, rfl, hfz, hnd⟩ := hW
  have hA : DataW.TrodAll enc Try.prog W 0 (fun _ => true) true Try.f8.params.toList args.toList ds p := hA0
  rw [Try.params8] at hA hval
  obtain ⟨v0, vs0, d0, ds0, p0, q0, hargs, rfl, rfl, h0, r0⟩ := trodAll_cons hA
  obtain ⟨v1, vs1, d1, ds1, p1, q1, rfl, rfl, rfl, h1, r1⟩ := trodAll_cons r0
  obtain ⟨rfl, rfl, rfl⟩ := trodAll_nil r1
  obtain rfl : args = #[v0, v1] := by cases args; simp_all
  obtain ⟨rfl, rfl⟩ := trodVars_none hV
  obtain ⟨a0, len0, cap0, rfl⟩ := okWide_slice Try.underlying22 (hval 0 22 v0 rfl rfl)
  have k0 := h0
  have lt0 : ∀ x ∈ p0, x.block < W.heap.size := by obtain ⟨m, hm⟩ := k0; exact DataW.trod_lt m _ _ _ hm
  have w0 : IsRow W a0 len0 cap0 := by
    obtain ⟨fuel, hf⟩ := h0
    rcases open_ints Try.underlying22 Try.underlying5 (by kernel_rfl) hf with ⟨hcs, _⟩ | ⟨x, l, c, zs, hcs, _, hl, hm, hz, _, hcell, hwz⟩
    · simp [Value.cells] at hcs
      obtain ⟨rfl, rfl, rfl⟩ := hcs
      exact .inl ⟨rfl, rfl, rfl⟩
    · simp [Value.cells] at hcs
      obtain ⟨rfl, rfl, rfl⟩ := hcs
      have ok := hval 0 22 (.slice (some x) len0 cap0) rfl rfl
      have ok' : len0 ≤ cap0 ∧ (cap0 : Int) ≤ IntKind.i64.max ∧ World.has Try.prog W .any base x 5 cap0 := by simpa only [Value.okWide, Try.underlying22, Cell.okWide, Cell.ok] using ok
      obtain ⟨-, -, -, hspot, row, cells, hsh, -⟩ := ok'
      exact isRow_of hspot (shape_lt hsh) hl (by simpa using hz) hcell hwz
  obtain ⟨a1, len1, cap1, rfl⟩ := okWide_slice Try.underlying22 (hval 1 22 v1 rfl rfl)
  have k1 := h1
  have lt1 : ∀ x ∈ p1, x.block < W.heap.size := by obtain ⟨m, hm⟩ := k1; exact DataW.trod_lt m _ _ _ hm
  have w1 : IsRow W a1 len1 cap1 := by
    obtain ⟨fuel, hf⟩ := h1
    rcases open_ints Try.underlying22 Try.underlying5 (by kernel_rfl) hf with ⟨hcs, _⟩ | ⟨x, l, c, zs, hcs, _, hl, hm, hz, _, hcell, hwz⟩
    · simp [Value.cells] at hcs
      obtain ⟨rfl, rfl, rfl⟩ := hcs
      exact .inl ⟨rfl, rfl, rfl⟩
    · simp [Value.cells] at hcs
      obtain ⟨rfl, rfl, rfl⟩ := hcs
      have ok := hval 1 22 (.slice (some x) len1 cap1) rfl rfl
      have ok' : len1 ≤ cap1 ∧ (cap1 : Int) ≤ IntKind.i64.max ∧ World.has Try.prog W .any base x 5 cap1 := by simpa only [Value.okWide, Try.underlying22, Cell.okWide, Cell.ok] using ok
      obtain ⟨-, -, -, hspot, row, cells, hsh, -⟩ := ok'
      exact isRow_of hspot (shape_lt hsh) hl (by simpa using hz) hcell hwz
  clear hA0 hval0
  refine (walk a0 len0 cap0 a1 len1 cap1 W w0 w1).mono fun e W' ⟨he, bel⟩ => ?_
  subst he
  exact ⟨_, rfl, _, _, _, [], _, [], hW', trodAll_mk1 (shut_bool Try.underlying4 _), (trodAll_cons_mk (Below.trod laidOut (by kernel_rfl) (of_decide_eq_true (by kernel_rfl)) k0 bel lt0) (trodAll_cons_mk (Below.trod laidOut (by kernel_rfl) (of_decide_eq_true (by kernel_rfl)) k1 bel lt1) trodAll_mk0)), rfl, bel.frame _, fun h => by cases h⟩

theorem over : Rows.fnModesRow.holds Try.pinned (OpenSpec.ofChange Rows.fnModesSpec) :=
  OpenClaim.holds_of_wide 8 Try.f8 rfl rfl rfl rfl rfl rfl rfl ⟨rfl, rfl, rfl, rfl, rfl⟩ rfl rfl rfl rfl rfl (by kernel_rfl) Try.func8 (by kernel_rfl)
    (of_decide_eq_true (by kernel_rfl)) (by unfold Func.isWrapper; first | (rw [if_pos (by decide +kernel)]; kernel_rfl) | (rw [if_neg (by decide +kernel)]; exact ⟨rfl, rfl⟩))
    (fun os started H enc _ => lifted os started H enc)

/-- ████ THE STATEMENT ████ -/
theorem proved : Rows.FnModesSaid := over
#print axioms proved
end Go.Proofs.Ytkbpkocalmcphaa.fnModes
