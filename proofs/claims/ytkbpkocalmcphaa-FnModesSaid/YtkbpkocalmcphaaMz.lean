/- FnModes: what is known of the three calls at its head, whatever bytes came in. -/
import Derived.Test.YtkbpkocalmcphaaA6
import Derived.Test.YtkbpkocalmcphaaMg44
import Derived.Test.YtkbpkocalmcphaaMg45
import Derived.Test.YtkbpkocalmcphaaMg46
import Derived.Test.YtkbpkocalmcphaaMg54
import Derived.Test.YtkbpkocalmcphaaMg55
import Derived.Test.YtkbpkocalmcphaaMg56
import Derived.Test.YtkbpkocalmcphaaMg64
import Derived.Test.YtkbpkocalmcphaaMg65
import Derived.Test.YtkbpkocalmcphaaMg66
import Derived.Test.YtkbpkocalmcphaaMg74
import Derived.Test.YtkbpkocalmcphaaMg75
import Derived.Test.YtkbpkocalmcphaaMg76
set_option linter.unusedVariables false
set_option maxRecDepth 100000
set_option maxHeartbeats 4000000
namespace Go.Vc
open Go Go.Proofs

theorem n_long : CallsTo Try.prog 23 [.ns, .ns] [] (.b false) [] := kTop_to (fuel := 64) (d := 12) mixes mtt_ok e23 (show kTop mtt 64 12 j23 [.ns, .ns] [] = some (.b false, none) by kernel_rfl)
theorem n_grid : CallsTo Try.prog 36 [.ns] [] (.ag [.i .i64 (spW []), .i .i64 (spH [])]) [] := c_R8Grid_n rfl rfl
theorem n_w : spW [] = 7 := by kernel_rfl
theorem n_h : spH [] = 5 := by kernel_rfl
theorem n_at : CallsTo Try.prog 32 [.ns, .i .i64 0, .i .i64 16] [] (.i .i64 0) [] := kTop_to (fuel := 64) (d := 12) mixes mtt_ok e32 (show kTop mtt 64 12 j32 [.ns, .i .i64 0, .i .i64 16] [] = some (.i .i64 0, none) by kernel_rfl)

/-- A slice of bytes as an argument: none, or that of block k. -/
inductive Bs (k : Nat) (bs : List UInt8) : AV → Prop
  | nil : Bs k bs .ns
  | sl (cap : Cap) : Bs k bs (.sl k 0 bs.length cap)

theorem spAt_range (bs : List UInt8) : 0 ≤ spAt bs 0 16 ∧ spAt bs 0 16 < 16 := by
  unfold spAt
  rw [if_neg (by decide)]
  split
  · omega
  · rw [Int.tmod_eq_emod_of_nonneg (by omega)]
    exact ⟨Int.emod_nonneg _ (by omega), Int.emod_lt_of_pos _ (by omega)⟩

theorem k_long {bs0 bs1 : List UInt8} {a0 a1 : AV} (h0 : Bs 0 bs0 a0) (h1 : Bs 1 bs1 a1) : ∃ lg, Known Try.prog 23 [a0, a1] (.b lg) [⟨5, true, byteCells bs0⟩, ⟨5, true, byteCells bs1⟩] := by
  have f0 := flats_bytes bs0
  have f1 := flats_bytes bs1
  cases h0 with
  | nil =>
    cases h1 with
    | nil => exact ⟨_, known_of n_long [] trivial rfl rfl⟩
    | sl c1 => exact ⟨_, known_of (c_r8Long_ns 0 bs1.length c1 ⟨5, true, byteCells bs1⟩ f1) [1] ⟨⟨_, rfl, rfl, rfl⟩, rfl, f1, trivial⟩ rfl rfl⟩
  | sl c0 =>
    cases h1 with
    | nil => exact ⟨_, known_of (c_r8Long_sn 0 bs0.length c0 ⟨5, true, byteCells bs0⟩ f0) [0] ⟨⟨_, rfl, rfl, rfl⟩, rfl, f0, trivial⟩ rfl rfl⟩
    | sl c1 => exact ⟨_, known_of (c_r8Long 0 0 bs0.length bs1.length c0 c1 ⟨5, true, byteCells bs0⟩ ⟨5, true, byteCells bs1⟩ ⟨f0, f1⟩) [0, 1] ⟨⟨_, rfl, rfl, rfl⟩, rfl, f0, ⟨_, rfl, rfl, rfl⟩, rfl, f1, trivial⟩ rfl rfl⟩

theorem k_grid {bs0 bs1 : List UInt8} {a0 : AV} (h0 : Bs 0 bs0 a0) : ∃ w h : Int, (4 ≤ w ∧ w ≤ 7) ∧ (4 ≤ h ∧ h ≤ 6) ∧ Known Try.prog 36 [a0] (.ag [.i .i64 w, .i .i64 h]) [⟨5, true, byteCells bs0⟩, ⟨5, true, byteCells bs1⟩] := by
  have f0 := flats_bytes bs0
  cases h0 with
  | nil => exact ⟨_, _, spW_range [], spH_range [], known_of n_grid [] trivial rfl rfl⟩
  | sl c0 => exact ⟨_, _, spW_range bs0, spH_range bs0, known_of (c_R8Grid bs0 c0 rfl rfl) [0] ⟨⟨_, rfl, rfl, rfl⟩, rfl, f0, trivial⟩ rfl rfl⟩

theorem k_at {bs0 bs1 : List UInt8} {a1 : AV} (h1 : Bs 1 bs1 a1) : ∃ k : Int, (0 ≤ k ∧ k < 16) ∧ ∀ b : Blk, Known Try.prog 32 [a1, .i .i64 0, .i .i64 16] (.i .i64 k) [⟨5, true, byteCells bs0⟩, ⟨5, true, byteCells bs1⟩, b] := by
  have f1 := flats_bytes bs1
  cases h1 with
  | nil => exact ⟨0, by omega, fun b => known_of n_at [] trivial rfl rfl⟩
  | sl c1 => exact ⟨_, spAt_range bs1, fun b => known_of (c_r8At bs1 true c1 0 16 (by omega)) [1] ⟨⟨_, rfl, rfl, rfl⟩, rfl, f1, trivial⟩ rfl rfl⟩

/-- The tail at a grid and a turn. -/
def TailOk (w h k : Int) : Prop := ∃ tab, TabOk Try.prog tab ∧ ∀ (a0 a1 : AV) (c0 c1 : List AV), kTail tab 64 12 jt8 [.tmp (pth 4)] 2 [a0, a1] (lawL a0 a1 false w h k) [⟨5, true, c0⟩, ⟨5, true, c1⟩, ⟨62, false, [.i .i64 w, .i .i64 h]⟩] = some (.b true, none)

theorem law_of (all : ∀ w h k : Int, 4 ≤ w ∧ w ≤ 7 → 4 ≤ h ∧ h ≤ 6 → 0 ≤ k ∧ k < 16 → TailOk w h k) {bs0 bs1 : List UInt8} {a0 a1 : AV} (h0 : Bs 0 bs0 a0) (h1 : Bs 1 bs1 a1) :
    CallsTo Try.prog 8 [a0, a1] [⟨5, true, byteCells bs0⟩, ⟨5, true, byteCells bs1⟩] (.b true) [⟨5, true, byteCells bs0⟩, ⟨5, true, byteCells bs1⟩] := by
  obtain ⟨lg, hL⟩ := k_long h0 h1
  obtain ⟨w, h, hw, hh, hG⟩ := k_grid (bs1 := bs1) h0
  obtain ⟨k, hk, hA⟩ := k_at (bs0 := bs0) h1
  obtain ⟨tab, ht, hT⟩ := all w h k hw hh hk
  exact c_FnModes (flats_bytes bs0) (flats_bytes bs1) hL hG (hA _) ht (fun e => by subst e; exact hT a0 a1 _ _)

/-! ### bytes in memory -/
/-- At a place of a block bytes lie. -/
structure Lies (w : World) (b o : Nat) (bs : List UInt8) : Prop where
  lt : b < w.heap.size
  cell : ∀ (i : Nat) (x : UInt8), bs[i]? = some x → w.cell? ⟨b, o + i, none⟩ = some (.int .u8 x.toNat)

def two (b0 o0 b1 o1 : Nat) : Map := fun k => if k = 0 then some ⟨b0, o0, 0⟩ else if k = 1 then some ⟨b1, o1, 0⟩ else none

theorem lies_BR {w : World} {b o : Nat} {bs : List UInt8} (h : Lies w b o bs) (β : Map) : BR Try.prog β w ⟨b, o, 0⟩ ⟨5, true, byteCells bs⟩ := by
  refine ⟨fun i x hx => ?_, h.lt, fun e => by cases e⟩
  simp only [byteCells, List.getElem?_map, Option.map_eq_some_iff] at hx
  obtain ⟨y, hy, rfl⟩ := hx
  exact ⟨_, h.cell i y hy, .i _ _⟩

theorem lies_HR {w : World} {b0 o0 b1 o1 : Nat} {bs0 bs1 : List UInt8} (h0 : Lies w b0 o0 bs0) (h1 : Lies w b1 o1 bs1) : HR Try.prog (two b0 o0 b1 o1) [⟨5, true, byteCells bs0⟩, ⟨5, true, byteCells bs1⟩] w := by
  refine ⟨fun k hk => ?_, fun k bl hk => ?_, fun k k' bl bl' pl pl' hk hk' hne hro _ _ _ => ?_⟩
  · simp at hk
    unfold two; rw [if_neg (by omega), if_neg (by omega)]
  · match k with
    | 0 => simp at hk; subst hk; exact ⟨_, rfl, lies_BR h0 _⟩
    | 1 => simp at hk; subst hk; exact ⟨_, rfl, lies_BR h1 _⟩
    | k + 2 => simp at hk
  · match k with
    | 0 => simp at hk; subst hk; cases hro
    | 1 => simp at hk; subst hk; cases hro
    | k + 2 => simp at hk

theorem calls_of {f : FuncId} {fn : Func} {args : List AV} {H : Hp} {r : AV} (hf : Try.prog.funcs[f]? = some fn) (hname : (fn.name == "runtime.NumGoroutine") = false) (hb : fn.body.isSome = true) (h : CallsTo Try.prog f args H r H) (hro : ∀ b ∈ H, b.ro = true)
    {β : Map} {w : World} {vs : Array Value} (hH : HR Try.prog β H w) (hv : VRs β args vs.toList) : Calls Try.prog f vs w fun e w' => (∃ β' v, e = .returned v ∧ VR β' r v) ∧ Go.RowKit.Below w.heap.size w w' := by
  have := h β w vs hH hv
  have h1 : fn.name ≠ "runtime.NumGoroutine" := by simpa using hname
  obtain ⟨c, hc⟩ := Option.isSome_iff_exists.1 hb
  have e : (callFunc f vs).run Try.prog w = .ok (.enter f vs) w := by simp [callFunc, hf, h1, hc]
  unfold Invokes at this
  rw [e] at this
  exact Calls.mono this fun e w' hp => by
    obtain ⟨β', v, h1, -, -, h2, h3, -⟩ := hp
    exact ⟨⟨β', v, h1, h2⟩, below_of hro h3⟩
end Go.Vc

/- FnModes by cases: all grids and turns. Written by wip/tools/modesgen.py's side. -/
set_option linter.unusedVariables false
set_option maxRecDepth 100000
set_option maxHeartbeats 4000000
namespace Go.Vc
open Go Go.Proofs
theorem g44_all (k : Int) (hk : 0 ≤ k ∧ k < 16) : TailOk 4 4 k := by
  refine ⟨g44_t3, g44_t3_ok, ?_⟩
  have : k = 0 ∨ k = 1 ∨ k = 2 ∨ k = 3 ∨ k = 4 ∨ k = 5 ∨ k = 6 ∨ k = 7 ∨ k = 8 ∨ k = 9 ∨ k = 10 ∨ k = 11 ∨ k = 12 ∨ k = 13 ∨ k = 14 ∨ k = 15 := by omega
  rcases this with rfl | rfl | rfl | rfl | rfl | rfl | rfl | rfl | rfl | rfl | rfl | rfl | rfl | rfl | rfl | rfl
  · exact g44_k0
  · exact g44_k1
  · exact g44_k2
  · exact g44_k3
  · exact g44_k4
  · exact g44_k5
  · exact g44_k6
  · exact g44_k7
  · exact g44_k8
  · exact g44_k9
  · exact g44_k10
  · exact g44_k11
  · exact g44_k12
  · exact g44_k13
  · exact g44_k14
  · exact g44_k15
theorem g45_all (k : Int) (hk : 0 ≤ k ∧ k < 16) : TailOk 4 5 k := by
  refine ⟨g45_t3, g45_t3_ok, ?_⟩
  have : k = 0 ∨ k = 1 ∨ k = 2 ∨ k = 3 ∨ k = 4 ∨ k = 5 ∨ k = 6 ∨ k = 7 ∨ k = 8 ∨ k = 9 ∨ k = 10 ∨ k = 11 ∨ k = 12 ∨ k = 13 ∨ k = 14 ∨ k = 15 := by omega
  rcases this with rfl | rfl | rfl | rfl | rfl | rfl | rfl | rfl | rfl | rfl | rfl | rfl | rfl | rfl | rfl | rfl
  · exact g45_k0
  · exact g45_k1
  · exact g45_k2
  · exact g45_k3
  · exact g45_k4
  · exact g45_k5
  · exact g45_k6
  · exact g45_k7
  · exact g45_k8
  · exact g45_k9
  · exact g45_k10
  · exact g45_k11
  · exact g45_k12
  · exact g45_k13
  · exact g45_k14
  · exact g45_k15
theorem g46_all (k : Int) (hk : 0 ≤ k ∧ k < 16) : TailOk 4 6 k := by
  refine ⟨g46_t3, g46_t3_ok, ?_⟩
  have : k = 0 ∨ k = 1 ∨ k = 2 ∨ k = 3 ∨ k = 4 ∨ k = 5 ∨ k = 6 ∨ k = 7 ∨ k = 8 ∨ k = 9 ∨ k = 10 ∨ k = 11 ∨ k = 12 ∨ k = 13 ∨ k = 14 ∨ k = 15 := by omega
  rcases this with rfl | rfl | rfl | rfl | rfl | rfl | rfl | rfl | rfl | rfl | rfl | rfl | rfl | rfl | rfl | rfl
  · exact g46_k0
  · exact g46_k1
  · exact g46_k2
  · exact g46_k3
  · exact g46_k4
  · exact g46_k5
  · exact g46_k6
  · exact g46_k7
  · exact g46_k8
  · exact g46_k9
  · exact g46_k10
  · exact g46_k11
  · exact g46_k12
  · exact g46_k13
  · exact g46_k14
  · exact g46_k15
theorem g54_all (k : Int) (hk : 0 ≤ k ∧ k < 16) : TailOk 5 4 k := by
  refine ⟨g54_t3, g54_t3_ok, ?_⟩
  have : k = 0 ∨ k = 1 ∨ k = 2 ∨ k = 3 ∨ k = 4 ∨ k = 5 ∨ k = 6 ∨ k = 7 ∨ k = 8 ∨ k = 9 ∨ k = 10 ∨ k = 11 ∨ k = 12 ∨ k = 13 ∨ k = 14 ∨ k = 15 := by omega
  rcases this with rfl | rfl | rfl | rfl | rfl | rfl | rfl | rfl | rfl | rfl | rfl | rfl | rfl | rfl | rfl | rfl
  · exact g54_k0
  · exact g54_k1
  · exact g54_k2
  · exact g54_k3
  · exact g54_k4
  · exact g54_k5
  · exact g54_k6
  · exact g54_k7
  · exact g54_k8
  · exact g54_k9
  · exact g54_k10
  · exact g54_k11
  · exact g54_k12
  · exact g54_k13
  · exact g54_k14
  · exact g54_k15
theorem g55_all (k : Int) (hk : 0 ≤ k ∧ k < 16) : TailOk 5 5 k := by
  refine ⟨g55_t3, g55_t3_ok, ?_⟩
  have : k = 0 ∨ k = 1 ∨ k = 2 ∨ k = 3 ∨ k = 4 ∨ k = 5 ∨ k = 6 ∨ k = 7 ∨ k = 8 ∨ k = 9 ∨ k = 10 ∨ k = 11 ∨ k = 12 ∨ k = 13 ∨ k = 14 ∨ k = 15 := by omega
  rcases this with rfl | rfl | rfl | rfl | rfl | rfl | rfl | rfl | rfl | rfl | rfl | rfl | rfl | rfl | rfl | rfl
  · exact g55_k0
  · exact g55_k1
  · exact g55_k2
  · exact g55_k3
  · exact g55_k4
  · exact g55_k5
  · exact g55_k6
  · exact g55_k7
  · exact g55_k8
  · exact g55_k9
  · exact g55_k10
  · exact g55_k11
  · exact g55_k12
  · exact g55_k13
  · exact g55_k14
  · exact g55_k15
theorem g56_all (k : Int) (hk : 0 ≤ k ∧ k < 16) : TailOk 5 6 k := by
  refine ⟨g56_t3, g56_t3_ok, ?_⟩
  have : k = 0 ∨ k = 1 ∨ k = 2 ∨ k = 3 ∨ k = 4 ∨ k = 5 ∨ k = 6 ∨ k = 7 ∨ k = 8 ∨ k = 9 ∨ k = 10 ∨ k = 11 ∨ k = 12 ∨ k = 13 ∨ k = 14 ∨ k = 15 := by omega
  rcases this with rfl | rfl | rfl | rfl | rfl | rfl | rfl | rfl | rfl | rfl | rfl | rfl | rfl | rfl | rfl | rfl
  · exact g56_k0
  · exact g56_k1
  · exact g56_k2
  · exact g56_k3
  · exact g56_k4
  · exact g56_k5
  · exact g56_k6
  · exact g56_k7
  · exact g56_k8
  · exact g56_k9
  · exact g56_k10
  · exact g56_k11
  · exact g56_k12
  · exact g56_k13
  · exact g56_k14
  · exact g56_k15
theorem g64_all (k : Int) (hk : 0 ≤ k ∧ k < 16) : TailOk 6 4 k := by
  refine ⟨g64_t3, g64_t3_ok, ?_⟩
  have : k = 0 ∨ k = 1 ∨ k = 2 ∨ k = 3 ∨ k = 4 ∨ k = 5 ∨ k = 6 ∨ k = 7 ∨ k = 8 ∨ k = 9 ∨ k = 10 ∨ k = 11 ∨ k = 12 ∨ k = 13 ∨ k = 14 ∨ k = 15 := by omega
  rcases this with rfl | rfl | rfl | rfl | rfl | rfl | rfl | rfl | rfl | rfl | rfl | rfl | rfl | rfl | rfl | rfl
  · exact g64_k0
  · exact g64_k1
  · exact g64_k2
  · exact g64_k3
  · exact g64_k4
  · exact g64_k5
  · exact g64_k6
  · exact g64_k7
  · exact g64_k8
  · exact g64_k9
  · exact g64_k10
  · exact g64_k11
  · exact g64_k12
  · exact g64_k13
  · exact g64_k14
  · exact g64_k15
theorem g65_all (k : Int) (hk : 0 ≤ k ∧ k < 16) : TailOk 6 5 k := by
  refine ⟨g65_t3, g65_t3_ok, ?_⟩
  have : k = 0 ∨ k = 1 ∨ k = 2 ∨ k = 3 ∨ k = 4 ∨ k = 5 ∨ k = 6 ∨ k = 7 ∨ k = 8 ∨ k = 9 ∨ k = 10 ∨ k = 11 ∨ k = 12 ∨ k = 13 ∨ k = 14 ∨ k = 15 := by omega
  rcases this with rfl | rfl | rfl | rfl | rfl | rfl | rfl | rfl | rfl | rfl | rfl | rfl | rfl | rfl | rfl | rfl
  · exact g65_k0
  · exact g65_k1
  · exact g65_k2
  · exact g65_k3
  · exact g65_k4
  · exact g65_k5
  · exact g65_k6
  · exact g65_k7
  · exact g65_k8
  · exact g65_k9
  · exact g65_k10
  · exact g65_k11
  · exact g65_k12
  · exact g65_k13
  · exact g65_k14
  · exact g65_k15
theorem g66_all (k : Int) (hk : 0 ≤ k ∧ k < 16) : TailOk 6 6 k := by
  refine ⟨g66_t3, g66_t3_ok, ?_⟩
  have : k = 0 ∨ k = 1 ∨ k = 2 ∨ k = 3 ∨ k = 4 ∨ k = 5 ∨ k = 6 ∨ k = 7 ∨ k = 8 ∨ k = 9 ∨ k = 10 ∨ k = 11 ∨ k = 12 ∨ k = 13 ∨ k = 14 ∨ k = 15 := by omega
  rcases this with rfl | rfl | rfl | rfl | rfl | rfl | rfl | rfl | rfl | rfl | rfl | rfl | rfl | rfl | rfl | rfl
  · exact g66_k0
  · exact g66_k1
  · exact g66_k2
  · exact g66_k3
  · exact g66_k4
  · exact g66_k5
  · exact g66_k6
  · exact g66_k7
  · exact g66_k8
  · exact g66_k9
  · exact g66_k10
  · exact g66_k11
  · exact g66_k12
  · exact g66_k13
  · exact g66_k14
  · exact g66_k15
theorem g74_all (k : Int) (hk : 0 ≤ k ∧ k < 16) : TailOk 7 4 k := by
  refine ⟨g74_t3, g74_t3_ok, ?_⟩
  have : k = 0 ∨ k = 1 ∨ k = 2 ∨ k = 3 ∨ k = 4 ∨ k = 5 ∨ k = 6 ∨ k = 7 ∨ k = 8 ∨ k = 9 ∨ k = 10 ∨ k = 11 ∨ k = 12 ∨ k = 13 ∨ k = 14 ∨ k = 15 := by omega
  rcases this with rfl | rfl | rfl | rfl | rfl | rfl | rfl | rfl | rfl | rfl | rfl | rfl | rfl | rfl | rfl | rfl
  · exact g74_k0
  · exact g74_k1
  · exact g74_k2
  · exact g74_k3
  · exact g74_k4
  · exact g74_k5
  · exact g74_k6
  · exact g74_k7
  · exact g74_k8
  · exact g74_k9
  · exact g74_k10
  · exact g74_k11
  · exact g74_k12
  · exact g74_k13
  · exact g74_k14
  · exact g74_k15
theorem g75_all (k : Int) (hk : 0 ≤ k ∧ k < 16) : TailOk 7 5 k := by
  refine ⟨g75_t3, g75_t3_ok, ?_⟩
  have : k = 0 ∨ k = 1 ∨ k = 2 ∨ k = 3 ∨ k = 4 ∨ k = 5 ∨ k = 6 ∨ k = 7 ∨ k = 8 ∨ k = 9 ∨ k = 10 ∨ k = 11 ∨ k = 12 ∨ k = 13 ∨ k = 14 ∨ k = 15 := by omega
  rcases this with rfl | rfl | rfl | rfl | rfl | rfl | rfl | rfl | rfl | rfl | rfl | rfl | rfl | rfl | rfl | rfl
  · exact g75_k0
  · exact g75_k1
  · exact g75_k2
  · exact g75_k3
  · exact g75_k4
  · exact g75_k5
  · exact g75_k6
  · exact g75_k7
  · exact g75_k8
  · exact g75_k9
  · exact g75_k10
  · exact g75_k11
  · exact g75_k12
  · exact g75_k13
  · exact g75_k14
  · exact g75_k15
theorem g76_all (k : Int) (hk : 0 ≤ k ∧ k < 16) : TailOk 7 6 k := by
  refine ⟨g76_t3, g76_t3_ok, ?_⟩
  have : k = 0 ∨ k = 1 ∨ k = 2 ∨ k = 3 ∨ k = 4 ∨ k = 5 ∨ k = 6 ∨ k = 7 ∨ k = 8 ∨ k = 9 ∨ k = 10 ∨ k = 11 ∨ k = 12 ∨ k = 13 ∨ k = 14 ∨ k = 15 := by omega
  rcases this with rfl | rfl | rfl | rfl | rfl | rfl | rfl | rfl | rfl | rfl | rfl | rfl | rfl | rfl | rfl | rfl
  · exact g76_k0
  · exact g76_k1
  · exact g76_k2
  · exact g76_k3
  · exact g76_k4
  · exact g76_k5
  · exact g76_k6
  · exact g76_k7
  · exact g76_k8
  · exact g76_k9
  · exact g76_k10
  · exact g76_k11
  · exact g76_k12
  · exact g76_k13
  · exact g76_k14
  · exact g76_k15
theorem tails (w h k : Int) (hw : 4 ≤ w ∧ w ≤ 7) (hh : 4 ≤ h ∧ h ≤ 6) (hk : 0 ≤ k ∧ k < 16) : TailOk w h k := by
  have h1 : w = 4 ∨ w = 5 ∨ w = 6 ∨ w = 7 := by omega
  have h2 : h = 4 ∨ h = 5 ∨ h = 6 := by omega
  rcases h1 with rfl | rfl | rfl | rfl <;> rcases h2 with rfl | rfl | rfl
  · exact g44_all k hk
  · exact g45_all k hk
  · exact g46_all k hk
  · exact g54_all k hk
  · exact g55_all k hk
  · exact g56_all k hk
  · exact g64_all k hk
  · exact g65_all k hk
  · exact g66_all k hk
  · exact g74_all k hk
  · exact g75_all k hk
  · exact g76_all k hk
theorem law_nil : CallsTo Try.prog 8 [.ns, .ns] [] (.b true) [] :=
  c_FnModes0 (lg := false) (w := 7) (h := 5) (k := 0) (fuel := 64) (d := 12) (known_of n_long [] trivial rfl rfl) (by have := known_of (H := []) n_grid [] trivial rfl rfl; rw [n_w, n_h] at this; exact this) (known_of n_at [] trivial rfl rfl) g75_t3_ok (fun _ => by kernel_rfl)
theorem law {bs0 bs1 : List UInt8} {a0 a1 : AV} (h0 : Bs 0 bs0 a0) (h1 : Bs 1 bs1 a1) : CallsTo Try.prog 8 [a0, a1] [⟨5, true, byteCells bs0⟩, ⟨5, true, byteCells bs1⟩] (.b true) [⟨5, true, byteCells bs0⟩, ⟨5, true, byteCells bs1⟩] := law_of tails h0 h1
end Go.Vc
