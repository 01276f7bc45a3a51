/-
  No cell of these rows narrows 'for every input' (looked for: loops, veiled, ifaces, maps, wideKeys, modest, calm, conditions, laid).
  DERIVED. THE GIVEN ROWS OF THIS SEAT. 7 by the template 'for every input the law returns true; each argument reads behind the call as it read before'; 0 by the template 'total and deterministic' (their statements: YtkbpkocalmcphaaTotals.lean).
  GIVEN WITH THE SEED: the statements are not yours to turn. If you find one false, say at which input.
  Laid BY PROGRAM, IN A SANDBOX (cutbox-rows.mjs): the forced cells as the released guide's own fill.sh prints them over the translation f513f80f2a9c4371… (all of the seat's roots in one cut). By AI agents, Wed Nov 11 2026. No macro, syntax, notation, axiom, sorry.
-/
import Derived.Test.YtkbpkocalmcphaaChecked
import GoSem.Claim
import GoSem.ClaimJoined
import GoSem.ClaimMapViews
import Derived.JoinedTies
import Derived.KernelRfl
namespace Go.Proofs.Ytkbpkocalmcphaa
/- THE CELL 'sum', in the pinned program and in every row, IS THE sha256 OF THE DUMP (.gsa) THAT YtkbpkocalmcphaaProg.lean LOADS. Nothing in Lean hashes anything: it is a label: what it is worth is what the hold of that sum in a sandbox is worth. -/
noncomputable def Try.pinned : Pinned := { name := "ytkbpkocalmcphaa", sum := "f513f80f2a9c43717ed5d75b4369e436260bb0ddbd9e949bba6656ec43693248", checked := Try.checked }
namespace Rows
def none {H : Type} : Left H := { results := [], args := [] }

/-- 'laws.FnLines': WHATEVER THE INPUT: true; the input reads as it did. -/
def fnLinesSpec : ChangeSpec := { name := "fnLines", fn := fun _ => fun
  | [d1, d2] => { results := [.lit (.bool true)], args := [d1, d2] }
  | _ => none }
def fnLinesRow : OpenClaim := { program := "ytkbpkocalmcphaa", sum := "f513f80f2a9c43717ed5d75b4369e436260bb0ddbd9e949bba6656ec43693248", func := "loop.example/g01226/laws.FnLines", spec := "fnLines", inPlace := ["math.Float64bits", "math.Float64frombits", "math.archTrunc", "math.Float32bits", "math.sqrt"], unfollowed := true, recurses := true, apart := false }
def FnLinesSaid : Prop := fnLinesRow.holds Try.pinned (OpenSpec.ofChange fnLinesSpec)

/-- ITS FALSE NEIGHBOUR: 'it returns false'. Refute it at one input. -/
def fnLinesWrong : ChangeSpec := { name := "fnLines", fn := fun _ => fun
  | [d1, d2] => { results := [.lit (.bool false)], args := [d1, d2] }
  | _ => none }
def FnLinesWrongFalsely : Prop := fnLinesRow.holds Try.pinned (OpenSpec.ofChange fnLinesWrong)

/-- 'laws.FnShotsStored': WHATEVER THE INPUT: true; the input reads as it did. -/
def fnShotsStoredSpec : ChangeSpec := { name := "fnShotsStored", fn := fun _ => fun
  | [d1, d2] => { results := [.lit (.bool true)], args := [d1, d2] }
  | _ => none }
def fnShotsStoredRow : OpenClaim := { program := "ytkbpkocalmcphaa", sum := "f513f80f2a9c43717ed5d75b4369e436260bb0ddbd9e949bba6656ec43693248", func := "loop.example/g01226/laws.FnShotsStored", spec := "fnShotsStored", inPlace := ["math.Float32frombits", "math.Float32bits"], unfollowed := true, recurses := true, named := ["encoding/binary.LittleEndian"], apart := false }
def FnShotsStoredSaid : Prop := fnShotsStoredRow.holds Try.pinned (OpenSpec.ofChange fnShotsStoredSpec)

/-- ITS FALSE NEIGHBOUR: 'it returns false'. Refute it at one input. -/
def fnShotsStoredWrong : ChangeSpec := { name := "fnShotsStored", fn := fun _ => fun
  | [d1, d2] => { results := [.lit (.bool false)], args := [d1, d2] }
  | _ => none }
def FnShotsStoredWrongFalsely : Prop := fnShotsStoredRow.holds Try.pinned (OpenSpec.ofChange fnShotsStoredWrong)

/-- 'laws.FnExact': WHATEVER THE INPUT: true; the input reads as it did. -/
def fnExactSpec : ChangeSpec := { name := "fnExact", fn := fun _ => fun
  | [d1, d2] => { results := [.lit (.bool true)], args := [d1, d2] }
  | _ => none }
def fnExactRow : OpenClaim := { program := "ytkbpkocalmcphaa", sum := "f513f80f2a9c43717ed5d75b4369e436260bb0ddbd9e949bba6656ec43693248", func := "loop.example/g01226/laws.FnExact", spec := "fnExact", inPlace := ["math.Float64frombits", "math.Float64bits", "math.archTrunc", "math.sqrt"], unfollowed := true, recurses := true, apart := false }
def FnExactSaid : Prop := fnExactRow.holds Try.pinned (OpenSpec.ofChange fnExactSpec)

/-- ITS FALSE NEIGHBOUR: 'it returns false'. Refute it at one input. -/
def fnExactWrong : ChangeSpec := { name := "fnExact", fn := fun _ => fun
  | [d1, d2] => { results := [.lit (.bool false)], args := [d1, d2] }
  | _ => none }
def FnExactWrongFalsely : Prop := fnExactRow.holds Try.pinned (OpenSpec.ofChange fnExactWrong)

/-- 'laws.FnStarts': WHATEVER THE INPUT: true; the input reads as it did. -/
def fnStartsSpec : ChangeSpec := { name := "fnStarts", fn := fun _ => fun
  | [d1, d2] => { results := [.lit (.bool true)], args := [d1, d2] }
  | _ => none }
def fnStartsRow : OpenClaim := { program := "ytkbpkocalmcphaa", sum := "f513f80f2a9c43717ed5d75b4369e436260bb0ddbd9e949bba6656ec43693248", func := "loop.example/g01226/laws.FnStarts", spec := "fnStarts", inPlace := ["math.archFloor", "math.Float64bits", "math.Float64frombits", "math.archTrunc", "math.sqrt", "math.Float32bits"], unfollowed := true, recurses := true, apart := false }
def FnStartsSaid : Prop := fnStartsRow.holds Try.pinned (OpenSpec.ofChange fnStartsSpec)

/-- ITS FALSE NEIGHBOUR: 'it returns false'. Refute it at one input. -/
def fnStartsWrong : ChangeSpec := { name := "fnStarts", fn := fun _ => fun
  | [d1, d2] => { results := [.lit (.bool false)], args := [d1, d2] }
  | _ => none }
def FnStartsWrongFalsely : Prop := fnStartsRow.holds Try.pinned (OpenSpec.ofChange fnStartsWrong)

/-- 'laws.FnClouds': WHATEVER THE INPUT: true; the input reads as it did. -/
def fnCloudsSpec : ChangeSpec := { name := "fnClouds", fn := fun _ => fun
  | [d1, d2] => { results := [.lit (.bool true)], args := [d1, d2] }
  | _ => none }
def fnCloudsRow : OpenClaim := { program := "ytkbpkocalmcphaa", sum := "f513f80f2a9c43717ed5d75b4369e436260bb0ddbd9e949bba6656ec43693248", func := "loop.example/g01226/laws.FnClouds", spec := "fnClouds", inPlace := ["math.archFloor", "math.Float64bits", "math.Float64frombits", "math.archTrunc", "math.sqrt", "math.Float32bits"], unfollowed := true, recurses := true, apart := false }
def FnCloudsSaid : Prop := fnCloudsRow.holds Try.pinned (OpenSpec.ofChange fnCloudsSpec)

/-- ITS FALSE NEIGHBOUR: 'it returns false'. Refute it at one input. -/
def fnCloudsWrong : ChangeSpec := { name := "fnClouds", fn := fun _ => fun
  | [d1, d2] => { results := [.lit (.bool false)], args := [d1, d2] }
  | _ => none }
def FnCloudsWrongFalsely : Prop := fnCloudsRow.holds Try.pinned (OpenSpec.ofChange fnCloudsWrong)

/-- 'laws.FnModes': WHATEVER THE INPUT: true; the input reads as it did. -/
def fnModesSpec : ChangeSpec := { name := "fnModes", fn := fun _ => fun
  | [d1, d2] => { results := [.lit (.bool true)], args := [d1, d2] }
  | _ => none }
def fnModesRow : OpenClaim := { program := "ytkbpkocalmcphaa", sum := "f513f80f2a9c43717ed5d75b4369e436260bb0ddbd9e949bba6656ec43693248", func := "loop.example/g01226/laws.FnModes", spec := "fnModes", inPlace := ["math.Float64frombits", "math.Float64bits", "math.archTrunc", "math.sqrt"], apart := false }
def FnModesSaid : Prop := fnModesRow.holds Try.pinned (OpenSpec.ofChange fnModesSpec)

/-- ITS FALSE NEIGHBOUR: 'it returns false'. Refute it at one input. -/
def fnModesWrong : ChangeSpec := { name := "fnModes", fn := fun _ => fun
  | [d1, d2] => { results := [.lit (.bool false)], args := [d1, d2] }
  | _ => none }
def FnModesWrongFalsely : Prop := fnModesRow.holds Try.pinned (OpenSpec.ofChange fnModesWrong)

/-- 'laws.FnBeams': WHATEVER THE INPUT: true; the input reads as it did. -/
def fnBeamsSpec : ChangeSpec := { name := "fnBeams", fn := fun _ => fun
  | [d1, d2] => { results := [.lit (.bool true)], args := [d1, d2] }
  | _ => none }
def fnBeamsRow : OpenClaim := { program := "ytkbpkocalmcphaa", sum := "f513f80f2a9c43717ed5d75b4369e436260bb0ddbd9e949bba6656ec43693248", func := "loop.example/g01226/laws.FnBeams", spec := "fnBeams", inPlace := ["math.Float32frombits", "math.Float64bits", "math.Float64frombits", "math.archTrunc", "math.Float32bits", "math.sqrt"], unfollowed := true, recurses := true, apart := false }
def FnBeamsSaid : Prop := fnBeamsRow.holds Try.pinned (OpenSpec.ofChange fnBeamsSpec)

/-- ITS FALSE NEIGHBOUR: 'it returns false'. Refute it at one input. -/
def fnBeamsWrong : ChangeSpec := { name := "fnBeams", fn := fun _ => fun
  | [d1, d2] => { results := [.lit (.bool false)], args := [d1, d2] }
  | _ => none }
def FnBeamsWrongFalsely : Prop := fnBeamsRow.holds Try.pinned (OpenSpec.ofChange fnBeamsWrong)

/- THE SECOND FORM. 'bulk': how many values and letters a reading holds, each counted each time it is reached (what is shared counts as often as it is met; a slice's spare places count too). A statement '..UptoSaid' is the law's where the arguments, and the package variables that the reading takes, are together of bulk at most 1048576: NARROWER than '..Said'. Prove '..Said' where nothing that the law and all that it calls make is longer than what came in: it says more and counts as full. Else prove '..UptoSaid'. A law counts once. -/
mutual
def uptoBulk {H : Type} : DataW H → Nat
  | .lit (.string bytes) => bytes.length + 1
  | .lit _ => 1
  | .nil => 1
  | .ptr d => uptoBulk d + 1
  | .slice elems spare => uptoBulkAll elems + uptoBulkAll spare + 1
  | .agg parts => uptoBulkAll parts + 1
  | .iface _ d => uptoBulk d + 1
  | .map entries => uptoBulkEntries entries + 1
  | .held _ => 1
def uptoBulkAll {H : Type} : List (DataW H) → Nat
  | [] => 0
  | d :: r => uptoBulk d + uptoBulkAll r
def uptoBulkEntries {H : Type} : List (Lit × DataW H) → Nat
  | [] => 0
  | x :: r => uptoBulkEntry x + uptoBulkEntries r
def uptoBulkEntry {H : Type} : Lit × DataW H → Nat
  | (.string bytes, d) => bytes.length + uptoBulk d + 1
  | (_, d) => uptoBulk d + 1
 end
def uptoSmall : (H : Type) → List (DataW H) → Bool := fun _ ds => decide (uptoBulkAll ds ≤ 1048576)
def OpenSpec.upto (s : _root_.Go.ChangeSpec) : _root_.Go.OpenSpec := { _root_.Go.OpenSpec.ofChange s with cond := some uptoSmall }

/-- 'laws.FnLines', WHERE WHAT IT READS IS OF BULK AT MOST 1048576: true; the input reads as it did. -/
def fnLinesUptoRow : OpenClaim := { program := "ytkbpkocalmcphaa", sum := "f513f80f2a9c43717ed5d75b4369e436260bb0ddbd9e949bba6656ec43693248", func := "loop.example/g01226/laws.FnLines", spec := "fnLines", inPlace := ["math.Float64bits", "math.Float64frombits", "math.archTrunc", "math.Float32bits", "math.sqrt"], unfollowed := true, recurses := true, apart := false, narrowed := true }
def FnLinesUptoSaid : Prop := fnLinesUptoRow.holds Try.pinned (OpenSpec.upto fnLinesSpec)

/-- 'laws.FnShotsStored', WHERE WHAT IT READS IS OF BULK AT MOST 1048576: true; the input reads as it did. -/
def fnShotsStoredUptoRow : OpenClaim := { program := "ytkbpkocalmcphaa", sum := "f513f80f2a9c43717ed5d75b4369e436260bb0ddbd9e949bba6656ec43693248", func := "loop.example/g01226/laws.FnShotsStored", spec := "fnShotsStored", inPlace := ["math.Float32frombits", "math.Float32bits"], unfollowed := true, recurses := true, named := ["encoding/binary.LittleEndian"], apart := false, narrowed := true }
def FnShotsStoredUptoSaid : Prop := fnShotsStoredUptoRow.holds Try.pinned (OpenSpec.upto fnShotsStoredSpec)

/-- 'laws.FnExact', WHERE WHAT IT READS IS OF BULK AT MOST 1048576: true; the input reads as it did. -/
def fnExactUptoRow : OpenClaim := { program := "ytkbpkocalmcphaa", sum := "f513f80f2a9c43717ed5d75b4369e436260bb0ddbd9e949bba6656ec43693248", func := "loop.example/g01226/laws.FnExact", spec := "fnExact", inPlace := ["math.Float64frombits", "math.Float64bits", "math.archTrunc", "math.sqrt"], unfollowed := true, recurses := true, apart := false, narrowed := true }
def FnExactUptoSaid : Prop := fnExactUptoRow.holds Try.pinned (OpenSpec.upto fnExactSpec)

/-- 'laws.FnStarts', WHERE WHAT IT READS IS OF BULK AT MOST 1048576: true; the input reads as it did. -/
def fnStartsUptoRow : OpenClaim := { program := "ytkbpkocalmcphaa", sum := "f513f80f2a9c43717ed5d75b4369e436260bb0ddbd9e949bba6656ec43693248", func := "loop.example/g01226/laws.FnStarts", spec := "fnStarts", inPlace := ["math.archFloor", "math.Float64bits", "math.Float64frombits", "math.archTrunc", "math.sqrt", "math.Float32bits"], unfollowed := true, recurses := true, apart := false, narrowed := true }
def FnStartsUptoSaid : Prop := fnStartsUptoRow.holds Try.pinned (OpenSpec.upto fnStartsSpec)

/-- 'laws.FnClouds', WHERE WHAT IT READS IS OF BULK AT MOST 1048576: true; the input reads as it did. -/
def fnCloudsUptoRow : OpenClaim := { program := "ytkbpkocalmcphaa", sum := "f513f80f2a9c43717ed5d75b4369e436260bb0ddbd9e949bba6656ec43693248", func := "loop.example/g01226/laws.FnClouds", spec := "fnClouds", inPlace := ["math.archFloor", "math.Float64bits", "math.Float64frombits", "math.archTrunc", "math.sqrt", "math.Float32bits"], unfollowed := true, recurses := true, apart := false, narrowed := true }
def FnCloudsUptoSaid : Prop := fnCloudsUptoRow.holds Try.pinned (OpenSpec.upto fnCloudsSpec)

/-- 'laws.FnModes', WHERE WHAT IT READS IS OF BULK AT MOST 1048576: true; the input reads as it did. -/
def fnModesUptoRow : OpenClaim := { program := "ytkbpkocalmcphaa", sum := "f513f80f2a9c43717ed5d75b4369e436260bb0ddbd9e949bba6656ec43693248", func := "loop.example/g01226/laws.FnModes", spec := "fnModes", inPlace := ["math.Float64frombits", "math.Float64bits", "math.archTrunc", "math.sqrt"], apart := false, narrowed := true }
def FnModesUptoSaid : Prop := fnModesUptoRow.holds Try.pinned (OpenSpec.upto fnModesSpec)

/-- 'laws.FnBeams', WHERE WHAT IT READS IS OF BULK AT MOST 1048576: true; the input reads as it did. -/
def fnBeamsUptoRow : OpenClaim := { program := "ytkbpkocalmcphaa", sum := "f513f80f2a9c43717ed5d75b4369e436260bb0ddbd9e949bba6656ec43693248", func := "loop.example/g01226/laws.FnBeams", spec := "fnBeams", inPlace := ["math.Float32frombits", "math.Float64bits", "math.Float64frombits", "math.archTrunc", "math.Float32bits", "math.sqrt"], unfollowed := true, recurses := true, apart := false, narrowed := true }
def FnBeamsUptoSaid : Prop := fnBeamsUptoRow.holds Try.pinned (OpenSpec.upto fnBeamsSpec)

end Rows
end Go.Proofs.Ytkbpkocalmcphaa
