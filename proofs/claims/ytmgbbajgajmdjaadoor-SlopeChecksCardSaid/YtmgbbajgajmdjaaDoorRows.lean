/-
  NARROWER THAN 'FOR EVERY INPUT', by the rows' own cells (each row's printed sentence says how): SlopeOwn: laid · SlopeNearest: laid · SlopeStill: laid · SlopeHodge: laid · SlopeHeights: laid · SlopeEuler: laid · SlopeParts: laid · SlopeNegated: laid · SlopeChecks: laid.
  DERIVED. THE GIVEN ROWS OF THIS SEAT. 9 by the template 'for every input the law returns true; each argument reads behind the call as it read before'; 0 by the template 'total and deterministic' (their statements: YtmgbbajgajmdjaaDoorTotals.lean).
  GIVEN WITH THE SEED: the statements are not yours to turn. If you find one false, say at which input.
  Laid BY PROGRAM, IN A SANDBOX (cutbox-rows.mjs): the forced cells as the released guide's own fill.sh prints them over the translation 9f11f2cadfd3bddd… (all of the seat's roots in one cut). By AI agents, Wed Nov 11 2026. No macro, syntax, notation, axiom, sorry.
-/
import Derived.Test.YtmgbbajgajmdjaaDoorChecked
import GoSem.Claim
import GoSem.ClaimJoined
import GoSem.ClaimMapViews
import Derived.JoinedTies
import Derived.KernelRfl
namespace Go.Proofs.YtmgbbajgajmdjaaDoor
/- THE CELL 'sum', in the pinned program and in every row, IS THE sha256 OF THE DUMP (.gsa) THAT YtmgbbajgajmdjaaDoorProg.lean LOADS. Nothing in Lean hashes anything: it is a label: what it is worth is what the hold of that sum in a sandbox is worth. -/
noncomputable def Tryd.pinned : Pinned := { name := "ytmgbbajgajmdjaadoor", sum := "9f11f2cadfd3bdddbe08db3c54b097057464a8ed516ca5ad2cd2a3d1005d9319", checked := Tryd.checked }
namespace Rows
def none {H : Type} : Left H := { results := [], args := [] }

/- WHAT THE LISTED PACKAGE-LEVEL VARIABLES READ AS WHEN THE CALL BEGINS. Each datum BY PROGRAM (the guide's laid-datum.mjs) off the statement by which the dump's own 'gosem.cut.vars' lays the variable. In a bare row this is a premise. The card (YtmgbbajgajmdjaaDoorCards.lean) ties it to the program's text. -/
def laid_tosher_slope_none {H : Type} : DataW H := .agg [.lit (.int .i64 0), .lit (.int .i64 1)]

/-- 'tosherlaw03.SlopeOwn': WHATEVER THE INPUT: true; the input reads as it did. -/
def slopeOwnSpec : ChangeSpec := { name := "slopeOwn", fn := fun _ => fun
  | [d1, d2] => { results := [.lit (.bool true)], args := [d1, d2] }
  | _ => none }
def slopeOwnRow : OpenClaim := { program := "ytmgbbajgajmdjaadoor", sum := "9f11f2cadfd3bdddbe08db3c54b097057464a8ed516ca5ad2cd2a3d1005d9319", func := "tosher/tosherlaw03.SlopeOwn", spec := "slopeOwn", unfollowed := true, recurses := true, named := ["tosher/slope.none"], apart := false, laid := [("tosher/slope.none", laid_tosher_slope_none)] }
def SlopeOwnSaid : Prop := slopeOwnRow.holds Tryd.pinned (OpenSpec.ofChange slopeOwnSpec)

/-- ITS FALSE NEIGHBOUR: 'it returns false'. Refute it at one input. -/
def slopeOwnWrong : ChangeSpec := { name := "slopeOwn", fn := fun _ => fun
  | [d1, d2] => { results := [.lit (.bool false)], args := [d1, d2] }
  | _ => none }
def SlopeOwnWrongFalsely : Prop := slopeOwnRow.holds Tryd.pinned (OpenSpec.ofChange slopeOwnWrong)

/-- 'tosherlaw03.SlopeNearest': WHATEVER THE INPUT: true; the input reads as it did. -/
def slopeNearestSpec : ChangeSpec := { name := "slopeNearest", fn := fun _ => fun
  | [d1, d2, d3] => { results := [.lit (.bool true)], args := [d1, d2, d3] }
  | _ => none }
def slopeNearestRow : OpenClaim := { program := "ytmgbbajgajmdjaadoor", sum := "9f11f2cadfd3bdddbe08db3c54b097057464a8ed516ca5ad2cd2a3d1005d9319", func := "tosher/tosherlaw03.SlopeNearest", spec := "slopeNearest", unfollowed := true, recurses := true, named := ["tosher/slope.none"], apart := false, laid := [("tosher/slope.none", laid_tosher_slope_none)] }
def SlopeNearestSaid : Prop := slopeNearestRow.holds Tryd.pinned (OpenSpec.ofChange slopeNearestSpec)

/-- ITS FALSE NEIGHBOUR: 'it returns false'. Refute it at one input. -/
def slopeNearestWrong : ChangeSpec := { name := "slopeNearest", fn := fun _ => fun
  | [d1, d2, d3] => { results := [.lit (.bool false)], args := [d1, d2, d3] }
  | _ => none }
def SlopeNearestWrongFalsely : Prop := slopeNearestRow.holds Tryd.pinned (OpenSpec.ofChange slopeNearestWrong)

/-- 'tosherlaw03.SlopeStill': WHATEVER THE INPUT: true; the input reads as it did. -/
def slopeStillSpec : ChangeSpec := { name := "slopeStill", fn := fun _ => fun
  | [d1, d2] => { results := [.lit (.bool true)], args := [d1, d2] }
  | _ => none }
def slopeStillRow : OpenClaim := { program := "ytmgbbajgajmdjaadoor", sum := "9f11f2cadfd3bdddbe08db3c54b097057464a8ed516ca5ad2cd2a3d1005d9319", func := "tosher/tosherlaw03.SlopeStill", spec := "slopeStill", unfollowed := true, recurses := true, named := ["tosher/slope.none"], apart := false, laid := [("tosher/slope.none", laid_tosher_slope_none)] }
def SlopeStillSaid : Prop := slopeStillRow.holds Tryd.pinned (OpenSpec.ofChange slopeStillSpec)

/-- ITS FALSE NEIGHBOUR: 'it returns false'. Refute it at one input. -/
def slopeStillWrong : ChangeSpec := { name := "slopeStill", fn := fun _ => fun
  | [d1, d2] => { results := [.lit (.bool false)], args := [d1, d2] }
  | _ => none }
def SlopeStillWrongFalsely : Prop := slopeStillRow.holds Tryd.pinned (OpenSpec.ofChange slopeStillWrong)

/-- 'tosherlaw03.SlopeHodge': WHATEVER THE INPUT: true; the input reads as it did. -/
def slopeHodgeSpec : ChangeSpec := { name := "slopeHodge", fn := fun _ => fun
  | [d1, d2] => { results := [.lit (.bool true)], args := [d1, d2] }
  | _ => none }
def slopeHodgeRow : OpenClaim := { program := "ytmgbbajgajmdjaadoor", sum := "9f11f2cadfd3bdddbe08db3c54b097057464a8ed516ca5ad2cd2a3d1005d9319", func := "tosher/tosherlaw03.SlopeHodge", spec := "slopeHodge", unfollowed := true, recurses := true, named := ["tosher/slope.none"], apart := false, laid := [("tosher/slope.none", laid_tosher_slope_none)] }
def SlopeHodgeSaid : Prop := slopeHodgeRow.holds Tryd.pinned (OpenSpec.ofChange slopeHodgeSpec)

/-- ITS FALSE NEIGHBOUR: 'it returns false'. Refute it at one input. -/
def slopeHodgeWrong : ChangeSpec := { name := "slopeHodge", fn := fun _ => fun
  | [d1, d2] => { results := [.lit (.bool false)], args := [d1, d2] }
  | _ => none }
def SlopeHodgeWrongFalsely : Prop := slopeHodgeRow.holds Tryd.pinned (OpenSpec.ofChange slopeHodgeWrong)

/-- 'tosherlaw03.SlopeHeights': WHATEVER THE INPUT: true; the input reads as it did. -/
def slopeHeightsSpec : ChangeSpec := { name := "slopeHeights", fn := fun _ => fun
  | [d1, d2] => { results := [.lit (.bool true)], args := [d1, d2] }
  | _ => none }
def slopeHeightsRow : OpenClaim := { program := "ytmgbbajgajmdjaadoor", sum := "9f11f2cadfd3bdddbe08db3c54b097057464a8ed516ca5ad2cd2a3d1005d9319", func := "tosher/tosherlaw03.SlopeHeights", spec := "slopeHeights", unfollowed := true, recurses := true, named := ["tosher/slope.none"], apart := false, laid := [("tosher/slope.none", laid_tosher_slope_none)] }
def SlopeHeightsSaid : Prop := slopeHeightsRow.holds Tryd.pinned (OpenSpec.ofChange slopeHeightsSpec)

/-- ITS FALSE NEIGHBOUR: 'it returns false'. Refute it at one input. -/
def slopeHeightsWrong : ChangeSpec := { name := "slopeHeights", fn := fun _ => fun
  | [d1, d2] => { results := [.lit (.bool false)], args := [d1, d2] }
  | _ => none }
def SlopeHeightsWrongFalsely : Prop := slopeHeightsRow.holds Tryd.pinned (OpenSpec.ofChange slopeHeightsWrong)

/-- 'tosherlaw03.SlopeEuler': WHATEVER THE INPUT: true; the input reads as it did. -/
def slopeEulerSpec : ChangeSpec := { name := "slopeEuler", fn := fun _ => fun
  | [d1, d2] => { results := [.lit (.bool true)], args := [d1, d2] }
  | _ => none }
def slopeEulerRow : OpenClaim := { program := "ytmgbbajgajmdjaadoor", sum := "9f11f2cadfd3bdddbe08db3c54b097057464a8ed516ca5ad2cd2a3d1005d9319", func := "tosher/tosherlaw03.SlopeEuler", spec := "slopeEuler", unfollowed := true, recurses := true, named := ["tosher/slope.none"], apart := false, laid := [("tosher/slope.none", laid_tosher_slope_none)] }
def SlopeEulerSaid : Prop := slopeEulerRow.holds Tryd.pinned (OpenSpec.ofChange slopeEulerSpec)

/-- ITS FALSE NEIGHBOUR: 'it returns false'. Refute it at one input. -/
def slopeEulerWrong : ChangeSpec := { name := "slopeEuler", fn := fun _ => fun
  | [d1, d2] => { results := [.lit (.bool false)], args := [d1, d2] }
  | _ => none }
def SlopeEulerWrongFalsely : Prop := slopeEulerRow.holds Tryd.pinned (OpenSpec.ofChange slopeEulerWrong)

/-- 'tosherlaw03.SlopeParts': WHATEVER THE INPUT: true; the input reads as it did. -/
def slopePartsSpec : ChangeSpec := { name := "slopeParts", fn := fun _ => fun
  | [d1, d2] => { results := [.lit (.bool true)], args := [d1, d2] }
  | _ => none }
def slopePartsRow : OpenClaim := { program := "ytmgbbajgajmdjaadoor", sum := "9f11f2cadfd3bdddbe08db3c54b097057464a8ed516ca5ad2cd2a3d1005d9319", func := "tosher/tosherlaw03.SlopeParts", spec := "slopeParts", unfollowed := true, recurses := true, named := ["tosher/slope.none"], apart := false, laid := [("tosher/slope.none", laid_tosher_slope_none)] }
def SlopePartsSaid : Prop := slopePartsRow.holds Tryd.pinned (OpenSpec.ofChange slopePartsSpec)

/-- ITS FALSE NEIGHBOUR: 'it returns false'. Refute it at one input. -/
def slopePartsWrong : ChangeSpec := { name := "slopeParts", fn := fun _ => fun
  | [d1, d2] => { results := [.lit (.bool false)], args := [d1, d2] }
  | _ => none }
def SlopePartsWrongFalsely : Prop := slopePartsRow.holds Tryd.pinned (OpenSpec.ofChange slopePartsWrong)

/-- 'tosherlaw03.SlopeNegated': WHATEVER THE INPUT: true; the input reads as it did. -/
def slopeNegatedSpec : ChangeSpec := { name := "slopeNegated", fn := fun _ => fun
  | [d1, d2] => { results := [.lit (.bool true)], args := [d1, d2] }
  | _ => none }
def slopeNegatedRow : OpenClaim := { program := "ytmgbbajgajmdjaadoor", sum := "9f11f2cadfd3bdddbe08db3c54b097057464a8ed516ca5ad2cd2a3d1005d9319", func := "tosher/tosherlaw03.SlopeNegated", spec := "slopeNegated", unfollowed := true, recurses := true, named := ["tosher/slope.none"], apart := false, laid := [("tosher/slope.none", laid_tosher_slope_none)] }
def SlopeNegatedSaid : Prop := slopeNegatedRow.holds Tryd.pinned (OpenSpec.ofChange slopeNegatedSpec)

/-- ITS FALSE NEIGHBOUR: 'it returns false'. Refute it at one input. -/
def slopeNegatedWrong : ChangeSpec := { name := "slopeNegated", fn := fun _ => fun
  | [d1, d2] => { results := [.lit (.bool false)], args := [d1, d2] }
  | _ => none }
def SlopeNegatedWrongFalsely : Prop := slopeNegatedRow.holds Tryd.pinned (OpenSpec.ofChange slopeNegatedWrong)

/-- 'tosherlaw03.SlopeChecks': WHATEVER THE INPUT: true; the input reads as it did. -/
def slopeChecksSpec : ChangeSpec := { name := "slopeChecks", fn := fun _ => fun
  | [d1, d2] => { results := [.lit (.bool true)], args := [d1, d2] }
  | _ => none }
def slopeChecksRow : OpenClaim := { program := "ytmgbbajgajmdjaadoor", sum := "9f11f2cadfd3bdddbe08db3c54b097057464a8ed516ca5ad2cd2a3d1005d9319", func := "tosher/tosherlaw03.SlopeChecks", spec := "slopeChecks", unfollowed := true, recurses := true, named := ["tosher/slope.none"], apart := false, laid := [("tosher/slope.none", laid_tosher_slope_none)] }
def SlopeChecksSaid : Prop := slopeChecksRow.holds Tryd.pinned (OpenSpec.ofChange slopeChecksSpec)

/-- ITS FALSE NEIGHBOUR: 'it returns false'. Refute it at one input. -/
def slopeChecksWrong : ChangeSpec := { name := "slopeChecks", fn := fun _ => fun
  | [d1, d2] => { results := [.lit (.bool false)], args := [d1, d2] }
  | _ => none }
def SlopeChecksWrongFalsely : Prop := slopeChecksRow.holds Tryd.pinned (OpenSpec.ofChange slopeChecksWrong)

/- THE SECOND FORM. 'bulk': how many values and letters a reading holds, each counted each time it is reached (what is shared counts as often as it is met; a slice's spare places count too). A statement '..UptoSaid' is the law's where the arguments, and the package variables that the reading takes, are together of bulk at most 1048576: NARROWER than '..Said'. Prove '..Said' where nothing that the law and all that it calls make is longer than what came in: it says more and counts as full. Else prove '..UptoSaid'. A law counts once. -/
mutual
def uptoBulk {H : Type} : DataW H → Nat
  | .lit (.string bytes) => bytes.length + 1
  | .lit _ => 1
  | .nil => 1
  | .ptr d => uptoBulk d + 1
  | .slice elems spare => uptoBulkAll elems + uptoBulkAll spare + 1
  | .agg parts => uptoBulkAll parts + 1
  | .iface _ d => uptoBulk d + 1
  | .map entries => uptoBulkEntries entries + 1
  | .held _ => 1
def uptoBulkAll {H : Type} : List (DataW H) → Nat
  | [] => 0
  | d :: r => uptoBulk d + uptoBulkAll r
def uptoBulkEntries {H : Type} : List (Lit × DataW H) → Nat
  | [] => 0
  | x :: r => uptoBulkEntry x + uptoBulkEntries r
def uptoBulkEntry {H : Type} : Lit × DataW H → Nat
  | (.string bytes, d) => bytes.length + uptoBulk d + 1
  | (_, d) => uptoBulk d + 1
 end
def uptoSmall : (H : Type) → List (DataW H) → Bool := fun _ ds => decide (uptoBulkAll ds ≤ 1048576)
def OpenSpec.upto (s : _root_.Go.ChangeSpec) : _root_.Go.OpenSpec := { _root_.Go.OpenSpec.ofChange s with cond := some uptoSmall }

/-- 'tosherlaw03.SlopeOwn', WHERE WHAT IT READS IS OF BULK AT MOST 1048576: true; the input reads as it did. -/
def slopeOwnUptoRow : OpenClaim := { program := "ytmgbbajgajmdjaadoor", sum := "9f11f2cadfd3bdddbe08db3c54b097057464a8ed516ca5ad2cd2a3d1005d9319", func := "tosher/tosherlaw03.SlopeOwn", spec := "slopeOwn", unfollowed := true, recurses := true, named := ["tosher/slope.none"], apart := false, laid := [("tosher/slope.none", laid_tosher_slope_none)], narrowed := true }
def SlopeOwnUptoSaid : Prop := slopeOwnUptoRow.holds Tryd.pinned (OpenSpec.upto slopeOwnSpec)

/-- 'tosherlaw03.SlopeNearest', WHERE WHAT IT READS IS OF BULK AT MOST 1048576: true; the input reads as it did. -/
def slopeNearestUptoRow : OpenClaim := { program := "ytmgbbajgajmdjaadoor", sum := "9f11f2cadfd3bdddbe08db3c54b097057464a8ed516ca5ad2cd2a3d1005d9319", func := "tosher/tosherlaw03.SlopeNearest", spec := "slopeNearest", unfollowed := true, recurses := true, named := ["tosher/slope.none"], apart := false, laid := [("tosher/slope.none", laid_tosher_slope_none)], narrowed := true }
def SlopeNearestUptoSaid : Prop := slopeNearestUptoRow.holds Tryd.pinned (OpenSpec.upto slopeNearestSpec)

/-- 'tosherlaw03.SlopeStill', WHERE WHAT IT READS IS OF BULK AT MOST 1048576: true; the input reads as it did. -/
def slopeStillUptoRow : OpenClaim := { program := "ytmgbbajgajmdjaadoor", sum := "9f11f2cadfd3bdddbe08db3c54b097057464a8ed516ca5ad2cd2a3d1005d9319", func := "tosher/tosherlaw03.SlopeStill", spec := "slopeStill", unfollowed := true, recurses := true, named := ["tosher/slope.none"], apart := false, laid := [("tosher/slope.none", laid_tosher_slope_none)], narrowed := true }
def SlopeStillUptoSaid : Prop := slopeStillUptoRow.holds Tryd.pinned (OpenSpec.upto slopeStillSpec)

/-- 'tosherlaw03.SlopeHodge', WHERE WHAT IT READS IS OF BULK AT MOST 1048576: true; the input reads as it did. -/
def slopeHodgeUptoRow : OpenClaim := { program := "ytmgbbajgajmdjaadoor", sum := "9f11f2cadfd3bdddbe08db3c54b097057464a8ed516ca5ad2cd2a3d1005d9319", func := "tosher/tosherlaw03.SlopeHodge", spec := "slopeHodge", unfollowed := true, recurses := true, named := ["tosher/slope.none"], apart := false, laid := [("tosher/slope.none", laid_tosher_slope_none)], narrowed := true }
def SlopeHodgeUptoSaid : Prop := slopeHodgeUptoRow.holds Tryd.pinned (OpenSpec.upto slopeHodgeSpec)

/-- 'tosherlaw03.SlopeHeights', WHERE WHAT IT READS IS OF BULK AT MOST 1048576: true; the input reads as it did. -/
def slopeHeightsUptoRow : OpenClaim := { program := "ytmgbbajgajmdjaadoor", sum := "9f11f2cadfd3bdddbe08db3c54b097057464a8ed516ca5ad2cd2a3d1005d9319", func := "tosher/tosherlaw03.SlopeHeights", spec := "slopeHeights", unfollowed := true, recurses := true, named := ["tosher/slope.none"], apart := false, laid := [("tosher/slope.none", laid_tosher_slope_none)], narrowed := true }
def SlopeHeightsUptoSaid : Prop := slopeHeightsUptoRow.holds Tryd.pinned (OpenSpec.upto slopeHeightsSpec)

/-- 'tosherlaw03.SlopeEuler', WHERE WHAT IT READS IS OF BULK AT MOST 1048576: true; the input reads as it did. -/
def slopeEulerUptoRow : OpenClaim := { program := "ytmgbbajgajmdjaadoor", sum := "9f11f2cadfd3bdddbe08db3c54b097057464a8ed516ca5ad2cd2a3d1005d9319", func := "tosher/tosherlaw03.SlopeEuler", spec := "slopeEuler", unfollowed := true, recurses := true, named := ["tosher/slope.none"], apart := false, laid := [("tosher/slope.none", laid_tosher_slope_none)], narrowed := true }
def SlopeEulerUptoSaid : Prop := slopeEulerUptoRow.holds Tryd.pinned (OpenSpec.upto slopeEulerSpec)

/-- 'tosherlaw03.SlopeParts', WHERE WHAT IT READS IS OF BULK AT MOST 1048576: true; the input reads as it did. -/
def slopePartsUptoRow : OpenClaim := { program := "ytmgbbajgajmdjaadoor", sum := "9f11f2cadfd3bdddbe08db3c54b097057464a8ed516ca5ad2cd2a3d1005d9319", func := "tosher/tosherlaw03.SlopeParts", spec := "slopeParts", unfollowed := true, recurses := true, named := ["tosher/slope.none"], apart := false, laid := [("tosher/slope.none", laid_tosher_slope_none)], narrowed := true }
def SlopePartsUptoSaid : Prop := slopePartsUptoRow.holds Tryd.pinned (OpenSpec.upto slopePartsSpec)

/-- 'tosherlaw03.SlopeNegated', WHERE WHAT IT READS IS OF BULK AT MOST 1048576: true; the input reads as it did. -/
def slopeNegatedUptoRow : OpenClaim := { program := "ytmgbbajgajmdjaadoor", sum := "9f11f2cadfd3bdddbe08db3c54b097057464a8ed516ca5ad2cd2a3d1005d9319", func := "tosher/tosherlaw03.SlopeNegated", spec := "slopeNegated", unfollowed := true, recurses := true, named := ["tosher/slope.none"], apart := false, laid := [("tosher/slope.none", laid_tosher_slope_none)], narrowed := true }
def SlopeNegatedUptoSaid : Prop := slopeNegatedUptoRow.holds Tryd.pinned (OpenSpec.upto slopeNegatedSpec)

/-- 'tosherlaw03.SlopeChecks', WHERE WHAT IT READS IS OF BULK AT MOST 1048576: true; the input reads as it did. -/
def slopeChecksUptoRow : OpenClaim := { program := "ytmgbbajgajmdjaadoor", sum := "9f11f2cadfd3bdddbe08db3c54b097057464a8ed516ca5ad2cd2a3d1005d9319", func := "tosher/tosherlaw03.SlopeChecks", spec := "slopeChecks", unfollowed := true, recurses := true, named := ["tosher/slope.none"], apart := false, laid := [("tosher/slope.none", laid_tosher_slope_none)], narrowed := true }
def SlopeChecksUptoSaid : Prop := slopeChecksUptoRow.holds Tryd.pinned (OpenSpec.upto slopeChecksSpec)

end Rows
end Go.Proofs.YtmgbbajgajmdjaaDoor
