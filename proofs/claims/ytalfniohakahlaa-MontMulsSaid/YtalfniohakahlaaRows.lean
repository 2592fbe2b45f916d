/-
  No cell of these rows narrows 'for every input' (looked for: loops, veiled, ifaces, maps, wideKeys, modest, calm, conditions, laid).
  DERIVED. THE GIVEN ROWS OF THIS SEAT. 12 by the template 'for every input the law returns true; each argument reads behind the call as it read before'; 0 by the template 'total and deterministic' (their statements: YtalfniohakahlaaTotals.lean).
  GIVEN WITH THE SEED: the statements are not yours to turn. If you find one false, say at which input.
  Laid BY PROGRAM, IN A SANDBOX (cutbox-rows.mjs): the forced cells as the released guide's own fill.sh prints them over the translation b10d3d5e3a02a78b… (all of the seat's roots in one cut). By AI agents, Wed Nov 11 2026. No macro, syntax, notation, axiom, sorry.
-/
import Derived.Test.YtalfniohakahlaaChecked
import GoSem.Claim
import GoSem.ClaimJoined
import GoSem.ClaimMapViews
import Derived.JoinedTies
import Derived.KernelRfl
namespace Go.Proofs.Ytalfniohakahlaa
/- THE CELL 'sum', in the pinned program and in every row, IS THE sha256 OF THE DUMP (.gsa) THAT YtalfniohakahlaaProg.lean LOADS. Nothing in Lean hashes anything: it is a label: what it is worth is what the hold of that sum in a sandbox is worth. -/
noncomputable def Try.pinned : Pinned := { name := "ytalfniohakahlaa", sum := "b10d3d5e3a02a78b6474da33ffb110e557777e0c4be2bac0b5b034a54f3cbd41", checked := Try.checked }
namespace Rows
def none {H : Type} : Left H := { results := [], args := [] }

/-- 'sconcelaw05.ProductMuls': WHATEVER THE INPUT: true; the input reads as it did. -/
def productMulsSpec : ChangeSpec := { name := "productMuls", fn := fun _ => fun
  | [d1, d2] => { results := [.lit (.bool true)], args := [d1, d2] }
  | _ => none }
def productMulsRow : OpenClaim := { program := "ytalfniohakahlaa", sum := "b10d3d5e3a02a78b6474da33ffb110e557777e0c4be2bac0b5b034a54f3cbd41", func := "sconce/sconcelaw05.ProductMuls", spec := "productMuls", inPlace := ["math/bits.Add64", "math/bits.Sub64"], unfollowed := true, recurses := true, apart := false }
def ProductMulsSaid : Prop := productMulsRow.holds Try.pinned (OpenSpec.ofChange productMulsSpec)

/-- ITS FALSE NEIGHBOUR: 'it returns false'. Refute it at one input. -/
def productMulsWrong : ChangeSpec := { name := "productMuls", fn := fun _ => fun
  | [d1, d2] => { results := [.lit (.bool false)], args := [d1, d2] }
  | _ => none }
def ProductMulsWrongFalsely : Prop := productMulsRow.holds Try.pinned (OpenSpec.ofChange productMulsWrong)

/-- 'sconcelaw05.ProductLaws': WHATEVER THE INPUT: true; the input reads as it did. -/
def productLawsSpec : ChangeSpec := { name := "productLaws", fn := fun _ => fun
  | [d1, d2, d3] => { results := [.lit (.bool true)], args := [d1, d2, d3] }
  | _ => none }
def productLawsRow : OpenClaim := { program := "ytalfniohakahlaa", sum := "b10d3d5e3a02a78b6474da33ffb110e557777e0c4be2bac0b5b034a54f3cbd41", func := "sconce/sconcelaw05.ProductLaws", spec := "productLaws", inPlace := ["math/bits.Add64", "math/bits.Sub64"], unfollowed := true, recurses := true, apart := false }
def ProductLawsSaid : Prop := productLawsRow.holds Try.pinned (OpenSpec.ofChange productLawsSpec)

/-- ITS FALSE NEIGHBOUR: 'it returns false'. Refute it at one input. -/
def productLawsWrong : ChangeSpec := { name := "productLaws", fn := fun _ => fun
  | [d1, d2, d3] => { results := [.lit (.bool false)], args := [d1, d2, d3] }
  | _ => none }
def ProductLawsWrongFalsely : Prop := productLawsRow.holds Try.pinned (OpenSpec.ofChange productLawsWrong)

/-- 'sconcelaw05.ProductWords': WHATEVER THE INPUT: true; the input reads as it did. -/
def productWordsSpec : ChangeSpec := { name := "productWords", fn := fun _ => fun
  | [d1, d2, d3] => { results := [.lit (.bool true)], args := [d1, d2, d3] }
  | _ => none }
def productWordsRow : OpenClaim := { program := "ytalfniohakahlaa", sum := "b10d3d5e3a02a78b6474da33ffb110e557777e0c4be2bac0b5b034a54f3cbd41", func := "sconce/sconcelaw05.ProductWords", spec := "productWords", inPlace := ["math/bits.Add64", "math/bits.Sub64"], unfollowed := true, recurses := true, apart := false }
def ProductWordsSaid : Prop := productWordsRow.holds Try.pinned (OpenSpec.ofChange productWordsSpec)

/-- ITS FALSE NEIGHBOUR: 'it returns false'. Refute it at one input. -/
def productWordsWrong : ChangeSpec := { name := "productWords", fn := fun _ => fun
  | [d1, d2, d3] => { results := [.lit (.bool false)], args := [d1, d2, d3] }
  | _ => none }
def ProductWordsWrongFalsely : Prop := productWordsRow.holds Try.pinned (OpenSpec.ofChange productWordsWrong)

/-- 'sconcelaw05.ProductSeen': WHATEVER THE INPUT: true; the input reads as it did. -/
def productSeenSpec : ChangeSpec := { name := "productSeen", fn := fun _ => fun
  | [d1, d2, d3, d4, d5, d6] => { results := [.lit (.bool true)], args := [d1, d2, d3, d4, d5, d6] }
  | _ => none }
def productSeenRow : OpenClaim := { program := "ytalfniohakahlaa", sum := "b10d3d5e3a02a78b6474da33ffb110e557777e0c4be2bac0b5b034a54f3cbd41", func := "sconce/sconcelaw05.ProductSeen", spec := "productSeen", inPlace := ["math/bits.Add64", "math/bits.Sub64"], unfollowed := true, recurses := true, apart := false }
def ProductSeenSaid : Prop := productSeenRow.holds Try.pinned (OpenSpec.ofChange productSeenSpec)

/-- ITS FALSE NEIGHBOUR: 'it returns false'. Refute it at one input. -/
def productSeenWrong : ChangeSpec := { name := "productSeen", fn := fun _ => fun
  | [d1, d2, d3, d4, d5, d6] => { results := [.lit (.bool false)], args := [d1, d2, d3, d4, d5, d6] }
  | _ => none }
def ProductSeenWrongFalsely : Prop := productSeenRow.holds Try.pinned (OpenSpec.ofChange productSeenWrong)

/-- 'sconcelaw05.ProductSmall': WHATEVER THE INPUT: true; the input reads as it did. -/
def productSmallSpec : ChangeSpec := { name := "productSmall", fn := fun _ => fun
  | [d1, d2] => { results := [.lit (.bool true)], args := [d1, d2] }
  | _ => none }
def productSmallRow : OpenClaim := { program := "ytalfniohakahlaa", sum := "b10d3d5e3a02a78b6474da33ffb110e557777e0c4be2bac0b5b034a54f3cbd41", func := "sconce/sconcelaw05.ProductSmall", spec := "productSmall", inPlace := ["math/bits.Add64", "math/bits.Sub64"], unfollowed := true, recurses := true, named := ["math/bits.divideError", "math/bits.overflowError"], apart := false }
def ProductSmallSaid : Prop := productSmallRow.holds Try.pinned (OpenSpec.ofChange productSmallSpec)

/-- ITS FALSE NEIGHBOUR: 'it returns false'. Refute it at one input. -/
def productSmallWrong : ChangeSpec := { name := "productSmall", fn := fun _ => fun
  | [d1, d2] => { results := [.lit (.bool false)], args := [d1, d2] }
  | _ => none }
def ProductSmallWrongFalsely : Prop := productSmallRow.holds Try.pinned (OpenSpec.ofChange productSmallWrong)

/-- 'sconcelaw05.ProductDivides': WHATEVER THE INPUT: true; the input reads as it did. -/
def productDividesSpec : ChangeSpec := { name := "productDivides", fn := fun _ => fun
  | [d1, d2] => { results := [.lit (.bool true)], args := [d1, d2] }
  | _ => none }
def productDividesRow : OpenClaim := { program := "ytalfniohakahlaa", sum := "b10d3d5e3a02a78b6474da33ffb110e557777e0c4be2bac0b5b034a54f3cbd41", func := "sconce/sconcelaw05.ProductDivides", spec := "productDivides", inPlace := ["math/bits.Add64", "math/bits.Sub64"], unfollowed := true, recurses := true, named := ["math/bits.divideError", "math/bits.overflowError"], apart := false }
def ProductDividesSaid : Prop := productDividesRow.holds Try.pinned (OpenSpec.ofChange productDividesSpec)

/-- ITS FALSE NEIGHBOUR: 'it returns false'. Refute it at one input. -/
def productDividesWrong : ChangeSpec := { name := "productDivides", fn := fun _ => fun
  | [d1, d2] => { results := [.lit (.bool false)], args := [d1, d2] }
  | _ => none }
def ProductDividesWrongFalsely : Prop := productDividesRow.holds Try.pinned (OpenSpec.ofChange productDividesWrong)

/-- 'sconcelaw05.ProductBack': WHATEVER THE INPUT: true; the input reads as it did. -/
def productBackSpec : ChangeSpec := { name := "productBack", fn := fun _ => fun
  | [d1, d2] => { results := [.lit (.bool true)], args := [d1, d2] }
  | _ => none }
def productBackRow : OpenClaim := { program := "ytalfniohakahlaa", sum := "b10d3d5e3a02a78b6474da33ffb110e557777e0c4be2bac0b5b034a54f3cbd41", func := "sconce/sconcelaw05.ProductBack", spec := "productBack", inPlace := ["math/bits.Add64", "math/bits.Sub64"], unfollowed := true, recurses := true, named := ["math/bits.divideError", "math/bits.overflowError"], apart := false }
def ProductBackSaid : Prop := productBackRow.holds Try.pinned (OpenSpec.ofChange productBackSpec)

/-- ITS FALSE NEIGHBOUR: 'it returns false'. Refute it at one input. -/
def productBackWrong : ChangeSpec := { name := "productBack", fn := fun _ => fun
  | [d1, d2] => { results := [.lit (.bool false)], args := [d1, d2] }
  | _ => none }
def ProductBackWrongFalsely : Prop := productBackRow.holds Try.pinned (OpenSpec.ofChange productBackWrong)

/-- 'sconcelaw05.ProductNested': WHATEVER THE INPUT: true; the input reads as it did. -/
def productNestedSpec : ChangeSpec := { name := "productNested", fn := fun _ => fun
  | [d1, d2, d3] => { results := [.lit (.bool true)], args := [d1, d2, d3] }
  | _ => none }
def productNestedRow : OpenClaim := { program := "ytalfniohakahlaa", sum := "b10d3d5e3a02a78b6474da33ffb110e557777e0c4be2bac0b5b034a54f3cbd41", func := "sconce/sconcelaw05.ProductNested", spec := "productNested", inPlace := ["math/bits.Add64", "math/bits.Sub64"], unfollowed := true, recurses := true, named := ["math/bits.divideError", "math/bits.overflowError"], apart := false }
def ProductNestedSaid : Prop := productNestedRow.holds Try.pinned (OpenSpec.ofChange productNestedSpec)

/-- ITS FALSE NEIGHBOUR: 'it returns false'. Refute it at one input. -/
def productNestedWrong : ChangeSpec := { name := "productNested", fn := fun _ => fun
  | [d1, d2, d3] => { results := [.lit (.bool false)], args := [d1, d2, d3] }
  | _ => none }
def ProductNestedWrongFalsely : Prop := productNestedRow.holds Try.pinned (OpenSpec.ofChange productNestedWrong)

/-- 'sconcelaw06.MontSetup': WHATEVER THE INPUT: true; the input reads as it did. -/
def montSetupSpec : ChangeSpec := { name := "montSetup", fn := fun _ => fun
  | [d] => { results := [.lit (.bool true)], args := [d] }
  | _ => none }
def montSetupRow : OpenClaim := { program := "ytalfniohakahlaa", sum := "b10d3d5e3a02a78b6474da33ffb110e557777e0c4be2bac0b5b034a54f3cbd41", func := "sconce/sconcelaw06.MontSetup", spec := "montSetup", inPlace := ["math/bits.Add64", "math/bits.Sub64"], unfollowed := true, recurses := true, named := ["math/bits.divideError", "math/bits.overflowError"], apart := false }
def MontSetupSaid : Prop := montSetupRow.holds Try.pinned (OpenSpec.ofChange montSetupSpec)

/-- ITS FALSE NEIGHBOUR: 'it returns false'. Refute it at one input. -/
def montSetupWrong : ChangeSpec := { name := "montSetup", fn := fun _ => fun
  | [d] => { results := [.lit (.bool false)], args := [d] }
  | _ => none }
def MontSetupWrongFalsely : Prop := montSetupRow.holds Try.pinned (OpenSpec.ofChange montSetupWrong)

/-- 'sconcelaw06.MontChecks': WHATEVER THE INPUT: true; the input reads as it did. -/
def montChecksSpec : ChangeSpec := { name := "montChecks", fn := fun _ => fun
  | [d] => { results := [.lit (.bool true)], args := [d] }
  | _ => none }
def montChecksRow : OpenClaim := { program := "ytalfniohakahlaa", sum := "b10d3d5e3a02a78b6474da33ffb110e557777e0c4be2bac0b5b034a54f3cbd41", func := "sconce/sconcelaw06.MontChecks", spec := "montChecks", inPlace := ["math/bits.Add64", "math/bits.Sub64"], unfollowed := true, recurses := true, named := ["math/bits.divideError", "math/bits.overflowError"], apart := false }
def MontChecksSaid : Prop := montChecksRow.holds Try.pinned (OpenSpec.ofChange montChecksSpec)

/-- ITS FALSE NEIGHBOUR: 'it returns false'. Refute it at one input. -/
def montChecksWrong : ChangeSpec := { name := "montChecks", fn := fun _ => fun
  | [d] => { results := [.lit (.bool false)], args := [d] }
  | _ => none }
def MontChecksWrongFalsely : Prop := montChecksRow.holds Try.pinned (OpenSpec.ofChange montChecksWrong)

/-- 'sconcelaw06.MontMuls': WHATEVER THE INPUT: true; the input reads as it did. -/
def montMulsSpec : ChangeSpec := { name := "montMuls", fn := fun _ => fun
  | [d1, d2, d3] => { results := [.lit (.bool true)], args := [d1, d2, d3] }
  | _ => none }
def montMulsRow : OpenClaim := { program := "ytalfniohakahlaa", sum := "b10d3d5e3a02a78b6474da33ffb110e557777e0c4be2bac0b5b034a54f3cbd41", func := "sconce/sconcelaw06.MontMuls", spec := "montMuls", inPlace := ["math/bits.Add64", "math/bits.Sub64"], unfollowed := true, recurses := true, named := ["math/bits.divideError", "math/bits.overflowError"], apart := false }
def MontMulsSaid : Prop := montMulsRow.holds Try.pinned (OpenSpec.ofChange montMulsSpec)

/-- ITS FALSE NEIGHBOUR: 'it returns false'. Refute it at one input. -/
def montMulsWrong : ChangeSpec := { name := "montMuls", fn := fun _ => fun
  | [d1, d2, d3] => { results := [.lit (.bool false)], args := [d1, d2, d3] }
  | _ => none }
def MontMulsWrongFalsely : Prop := montMulsRow.holds Try.pinned (OpenSpec.ofChange montMulsWrong)

/-- 'sconcelaw06.MontRing': WHATEVER THE INPUT: true; the input reads as it did. -/
def montRingSpec : ChangeSpec := { name := "montRing", fn := fun _ => fun
  | [d1, d2, d3] => { results := [.lit (.bool true)], args := [d1, d2, d3] }
  | _ => none }
def montRingRow : OpenClaim := { program := "ytalfniohakahlaa", sum := "b10d3d5e3a02a78b6474da33ffb110e557777e0c4be2bac0b5b034a54f3cbd41", func := "sconce/sconcelaw06.MontRing", spec := "montRing", inPlace := ["math/bits.Add64", "math/bits.Sub64"], unfollowed := true, recurses := true, named := ["math/bits.divideError", "math/bits.overflowError"], apart := false }
def MontRingSaid : Prop := montRingRow.holds Try.pinned (OpenSpec.ofChange montRingSpec)

/-- ITS FALSE NEIGHBOUR: 'it returns false'. Refute it at one input. -/
def montRingWrong : ChangeSpec := { name := "montRing", fn := fun _ => fun
  | [d1, d2, d3] => { results := [.lit (.bool false)], args := [d1, d2, d3] }
  | _ => none }
def MontRingWrongFalsely : Prop := montRingRow.holds Try.pinned (OpenSpec.ofChange montRingWrong)

/- THE SECOND FORM. 'bulk': how many values and letters a reading holds, each counted each time it is reached (what is shared counts as often as it is met; a slice's spare places count too). A statement '..UptoSaid' is the law's where the arguments, and the package variables that the reading takes, are together of bulk at most 1048576: NARROWER than '..Said'. Prove '..Said' where nothing that the law and all that it calls make is longer than what came in: it says more and counts as full. Else prove '..UptoSaid'. A law counts once. -/
mutual
def uptoBulk {H : Type} : DataW H → Nat
  | .lit (.string bytes) => bytes.length + 1
  | .lit _ => 1
  | .nil => 1
  | .ptr d => uptoBulk d + 1
  | .slice elems spare => uptoBulkAll elems + uptoBulkAll spare + 1
  | .agg parts => uptoBulkAll parts + 1
  | .iface _ d => uptoBulk d + 1
  | .map entries => uptoBulkEntries entries + 1
  | .held _ => 1
def uptoBulkAll {H : Type} : List (DataW H) → Nat
  | [] => 0
  | d :: r => uptoBulk d + uptoBulkAll r
def uptoBulkEntries {H : Type} : List (Lit × DataW H) → Nat
  | [] => 0
  | x :: r => uptoBulkEntry x + uptoBulkEntries r
def uptoBulkEntry {H : Type} : Lit × DataW H → Nat
  | (.string bytes, d) => bytes.length + uptoBulk d + 1
  | (_, d) => uptoBulk d + 1
 end
def uptoSmall : (H : Type) → List (DataW H) → Bool := fun _ ds => decide (uptoBulkAll ds ≤ 1048576)
def OpenSpec.upto (s : _root_.Go.ChangeSpec) : _root_.Go.OpenSpec := { _root_.Go.OpenSpec.ofChange s with cond := some uptoSmall }

/-- 'sconcelaw05.ProductMuls', WHERE WHAT IT READS IS OF BULK AT MOST 1048576: true; the input reads as it did. -/
def productMulsUptoRow : OpenClaim := { program := "ytalfniohakahlaa", sum := "b10d3d5e3a02a78b6474da33ffb110e557777e0c4be2bac0b5b034a54f3cbd41", func := "sconce/sconcelaw05.ProductMuls", spec := "productMuls", inPlace := ["math/bits.Add64", "math/bits.Sub64"], unfollowed := true, recurses := true, apart := false, narrowed := true }
def ProductMulsUptoSaid : Prop := productMulsUptoRow.holds Try.pinned (OpenSpec.upto productMulsSpec)

/-- 'sconcelaw05.ProductLaws', WHERE WHAT IT READS IS OF BULK AT MOST 1048576: true; the input reads as it did. -/
def productLawsUptoRow : OpenClaim := { program := "ytalfniohakahlaa", sum := "b10d3d5e3a02a78b6474da33ffb110e557777e0c4be2bac0b5b034a54f3cbd41", func := "sconce/sconcelaw05.ProductLaws", spec := "productLaws", inPlace := ["math/bits.Add64", "math/bits.Sub64"], unfollowed := true, recurses := true, apart := false, narrowed := true }
def ProductLawsUptoSaid : Prop := productLawsUptoRow.holds Try.pinned (OpenSpec.upto productLawsSpec)

/-- 'sconcelaw05.ProductWords', WHERE WHAT IT READS IS OF BULK AT MOST 1048576: true; the input reads as it did. -/
def productWordsUptoRow : OpenClaim := { program := "ytalfniohakahlaa", sum := "b10d3d5e3a02a78b6474da33ffb110e557777e0c4be2bac0b5b034a54f3cbd41", func := "sconce/sconcelaw05.ProductWords", spec := "productWords", inPlace := ["math/bits.Add64", "math/bits.Sub64"], unfollowed := true, recurses := true, apart := false, narrowed := true }
def ProductWordsUptoSaid : Prop := productWordsUptoRow.holds Try.pinned (OpenSpec.upto productWordsSpec)

/-- 'sconcelaw05.ProductSeen', WHERE WHAT IT READS IS OF BULK AT MOST 1048576: true; the input reads as it did. -/
def productSeenUptoRow : OpenClaim := { program := "ytalfniohakahlaa", sum := "b10d3d5e3a02a78b6474da33ffb110e557777e0c4be2bac0b5b034a54f3cbd41", func := "sconce/sconcelaw05.ProductSeen", spec := "productSeen", inPlace := ["math/bits.Add64", "math/bits.Sub64"], unfollowed := true, recurses := true, apart := false, narrowed := true }
def ProductSeenUptoSaid : Prop := productSeenUptoRow.holds Try.pinned (OpenSpec.upto productSeenSpec)

/-- 'sconcelaw05.ProductSmall', WHERE WHAT IT READS IS OF BULK AT MOST 1048576: true; the input reads as it did. -/
def productSmallUptoRow : OpenClaim := { program := "ytalfniohakahlaa", sum := "b10d3d5e3a02a78b6474da33ffb110e557777e0c4be2bac0b5b034a54f3cbd41", func := "sconce/sconcelaw05.ProductSmall", spec := "productSmall", inPlace := ["math/bits.Add64", "math/bits.Sub64"], unfollowed := true, recurses := true, named := ["math/bits.divideError", "math/bits.overflowError"], apart := false, narrowed := true }
def ProductSmallUptoSaid : Prop := productSmallUptoRow.holds Try.pinned (OpenSpec.upto productSmallSpec)

/-- 'sconcelaw05.ProductDivides', WHERE WHAT IT READS IS OF BULK AT MOST 1048576: true; the input reads as it did. -/
def productDividesUptoRow : OpenClaim := { program := "ytalfniohakahlaa", sum := "b10d3d5e3a02a78b6474da33ffb110e557777e0c4be2bac0b5b034a54f3cbd41", func := "sconce/sconcelaw05.ProductDivides", spec := "productDivides", inPlace := ["math/bits.Add64", "math/bits.Sub64"], unfollowed := true, recurses := true, named := ["math/bits.divideError", "math/bits.overflowError"], apart := false, narrowed := true }
def ProductDividesUptoSaid : Prop := productDividesUptoRow.holds Try.pinned (OpenSpec.upto productDividesSpec)

/-- 'sconcelaw05.ProductBack', WHERE WHAT IT READS IS OF BULK AT MOST 1048576: true; the input reads as it did. -/
def productBackUptoRow : OpenClaim := { program := "ytalfniohakahlaa", sum := "b10d3d5e3a02a78b6474da33ffb110e557777e0c4be2bac0b5b034a54f3cbd41", func := "sconce/sconcelaw05.ProductBack", spec := "productBack", inPlace := ["math/bits.Add64", "math/bits.Sub64"], unfollowed := true, recurses := true, named := ["math/bits.divideError", "math/bits.overflowError"], apart := false, narrowed := true }
def ProductBackUptoSaid : Prop := productBackUptoRow.holds Try.pinned (OpenSpec.upto productBackSpec)

/-- 'sconcelaw05.ProductNested', WHERE WHAT IT READS IS OF BULK AT MOST 1048576: true; the input reads as it did. -/
def productNestedUptoRow : OpenClaim := { program := "ytalfniohakahlaa", sum := "b10d3d5e3a02a78b6474da33ffb110e557777e0c4be2bac0b5b034a54f3cbd41", func := "sconce/sconcelaw05.ProductNested", spec := "productNested", inPlace := ["math/bits.Add64", "math/bits.Sub64"], unfollowed := true, recurses := true, named := ["math/bits.divideError", "math/bits.overflowError"], apart := false, narrowed := true }
def ProductNestedUptoSaid : Prop := productNestedUptoRow.holds Try.pinned (OpenSpec.upto productNestedSpec)

/-- 'sconcelaw06.MontSetup', WHERE WHAT IT READS IS OF BULK AT MOST 1048576: true; the input reads as it did. -/
def montSetupUptoRow : OpenClaim := { program := "ytalfniohakahlaa", sum := "b10d3d5e3a02a78b6474da33ffb110e557777e0c4be2bac0b5b034a54f3cbd41", func := "sconce/sconcelaw06.MontSetup", spec := "montSetup", inPlace := ["math/bits.Add64", "math/bits.Sub64"], unfollowed := true, recurses := true, named := ["math/bits.divideError", "math/bits.overflowError"], apart := false, narrowed := true }
def MontSetupUptoSaid : Prop := montSetupUptoRow.holds Try.pinned (OpenSpec.upto montSetupSpec)

/-- 'sconcelaw06.MontChecks', WHERE WHAT IT READS IS OF BULK AT MOST 1048576: true; the input reads as it did. -/
def montChecksUptoRow : OpenClaim := { program := "ytalfniohakahlaa", sum := "b10d3d5e3a02a78b6474da33ffb110e557777e0c4be2bac0b5b034a54f3cbd41", func := "sconce/sconcelaw06.MontChecks", spec := "montChecks", inPlace := ["math/bits.Add64", "math/bits.Sub64"], unfollowed := true, recurses := true, named := ["math/bits.divideError", "math/bits.overflowError"], apart := false, narrowed := true }
def MontChecksUptoSaid : Prop := montChecksUptoRow.holds Try.pinned (OpenSpec.upto montChecksSpec)

/-- 'sconcelaw06.MontMuls', WHERE WHAT IT READS IS OF BULK AT MOST 1048576: true; the input reads as it did. -/
def montMulsUptoRow : OpenClaim := { program := "ytalfniohakahlaa", sum := "b10d3d5e3a02a78b6474da33ffb110e557777e0c4be2bac0b5b034a54f3cbd41", func := "sconce/sconcelaw06.MontMuls", spec := "montMuls", inPlace := ["math/bits.Add64", "math/bits.Sub64"], unfollowed := true, recurses := true, named := ["math/bits.divideError", "math/bits.overflowError"], apart := false, narrowed := true }
def MontMulsUptoSaid : Prop := montMulsUptoRow.holds Try.pinned (OpenSpec.upto montMulsSpec)

/-- 'sconcelaw06.MontRing', WHERE WHAT IT READS IS OF BULK AT MOST 1048576: true; the input reads as it did. -/
def montRingUptoRow : OpenClaim := { program := "ytalfniohakahlaa", sum := "b10d3d5e3a02a78b6474da33ffb110e557777e0c4be2bac0b5b034a54f3cbd41", func := "sconce/sconcelaw06.MontRing", spec := "montRing", inPlace := ["math/bits.Add64", "math/bits.Sub64"], unfollowed := true, recurses := true, named := ["math/bits.divideError", "math/bits.overflowError"], apart := false, narrowed := true }
def MontRingUptoSaid : Prop := montRingUptoRow.holds Try.pinned (OpenSpec.upto montRingSpec)

end Rows
end Go.Proofs.Ytalfniohakahlaa
