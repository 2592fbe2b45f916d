/-
  No cell of these rows narrows 'for every input' (looked for: loops, veiled, ifaces, maps, wideKeys, modest, calm, conditions, laid).
  DERIVED. THE GIVEN ROWS OF THIS SEAT. 13 by the template 'for every input the law returns true; each argument reads behind the call as it read before'; 0 by the template 'total and deterministic' (their statements: YtonpekldcnankaaTotals.lean).
  GIVEN WITH THE SEED: the statements are not yours to turn. If you find one false, say at which input.
  Laid BY PROGRAM, IN A SANDBOX (cutbox-rows.mjs): the forced cells as the released guide's own fill.sh prints them over the translation ecb31b0f8a8eb061… (all of the seat's roots in one cut). By AI agents, Wed Nov 11 2026. No macro, syntax, notation, axiom, sorry.
-/
import Derived.Test.YtonpekldcnankaaChecked
import GoSem.Claim
import GoSem.ClaimJoined
import GoSem.ClaimMapViews
import Derived.JoinedTies
import Derived.KernelRfl
namespace Go.Proofs.Ytonpekldcnankaa
/- THE CELL 'sum', in the pinned program and in every row, IS THE sha256 OF THE DUMP (.gsa) THAT YtonpekldcnankaaProg.lean LOADS. Nothing in Lean hashes anything: it is a label: what it is worth is what the hold of that sum in a sandbox is worth. -/
noncomputable def Try.pinned : Pinned := { name := "ytonpekldcnankaa", sum := "ecb31b0f8a8eb061f3ad142023dc6910e00d97a667f22c97500984dc4ae3f169", checked := Try.checked }
namespace Rows
def none {H : Type} : Left H := { results := [], args := [] }

/-- 'sconcelaw07.RingHalves': WHATEVER THE INPUT: true; the input reads as it did. -/
def ringHalvesSpec : ChangeSpec := { name := "ringHalves", fn := fun _ => fun
  | [d1, d2] => { results := [.lit (.bool true)], args := [d1, d2] }
  | _ => none }
def ringHalvesRow : OpenClaim := { program := "ytonpekldcnankaa", sum := "ecb31b0f8a8eb061f3ad142023dc6910e00d97a667f22c97500984dc4ae3f169", func := "sconce/sconcelaw07.RingHalves", spec := "ringHalves", inPlace := ["math/bits.Add64", "math/bits.Sub64"], unfollowed := true, recurses := true, named := ["math/bits.divideError", "math/bits.overflowError"], apart := false }
def RingHalvesSaid : Prop := ringHalvesRow.holds Try.pinned (OpenSpec.ofChange ringHalvesSpec)

/-- ITS FALSE NEIGHBOUR: 'it returns false'. Refute it at one input. -/
def ringHalvesWrong : ChangeSpec := { name := "ringHalves", fn := fun _ => fun
  | [d1, d2] => { results := [.lit (.bool false)], args := [d1, d2] }
  | _ => none }
def RingHalvesWrongFalsely : Prop := ringHalvesRow.holds Try.pinned (OpenSpec.ofChange ringHalvesWrong)

/-- 'sconcelaw07.RingAdds': WHATEVER THE INPUT: true; the input reads as it did. -/
def ringAddsSpec : ChangeSpec := { name := "ringAdds", fn := fun _ => fun
  | [d1, d2, d3] => { results := [.lit (.bool true)], args := [d1, d2, d3] }
  | _ => none }
def ringAddsRow : OpenClaim := { program := "ytonpekldcnankaa", sum := "ecb31b0f8a8eb061f3ad142023dc6910e00d97a667f22c97500984dc4ae3f169", func := "sconce/sconcelaw07.RingAdds", spec := "ringAdds", inPlace := ["math/bits.Add64", "math/bits.Sub64"], unfollowed := true, recurses := true, named := ["math/bits.divideError", "math/bits.overflowError"], apart := false }
def RingAddsSaid : Prop := ringAddsRow.holds Try.pinned (OpenSpec.ofChange ringAddsSpec)

/-- ITS FALSE NEIGHBOUR: 'it returns false'. Refute it at one input. -/
def ringAddsWrong : ChangeSpec := { name := "ringAdds", fn := fun _ => fun
  | [d1, d2, d3] => { results := [.lit (.bool false)], args := [d1, d2, d3] }
  | _ => none }
def RingAddsWrongFalsely : Prop := ringAddsRow.holds Try.pinned (OpenSpec.ofChange ringAddsWrong)

/-- 'sconcelaw07.RingMuls': WHATEVER THE INPUT: true; the input reads as it did. -/
def ringMulsSpec : ChangeSpec := { name := "ringMuls", fn := fun _ => fun
  | [d1, d2, d3] => { results := [.lit (.bool true)], args := [d1, d2, d3] }
  | _ => none }
def ringMulsRow : OpenClaim := { program := "ytonpekldcnankaa", sum := "ecb31b0f8a8eb061f3ad142023dc6910e00d97a667f22c97500984dc4ae3f169", func := "sconce/sconcelaw07.RingMuls", spec := "ringMuls", inPlace := ["math/bits.Add64", "math/bits.Sub64"], unfollowed := true, recurses := true, named := ["math/bits.divideError", "math/bits.overflowError"], apart := false }
def RingMulsSaid : Prop := ringMulsRow.holds Try.pinned (OpenSpec.ofChange ringMulsSpec)

/-- ITS FALSE NEIGHBOUR: 'it returns false'. Refute it at one input. -/
def ringMulsWrong : ChangeSpec := { name := "ringMuls", fn := fun _ => fun
  | [d1, d2, d3] => { results := [.lit (.bool false)], args := [d1, d2, d3] }
  | _ => none }
def RingMulsWrongFalsely : Prop := ringMulsRow.holds Try.pinned (OpenSpec.ofChange ringMulsWrong)

/-- 'sconcelaw07.RingReduces': WHATEVER THE INPUT: true; the input reads as it did. -/
def ringReducesSpec : ChangeSpec := { name := "ringReduces", fn := fun _ => fun
  | [d1, d2] => { results := [.lit (.bool true)], args := [d1, d2] }
  | _ => none }
def ringReducesRow : OpenClaim := { program := "ytonpekldcnankaa", sum := "ecb31b0f8a8eb061f3ad142023dc6910e00d97a667f22c97500984dc4ae3f169", func := "sconce/sconcelaw07.RingReduces", spec := "ringReduces", inPlace := ["math/bits.Add64", "math/bits.Sub64"], unfollowed := true, recurses := true, named := ["math/bits.divideError", "math/bits.overflowError"], apart := false }
def RingReducesSaid : Prop := ringReducesRow.holds Try.pinned (OpenSpec.ofChange ringReducesSpec)

/-- ITS FALSE NEIGHBOUR: 'it returns false'. Refute it at one input. -/
def ringReducesWrong : ChangeSpec := { name := "ringReduces", fn := fun _ => fun
  | [d1, d2] => { results := [.lit (.bool false)], args := [d1, d2] }
  | _ => none }
def RingReducesWrongFalsely : Prop := ringReducesRow.holds Try.pinned (OpenSpec.ofChange ringReducesWrong)

/-- 'sconcelaw07.RingLaws': WHATEVER THE INPUT: true; the input reads as it did. -/
def ringLawsSpec : ChangeSpec := { name := "ringLaws", fn := fun _ => fun
  | [d1, d2, d3, d4] => { results := [.lit (.bool true)], args := [d1, d2, d3, d4] }
  | _ => none }
def ringLawsRow : OpenClaim := { program := "ytonpekldcnankaa", sum := "ecb31b0f8a8eb061f3ad142023dc6910e00d97a667f22c97500984dc4ae3f169", func := "sconce/sconcelaw07.RingLaws", spec := "ringLaws", inPlace := ["math/bits.Add64", "math/bits.Sub64"], unfollowed := true, recurses := true, named := ["math/bits.divideError", "math/bits.overflowError"], apart := false }
def RingLawsSaid : Prop := ringLawsRow.holds Try.pinned (OpenSpec.ofChange ringLawsSpec)

/-- ITS FALSE NEIGHBOUR: 'it returns false'. Refute it at one input. -/
def ringLawsWrong : ChangeSpec := { name := "ringLaws", fn := fun _ => fun
  | [d1, d2, d3, d4] => { results := [.lit (.bool false)], args := [d1, d2, d3, d4] }
  | _ => none }
def RingLawsWrongFalsely : Prop := ringLawsRow.holds Try.pinned (OpenSpec.ofChange ringLawsWrong)

/-- 'sconcelaw09.ShortExps': WHATEVER THE INPUT: true; the input reads as it did. -/
def shortExpsSpec : ChangeSpec := { name := "shortExps", fn := fun _ => fun
  | [d1, d2, d3] => { results := [.lit (.bool true)], args := [d1, d2, d3] }
  | _ => none }
def shortExpsRow : OpenClaim := { program := "ytonpekldcnankaa", sum := "ecb31b0f8a8eb061f3ad142023dc6910e00d97a667f22c97500984dc4ae3f169", func := "sconce/sconcelaw09.ShortExps", spec := "shortExps", inPlace := ["math/bits.Sub64", "math/bits.Add64"], unfollowed := true, recurses := true, named := ["math/bits.divideError", "math/bits.overflowError"], apart := false }
def ShortExpsSaid : Prop := shortExpsRow.holds Try.pinned (OpenSpec.ofChange shortExpsSpec)

/-- ITS FALSE NEIGHBOUR: 'it returns false'. Refute it at one input. -/
def shortExpsWrong : ChangeSpec := { name := "shortExps", fn := fun _ => fun
  | [d1, d2, d3] => { results := [.lit (.bool false)], args := [d1, d2, d3] }
  | _ => none }
def ShortExpsWrongFalsely : Prop := shortExpsRow.holds Try.pinned (OpenSpec.ofChange shortExpsWrong)

/-- 'sconcelaw09.ShortQuick': WHATEVER THE INPUT: true; the input reads as it did. -/
def shortQuickSpec : ChangeSpec := { name := "shortQuick", fn := fun _ => fun
  | [d1, d2, d3] => { results := [.lit (.bool true)], args := [d1, d2, d3] }
  | _ => none }
def shortQuickRow : OpenClaim := { program := "ytonpekldcnankaa", sum := "ecb31b0f8a8eb061f3ad142023dc6910e00d97a667f22c97500984dc4ae3f169", func := "sconce/sconcelaw09.ShortQuick", spec := "shortQuick", inPlace := ["math/bits.Sub64", "math/bits.Add64"], unfollowed := true, recurses := true, named := ["math/bits.divideError", "math/bits.overflowError"], apart := false }
def ShortQuickSaid : Prop := shortQuickRow.holds Try.pinned (OpenSpec.ofChange shortQuickSpec)

/-- ITS FALSE NEIGHBOUR: 'it returns false'. Refute it at one input. -/
def shortQuickWrong : ChangeSpec := { name := "shortQuick", fn := fun _ => fun
  | [d1, d2, d3] => { results := [.lit (.bool false)], args := [d1, d2, d3] }
  | _ => none }
def ShortQuickWrongFalsely : Prop := shortQuickRow.holds Try.pinned (OpenSpec.ofChange shortQuickWrong)

/-- 'sconcelaw09.ShortChains': WHATEVER THE INPUT: true; the input reads as it did. -/
def shortChainsSpec : ChangeSpec := { name := "shortChains", fn := fun _ => fun
  | [d1, d2, d3, d4] => { results := [.lit (.bool true)], args := [d1, d2, d3, d4] }
  | _ => none }
def shortChainsRow : OpenClaim := { program := "ytonpekldcnankaa", sum := "ecb31b0f8a8eb061f3ad142023dc6910e00d97a667f22c97500984dc4ae3f169", func := "sconce/sconcelaw09.ShortChains", spec := "shortChains", inPlace := ["math/bits.Sub64", "math/bits.Add64"], unfollowed := true, recurses := true, named := ["math/bits.divideError", "math/bits.overflowError"], apart := false }
def ShortChainsSaid : Prop := shortChainsRow.holds Try.pinned (OpenSpec.ofChange shortChainsSpec)

/-- ITS FALSE NEIGHBOUR: 'it returns false'. Refute it at one input. -/
def shortChainsWrong : ChangeSpec := { name := "shortChains", fn := fun _ => fun
  | [d1, d2, d3, d4] => { results := [.lit (.bool false)], args := [d1, d2, d3, d4] }
  | _ => none }
def ShortChainsWrongFalsely : Prop := shortChainsRow.holds Try.pinned (OpenSpec.ofChange shortChainsWrong)

/-- 'sconcelaw08.PowerSums': WHATEVER THE INPUT: true; the input reads as it did. -/
def powerSumsSpec : ChangeSpec := { name := "powerSums", fn := fun _ => fun
  | [d1, d2, d3, d4] => { results := [.lit (.bool true)], args := [d1, d2, d3, d4] }
  | _ => none }
def powerSumsRow : OpenClaim := { program := "ytonpekldcnankaa", sum := "ecb31b0f8a8eb061f3ad142023dc6910e00d97a667f22c97500984dc4ae3f169", func := "sconce/sconcelaw08.PowerSums", spec := "powerSums", inPlace := ["math/bits.Add64", "math/bits.Sub64"], unfollowed := true, recurses := true, named := ["math/bits.divideError", "math/bits.overflowError"], apart := false }
def PowerSumsSaid : Prop := powerSumsRow.holds Try.pinned (OpenSpec.ofChange powerSumsSpec)

/-- ITS FALSE NEIGHBOUR: 'it returns false'. Refute it at one input. -/
def powerSumsWrong : ChangeSpec := { name := "powerSums", fn := fun _ => fun
  | [d1, d2, d3, d4] => { results := [.lit (.bool false)], args := [d1, d2, d3, d4] }
  | _ => none }
def PowerSumsWrongFalsely : Prop := powerSumsRow.holds Try.pinned (OpenSpec.ofChange powerSumsWrong)

/-- 'sconcelaw19.KeyPublic': WHATEVER THE INPUT: true; the input reads as it did. -/
def keyPublicSpec : ChangeSpec := { name := "keyPublic", fn := fun _ => fun
  | [d1, d2] => { results := [.lit (.bool true)], args := [d1, d2] }
  | _ => none }
def keyPublicRow : OpenClaim := { program := "ytonpekldcnankaa", sum := "ecb31b0f8a8eb061f3ad142023dc6910e00d97a667f22c97500984dc4ae3f169", func := "sconce/sconcelaw19.KeyPublic", spec := "keyPublic", inPlace := ["math/bits.Sub64", "math/bits.Add64"], unfollowed := true, recurses := true, named := ["math/bits.divideError", "math/bits.overflowError"], apart := false }
def KeyPublicSaid : Prop := keyPublicRow.holds Try.pinned (OpenSpec.ofChange keyPublicSpec)

/-- ITS FALSE NEIGHBOUR: 'it returns false'. Refute it at one input. -/
def keyPublicWrong : ChangeSpec := { name := "keyPublic", fn := fun _ => fun
  | [d1, d2] => { results := [.lit (.bool false)], args := [d1, d2] }
  | _ => none }
def KeyPublicWrongFalsely : Prop := keyPublicRow.holds Try.pinned (OpenSpec.ofChange keyPublicWrong)

/-- 'sconcelaw19.KeyChecks': WHATEVER THE INPUT: true; the input reads as it did. -/
def keyChecksSpec : ChangeSpec := { name := "keyChecks", fn := fun _ => fun
  | [d] => { results := [.lit (.bool true)], args := [d] }
  | _ => none }
def keyChecksRow : OpenClaim := { program := "ytonpekldcnankaa", sum := "ecb31b0f8a8eb061f3ad142023dc6910e00d97a667f22c97500984dc4ae3f169", func := "sconce/sconcelaw19.KeyChecks", spec := "keyChecks", inPlace := ["math/bits.Sub64", "math/bits.Add64"], unfollowed := true, recurses := true, named := ["math/bits.divideError", "math/bits.overflowError"], apart := false }
def KeyChecksSaid : Prop := keyChecksRow.holds Try.pinned (OpenSpec.ofChange keyChecksSpec)

/-- ITS FALSE NEIGHBOUR: 'it returns false'. Refute it at one input. -/
def keyChecksWrong : ChangeSpec := { name := "keyChecks", fn := fun _ => fun
  | [d] => { results := [.lit (.bool false)], args := [d] }
  | _ => none }
def KeyChecksWrongFalsely : Prop := keyChecksRow.holds Try.pinned (OpenSpec.ofChange keyChecksWrong)

/-- 'sconcelaw19.KeyEquations': WHATEVER THE INPUT: true; the input reads as it did. -/
def keyEquationsSpec : ChangeSpec := { name := "keyEquations", fn := fun _ => fun
  | [d1, d2, d3] => { results := [.lit (.bool true)], args := [d1, d2, d3] }
  | _ => none }
def keyEquationsRow : OpenClaim := { program := "ytonpekldcnankaa", sum := "ecb31b0f8a8eb061f3ad142023dc6910e00d97a667f22c97500984dc4ae3f169", func := "sconce/sconcelaw19.KeyEquations", spec := "keyEquations", inPlace := ["math/bits.Sub64", "math/bits.Add64"], unfollowed := true, recurses := true, named := ["math/bits.divideError", "math/bits.overflowError"], apart := false }
def KeyEquationsSaid : Prop := keyEquationsRow.holds Try.pinned (OpenSpec.ofChange keyEquationsSpec)

/-- ITS FALSE NEIGHBOUR: 'it returns false'. Refute it at one input. -/
def keyEquationsWrong : ChangeSpec := { name := "keyEquations", fn := fun _ => fun
  | [d1, d2, d3] => { results := [.lit (.bool false)], args := [d1, d2, d3] }
  | _ => none }
def KeyEquationsWrongFalsely : Prop := keyEquationsRow.holds Try.pinned (OpenSpec.ofChange keyEquationsWrong)

/-- 'sconcelaw19.KeySwaps': WHATEVER THE INPUT: true; the input reads as it did. -/
def keySwapsSpec : ChangeSpec := { name := "keySwaps", fn := fun _ => fun
  | [d1, d2, d3] => { results := [.lit (.bool true)], args := [d1, d2, d3] }
  | _ => none }
def keySwapsRow : OpenClaim := { program := "ytonpekldcnankaa", sum := "ecb31b0f8a8eb061f3ad142023dc6910e00d97a667f22c97500984dc4ae3f169", func := "sconce/sconcelaw19.KeySwaps", spec := "keySwaps", inPlace := ["math/bits.Sub64", "math/bits.Add64"], unfollowed := true, recurses := true, named := ["math/bits.divideError", "math/bits.overflowError"], apart := false }
def KeySwapsSaid : Prop := keySwapsRow.holds Try.pinned (OpenSpec.ofChange keySwapsSpec)

/-- ITS FALSE NEIGHBOUR: 'it returns false'. Refute it at one input. -/
def keySwapsWrong : ChangeSpec := { name := "keySwaps", fn := fun _ => fun
  | [d1, d2, d3] => { results := [.lit (.bool false)], args := [d1, d2, d3] }
  | _ => none }
def KeySwapsWrongFalsely : Prop := keySwapsRow.holds Try.pinned (OpenSpec.ofChange keySwapsWrong)

/- THE SECOND FORM. 'bulk': how many values and letters a reading holds, each counted each time it is reached (what is shared counts as often as it is met; a slice's spare places count too). A statement '..UptoSaid' is the law's where the arguments, and the package variables that the reading takes, are together of bulk at most 1048576: NARROWER than '..Said'. Prove '..Said' where nothing that the law and all that it calls make is longer than what came in: it says more and counts as full. Else prove '..UptoSaid'. A law counts once. -/
mutual
def uptoBulk {H : Type} : DataW H → Nat
  | .lit (.string bytes) => bytes.length + 1
  | .lit _ => 1
  | .nil => 1
  | .ptr d => uptoBulk d + 1
  | .slice elems spare => uptoBulkAll elems + uptoBulkAll spare + 1
  | .agg parts => uptoBulkAll parts + 1
  | .iface _ d => uptoBulk d + 1
  | .map entries => uptoBulkEntries entries + 1
  | .held _ => 1
def uptoBulkAll {H : Type} : List (DataW H) → Nat
  | [] => 0
  | d :: r => uptoBulk d + uptoBulkAll r
def uptoBulkEntries {H : Type} : List (Lit × DataW H) → Nat
  | [] => 0
  | x :: r => uptoBulkEntry x + uptoBulkEntries r
def uptoBulkEntry {H : Type} : Lit × DataW H → Nat
  | (.string bytes, d) => bytes.length + uptoBulk d + 1
  | (_, d) => uptoBulk d + 1
 end
def uptoSmall : (H : Type) → List (DataW H) → Bool := fun _ ds => decide (uptoBulkAll ds ≤ 1048576)
def OpenSpec.upto (s : _root_.Go.ChangeSpec) : _root_.Go.OpenSpec := { _root_.Go.OpenSpec.ofChange s with cond := some uptoSmall }

/-- 'sconcelaw07.RingHalves', WHERE WHAT IT READS IS OF BULK AT MOST 1048576: true; the input reads as it did. -/
def ringHalvesUptoRow : OpenClaim := { program := "ytonpekldcnankaa", sum := "ecb31b0f8a8eb061f3ad142023dc6910e00d97a667f22c97500984dc4ae3f169", func := "sconce/sconcelaw07.RingHalves", spec := "ringHalves", inPlace := ["math/bits.Add64", "math/bits.Sub64"], unfollowed := true, recurses := true, named := ["math/bits.divideError", "math/bits.overflowError"], apart := false, narrowed := true }
def RingHalvesUptoSaid : Prop := ringHalvesUptoRow.holds Try.pinned (OpenSpec.upto ringHalvesSpec)

/-- 'sconcelaw07.RingAdds', WHERE WHAT IT READS IS OF BULK AT MOST 1048576: true; the input reads as it did. -/
def ringAddsUptoRow : OpenClaim := { program := "ytonpekldcnankaa", sum := "ecb31b0f8a8eb061f3ad142023dc6910e00d97a667f22c97500984dc4ae3f169", func := "sconce/sconcelaw07.RingAdds", spec := "ringAdds", inPlace := ["math/bits.Add64", "math/bits.Sub64"], unfollowed := true, recurses := true, named := ["math/bits.divideError", "math/bits.overflowError"], apart := false, narrowed := true }
def RingAddsUptoSaid : Prop := ringAddsUptoRow.holds Try.pinned (OpenSpec.upto ringAddsSpec)

/-- 'sconcelaw07.RingMuls', WHERE WHAT IT READS IS OF BULK AT MOST 1048576: true; the input reads as it did. -/
def ringMulsUptoRow : OpenClaim := { program := "ytonpekldcnankaa", sum := "ecb31b0f8a8eb061f3ad142023dc6910e00d97a667f22c97500984dc4ae3f169", func := "sconce/sconcelaw07.RingMuls", spec := "ringMuls", inPlace := ["math/bits.Add64", "math/bits.Sub64"], unfollowed := true, recurses := true, named := ["math/bits.divideError", "math/bits.overflowError"], apart := false, narrowed := true }
def RingMulsUptoSaid : Prop := ringMulsUptoRow.holds Try.pinned (OpenSpec.upto ringMulsSpec)

/-- 'sconcelaw07.RingReduces', WHERE WHAT IT READS IS OF BULK AT MOST 1048576: true; the input reads as it did. -/
def ringReducesUptoRow : OpenClaim := { program := "ytonpekldcnankaa", sum := "ecb31b0f8a8eb061f3ad142023dc6910e00d97a667f22c97500984dc4ae3f169", func := "sconce/sconcelaw07.RingReduces", spec := "ringReduces", inPlace := ["math/bits.Add64", "math/bits.Sub64"], unfollowed := true, recurses := true, named := ["math/bits.divideError", "math/bits.overflowError"], apart := false, narrowed := true }
def RingReducesUptoSaid : Prop := ringReducesUptoRow.holds Try.pinned (OpenSpec.upto ringReducesSpec)

/-- 'sconcelaw07.RingLaws', WHERE WHAT IT READS IS OF BULK AT MOST 1048576: true; the input reads as it did. -/
def ringLawsUptoRow : OpenClaim := { program := "ytonpekldcnankaa", sum := "ecb31b0f8a8eb061f3ad142023dc6910e00d97a667f22c97500984dc4ae3f169", func := "sconce/sconcelaw07.RingLaws", spec := "ringLaws", inPlace := ["math/bits.Add64", "math/bits.Sub64"], unfollowed := true, recurses := true, named := ["math/bits.divideError", "math/bits.overflowError"], apart := false, narrowed := true }
def RingLawsUptoSaid : Prop := ringLawsUptoRow.holds Try.pinned (OpenSpec.upto ringLawsSpec)

/-- 'sconcelaw09.ShortExps', WHERE WHAT IT READS IS OF BULK AT MOST 1048576: true; the input reads as it did. -/
def shortExpsUptoRow : OpenClaim := { program := "ytonpekldcnankaa", sum := "ecb31b0f8a8eb061f3ad142023dc6910e00d97a667f22c97500984dc4ae3f169", func := "sconce/sconcelaw09.ShortExps", spec := "shortExps", inPlace := ["math/bits.Sub64", "math/bits.Add64"], unfollowed := true, recurses := true, named := ["math/bits.divideError", "math/bits.overflowError"], apart := false, narrowed := true }
def ShortExpsUptoSaid : Prop := shortExpsUptoRow.holds Try.pinned (OpenSpec.upto shortExpsSpec)

/-- 'sconcelaw09.ShortQuick', WHERE WHAT IT READS IS OF BULK AT MOST 1048576: true; the input reads as it did. -/
def shortQuickUptoRow : OpenClaim := { program := "ytonpekldcnankaa", sum := "ecb31b0f8a8eb061f3ad142023dc6910e00d97a667f22c97500984dc4ae3f169", func := "sconce/sconcelaw09.ShortQuick", spec := "shortQuick", inPlace := ["math/bits.Sub64", "math/bits.Add64"], unfollowed := true, recurses := true, named := ["math/bits.divideError", "math/bits.overflowError"], apart := false, narrowed := true }
def ShortQuickUptoSaid : Prop := shortQuickUptoRow.holds Try.pinned (OpenSpec.upto shortQuickSpec)

/-- 'sconcelaw09.ShortChains', WHERE WHAT IT READS IS OF BULK AT MOST 1048576: true; the input reads as it did. -/
def shortChainsUptoRow : OpenClaim := { program := "ytonpekldcnankaa", sum := "ecb31b0f8a8eb061f3ad142023dc6910e00d97a667f22c97500984dc4ae3f169", func := "sconce/sconcelaw09.ShortChains", spec := "shortChains", inPlace := ["math/bits.Sub64", "math/bits.Add64"], unfollowed := true, recurses := true, named := ["math/bits.divideError", "math/bits.overflowError"], apart := false, narrowed := true }
def ShortChainsUptoSaid : Prop := shortChainsUptoRow.holds Try.pinned (OpenSpec.upto shortChainsSpec)

/-- 'sconcelaw08.PowerSums', WHERE WHAT IT READS IS OF BULK AT MOST 1048576: true; the input reads as it did. -/
def powerSumsUptoRow : OpenClaim := { program := "ytonpekldcnankaa", sum := "ecb31b0f8a8eb061f3ad142023dc6910e00d97a667f22c97500984dc4ae3f169", func := "sconce/sconcelaw08.PowerSums", spec := "powerSums", inPlace := ["math/bits.Add64", "math/bits.Sub64"], unfollowed := true, recurses := true, named := ["math/bits.divideError", "math/bits.overflowError"], apart := false, narrowed := true }
def PowerSumsUptoSaid : Prop := powerSumsUptoRow.holds Try.pinned (OpenSpec.upto powerSumsSpec)

/-- 'sconcelaw19.KeyPublic', WHERE WHAT IT READS IS OF BULK AT MOST 1048576: true; the input reads as it did. -/
def keyPublicUptoRow : OpenClaim := { program := "ytonpekldcnankaa", sum := "ecb31b0f8a8eb061f3ad142023dc6910e00d97a667f22c97500984dc4ae3f169", func := "sconce/sconcelaw19.KeyPublic", spec := "keyPublic", inPlace := ["math/bits.Sub64", "math/bits.Add64"], unfollowed := true, recurses := true, named := ["math/bits.divideError", "math/bits.overflowError"], apart := false, narrowed := true }
def KeyPublicUptoSaid : Prop := keyPublicUptoRow.holds Try.pinned (OpenSpec.upto keyPublicSpec)

/-- 'sconcelaw19.KeyChecks', WHERE WHAT IT READS IS OF BULK AT MOST 1048576: true; the input reads as it did. -/
def keyChecksUptoRow : OpenClaim := { program := "ytonpekldcnankaa", sum := "ecb31b0f8a8eb061f3ad142023dc6910e00d97a667f22c97500984dc4ae3f169", func := "sconce/sconcelaw19.KeyChecks", spec := "keyChecks", inPlace := ["math/bits.Sub64", "math/bits.Add64"], unfollowed := true, recurses := true, named := ["math/bits.divideError", "math/bits.overflowError"], apart := false, narrowed := true }
def KeyChecksUptoSaid : Prop := keyChecksUptoRow.holds Try.pinned (OpenSpec.upto keyChecksSpec)

/-- 'sconcelaw19.KeyEquations', WHERE WHAT IT READS IS OF BULK AT MOST 1048576: true; the input reads as it did. -/
def keyEquationsUptoRow : OpenClaim := { program := "ytonpekldcnankaa", sum := "ecb31b0f8a8eb061f3ad142023dc6910e00d97a667f22c97500984dc4ae3f169", func := "sconce/sconcelaw19.KeyEquations", spec := "keyEquations", inPlace := ["math/bits.Sub64", "math/bits.Add64"], unfollowed := true, recurses := true, named := ["math/bits.divideError", "math/bits.overflowError"], apart := false, narrowed := true }
def KeyEquationsUptoSaid : Prop := keyEquationsUptoRow.holds Try.pinned (OpenSpec.upto keyEquationsSpec)

/-- 'sconcelaw19.KeySwaps', WHERE WHAT IT READS IS OF BULK AT MOST 1048576: true; the input reads as it did. -/
def keySwapsUptoRow : OpenClaim := { program := "ytonpekldcnankaa", sum := "ecb31b0f8a8eb061f3ad142023dc6910e00d97a667f22c97500984dc4ae3f169", func := "sconce/sconcelaw19.KeySwaps", spec := "keySwaps", inPlace := ["math/bits.Sub64", "math/bits.Add64"], unfollowed := true, recurses := true, named := ["math/bits.divideError", "math/bits.overflowError"], apart := false, narrowed := true }
def KeySwapsUptoSaid : Prop := keySwapsUptoRow.holds Try.pinned (OpenSpec.upto keySwapsSpec)

end Rows
end Go.Proofs.Ytonpekldcnankaa
