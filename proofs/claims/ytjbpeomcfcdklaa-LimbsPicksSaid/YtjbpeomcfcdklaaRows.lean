/-
  No cell of these rows narrows 'for every input' (looked for: loops, veiled, ifaces, maps, wideKeys, modest, calm, conditions, laid).
  DERIVED. THE GIVEN ROWS OF THIS SEAT. 14 by the template 'for every input the law returns true; each argument reads behind the call as it read before'; 0 by the template 'total and deterministic' (their statements: YtjbpeomcfcdklaaTotals.lean).
  GIVEN WITH THE SEED: the statements are not yours to turn. If you find one false, say at which input.
  Laid BY PROGRAM, IN A SANDBOX (cutbox-rows.mjs): the forced cells as the released guide's own fill.sh prints them over the translation 89d8345fea1281b7… (all of the seat's roots in one cut). By AI agents, Wed Nov 11 2026. No macro, syntax, notation, axiom, sorry.
-/
import Derived.Test.YtjbpeomcfcdklaaChecked
import GoSem.Claim
import GoSem.ClaimJoined
import GoSem.ClaimMapViews
import Derived.JoinedTies
import Derived.KernelRfl
namespace Go.Proofs.Ytjbpeomcfcdklaa
/- THE CELL 'sum', in the pinned program and in every row, IS THE sha256 OF THE DUMP (.gsa) THAT YtjbpeomcfcdklaaProg.lean LOADS. Nothing in Lean hashes anything: it is a label: what it is worth is what the hold of that sum in a sandbox is worth. -/
noncomputable def Try.pinned : Pinned := { name := "ytjbpeomcfcdklaa", sum := "89d8345fea1281b73767e8430308693fe1c42deb25c11b7c0640ee7a35b1b8a7", checked := Try.checked }
namespace Rows
def none {H : Type} : Left H := { results := [], args := [] }

/-- 'sconcelaw01.WordMuls': WHATEVER THE INPUT: true; the input reads as it did. -/
def wordMulsSpec : ChangeSpec := { name := "wordMuls", fn := fun _ => fun
  | [d1, d2, d3, d4] => { results := [.lit (.bool true)], args := [d1, d2, d3, d4] }
  | _ => none }
def wordMulsRow : OpenClaim := { program := "ytjbpeomcfcdklaa", sum := "89d8345fea1281b73767e8430308693fe1c42deb25c11b7c0640ee7a35b1b8a7", func := "sconce/sconcelaw01.WordMuls", spec := "wordMuls", inPlace := ["math/bits.Add64"], apart := false }
def WordMulsSaid : Prop := wordMulsRow.holds Try.pinned (OpenSpec.ofChange wordMulsSpec)

/-- ITS FALSE NEIGHBOUR: 'it returns false'. Refute it at one input. -/
def wordMulsWrong : ChangeSpec := { name := "wordMuls", fn := fun _ => fun
  | [d1, d2, d3, d4] => { results := [.lit (.bool false)], args := [d1, d2, d3, d4] }
  | _ => none }
def WordMulsWrongFalsely : Prop := wordMulsRow.holds Try.pinned (OpenSpec.ofChange wordMulsWrong)

/-- 'sconcelaw01.WordInverts': WHATEVER THE INPUT: true; the input reads as it did. -/
def wordInvertsSpec : ChangeSpec := { name := "wordInverts", fn := fun _ => fun
  | [d] => { results := [.lit (.bool true)], args := [d] }
  | _ => none }
def wordInvertsRow : OpenClaim := { program := "ytjbpeomcfcdklaa", sum := "89d8345fea1281b73767e8430308693fe1c42deb25c11b7c0640ee7a35b1b8a7", func := "sconce/sconcelaw01.WordInverts", spec := "wordInverts", inPlace := ["math/bits.Add64"], apart := false }
def WordInvertsSaid : Prop := wordInvertsRow.holds Try.pinned (OpenSpec.ofChange wordInvertsSpec)

/-- ITS FALSE NEIGHBOUR: 'it returns false'. Refute it at one input. -/
def wordInvertsWrong : ChangeSpec := { name := "wordInverts", fn := fun _ => fun
  | [d] => { results := [.lit (.bool false)], args := [d] }
  | _ => none }
def WordInvertsWrongFalsely : Prop := wordInvertsRow.holds Try.pinned (OpenSpec.ofChange wordInvertsWrong)

/-- 'sconcelaw01.WordSelects': WHATEVER THE INPUT: true; the input reads as it did. -/
def wordSelectsSpec : ChangeSpec := { name := "wordSelects", fn := fun _ => fun
  | [d1, d2, d3] => { results := [.lit (.bool true)], args := [d1, d2, d3] }
  | _ => none }
def wordSelectsRow : OpenClaim := { program := "ytjbpeomcfcdklaa", sum := "89d8345fea1281b73767e8430308693fe1c42deb25c11b7c0640ee7a35b1b8a7", func := "sconce/sconcelaw01.WordSelects", spec := "wordSelects", inPlace := ["math/bits.Add64"], apart := false }
def WordSelectsSaid : Prop := wordSelectsRow.holds Try.pinned (OpenSpec.ofChange wordSelectsSpec)

/-- ITS FALSE NEIGHBOUR: 'it returns false'. Refute it at one input. -/
def wordSelectsWrong : ChangeSpec := { name := "wordSelects", fn := fun _ => fun
  | [d1, d2, d3] => { results := [.lit (.bool false)], args := [d1, d2, d3] }
  | _ => none }
def WordSelectsWrongFalsely : Prop := wordSelectsRow.holds Try.pinned (OpenSpec.ofChange wordSelectsWrong)

/-- 'sconcelaw01.WordAdds': WHATEVER THE INPUT: true; the input reads as it did. -/
def wordAddsSpec : ChangeSpec := { name := "wordAdds", fn := fun _ => fun
  | [d1, d2, d3] => { results := [.lit (.bool true)], args := [d1, d2, d3] }
  | _ => none }
def wordAddsRow : OpenClaim := { program := "ytjbpeomcfcdklaa", sum := "89d8345fea1281b73767e8430308693fe1c42deb25c11b7c0640ee7a35b1b8a7", func := "sconce/sconcelaw01.WordAdds", spec := "wordAdds", inPlace := ["math/bits.Add64", "math/bits.Sub64"], apart := false }
def WordAddsSaid : Prop := wordAddsRow.holds Try.pinned (OpenSpec.ofChange wordAddsSpec)

/-- ITS FALSE NEIGHBOUR: 'it returns false'. Refute it at one input. -/
def wordAddsWrong : ChangeSpec := { name := "wordAdds", fn := fun _ => fun
  | [d1, d2, d3] => { results := [.lit (.bool false)], args := [d1, d2, d3] }
  | _ => none }
def WordAddsWrongFalsely : Prop := wordAddsRow.holds Try.pinned (OpenSpec.ofChange wordAddsWrong)

/-- 'sconcelaw01.WordCarries': WHATEVER THE INPUT: true; the input reads as it did. -/
def wordCarriesSpec : ChangeSpec := { name := "wordCarries", fn := fun _ => fun
  | [d1, d2, d3] => { results := [.lit (.bool true)], args := [d1, d2, d3] }
  | _ => none }
def wordCarriesRow : OpenClaim := { program := "ytjbpeomcfcdklaa", sum := "89d8345fea1281b73767e8430308693fe1c42deb25c11b7c0640ee7a35b1b8a7", func := "sconce/sconcelaw01.WordCarries", spec := "wordCarries", inPlace := ["math/bits.Add64", "math/bits.Sub64"], apart := false }
def WordCarriesSaid : Prop := wordCarriesRow.holds Try.pinned (OpenSpec.ofChange wordCarriesSpec)

/-- ITS FALSE NEIGHBOUR: 'it returns false'. Refute it at one input. -/
def wordCarriesWrong : ChangeSpec := { name := "wordCarries", fn := fun _ => fun
  | [d1, d2, d3] => { results := [.lit (.bool false)], args := [d1, d2, d3] }
  | _ => none }
def WordCarriesWrongFalsely : Prop := wordCarriesRow.holds Try.pinned (OpenSpec.ofChange wordCarriesWrong)

/-- 'sconcelaw01.WordTells': WHATEVER THE INPUT: true; the input reads as it did. -/
def wordTellsSpec : ChangeSpec := { name := "wordTells", fn := fun _ => fun
  | [d1, d2] => { results := [.lit (.bool true)], args := [d1, d2] }
  | _ => none }
def wordTellsRow : OpenClaim := { program := "ytjbpeomcfcdklaa", sum := "89d8345fea1281b73767e8430308693fe1c42deb25c11b7c0640ee7a35b1b8a7", func := "sconce/sconcelaw01.WordTells", spec := "wordTells", inPlace := ["math/bits.Add64", "math/bits.Sub64"], apart := false }
def WordTellsSaid : Prop := wordTellsRow.holds Try.pinned (OpenSpec.ofChange wordTellsSpec)

/-- ITS FALSE NEIGHBOUR: 'it returns false'. Refute it at one input. -/
def wordTellsWrong : ChangeSpec := { name := "wordTells", fn := fun _ => fun
  | [d1, d2] => { results := [.lit (.bool false)], args := [d1, d2] }
  | _ => none }
def WordTellsWrongFalsely : Prop := wordTellsRow.holds Try.pinned (OpenSpec.ofChange wordTellsWrong)

/-- 'sconcelaw01.WordBytes': WHATEVER THE INPUT: true; the input reads as it did. -/
def wordBytesSpec : ChangeSpec := { name := "wordBytes", fn := fun _ => fun
  | [d1, d2] => { results := [.lit (.bool true)], args := [d1, d2] }
  | _ => none }
def wordBytesRow : OpenClaim := { program := "ytjbpeomcfcdklaa", sum := "89d8345fea1281b73767e8430308693fe1c42deb25c11b7c0640ee7a35b1b8a7", func := "sconce/sconcelaw01.WordBytes", spec := "wordBytes", inPlace := ["math/bits.Add64"], apart := false }
def WordBytesSaid : Prop := wordBytesRow.holds Try.pinned (OpenSpec.ofChange wordBytesSpec)

/-- ITS FALSE NEIGHBOUR: 'it returns false'. Refute it at one input. -/
def wordBytesWrong : ChangeSpec := { name := "wordBytes", fn := fun _ => fun
  | [d1, d2] => { results := [.lit (.bool false)], args := [d1, d2] }
  | _ => none }
def WordBytesWrongFalsely : Prop := wordBytesRow.holds Try.pinned (OpenSpec.ofChange wordBytesWrong)

/-- 'sconcelaw01.WordBack': WHATEVER THE INPUT: true; the input reads as it did. -/
def wordBackSpec : ChangeSpec := { name := "wordBack", fn := fun _ => fun
  | [d] => { results := [.lit (.bool true)], args := [d] }
  | _ => none }
def wordBackRow : OpenClaim := { program := "ytjbpeomcfcdklaa", sum := "89d8345fea1281b73767e8430308693fe1c42deb25c11b7c0640ee7a35b1b8a7", func := "sconce/sconcelaw01.WordBack", spec := "wordBack", inPlace := ["math/bits.Add64"], apart := false }
def WordBackSaid : Prop := wordBackRow.holds Try.pinned (OpenSpec.ofChange wordBackSpec)

/-- ITS FALSE NEIGHBOUR: 'it returns false'. Refute it at one input. -/
def wordBackWrong : ChangeSpec := { name := "wordBack", fn := fun _ => fun
  | [d] => { results := [.lit (.bool false)], args := [d] }
  | _ => none }
def WordBackWrongFalsely : Prop := wordBackRow.holds Try.pinned (OpenSpec.ofChange wordBackWrong)

/-- 'sconcelaw04.LimbsAdds': WHATEVER THE INPUT: true; the input reads as it did. -/
def limbsAddsSpec : ChangeSpec := { name := "limbsAdds", fn := fun _ => fun
  | [d1, d2] => { results := [.lit (.bool true)], args := [d1, d2] }
  | _ => none }
def limbsAddsRow : OpenClaim := { program := "ytjbpeomcfcdklaa", sum := "89d8345fea1281b73767e8430308693fe1c42deb25c11b7c0640ee7a35b1b8a7", func := "sconce/sconcelaw04.LimbsAdds", spec := "limbsAdds", inPlace := ["math/bits.Add64", "math/bits.Sub64"], unfollowed := true, recurses := true, apart := false }
def LimbsAddsSaid : Prop := limbsAddsRow.holds Try.pinned (OpenSpec.ofChange limbsAddsSpec)

/-- ITS FALSE NEIGHBOUR: 'it returns false'. Refute it at one input. -/
def limbsAddsWrong : ChangeSpec := { name := "limbsAdds", fn := fun _ => fun
  | [d1, d2] => { results := [.lit (.bool false)], args := [d1, d2] }
  | _ => none }
def LimbsAddsWrongFalsely : Prop := limbsAddsRow.holds Try.pinned (OpenSpec.ofChange limbsAddsWrong)

/-- 'sconcelaw04.LimbsIfs': WHATEVER THE INPUT: true; the input reads as it did. -/
def limbsIfsSpec : ChangeSpec := { name := "limbsIfs", fn := fun _ => fun
  | [d1, d2, d3] => { results := [.lit (.bool true)], args := [d1, d2, d3] }
  | _ => none }
def limbsIfsRow : OpenClaim := { program := "ytjbpeomcfcdklaa", sum := "89d8345fea1281b73767e8430308693fe1c42deb25c11b7c0640ee7a35b1b8a7", func := "sconce/sconcelaw04.LimbsIfs", spec := "limbsIfs", inPlace := ["math/bits.Add64", "math/bits.Sub64"], unfollowed := true, recurses := true, apart := false }
def LimbsIfsSaid : Prop := limbsIfsRow.holds Try.pinned (OpenSpec.ofChange limbsIfsSpec)

/-- ITS FALSE NEIGHBOUR: 'it returns false'. Refute it at one input. -/
def limbsIfsWrong : ChangeSpec := { name := "limbsIfs", fn := fun _ => fun
  | [d1, d2, d3] => { results := [.lit (.bool false)], args := [d1, d2, d3] }
  | _ => none }
def LimbsIfsWrongFalsely : Prop := limbsIfsRow.holds Try.pinned (OpenSpec.ofChange limbsIfsWrong)

/-- 'sconcelaw04.LimbsSelects': WHATEVER THE INPUT: true; the input reads as it did. -/
def limbsSelectsSpec : ChangeSpec := { name := "limbsSelects", fn := fun _ => fun
  | [d1, d2, d3] => { results := [.lit (.bool true)], args := [d1, d2, d3] }
  | _ => none }
def limbsSelectsRow : OpenClaim := { program := "ytjbpeomcfcdklaa", sum := "89d8345fea1281b73767e8430308693fe1c42deb25c11b7c0640ee7a35b1b8a7", func := "sconce/sconcelaw04.LimbsSelects", spec := "limbsSelects", inPlace := ["math/bits.Add64", "math/bits.Sub64"], unfollowed := true, recurses := true, apart := false }
def LimbsSelectsSaid : Prop := limbsSelectsRow.holds Try.pinned (OpenSpec.ofChange limbsSelectsSpec)

/-- ITS FALSE NEIGHBOUR: 'it returns false'. Refute it at one input. -/
def limbsSelectsWrong : ChangeSpec := { name := "limbsSelects", fn := fun _ => fun
  | [d1, d2, d3] => { results := [.lit (.bool false)], args := [d1, d2, d3] }
  | _ => none }
def LimbsSelectsWrongFalsely : Prop := limbsSelectsRow.holds Try.pinned (OpenSpec.ofChange limbsSelectsWrong)

/-- 'sconcelaw04.LimbsTells': WHATEVER THE INPUT: true; the input reads as it did. -/
def limbsTellsSpec : ChangeSpec := { name := "limbsTells", fn := fun _ => fun
  | [d1, d2] => { results := [.lit (.bool true)], args := [d1, d2] }
  | _ => none }
def limbsTellsRow : OpenClaim := { program := "ytjbpeomcfcdklaa", sum := "89d8345fea1281b73767e8430308693fe1c42deb25c11b7c0640ee7a35b1b8a7", func := "sconce/sconcelaw04.LimbsTells", spec := "limbsTells", inPlace := ["math/bits.Add64", "math/bits.Sub64"], unfollowed := true, recurses := true, apart := false }
def LimbsTellsSaid : Prop := limbsTellsRow.holds Try.pinned (OpenSpec.ofChange limbsTellsSpec)

/-- ITS FALSE NEIGHBOUR: 'it returns false'. Refute it at one input. -/
def limbsTellsWrong : ChangeSpec := { name := "limbsTells", fn := fun _ => fun
  | [d1, d2] => { results := [.lit (.bool false)], args := [d1, d2] }
  | _ => none }
def LimbsTellsWrongFalsely : Prop := limbsTellsRow.holds Try.pinned (OpenSpec.ofChange limbsTellsWrong)

/-- 'sconcelaw04.LimbsOrders': WHATEVER THE INPUT: true; the input reads as it did. -/
def limbsOrdersSpec : ChangeSpec := { name := "limbsOrders", fn := fun _ => fun
  | [d1, d2] => { results := [.lit (.bool true)], args := [d1, d2] }
  | _ => none }
def limbsOrdersRow : OpenClaim := { program := "ytjbpeomcfcdklaa", sum := "89d8345fea1281b73767e8430308693fe1c42deb25c11b7c0640ee7a35b1b8a7", func := "sconce/sconcelaw04.LimbsOrders", spec := "limbsOrders", inPlace := ["math/bits.Add64", "math/bits.Sub64"], unfollowed := true, recurses := true, apart := false }
def LimbsOrdersSaid : Prop := limbsOrdersRow.holds Try.pinned (OpenSpec.ofChange limbsOrdersSpec)

/-- ITS FALSE NEIGHBOUR: 'it returns false'. Refute it at one input. -/
def limbsOrdersWrong : ChangeSpec := { name := "limbsOrders", fn := fun _ => fun
  | [d1, d2] => { results := [.lit (.bool false)], args := [d1, d2] }
  | _ => none }
def LimbsOrdersWrongFalsely : Prop := limbsOrdersRow.holds Try.pinned (OpenSpec.ofChange limbsOrdersWrong)

/-- 'sconcelaw04.LimbsPicks': WHATEVER THE INPUT: true; the input reads as it did. -/
def limbsPicksSpec : ChangeSpec := { name := "limbsPicks", fn := fun _ => fun
  | [d1, d2] => { results := [.lit (.bool true)], args := [d1, d2] }
  | _ => none }
def limbsPicksRow : OpenClaim := { program := "ytjbpeomcfcdklaa", sum := "89d8345fea1281b73767e8430308693fe1c42deb25c11b7c0640ee7a35b1b8a7", func := "sconce/sconcelaw04.LimbsPicks", spec := "limbsPicks", inPlace := ["math/bits.Add64", "math/bits.Sub64"], unfollowed := true, recurses := true, apart := false }
def LimbsPicksSaid : Prop := limbsPicksRow.holds Try.pinned (OpenSpec.ofChange limbsPicksSpec)

/-- ITS FALSE NEIGHBOUR: 'it returns false'. Refute it at one input. -/
def limbsPicksWrong : ChangeSpec := { name := "limbsPicks", fn := fun _ => fun
  | [d1, d2] => { results := [.lit (.bool false)], args := [d1, d2] }
  | _ => none }
def LimbsPicksWrongFalsely : Prop := limbsPicksRow.holds Try.pinned (OpenSpec.ofChange limbsPicksWrong)

/- THE SECOND FORM. 'bulk': how many values and letters a reading holds, each counted each time it is reached (what is shared counts as often as it is met; a slice's spare places count too). A statement '..UptoSaid' is the law's where the arguments, and the package variables that the reading takes, are together of bulk at most 1048576: NARROWER than '..Said'. Prove '..Said' where nothing that the law and all that it calls make is longer than what came in: it says more and counts as full. Else prove '..UptoSaid'. A law counts once. -/
mutual
def uptoBulk {H : Type} : DataW H → Nat
  | .lit (.string bytes) => bytes.length + 1
  | .lit _ => 1
  | .nil => 1
  | .ptr d => uptoBulk d + 1
  | .slice elems spare => uptoBulkAll elems + uptoBulkAll spare + 1
  | .agg parts => uptoBulkAll parts + 1
  | .iface _ d => uptoBulk d + 1
  | .map entries => uptoBulkEntries entries + 1
  | .held _ => 1
def uptoBulkAll {H : Type} : List (DataW H) → Nat
  | [] => 0
  | d :: r => uptoBulk d + uptoBulkAll r
def uptoBulkEntries {H : Type} : List (Lit × DataW H) → Nat
  | [] => 0
  | x :: r => uptoBulkEntry x + uptoBulkEntries r
def uptoBulkEntry {H : Type} : Lit × DataW H → Nat
  | (.string bytes, d) => bytes.length + uptoBulk d + 1
  | (_, d) => uptoBulk d + 1
 end
def uptoSmall : (H : Type) → List (DataW H) → Bool := fun _ ds => decide (uptoBulkAll ds ≤ 1048576)
def OpenSpec.upto (s : _root_.Go.ChangeSpec) : _root_.Go.OpenSpec := { _root_.Go.OpenSpec.ofChange s with cond := some uptoSmall }

/-- 'sconcelaw01.WordMuls', WHERE WHAT IT READS IS OF BULK AT MOST 1048576: true; the input reads as it did. -/
def wordMulsUptoRow : OpenClaim := { program := "ytjbpeomcfcdklaa", sum := "89d8345fea1281b73767e8430308693fe1c42deb25c11b7c0640ee7a35b1b8a7", func := "sconce/sconcelaw01.WordMuls", spec := "wordMuls", inPlace := ["math/bits.Add64"], apart := false, narrowed := true }
def WordMulsUptoSaid : Prop := wordMulsUptoRow.holds Try.pinned (OpenSpec.upto wordMulsSpec)

/-- 'sconcelaw01.WordInverts', WHERE WHAT IT READS IS OF BULK AT MOST 1048576: true; the input reads as it did. -/
def wordInvertsUptoRow : OpenClaim := { program := "ytjbpeomcfcdklaa", sum := "89d8345fea1281b73767e8430308693fe1c42deb25c11b7c0640ee7a35b1b8a7", func := "sconce/sconcelaw01.WordInverts", spec := "wordInverts", inPlace := ["math/bits.Add64"], apart := false, narrowed := true }
def WordInvertsUptoSaid : Prop := wordInvertsUptoRow.holds Try.pinned (OpenSpec.upto wordInvertsSpec)

/-- 'sconcelaw01.WordSelects', WHERE WHAT IT READS IS OF BULK AT MOST 1048576: true; the input reads as it did. -/
def wordSelectsUptoRow : OpenClaim := { program := "ytjbpeomcfcdklaa", sum := "89d8345fea1281b73767e8430308693fe1c42deb25c11b7c0640ee7a35b1b8a7", func := "sconce/sconcelaw01.WordSelects", spec := "wordSelects", inPlace := ["math/bits.Add64"], apart := false, narrowed := true }
def WordSelectsUptoSaid : Prop := wordSelectsUptoRow.holds Try.pinned (OpenSpec.upto wordSelectsSpec)

/-- 'sconcelaw01.WordAdds', WHERE WHAT IT READS IS OF BULK AT MOST 1048576: true; the input reads as it did. -/
def wordAddsUptoRow : OpenClaim := { program := "ytjbpeomcfcdklaa", sum := "89d8345fea1281b73767e8430308693fe1c42deb25c11b7c0640ee7a35b1b8a7", func := "sconce/sconcelaw01.WordAdds", spec := "wordAdds", inPlace := ["math/bits.Add64", "math/bits.Sub64"], apart := false, narrowed := true }
def WordAddsUptoSaid : Prop := wordAddsUptoRow.holds Try.pinned (OpenSpec.upto wordAddsSpec)

/-- 'sconcelaw01.WordCarries', WHERE WHAT IT READS IS OF BULK AT MOST 1048576: true; the input reads as it did. -/
def wordCarriesUptoRow : OpenClaim := { program := "ytjbpeomcfcdklaa", sum := "89d8345fea1281b73767e8430308693fe1c42deb25c11b7c0640ee7a35b1b8a7", func := "sconce/sconcelaw01.WordCarries", spec := "wordCarries", inPlace := ["math/bits.Add64", "math/bits.Sub64"], apart := false, narrowed := true }
def WordCarriesUptoSaid : Prop := wordCarriesUptoRow.holds Try.pinned (OpenSpec.upto wordCarriesSpec)

/-- 'sconcelaw01.WordTells', WHERE WHAT IT READS IS OF BULK AT MOST 1048576: true; the input reads as it did. -/
def wordTellsUptoRow : OpenClaim := { program := "ytjbpeomcfcdklaa", sum := "89d8345fea1281b73767e8430308693fe1c42deb25c11b7c0640ee7a35b1b8a7", func := "sconce/sconcelaw01.WordTells", spec := "wordTells", inPlace := ["math/bits.Add64", "math/bits.Sub64"], apart := false, narrowed := true }
def WordTellsUptoSaid : Prop := wordTellsUptoRow.holds Try.pinned (OpenSpec.upto wordTellsSpec)

/-- 'sconcelaw01.WordBytes', WHERE WHAT IT READS IS OF BULK AT MOST 1048576: true; the input reads as it did. -/
def wordBytesUptoRow : OpenClaim := { program := "ytjbpeomcfcdklaa", sum := "89d8345fea1281b73767e8430308693fe1c42deb25c11b7c0640ee7a35b1b8a7", func := "sconce/sconcelaw01.WordBytes", spec := "wordBytes", inPlace := ["math/bits.Add64"], apart := false, narrowed := true }
def WordBytesUptoSaid : Prop := wordBytesUptoRow.holds Try.pinned (OpenSpec.upto wordBytesSpec)

/-- 'sconcelaw01.WordBack', WHERE WHAT IT READS IS OF BULK AT MOST 1048576: true; the input reads as it did. -/
def wordBackUptoRow : OpenClaim := { program := "ytjbpeomcfcdklaa", sum := "89d8345fea1281b73767e8430308693fe1c42deb25c11b7c0640ee7a35b1b8a7", func := "sconce/sconcelaw01.WordBack", spec := "wordBack", inPlace := ["math/bits.Add64"], apart := false, narrowed := true }
def WordBackUptoSaid : Prop := wordBackUptoRow.holds Try.pinned (OpenSpec.upto wordBackSpec)

/-- 'sconcelaw04.LimbsAdds', WHERE WHAT IT READS IS OF BULK AT MOST 1048576: true; the input reads as it did. -/
def limbsAddsUptoRow : OpenClaim := { program := "ytjbpeomcfcdklaa", sum := "89d8345fea1281b73767e8430308693fe1c42deb25c11b7c0640ee7a35b1b8a7", func := "sconce/sconcelaw04.LimbsAdds", spec := "limbsAdds", inPlace := ["math/bits.Add64", "math/bits.Sub64"], unfollowed := true, recurses := true, apart := false, narrowed := true }
def LimbsAddsUptoSaid : Prop := limbsAddsUptoRow.holds Try.pinned (OpenSpec.upto limbsAddsSpec)

/-- 'sconcelaw04.LimbsIfs', WHERE WHAT IT READS IS OF BULK AT MOST 1048576: true; the input reads as it did. -/
def limbsIfsUptoRow : OpenClaim := { program := "ytjbpeomcfcdklaa", sum := "89d8345fea1281b73767e8430308693fe1c42deb25c11b7c0640ee7a35b1b8a7", func := "sconce/sconcelaw04.LimbsIfs", spec := "limbsIfs", inPlace := ["math/bits.Add64", "math/bits.Sub64"], unfollowed := true, recurses := true, apart := false, narrowed := true }
def LimbsIfsUptoSaid : Prop := limbsIfsUptoRow.holds Try.pinned (OpenSpec.upto limbsIfsSpec)

/-- 'sconcelaw04.LimbsSelects', WHERE WHAT IT READS IS OF BULK AT MOST 1048576: true; the input reads as it did. -/
def limbsSelectsUptoRow : OpenClaim := { program := "ytjbpeomcfcdklaa", sum := "89d8345fea1281b73767e8430308693fe1c42deb25c11b7c0640ee7a35b1b8a7", func := "sconce/sconcelaw04.LimbsSelects", spec := "limbsSelects", inPlace := ["math/bits.Add64", "math/bits.Sub64"], unfollowed := true, recurses := true, apart := false, narrowed := true }
def LimbsSelectsUptoSaid : Prop := limbsSelectsUptoRow.holds Try.pinned (OpenSpec.upto limbsSelectsSpec)

/-- 'sconcelaw04.LimbsTells', WHERE WHAT IT READS IS OF BULK AT MOST 1048576: true; the input reads as it did. -/
def limbsTellsUptoRow : OpenClaim := { program := "ytjbpeomcfcdklaa", sum := "89d8345fea1281b73767e8430308693fe1c42deb25c11b7c0640ee7a35b1b8a7", func := "sconce/sconcelaw04.LimbsTells", spec := "limbsTells", inPlace := ["math/bits.Add64", "math/bits.Sub64"], unfollowed := true, recurses := true, apart := false, narrowed := true }
def LimbsTellsUptoSaid : Prop := limbsTellsUptoRow.holds Try.pinned (OpenSpec.upto limbsTellsSpec)

/-- 'sconcelaw04.LimbsOrders', WHERE WHAT IT READS IS OF BULK AT MOST 1048576: true; the input reads as it did. -/
def limbsOrdersUptoRow : OpenClaim := { program := "ytjbpeomcfcdklaa", sum := "89d8345fea1281b73767e8430308693fe1c42deb25c11b7c0640ee7a35b1b8a7", func := "sconce/sconcelaw04.LimbsOrders", spec := "limbsOrders", inPlace := ["math/bits.Add64", "math/bits.Sub64"], unfollowed := true, recurses := true, apart := false, narrowed := true }
def LimbsOrdersUptoSaid : Prop := limbsOrdersUptoRow.holds Try.pinned (OpenSpec.upto limbsOrdersSpec)

/-- 'sconcelaw04.LimbsPicks', WHERE WHAT IT READS IS OF BULK AT MOST 1048576: true; the input reads as it did. -/
def limbsPicksUptoRow : OpenClaim := { program := "ytjbpeomcfcdklaa", sum := "89d8345fea1281b73767e8430308693fe1c42deb25c11b7c0640ee7a35b1b8a7", func := "sconce/sconcelaw04.LimbsPicks", spec := "limbsPicks", inPlace := ["math/bits.Add64", "math/bits.Sub64"], unfollowed := true, recurses := true, apart := false, narrowed := true }
def LimbsPicksUptoSaid : Prop := limbsPicksUptoRow.holds Try.pinned (OpenSpec.upto limbsPicksSpec)

end Rows
end Go.Proofs.Ytjbpeomcfcdklaa
