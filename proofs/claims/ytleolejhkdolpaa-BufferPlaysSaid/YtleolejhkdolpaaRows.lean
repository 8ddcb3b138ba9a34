/-
  No cell of these rows narrows 'for every input' (looked for: loops, veiled, ifaces, maps, wideKeys, modest, calm, conditions, laid).
  DERIVED. THE GIVEN ROWS OF THIS SEAT. 4 by the template 'for every input the law returns true; each argument reads behind the call as it read before'; 0 by the template 'total and deterministic' (their statements: YtleolejhkdolpaaTotals.lean).
  GIVEN WITH THE SEED: the statements are not yours to turn. If you find one false, say at which input.
  Laid BY PROGRAM, IN A SANDBOX (cutbox-rows.mjs): the forced cells as the released guide's own fill.sh prints them over the translation 06c97f4c048c5679… (all of the seat's roots in one cut). By AI agents, Wed Nov 11 2026. No macro, syntax, notation, axiom, sorry.
-/
import Derived.Test.YtleolejhkdolpaaChecked
import GoSem.Claim
import GoSem.ClaimJoined
import GoSem.ClaimMapViews
import Derived.JoinedTies
import Derived.KernelRfl
namespace Go.Proofs.Ytleolejhkdolpaa
/- THE CELL 'sum', in the pinned program and in every row, IS THE sha256 OF THE DUMP (.gsa) THAT YtleolejhkdolpaaProg.lean LOADS. Nothing in Lean hashes anything: it is a label: what it is worth is what the hold of that sum in a sandbox is worth. -/
noncomputable def Try.pinned : Pinned := { name := "ytleolejhkdolpaa", sum := "06c97f4c048c56793a3772a18e39de9a14780939dbbe06fbd071d0d111cf2f99", checked := Try.checked }
namespace Rows
def none {H : Type} : Left H := { results := [], args := [] }

/-- 'incunablelaw12.ChoiceTurns': WHATEVER THE INPUT: true; the input reads as it did. -/
def choiceTurnsSpec : ChangeSpec := { name := "choiceTurns", fn := fun _ => fun
  | [d] => { results := [.lit (.bool true)], args := [d] }
  | _ => none }
def choiceTurnsRow : OpenClaim := { program := "ytleolejhkdolpaa", sum := "06c97f4c048c56793a3772a18e39de9a14780939dbbe06fbd071d0d111cf2f99", func := "incunable/incunablelaw12.ChoiceTurns", spec := "choiceTurns", unfollowed := true, recurses := true, plainKeys := false, apart := false }
def ChoiceTurnsSaid : Prop := choiceTurnsRow.holds Try.pinned (OpenSpec.ofChange choiceTurnsSpec)

/-- ITS FALSE NEIGHBOUR: 'it returns false'. Refute it at one input. -/
def choiceTurnsWrong : ChangeSpec := { name := "choiceTurns", fn := fun _ => fun
  | [d] => { results := [.lit (.bool false)], args := [d] }
  | _ => none }
def ChoiceTurnsWrongFalsely : Prop := choiceTurnsRow.holds Try.pinned (OpenSpec.ofChange choiceTurnsWrong)

/-- 'incunablelaw29.BufferPlays': WHATEVER THE INPUT: true; the input reads as it did. -/
def bufferPlaysSpec : ChangeSpec := { name := "bufferPlays", fn := fun _ => fun
  | [d1, d2, d3] => { results := [.lit (.bool true)], args := [d1, d2, d3] }
  | _ => none }
def bufferPlaysRow : OpenClaim := { program := "ytleolejhkdolpaa", sum := "06c97f4c048c56793a3772a18e39de9a14780939dbbe06fbd071d0d111cf2f99", func := "incunable/incunablelaw29.BufferPlays", spec := "bufferPlays", unfollowed := true, recurses := true, plainKeys := false, apart := false }
def BufferPlaysSaid : Prop := bufferPlaysRow.holds Try.pinned (OpenSpec.ofChange bufferPlaysSpec)

/-- ITS FALSE NEIGHBOUR: 'it returns false'. Refute it at one input. -/
def bufferPlaysWrong : ChangeSpec := { name := "bufferPlays", fn := fun _ => fun
  | [d1, d2, d3] => { results := [.lit (.bool false)], args := [d1, d2, d3] }
  | _ => none }
def BufferPlaysWrongFalsely : Prop := bufferPlaysRow.holds Try.pinned (OpenSpec.ofChange bufferPlaysWrong)

/-- 'incunablelaw32.DurablePlays': WHATEVER THE INPUT: true; the input reads as it did. -/
def durablePlaysSpec : ChangeSpec := { name := "durablePlays", fn := fun _ => fun
  | [d1, d2, d3] => { results := [.lit (.bool true)], args := [d1, d2, d3] }
  | _ => none }
def durablePlaysRow : OpenClaim := { program := "ytleolejhkdolpaa", sum := "06c97f4c048c56793a3772a18e39de9a14780939dbbe06fbd071d0d111cf2f99", func := "incunable/incunablelaw32.DurablePlays", spec := "durablePlays", unfollowed := true, recurses := true, plainKeys := false, apart := false }
def DurablePlaysSaid : Prop := durablePlaysRow.holds Try.pinned (OpenSpec.ofChange durablePlaysSpec)

/-- ITS FALSE NEIGHBOUR: 'it returns false'. Refute it at one input. -/
def durablePlaysWrong : ChangeSpec := { name := "durablePlays", fn := fun _ => fun
  | [d1, d2, d3] => { results := [.lit (.bool false)], args := [d1, d2, d3] }
  | _ => none }
def DurablePlaysWrongFalsely : Prop := durablePlaysRow.holds Try.pinned (OpenSpec.ofChange durablePlaysWrong)

/-- 'incunablelaw12.ChoiceSame': WHATEVER THE INPUT: true; the input reads as it did. -/
def choiceSameSpec : ChangeSpec := { name := "choiceSame", fn := fun _ => fun
  | [d1, d2] => { results := [.lit (.bool true)], args := [d1, d2] }
  | _ => none }
def choiceSameRow : OpenClaim := { program := "ytleolejhkdolpaa", sum := "06c97f4c048c56793a3772a18e39de9a14780939dbbe06fbd071d0d111cf2f99", func := "incunable/incunablelaw12.ChoiceSame", spec := "choiceSame", unfollowed := true, recurses := true, plainKeys := false, apart := false }
def ChoiceSameSaid : Prop := choiceSameRow.holds Try.pinned (OpenSpec.ofChange choiceSameSpec)

/-- ITS FALSE NEIGHBOUR: 'it returns false'. Refute it at one input. -/
def choiceSameWrong : ChangeSpec := { name := "choiceSame", fn := fun _ => fun
  | [d1, d2] => { results := [.lit (.bool false)], args := [d1, d2] }
  | _ => none }
def ChoiceSameWrongFalsely : Prop := choiceSameRow.holds Try.pinned (OpenSpec.ofChange choiceSameWrong)

/- THE SECOND FORM. 'bulk': how many values and letters a reading holds, each counted each time it is reached (what is shared counts as often as it is met; a slice's spare places count too). A statement '..UptoSaid' is the law's where the arguments, and the package variables that the reading takes, are together of bulk at most 1048576: NARROWER than '..Said'. Prove '..Said' where nothing that the law and all that it calls make is longer than what came in: it says more and counts as full. Else prove '..UptoSaid'. A law counts once. -/
mutual
def uptoBulk {H : Type} : DataW H → Nat
  | .lit (.string bytes) => bytes.length + 1
  | .lit _ => 1
  | .nil => 1
  | .ptr d => uptoBulk d + 1
  | .slice elems spare => uptoBulkAll elems + uptoBulkAll spare + 1
  | .agg parts => uptoBulkAll parts + 1
  | .iface _ d => uptoBulk d + 1
  | .map entries => uptoBulkEntries entries + 1
  | .held _ => 1
def uptoBulkAll {H : Type} : List (DataW H) → Nat
  | [] => 0
  | d :: r => uptoBulk d + uptoBulkAll r
def uptoBulkEntries {H : Type} : List (Lit × DataW H) → Nat
  | [] => 0
  | x :: r => uptoBulkEntry x + uptoBulkEntries r
def uptoBulkEntry {H : Type} : Lit × DataW H → Nat
  | (.string bytes, d) => bytes.length + uptoBulk d + 1
  | (_, d) => uptoBulk d + 1
 end
def uptoSmall : (H : Type) → List (DataW H) → Bool := fun _ ds => decide (uptoBulkAll ds ≤ 1048576)
def OpenSpec.upto (s : _root_.Go.ChangeSpec) : _root_.Go.OpenSpec := { _root_.Go.OpenSpec.ofChange s with cond := some uptoSmall }

/-- 'incunablelaw12.ChoiceTurns', WHERE WHAT IT READS IS OF BULK AT MOST 1048576: true; the input reads as it did. -/
def choiceTurnsUptoRow : OpenClaim := { program := "ytleolejhkdolpaa", sum := "06c97f4c048c56793a3772a18e39de9a14780939dbbe06fbd071d0d111cf2f99", func := "incunable/incunablelaw12.ChoiceTurns", spec := "choiceTurns", unfollowed := true, recurses := true, plainKeys := false, apart := false, narrowed := true }
def ChoiceTurnsUptoSaid : Prop := choiceTurnsUptoRow.holds Try.pinned (OpenSpec.upto choiceTurnsSpec)

/-- 'incunablelaw29.BufferPlays', WHERE WHAT IT READS IS OF BULK AT MOST 1048576: true; the input reads as it did. -/
def bufferPlaysUptoRow : OpenClaim := { program := "ytleolejhkdolpaa", sum := "06c97f4c048c56793a3772a18e39de9a14780939dbbe06fbd071d0d111cf2f99", func := "incunable/incunablelaw29.BufferPlays", spec := "bufferPlays", unfollowed := true, recurses := true, plainKeys := false, apart := false, narrowed := true }
def BufferPlaysUptoSaid : Prop := bufferPlaysUptoRow.holds Try.pinned (OpenSpec.upto bufferPlaysSpec)

/-- 'incunablelaw32.DurablePlays', WHERE WHAT IT READS IS OF BULK AT MOST 1048576: true; the input reads as it did. -/
def durablePlaysUptoRow : OpenClaim := { program := "ytleolejhkdolpaa", sum := "06c97f4c048c56793a3772a18e39de9a14780939dbbe06fbd071d0d111cf2f99", func := "incunable/incunablelaw32.DurablePlays", spec := "durablePlays", unfollowed := true, recurses := true, plainKeys := false, apart := false, narrowed := true }
def DurablePlaysUptoSaid : Prop := durablePlaysUptoRow.holds Try.pinned (OpenSpec.upto durablePlaysSpec)

/-- 'incunablelaw12.ChoiceSame', WHERE WHAT IT READS IS OF BULK AT MOST 1048576: true; the input reads as it did. -/
def choiceSameUptoRow : OpenClaim := { program := "ytleolejhkdolpaa", sum := "06c97f4c048c56793a3772a18e39de9a14780939dbbe06fbd071d0d111cf2f99", func := "incunable/incunablelaw12.ChoiceSame", spec := "choiceSame", unfollowed := true, recurses := true, plainKeys := false, apart := false, narrowed := true }
def ChoiceSameUptoSaid : Prop := choiceSameUptoRow.holds Try.pinned (OpenSpec.upto choiceSameSpec)

end Rows
end Go.Proofs.Ytleolejhkdolpaa
