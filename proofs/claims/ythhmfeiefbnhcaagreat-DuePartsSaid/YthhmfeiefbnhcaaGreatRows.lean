/-
  No cell of these rows narrows 'for every input' (looked for: loops, veiled, ifaces, maps, wideKeys, modest, calm, conditions, laid).
  DERIVED. THE GIVEN ROWS OF THIS SEAT. 3 by the template 'for every input the law returns true; each argument reads behind the call as it read before'; 0 by the template 'total and deterministic' (their statements: YthhmfeiefbnhcaaGreatTotals.lean).
  GIVEN WITH THE SEED: the statements are not yours to turn. If you find one false, say at which input.
  Laid BY PROGRAM, IN A SANDBOX (cutbox-rows.mjs): the forced cells as the released guide's own fill.sh prints them over the translation 6d1a5bbd2ed6adc5… (all of the seat's roots in one cut). By AI agents, Wed Nov 11 2026. No macro, syntax, notation, axiom, sorry.
-/
import Derived.Test.YthhmfeiefbnhcaaGreatChecked
import GoSem.Claim
import GoSem.ClaimJoined
import GoSem.ClaimMapViews
import Derived.JoinedTies
import Derived.KernelRfl
namespace Go.Proofs.YthhmfeiefbnhcaaGreat
/- THE CELL 'sum', in the pinned program and in every row, IS THE sha256 OF THE DUMP (.gsa) THAT YthhmfeiefbnhcaaGreatProg.lean LOADS. Nothing in Lean hashes anything: it is a label: what it is worth is what the hold of that sum in a sandbox is worth. -/
noncomputable def Tryz.pinned : Pinned := { name := "ythhmfeiefbnhcaagreat", sum := "6d1a5bbd2ed6adc52f11400a73f4953be820111393acaa36551008751bd3f673", checked := Tryz.checked }
namespace Rows
def none {H : Type} : Left H := { results := [], args := [] }

/-- 'ossuarylaw26.DueParts': WHATEVER THE INPUT: true; the input reads as it did. -/
def duePartsSpec : ChangeSpec := { name := "dueParts", fn := fun _ => fun
  | [d] => { results := [.lit (.bool true)], args := [d] }
  | _ => none }
def duePartsRow : OpenClaim := { program := "ythhmfeiefbnhcaagreat", sum := "6d1a5bbd2ed6adc52f11400a73f4953be820111393acaa36551008751bd3f673", func := "ossuary/ossuarylaw26.DueParts", spec := "dueParts", inPlace := ["slices.overlaps[ossuary/omap.pair[int64, ossuary/api.Entry]]"], unfollowed := true, recurses := true, plainKeys := false, apart := false }
def DuePartsSaid : Prop := duePartsRow.holds Tryz.pinned (OpenSpec.ofChange duePartsSpec)

/-- ITS FALSE NEIGHBOUR: 'it returns false'. Refute it at one input. -/
def duePartsWrong : ChangeSpec := { name := "dueParts", fn := fun _ => fun
  | [d] => { results := [.lit (.bool false)], args := [d] }
  | _ => none }
def DuePartsWrongFalsely : Prop := duePartsRow.holds Tryz.pinned (OpenSpec.ofChange duePartsWrong)

/-- 'ossuarylaw22.MemPlays': WHATEVER THE INPUT: true; the input reads as it did. -/
def memPlaysSpec : ChangeSpec := { name := "memPlays", fn := fun _ => fun
  | [d1, d2, d3, d4] => { results := [.lit (.bool true)], args := [d1, d2, d3, d4] }
  | _ => none }
def memPlaysRow : OpenClaim := { program := "ythhmfeiefbnhcaagreat", sum := "6d1a5bbd2ed6adc52f11400a73f4953be820111393acaa36551008751bd3f673", func := "ossuary/ossuarylaw22.MemPlays", spec := "memPlays", inPlace := ["slices.overlaps[ossuary/omap.pair[int64, ossuary/api.Entry]]"], unfollowed := true, recurses := true, plainKeys := false, apart := false }
def MemPlaysSaid : Prop := memPlaysRow.holds Tryz.pinned (OpenSpec.ofChange memPlaysSpec)

/-- ITS FALSE NEIGHBOUR: 'it returns false'. Refute it at one input. -/
def memPlaysWrong : ChangeSpec := { name := "memPlays", fn := fun _ => fun
  | [d1, d2, d3, d4] => { results := [.lit (.bool false)], args := [d1, d2, d3, d4] }
  | _ => none }
def MemPlaysWrongFalsely : Prop := memPlaysRow.holds Tryz.pinned (OpenSpec.ofChange memPlaysWrong)

/-- 'ossuarylaw22.MemCopies': WHATEVER THE INPUT: true; the input reads as it did. -/
def memCopiesSpec : ChangeSpec := { name := "memCopies", fn := fun _ => fun
  | [d1, d2] => { results := [.lit (.bool true)], args := [d1, d2] }
  | _ => none }
def memCopiesRow : OpenClaim := { program := "ythhmfeiefbnhcaagreat", sum := "6d1a5bbd2ed6adc52f11400a73f4953be820111393acaa36551008751bd3f673", func := "ossuary/ossuarylaw22.MemCopies", spec := "memCopies", inPlace := ["slices.overlaps[ossuary/omap.pair[int64, ossuary/api.Entry]]"], unfollowed := true, recurses := true, plainKeys := false, apart := false }
def MemCopiesSaid : Prop := memCopiesRow.holds Tryz.pinned (OpenSpec.ofChange memCopiesSpec)

/-- ITS FALSE NEIGHBOUR: 'it returns false'. Refute it at one input. -/
def memCopiesWrong : ChangeSpec := { name := "memCopies", fn := fun _ => fun
  | [d1, d2] => { results := [.lit (.bool false)], args := [d1, d2] }
  | _ => none }
def MemCopiesWrongFalsely : Prop := memCopiesRow.holds Tryz.pinned (OpenSpec.ofChange memCopiesWrong)

/- THE SECOND FORM. 'bulk': how many values and letters a reading holds, each counted each time it is reached (what is shared counts as often as it is met; a slice's spare places count too). A statement '..UptoSaid' is the law's where the arguments, and the package variables that the reading takes, are together of bulk at most 1048576: NARROWER than '..Said'. Prove '..Said' where nothing that the law and all that it calls make is longer than what came in: it says more and counts as full. Else prove '..UptoSaid'. A law counts once. -/
mutual
def uptoBulk {H : Type} : DataW H → Nat
  | .lit (.string bytes) => bytes.length + 1
  | .lit _ => 1
  | .nil => 1
  | .ptr d => uptoBulk d + 1
  | .slice elems spare => uptoBulkAll elems + uptoBulkAll spare + 1
  | .agg parts => uptoBulkAll parts + 1
  | .iface _ d => uptoBulk d + 1
  | .map entries => uptoBulkEntries entries + 1
  | .held _ => 1
def uptoBulkAll {H : Type} : List (DataW H) → Nat
  | [] => 0
  | d :: r => uptoBulk d + uptoBulkAll r
def uptoBulkEntries {H : Type} : List (Lit × DataW H) → Nat
  | [] => 0
  | x :: r => uptoBulkEntry x + uptoBulkEntries r
def uptoBulkEntry {H : Type} : Lit × DataW H → Nat
  | (.string bytes, d) => bytes.length + uptoBulk d + 1
  | (_, d) => uptoBulk d + 1
 end
def uptoSmall : (H : Type) → List (DataW H) → Bool := fun _ ds => decide (uptoBulkAll ds ≤ 1048576)
def OpenSpec.upto (s : _root_.Go.ChangeSpec) : _root_.Go.OpenSpec := { _root_.Go.OpenSpec.ofChange s with cond := some uptoSmall }

/-- 'ossuarylaw26.DueParts', WHERE WHAT IT READS IS OF BULK AT MOST 1048576: true; the input reads as it did. -/
def duePartsUptoRow : OpenClaim := { program := "ythhmfeiefbnhcaagreat", sum := "6d1a5bbd2ed6adc52f11400a73f4953be820111393acaa36551008751bd3f673", func := "ossuary/ossuarylaw26.DueParts", spec := "dueParts", inPlace := ["slices.overlaps[ossuary/omap.pair[int64, ossuary/api.Entry]]"], unfollowed := true, recurses := true, plainKeys := false, apart := false, narrowed := true }
def DuePartsUptoSaid : Prop := duePartsUptoRow.holds Tryz.pinned (OpenSpec.upto duePartsSpec)

/-- 'ossuarylaw22.MemPlays', WHERE WHAT IT READS IS OF BULK AT MOST 1048576: true; the input reads as it did. -/
def memPlaysUptoRow : OpenClaim := { program := "ythhmfeiefbnhcaagreat", sum := "6d1a5bbd2ed6adc52f11400a73f4953be820111393acaa36551008751bd3f673", func := "ossuary/ossuarylaw22.MemPlays", spec := "memPlays", inPlace := ["slices.overlaps[ossuary/omap.pair[int64, ossuary/api.Entry]]"], unfollowed := true, recurses := true, plainKeys := false, apart := false, narrowed := true }
def MemPlaysUptoSaid : Prop := memPlaysUptoRow.holds Tryz.pinned (OpenSpec.upto memPlaysSpec)

/-- 'ossuarylaw22.MemCopies', WHERE WHAT IT READS IS OF BULK AT MOST 1048576: true; the input reads as it did. -/
def memCopiesUptoRow : OpenClaim := { program := "ythhmfeiefbnhcaagreat", sum := "6d1a5bbd2ed6adc52f11400a73f4953be820111393acaa36551008751bd3f673", func := "ossuary/ossuarylaw22.MemCopies", spec := "memCopies", inPlace := ["slices.overlaps[ossuary/omap.pair[int64, ossuary/api.Entry]]"], unfollowed := true, recurses := true, plainKeys := false, apart := false, narrowed := true }
def MemCopiesUptoSaid : Prop := memCopiesUptoRow.holds Tryz.pinned (OpenSpec.upto memCopiesSpec)

end Rows
end Go.Proofs.YthhmfeiefbnhcaaGreat
