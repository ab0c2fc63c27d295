/-
  No cell of these rows narrows 'for every input' (looked for: loops, veiled, ifaces, maps, wideKeys, modest, calm, conditions, laid).
  DERIVED. THE GIVEN ROWS OF THIS SEAT. 5 by the template 'for every input the law returns true; each argument reads behind the call as it read before'; 0 by the template 'total and deterministic' (their statements: YtbiojnaemniljaaTotals.lean).
  GIVEN WITH THE SEED: the statements are not yours to turn. If you find one false, say at which input.
  Laid BY PROGRAM, IN A SANDBOX (cutbox-rows.mjs): the forced cells as the released guide's own fill.sh prints them over the translation fcef8551b69c84d5… (all of the seat's roots in one cut). By AI agents, Wed Nov 11 2026. No macro, syntax, notation, axiom, sorry.
-/
import Derived.Test.YtbiojnaemniljaaChecked
import GoSem.Claim
import GoSem.ClaimJoined
import GoSem.ClaimMapViews
import Derived.JoinedTies
import Derived.KernelRfl
namespace Go.Proofs.Ytbiojnaemniljaa
/- THE CELL 'sum', in the pinned program and in every row, IS THE sha256 OF THE DUMP (.gsa) THAT YtbiojnaemniljaaProg.lean LOADS. Nothing in Lean hashes anything: it is a label: what it is worth is what the hold of that sum in a sandbox is worth. -/
noncomputable def Try.pinned : Pinned := { name := "ytbiojnaemniljaa", sum := "fcef8551b69c84d553e4a7727f4842a63051a28c5967364a11a55ac384f277c7", checked := Try.checked }
namespace Rows
def none {H : Type} : Left H := { results := [], args := [] }

/-- 'hermitagelaw5.VolBack': WHATEVER THE INPUT: true; the input reads as it did. -/
def volBackSpec : ChangeSpec := { name := "volBack", fn := fun _ => fun
  | [d] => { results := [.lit (.bool true)], args := [d] }
  | _ => none }
def volBackRow : OpenClaim := { program := "ytbiojnaemniljaa", sum := "fcef8551b69c84d553e4a7727f4842a63051a28c5967364a11a55ac384f277c7", func := "hermitage/hermitagelaw5.VolBack", spec := "volBack", unfollowed := true, recurses := true, apart := false }
def VolBackSaid : Prop := volBackRow.holds Try.pinned (OpenSpec.ofChange volBackSpec)

/-- ITS FALSE NEIGHBOUR: 'it returns false'. Refute it at one input. -/
def volBackWrong : ChangeSpec := { name := "volBack", fn := fun _ => fun
  | [d] => { results := [.lit (.bool false)], args := [d] }
  | _ => none }
def VolBackWrongFalsely : Prop := volBackRow.holds Try.pinned (OpenSpec.ofChange volBackWrong)

/-- 'hermitagelaw5.VolSnaps': WHATEVER THE INPUT: true; the input reads as it did. -/
def volSnapsSpec : ChangeSpec := { name := "volSnaps", fn := fun _ => fun
  | [d] => { results := [.lit (.bool true)], args := [d] }
  | _ => none }
def volSnapsRow : OpenClaim := { program := "ytbiojnaemniljaa", sum := "fcef8551b69c84d553e4a7727f4842a63051a28c5967364a11a55ac384f277c7", func := "hermitage/hermitagelaw5.VolSnaps", spec := "volSnaps", unfollowed := true, recurses := true, apart := false }
def VolSnapsSaid : Prop := volSnapsRow.holds Try.pinned (OpenSpec.ofChange volSnapsSpec)

/-- ITS FALSE NEIGHBOUR: 'it returns false'. Refute it at one input. -/
def volSnapsWrong : ChangeSpec := { name := "volSnaps", fn := fun _ => fun
  | [d] => { results := [.lit (.bool false)], args := [d] }
  | _ => none }
def VolSnapsWrongFalsely : Prop := volSnapsRow.holds Try.pinned (OpenSpec.ofChange volSnapsWrong)

/-- 'hermitagelaw5.VolClones': WHATEVER THE INPUT: true; the input reads as it did. -/
def volClonesSpec : ChangeSpec := { name := "volClones", fn := fun _ => fun
  | [d] => { results := [.lit (.bool true)], args := [d] }
  | _ => none }
def volClonesRow : OpenClaim := { program := "ytbiojnaemniljaa", sum := "fcef8551b69c84d553e4a7727f4842a63051a28c5967364a11a55ac384f277c7", func := "hermitage/hermitagelaw5.VolClones", spec := "volClones", unfollowed := true, recurses := true, apart := false }
def VolClonesSaid : Prop := volClonesRow.holds Try.pinned (OpenSpec.ofChange volClonesSpec)

/-- ITS FALSE NEIGHBOUR: 'it returns false'. Refute it at one input. -/
def volClonesWrong : ChangeSpec := { name := "volClones", fn := fun _ => fun
  | [d] => { results := [.lit (.bool false)], args := [d] }
  | _ => none }
def VolClonesWrongFalsely : Prop := volClonesRow.holds Try.pinned (OpenSpec.ofChange volClonesWrong)

/-- 'hermitagelaw5.VolDrops': WHATEVER THE INPUT: true; the input reads as it did. -/
def volDropsSpec : ChangeSpec := { name := "volDrops", fn := fun _ => fun
  | [d] => { results := [.lit (.bool true)], args := [d] }
  | _ => none }
def volDropsRow : OpenClaim := { program := "ytbiojnaemniljaa", sum := "fcef8551b69c84d553e4a7727f4842a63051a28c5967364a11a55ac384f277c7", func := "hermitage/hermitagelaw5.VolDrops", spec := "volDrops", unfollowed := true, recurses := true, apart := false }
def VolDropsSaid : Prop := volDropsRow.holds Try.pinned (OpenSpec.ofChange volDropsSpec)

/-- ITS FALSE NEIGHBOUR: 'it returns false'. Refute it at one input. -/
def volDropsWrong : ChangeSpec := { name := "volDrops", fn := fun _ => fun
  | [d] => { results := [.lit (.bool false)], args := [d] }
  | _ => none }
def VolDropsWrongFalsely : Prop := volDropsRow.holds Try.pinned (OpenSpec.ofChange volDropsWrong)

/-- 'hermitagelaw5.VolBacks': WHATEVER THE INPUT: true; the input reads as it did. -/
def volBacksSpec : ChangeSpec := { name := "volBacks", fn := fun _ => fun
  | [d] => { results := [.lit (.bool true)], args := [d] }
  | _ => none }
def volBacksRow : OpenClaim := { program := "ytbiojnaemniljaa", sum := "fcef8551b69c84d553e4a7727f4842a63051a28c5967364a11a55ac384f277c7", func := "hermitage/hermitagelaw5.VolBacks", spec := "volBacks", unfollowed := true, recurses := true, apart := false }
def VolBacksSaid : Prop := volBacksRow.holds Try.pinned (OpenSpec.ofChange volBacksSpec)

/-- ITS FALSE NEIGHBOUR: 'it returns false'. Refute it at one input. -/
def volBacksWrong : ChangeSpec := { name := "volBacks", fn := fun _ => fun
  | [d] => { results := [.lit (.bool false)], args := [d] }
  | _ => none }
def VolBacksWrongFalsely : Prop := volBacksRow.holds Try.pinned (OpenSpec.ofChange volBacksWrong)

/- THE SECOND FORM. 'bulk': how many values and letters a reading holds, each counted each time it is reached (what is shared counts as often as it is met; a slice's spare places count too). A statement '..UptoSaid' is the law's where the arguments, and the package variables that the reading takes, are together of bulk at most 1048576: NARROWER than '..Said'. Prove '..Said' where nothing that the law and all that it calls make is longer than what came in: it says more and counts as full. Else prove '..UptoSaid'. A law counts once. -/
mutual
def uptoBulk {H : Type} : DataW H → Nat
  | .lit (.string bytes) => bytes.length + 1
  | .lit _ => 1
  | .nil => 1
  | .ptr d => uptoBulk d + 1
  | .slice elems spare => uptoBulkAll elems + uptoBulkAll spare + 1
  | .agg parts => uptoBulkAll parts + 1
  | .iface _ d => uptoBulk d + 1
  | .map entries => uptoBulkEntries entries + 1
  | .held _ => 1
def uptoBulkAll {H : Type} : List (DataW H) → Nat
  | [] => 0
  | d :: r => uptoBulk d + uptoBulkAll r
def uptoBulkEntries {H : Type} : List (Lit × DataW H) → Nat
  | [] => 0
  | x :: r => uptoBulkEntry x + uptoBulkEntries r
def uptoBulkEntry {H : Type} : Lit × DataW H → Nat
  | (.string bytes, d) => bytes.length + uptoBulk d + 1
  | (_, d) => uptoBulk d + 1
 end
def uptoSmall : (H : Type) → List (DataW H) → Bool := fun _ ds => decide (uptoBulkAll ds ≤ 1048576)
def OpenSpec.upto (s : _root_.Go.ChangeSpec) : _root_.Go.OpenSpec := { _root_.Go.OpenSpec.ofChange s with cond := some uptoSmall }

/-- 'hermitagelaw5.VolBack', WHERE WHAT IT READS IS OF BULK AT MOST 1048576: true; the input reads as it did. -/
def volBackUptoRow : OpenClaim := { program := "ytbiojnaemniljaa", sum := "fcef8551b69c84d553e4a7727f4842a63051a28c5967364a11a55ac384f277c7", func := "hermitage/hermitagelaw5.VolBack", spec := "volBack", unfollowed := true, recurses := true, apart := false, narrowed := true }
def VolBackUptoSaid : Prop := volBackUptoRow.holds Try.pinned (OpenSpec.upto volBackSpec)

/-- 'hermitagelaw5.VolSnaps', WHERE WHAT IT READS IS OF BULK AT MOST 1048576: true; the input reads as it did. -/
def volSnapsUptoRow : OpenClaim := { program := "ytbiojnaemniljaa", sum := "fcef8551b69c84d553e4a7727f4842a63051a28c5967364a11a55ac384f277c7", func := "hermitage/hermitagelaw5.VolSnaps", spec := "volSnaps", unfollowed := true, recurses := true, apart := false, narrowed := true }
def VolSnapsUptoSaid : Prop := volSnapsUptoRow.holds Try.pinned (OpenSpec.upto volSnapsSpec)

/-- 'hermitagelaw5.VolClones', WHERE WHAT IT READS IS OF BULK AT MOST 1048576: true; the input reads as it did. -/
def volClonesUptoRow : OpenClaim := { program := "ytbiojnaemniljaa", sum := "fcef8551b69c84d553e4a7727f4842a63051a28c5967364a11a55ac384f277c7", func := "hermitage/hermitagelaw5.VolClones", spec := "volClones", unfollowed := true, recurses := true, apart := false, narrowed := true }
def VolClonesUptoSaid : Prop := volClonesUptoRow.holds Try.pinned (OpenSpec.upto volClonesSpec)

/-- 'hermitagelaw5.VolDrops', WHERE WHAT IT READS IS OF BULK AT MOST 1048576: true; the input reads as it did. -/
def volDropsUptoRow : OpenClaim := { program := "ytbiojnaemniljaa", sum := "fcef8551b69c84d553e4a7727f4842a63051a28c5967364a11a55ac384f277c7", func := "hermitage/hermitagelaw5.VolDrops", spec := "volDrops", unfollowed := true, recurses := true, apart := false, narrowed := true }
def VolDropsUptoSaid : Prop := volDropsUptoRow.holds Try.pinned (OpenSpec.upto volDropsSpec)

/-- 'hermitagelaw5.VolBacks', WHERE WHAT IT READS IS OF BULK AT MOST 1048576: true; the input reads as it did. -/
def volBacksUptoRow : OpenClaim := { program := "ytbiojnaemniljaa", sum := "fcef8551b69c84d553e4a7727f4842a63051a28c5967364a11a55ac384f277c7", func := "hermitage/hermitagelaw5.VolBacks", spec := "volBacks", unfollowed := true, recurses := true, apart := false, narrowed := true }
def VolBacksUptoSaid : Prop := volBacksUptoRow.holds Try.pinned (OpenSpec.upto volBacksSpec)

end Rows
end Go.Proofs.Ytbiojnaemniljaa
