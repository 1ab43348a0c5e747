/-
  No cell of these rows narrows 'for every input' (looked for: loops, veiled, ifaces, maps, wideKeys, modest, calm, conditions, laid).
  DERIVED. THE GIVEN ROWS OF THIS SEAT. 7 by the template 'for every input the law returns true; each argument reads behind the call as it read before'; 0 by the template 'total and deterministic' (their statements: YtecghmlojllkdaaGreatTotals.lean).
  GIVEN WITH THE SEED: the statements are not yours to turn. If you find one false, say at which input.
  Laid BY PROGRAM, IN A SANDBOX (cutbox-rows.mjs): the forced cells as the released guide's own fill.sh prints them over the translation 4a8597915cc3edb3… (all of the seat's roots in one cut). By AI agents, Wed Nov 11 2026. No macro, syntax, notation, axiom, sorry.
-/
import Derived.Test.YtecghmlojllkdaaGreatChecked
import GoSem.Claim
import GoSem.ClaimJoined
import GoSem.ClaimMapViews
import Derived.JoinedTies
import Derived.KernelRfl
namespace Go.Proofs.YtecghmlojllkdaaGreat
/- THE CELL 'sum', in the pinned program and in every row, IS THE sha256 OF THE DUMP (.gsa) THAT YtecghmlojllkdaaGreatProg.lean LOADS. Nothing in Lean hashes anything: it is a label: what it is worth is what the hold of that sum in a sandbox is worth. -/
noncomputable def Tryz.pinned : Pinned := { name := "ytecghmlojllkdaagreat", sum := "4a8597915cc3edb3b8589b48d53fcfda022b1571ce0aee7851655fb9f792e5b7", checked := Tryz.checked }
namespace Rows
def none {H : Type} : Left H := { results := [], args := [] }

/-- 'postroadlaw07.ObjectSays': WHATEVER THE INPUT: true; the input reads as it did. -/
def objectSaysSpec : ChangeSpec := { name := "objectSays", fn := fun _ => fun
  | [d] => { results := [.lit (.bool true)], args := [d] }
  | _ => none }
def objectSaysRow : OpenClaim := { program := "ytecghmlojllkdaagreat", sum := "4a8597915cc3edb3b8589b48d53fcfda022b1571ce0aee7851655fb9f792e5b7", func := "postroad/postroadlaw07.ObjectSays", spec := "objectSays", unfollowed := true, recurses := true, apart := false }
def ObjectSaysSaid : Prop := objectSaysRow.holds Tryz.pinned (OpenSpec.ofChange objectSaysSpec)

/-- ITS FALSE NEIGHBOUR: 'it returns false'. Refute it at one input. -/
def objectSaysWrong : ChangeSpec := { name := "objectSays", fn := fun _ => fun
  | [d] => { results := [.lit (.bool false)], args := [d] }
  | _ => none }
def ObjectSaysWrongFalsely : Prop := objectSaysRow.holds Tryz.pinned (OpenSpec.ofChange objectSaysWrong)

/-- 'postroadlaw07.ObjectTells': WHATEVER THE INPUT: true; the input reads as it did. -/
def objectTellsSpec : ChangeSpec := { name := "objectTells", fn := fun _ => fun
  | [d] => { results := [.lit (.bool true)], args := [d] }
  | _ => none }
def objectTellsRow : OpenClaim := { program := "ytecghmlojllkdaagreat", sum := "4a8597915cc3edb3b8589b48d53fcfda022b1571ce0aee7851655fb9f792e5b7", func := "postroad/postroadlaw07.ObjectTells", spec := "objectTells", unfollowed := true, recurses := true, apart := false }
def ObjectTellsSaid : Prop := objectTellsRow.holds Tryz.pinned (OpenSpec.ofChange objectTellsSpec)

/-- ITS FALSE NEIGHBOUR: 'it returns false'. Refute it at one input. -/
def objectTellsWrong : ChangeSpec := { name := "objectTells", fn := fun _ => fun
  | [d] => { results := [.lit (.bool false)], args := [d] }
  | _ => none }
def ObjectTellsWrongFalsely : Prop := objectTellsRow.holds Tryz.pinned (OpenSpec.ofChange objectTellsWrong)

/-- 'postroadlaw08.MessageParses': WHATEVER THE INPUT: true; the input reads as it did. -/
def messageParsesSpec : ChangeSpec := { name := "messageParses", fn := fun _ => fun
  | [d] => { results := [.lit (.bool true)], args := [d] }
  | _ => none }
def messageParsesRow : OpenClaim := { program := "ytecghmlojllkdaagreat", sum := "4a8597915cc3edb3b8589b48d53fcfda022b1571ce0aee7851655fb9f792e5b7", func := "postroad/postroadlaw08.MessageParses", spec := "messageParses", unfollowed := true, recurses := true, apart := false }
def MessageParsesSaid : Prop := messageParsesRow.holds Tryz.pinned (OpenSpec.ofChange messageParsesSpec)

/-- ITS FALSE NEIGHBOUR: 'it returns false'. Refute it at one input. -/
def messageParsesWrong : ChangeSpec := { name := "messageParses", fn := fun _ => fun
  | [d] => { results := [.lit (.bool false)], args := [d] }
  | _ => none }
def MessageParsesWrongFalsely : Prop := messageParsesRow.holds Tryz.pinned (OpenSpec.ofChange messageParsesWrong)

/-- 'postroadlaw08.MessageFlips': WHATEVER THE INPUT: true; the input reads as it did. -/
def messageFlipsSpec : ChangeSpec := { name := "messageFlips", fn := fun _ => fun
  | [d1, d2] => { results := [.lit (.bool true)], args := [d1, d2] }
  | _ => none }
def messageFlipsRow : OpenClaim := { program := "ytecghmlojllkdaagreat", sum := "4a8597915cc3edb3b8589b48d53fcfda022b1571ce0aee7851655fb9f792e5b7", func := "postroad/postroadlaw08.MessageFlips", spec := "messageFlips", unfollowed := true, recurses := true, apart := false }
def MessageFlipsSaid : Prop := messageFlipsRow.holds Tryz.pinned (OpenSpec.ofChange messageFlipsSpec)

/-- ITS FALSE NEIGHBOUR: 'it returns false'. Refute it at one input. -/
def messageFlipsWrong : ChangeSpec := { name := "messageFlips", fn := fun _ => fun
  | [d1, d2] => { results := [.lit (.bool false)], args := [d1, d2] }
  | _ => none }
def MessageFlipsWrongFalsely : Prop := messageFlipsRow.holds Tryz.pinned (OpenSpec.ofChange messageFlipsWrong)

/-- 'postroadlaw08.MessageCuts': WHATEVER THE INPUT: true; the input reads as it did. -/
def messageCutsSpec : ChangeSpec := { name := "messageCuts", fn := fun _ => fun
  | [d1, d2] => { results := [.lit (.bool true)], args := [d1, d2] }
  | _ => none }
def messageCutsRow : OpenClaim := { program := "ytecghmlojllkdaagreat", sum := "4a8597915cc3edb3b8589b48d53fcfda022b1571ce0aee7851655fb9f792e5b7", func := "postroad/postroadlaw08.MessageCuts", spec := "messageCuts", unfollowed := true, recurses := true, apart := false }
def MessageCutsSaid : Prop := messageCutsRow.holds Tryz.pinned (OpenSpec.ofChange messageCutsSpec)

/-- ITS FALSE NEIGHBOUR: 'it returns false'. Refute it at one input. -/
def messageCutsWrong : ChangeSpec := { name := "messageCuts", fn := fun _ => fun
  | [d1, d2] => { results := [.lit (.bool false)], args := [d1, d2] }
  | _ => none }
def MessageCutsWrongFalsely : Prop := messageCutsRow.holds Tryz.pinned (OpenSpec.ofChange messageCutsWrong)

/-- 'postroadlaw08.MessageTtl': WHATEVER THE INPUT: true; the input reads as it did. -/
def messageTtlSpec : ChangeSpec := { name := "messageTtl", fn := fun _ => fun
  | [d1, d2] => { results := [.lit (.bool true)], args := [d1, d2] }
  | _ => none }
def messageTtlRow : OpenClaim := { program := "ytecghmlojllkdaagreat", sum := "4a8597915cc3edb3b8589b48d53fcfda022b1571ce0aee7851655fb9f792e5b7", func := "postroad/postroadlaw08.MessageTtl", spec := "messageTtl", unfollowed := true, recurses := true, apart := false }
def MessageTtlSaid : Prop := messageTtlRow.holds Tryz.pinned (OpenSpec.ofChange messageTtlSpec)

/-- ITS FALSE NEIGHBOUR: 'it returns false'. Refute it at one input. -/
def messageTtlWrong : ChangeSpec := { name := "messageTtl", fn := fun _ => fun
  | [d1, d2] => { results := [.lit (.bool false)], args := [d1, d2] }
  | _ => none }
def MessageTtlWrongFalsely : Prop := messageTtlRow.holds Tryz.pinned (OpenSpec.ofChange messageTtlWrong)

/-- 'postroadlaw08.MessageRaws': WHATEVER THE INPUT: true; the input reads as it did. -/
def messageRawsSpec : ChangeSpec := { name := "messageRaws", fn := fun _ => fun
  | [d] => { results := [.lit (.bool true)], args := [d] }
  | _ => none }
def messageRawsRow : OpenClaim := { program := "ytecghmlojllkdaagreat", sum := "4a8597915cc3edb3b8589b48d53fcfda022b1571ce0aee7851655fb9f792e5b7", func := "postroad/postroadlaw08.MessageRaws", spec := "messageRaws", unfollowed := true, recurses := true, apart := false }
def MessageRawsSaid : Prop := messageRawsRow.holds Tryz.pinned (OpenSpec.ofChange messageRawsSpec)

/-- ITS FALSE NEIGHBOUR: 'it returns false'. Refute it at one input. -/
def messageRawsWrong : ChangeSpec := { name := "messageRaws", fn := fun _ => fun
  | [d] => { results := [.lit (.bool false)], args := [d] }
  | _ => none }
def MessageRawsWrongFalsely : Prop := messageRawsRow.holds Tryz.pinned (OpenSpec.ofChange messageRawsWrong)

/- THE SECOND FORM. 'bulk': how many values and letters a reading holds, each counted each time it is reached (what is shared counts as often as it is met; a slice's spare places count too). A statement '..UptoSaid' is the law's where the arguments, and the package variables that the reading takes, are together of bulk at most 1048576: NARROWER than '..Said'. Prove '..Said' where nothing that the law and all that it calls make is longer than what came in: it says more and counts as full. Else prove '..UptoSaid'. A law counts once. -/
mutual
def uptoBulk {H : Type} : DataW H → Nat
  | .lit (.string bytes) => bytes.length + 1
  | .lit _ => 1
  | .nil => 1
  | .ptr d => uptoBulk d + 1
  | .slice elems spare => uptoBulkAll elems + uptoBulkAll spare + 1
  | .agg parts => uptoBulkAll parts + 1
  | .iface _ d => uptoBulk d + 1
  | .map entries => uptoBulkEntries entries + 1
  | .held _ => 1
def uptoBulkAll {H : Type} : List (DataW H) → Nat
  | [] => 0
  | d :: r => uptoBulk d + uptoBulkAll r
def uptoBulkEntries {H : Type} : List (Lit × DataW H) → Nat
  | [] => 0
  | x :: r => uptoBulkEntry x + uptoBulkEntries r
def uptoBulkEntry {H : Type} : Lit × DataW H → Nat
  | (.string bytes, d) => bytes.length + uptoBulk d + 1
  | (_, d) => uptoBulk d + 1
 end
def uptoSmall : (H : Type) → List (DataW H) → Bool := fun _ ds => decide (uptoBulkAll ds ≤ 1048576)
def OpenSpec.upto (s : _root_.Go.ChangeSpec) : _root_.Go.OpenSpec := { _root_.Go.OpenSpec.ofChange s with cond := some uptoSmall }

/-- 'postroadlaw07.ObjectSays', WHERE WHAT IT READS IS OF BULK AT MOST 1048576: true; the input reads as it did. -/
def objectSaysUptoRow : OpenClaim := { program := "ytecghmlojllkdaagreat", sum := "4a8597915cc3edb3b8589b48d53fcfda022b1571ce0aee7851655fb9f792e5b7", func := "postroad/postroadlaw07.ObjectSays", spec := "objectSays", unfollowed := true, recurses := true, apart := false, narrowed := true }
def ObjectSaysUptoSaid : Prop := objectSaysUptoRow.holds Tryz.pinned (OpenSpec.upto objectSaysSpec)

/-- 'postroadlaw07.ObjectTells', WHERE WHAT IT READS IS OF BULK AT MOST 1048576: true; the input reads as it did. -/
def objectTellsUptoRow : OpenClaim := { program := "ytecghmlojllkdaagreat", sum := "4a8597915cc3edb3b8589b48d53fcfda022b1571ce0aee7851655fb9f792e5b7", func := "postroad/postroadlaw07.ObjectTells", spec := "objectTells", unfollowed := true, recurses := true, apart := false, narrowed := true }
def ObjectTellsUptoSaid : Prop := objectTellsUptoRow.holds Tryz.pinned (OpenSpec.upto objectTellsSpec)

/-- 'postroadlaw08.MessageParses', WHERE WHAT IT READS IS OF BULK AT MOST 1048576: true; the input reads as it did. -/
def messageParsesUptoRow : OpenClaim := { program := "ytecghmlojllkdaagreat", sum := "4a8597915cc3edb3b8589b48d53fcfda022b1571ce0aee7851655fb9f792e5b7", func := "postroad/postroadlaw08.MessageParses", spec := "messageParses", unfollowed := true, recurses := true, apart := false, narrowed := true }
def MessageParsesUptoSaid : Prop := messageParsesUptoRow.holds Tryz.pinned (OpenSpec.upto messageParsesSpec)

/-- 'postroadlaw08.MessageFlips', WHERE WHAT IT READS IS OF BULK AT MOST 1048576: true; the input reads as it did. -/
def messageFlipsUptoRow : OpenClaim := { program := "ytecghmlojllkdaagreat", sum := "4a8597915cc3edb3b8589b48d53fcfda022b1571ce0aee7851655fb9f792e5b7", func := "postroad/postroadlaw08.MessageFlips", spec := "messageFlips", unfollowed := true, recurses := true, apart := false, narrowed := true }
def MessageFlipsUptoSaid : Prop := messageFlipsUptoRow.holds Tryz.pinned (OpenSpec.upto messageFlipsSpec)

/-- 'postroadlaw08.MessageCuts', WHERE WHAT IT READS IS OF BULK AT MOST 1048576: true; the input reads as it did. -/
def messageCutsUptoRow : OpenClaim := { program := "ytecghmlojllkdaagreat", sum := "4a8597915cc3edb3b8589b48d53fcfda022b1571ce0aee7851655fb9f792e5b7", func := "postroad/postroadlaw08.MessageCuts", spec := "messageCuts", unfollowed := true, recurses := true, apart := false, narrowed := true }
def MessageCutsUptoSaid : Prop := messageCutsUptoRow.holds Tryz.pinned (OpenSpec.upto messageCutsSpec)

/-- 'postroadlaw08.MessageTtl', WHERE WHAT IT READS IS OF BULK AT MOST 1048576: true; the input reads as it did. -/
def messageTtlUptoRow : OpenClaim := { program := "ytecghmlojllkdaagreat", sum := "4a8597915cc3edb3b8589b48d53fcfda022b1571ce0aee7851655fb9f792e5b7", func := "postroad/postroadlaw08.MessageTtl", spec := "messageTtl", unfollowed := true, recurses := true, apart := false, narrowed := true }
def MessageTtlUptoSaid : Prop := messageTtlUptoRow.holds Tryz.pinned (OpenSpec.upto messageTtlSpec)

/-- 'postroadlaw08.MessageRaws', WHERE WHAT IT READS IS OF BULK AT MOST 1048576: true; the input reads as it did. -/
def messageRawsUptoRow : OpenClaim := { program := "ytecghmlojllkdaagreat", sum := "4a8597915cc3edb3b8589b48d53fcfda022b1571ce0aee7851655fb9f792e5b7", func := "postroad/postroadlaw08.MessageRaws", spec := "messageRaws", unfollowed := true, recurses := true, apart := false, narrowed := true }
def MessageRawsUptoSaid : Prop := messageRawsUptoRow.holds Tryz.pinned (OpenSpec.upto messageRawsSpec)

end Rows
end Go.Proofs.YtecghmlojllkdaaGreat
