/-
  No cell of these rows narrows 'for every input' (looked for: loops, veiled, ifaces, maps, wideKeys, modest, calm, conditions, laid).
  DERIVED. THE GIVEN ROWS OF THIS SEAT. 9 by the template 'for every input the law returns true; each argument reads behind the call as it read before'; 0 by the template 'total and deterministic' (their statements: YtoggggnlponfhaaTotals.lean).
  GIVEN WITH THE SEED: the statements are not yours to turn. If you find one false, say at which input.
  Laid BY PROGRAM, IN A SANDBOX (cutbox-rows.mjs): the forced cells as the released guide's own fill.sh prints them over the translation 75f02a006025c888… (all of the seat's roots in one cut). By AI agents, Wed Nov 11 2026. No macro, syntax, notation, axiom, sorry.
-/
import Derived.Test.YtoggggnlponfhaaChecked
import GoSem.Claim
import GoSem.ClaimJoined
import GoSem.ClaimMapViews
import Derived.JoinedTies
import Derived.KernelRfl
namespace Go.Proofs.Ytoggggnlponfhaa
/- THE CELL 'sum', in the pinned program and in every row, IS THE sha256 OF THE DUMP (.gsa) THAT YtoggggnlponfhaaProg.lean LOADS. Nothing in Lean hashes anything: it is a label: what it is worth is what the hold of that sum in a sandbox is worth. -/
noncomputable def Try.pinned : Pinned := { name := "ytoggggnlponfhaa", sum := "75f02a006025c888ada9a9202a260305f9bec1532bbed64b29553fb1739e145c", checked := Try.checked }
namespace Rows
def none {H : Type} : Left H := { results := [], args := [] }

/-- 'bogworkslaw08.BurstReads': WHATEVER THE INPUT: true; the input reads as it did. -/
def burstReadsSpec : ChangeSpec := { name := "burstReads", fn := fun _ => fun
  | [d1, d2, d3] => { results := [.lit (.bool true)], args := [d1, d2, d3] }
  | _ => none }
def burstReadsRow : OpenClaim := { program := "ytoggggnlponfhaa", sum := "75f02a006025c888ada9a9202a260305f9bec1532bbed64b29553fb1739e145c", func := "bogworks/bogworkslaw08.BurstReads", spec := "burstReads", unfollowed := true, recurses := true, plainKeys := false, apart := false }
def BurstReadsSaid : Prop := burstReadsRow.holds Try.pinned (OpenSpec.ofChange burstReadsSpec)

/-- ITS FALSE NEIGHBOUR: 'it returns false'. Refute it at one input. -/
def burstReadsWrong : ChangeSpec := { name := "burstReads", fn := fun _ => fun
  | [d1, d2, d3] => { results := [.lit (.bool false)], args := [d1, d2, d3] }
  | _ => none }
def BurstReadsWrongFalsely : Prop := burstReadsRow.holds Try.pinned (OpenSpec.ofChange burstReadsWrong)

/-- 'bogworkslaw08.BurstLooks': WHATEVER THE INPUT: true; the input reads as it did. -/
def burstLooksSpec : ChangeSpec := { name := "burstLooks", fn := fun _ => fun
  | [d1, d2] => { results := [.lit (.bool true)], args := [d1, d2] }
  | _ => none }
def burstLooksRow : OpenClaim := { program := "ytoggggnlponfhaa", sum := "75f02a006025c888ada9a9202a260305f9bec1532bbed64b29553fb1739e145c", func := "bogworks/bogworkslaw08.BurstLooks", spec := "burstLooks", unfollowed := true, recurses := true, plainKeys := false, apart := false }
def BurstLooksSaid : Prop := burstLooksRow.holds Try.pinned (OpenSpec.ofChange burstLooksSpec)

/-- ITS FALSE NEIGHBOUR: 'it returns false'. Refute it at one input. -/
def burstLooksWrong : ChangeSpec := { name := "burstLooks", fn := fun _ => fun
  | [d1, d2] => { results := [.lit (.bool false)], args := [d1, d2] }
  | _ => none }
def BurstLooksWrongFalsely : Prop := burstLooksRow.holds Try.pinned (OpenSpec.ofChange burstLooksWrong)

/-- 'bogworkslaw08.BurstTrue': WHATEVER THE INPUT: true; the input reads as it did. -/
def burstTrueSpec : ChangeSpec := { name := "burstTrue", fn := fun _ => fun
  | [d1, d2] => { results := [.lit (.bool true)], args := [d1, d2] }
  | _ => none }
def burstTrueRow : OpenClaim := { program := "ytoggggnlponfhaa", sum := "75f02a006025c888ada9a9202a260305f9bec1532bbed64b29553fb1739e145c", func := "bogworks/bogworkslaw08.BurstTrue", spec := "burstTrue", unfollowed := true, recurses := true, plainKeys := false, apart := false }
def BurstTrueSaid : Prop := burstTrueRow.holds Try.pinned (OpenSpec.ofChange burstTrueSpec)

/-- ITS FALSE NEIGHBOUR: 'it returns false'. Refute it at one input. -/
def burstTrueWrong : ChangeSpec := { name := "burstTrue", fn := fun _ => fun
  | [d1, d2] => { results := [.lit (.bool false)], args := [d1, d2] }
  | _ => none }
def BurstTrueWrongFalsely : Prop := burstTrueRow.holds Try.pinned (OpenSpec.ofChange burstTrueWrong)

/-- 'bogworkslaw08.BurstEnds': WHATEVER THE INPUT: true; the input reads as it did. -/
def burstEndsSpec : ChangeSpec := { name := "burstEnds", fn := fun _ => fun
  | [d1, d2] => { results := [.lit (.bool true)], args := [d1, d2] }
  | _ => none }
def burstEndsRow : OpenClaim := { program := "ytoggggnlponfhaa", sum := "75f02a006025c888ada9a9202a260305f9bec1532bbed64b29553fb1739e145c", func := "bogworks/bogworkslaw08.BurstEnds", spec := "burstEnds", unfollowed := true, recurses := true, plainKeys := false, apart := false }
def BurstEndsSaid : Prop := burstEndsRow.holds Try.pinned (OpenSpec.ofChange burstEndsSpec)

/-- ITS FALSE NEIGHBOUR: 'it returns false'. Refute it at one input. -/
def burstEndsWrong : ChangeSpec := { name := "burstEnds", fn := fun _ => fun
  | [d1, d2] => { results := [.lit (.bool false)], args := [d1, d2] }
  | _ => none }
def BurstEndsWrongFalsely : Prop := burstEndsRow.holds Try.pinned (OpenSpec.ofChange burstEndsWrong)

/-- 'bogworkslaw08.BurstSafe': WHATEVER THE INPUT: true; the input reads as it did. -/
def burstSafeSpec : ChangeSpec := { name := "burstSafe", fn := fun _ => fun
  | [d] => { results := [.lit (.bool true)], args := [d] }
  | _ => none }
def burstSafeRow : OpenClaim := { program := "ytoggggnlponfhaa", sum := "75f02a006025c888ada9a9202a260305f9bec1532bbed64b29553fb1739e145c", func := "bogworks/bogworkslaw08.BurstSafe", spec := "burstSafe", unfollowed := true, recurses := true, plainKeys := false, apart := false }
def BurstSafeSaid : Prop := burstSafeRow.holds Try.pinned (OpenSpec.ofChange burstSafeSpec)

/-- ITS FALSE NEIGHBOUR: 'it returns false'. Refute it at one input. -/
def burstSafeWrong : ChangeSpec := { name := "burstSafe", fn := fun _ => fun
  | [d] => { results := [.lit (.bool false)], args := [d] }
  | _ => none }
def BurstSafeWrongFalsely : Prop := burstSafeRow.holds Try.pinned (OpenSpec.ofChange burstSafeWrong)

/-- 'bogworkslaw08.BurstFirst': WHATEVER THE INPUT: true; the input reads as it did. -/
def burstFirstSpec : ChangeSpec := { name := "burstFirst", fn := fun _ => fun
  | [d1, d2, d3] => { results := [.lit (.bool true)], args := [d1, d2, d3] }
  | _ => none }
def burstFirstRow : OpenClaim := { program := "ytoggggnlponfhaa", sum := "75f02a006025c888ada9a9202a260305f9bec1532bbed64b29553fb1739e145c", func := "bogworks/bogworkslaw08.BurstFirst", spec := "burstFirst", unfollowed := true, recurses := true, plainKeys := false, apart := false }
def BurstFirstSaid : Prop := burstFirstRow.holds Try.pinned (OpenSpec.ofChange burstFirstSpec)

/-- ITS FALSE NEIGHBOUR: 'it returns false'. Refute it at one input. -/
def burstFirstWrong : ChangeSpec := { name := "burstFirst", fn := fun _ => fun
  | [d1, d2, d3] => { results := [.lit (.bool false)], args := [d1, d2, d3] }
  | _ => none }
def BurstFirstWrongFalsely : Prop := burstFirstRow.holds Try.pinned (OpenSpec.ofChange burstFirstWrong)

/-- 'bogworkslaw08.BurstCut': WHATEVER THE INPUT: true; the input reads as it did. -/
def burstCutSpec : ChangeSpec := { name := "burstCut", fn := fun _ => fun
  | [d1, d2, d3] => { results := [.lit (.bool true)], args := [d1, d2, d3] }
  | _ => none }
def burstCutRow : OpenClaim := { program := "ytoggggnlponfhaa", sum := "75f02a006025c888ada9a9202a260305f9bec1532bbed64b29553fb1739e145c", func := "bogworks/bogworkslaw08.BurstCut", spec := "burstCut", unfollowed := true, recurses := true, plainKeys := false, apart := false }
def BurstCutSaid : Prop := burstCutRow.holds Try.pinned (OpenSpec.ofChange burstCutSpec)

/-- ITS FALSE NEIGHBOUR: 'it returns false'. Refute it at one input. -/
def burstCutWrong : ChangeSpec := { name := "burstCut", fn := fun _ => fun
  | [d1, d2, d3] => { results := [.lit (.bool false)], args := [d1, d2, d3] }
  | _ => none }
def BurstCutWrongFalsely : Prop := burstCutRow.holds Try.pinned (OpenSpec.ofChange burstCutWrong)

/-- 'bogworkslaw08.BurstClash': WHATEVER THE INPUT: true; the input reads as it did. -/
def burstClashSpec : ChangeSpec := { name := "burstClash", fn := fun _ => fun
  | [d1, d2] => { results := [.lit (.bool true)], args := [d1, d2] }
  | _ => none }
def burstClashRow : OpenClaim := { program := "ytoggggnlponfhaa", sum := "75f02a006025c888ada9a9202a260305f9bec1532bbed64b29553fb1739e145c", func := "bogworks/bogworkslaw08.BurstClash", spec := "burstClash", unfollowed := true, recurses := true, plainKeys := false, apart := false }
def BurstClashSaid : Prop := burstClashRow.holds Try.pinned (OpenSpec.ofChange burstClashSpec)

/-- ITS FALSE NEIGHBOUR: 'it returns false'. Refute it at one input. -/
def burstClashWrong : ChangeSpec := { name := "burstClash", fn := fun _ => fun
  | [d1, d2] => { results := [.lit (.bool false)], args := [d1, d2] }
  | _ => none }
def BurstClashWrongFalsely : Prop := burstClashRow.holds Try.pinned (OpenSpec.ofChange burstClashWrong)

/-- 'bogworkslaw08.BurstMore': WHATEVER THE INPUT: true; the input reads as it did. -/
def burstMoreSpec : ChangeSpec := { name := "burstMore", fn := fun _ => fun
  | [d1, d2, d3, d4] => { results := [.lit (.bool true)], args := [d1, d2, d3, d4] }
  | _ => none }
def burstMoreRow : OpenClaim := { program := "ytoggggnlponfhaa", sum := "75f02a006025c888ada9a9202a260305f9bec1532bbed64b29553fb1739e145c", func := "bogworks/bogworkslaw08.BurstMore", spec := "burstMore", unfollowed := true, recurses := true, plainKeys := false, apart := false }
def BurstMoreSaid : Prop := burstMoreRow.holds Try.pinned (OpenSpec.ofChange burstMoreSpec)

/-- ITS FALSE NEIGHBOUR: 'it returns false'. Refute it at one input. -/
def burstMoreWrong : ChangeSpec := { name := "burstMore", fn := fun _ => fun
  | [d1, d2, d3, d4] => { results := [.lit (.bool false)], args := [d1, d2, d3, d4] }
  | _ => none }
def BurstMoreWrongFalsely : Prop := burstMoreRow.holds Try.pinned (OpenSpec.ofChange burstMoreWrong)

/- THE SECOND FORM. 'bulk': how many values and letters a reading holds, each counted each time it is reached (what is shared counts as often as it is met; a slice's spare places count too). A statement '..UptoSaid' is the law's where the arguments, and the package variables that the reading takes, are together of bulk at most 1048576: NARROWER than '..Said'. Prove '..Said' where nothing that the law and all that it calls make is longer than what came in: it says more and counts as full. Else prove '..UptoSaid'. A law counts once. -/
mutual
def uptoBulk {H : Type} : DataW H → Nat
  | .lit (.string bytes) => bytes.length + 1
  | .lit _ => 1
  | .nil => 1
  | .ptr d => uptoBulk d + 1
  | .slice elems spare => uptoBulkAll elems + uptoBulkAll spare + 1
  | .agg parts => uptoBulkAll parts + 1
  | .iface _ d => uptoBulk d + 1
  | .map entries => uptoBulkEntries entries + 1
  | .held _ => 1
def uptoBulkAll {H : Type} : List (DataW H) → Nat
  | [] => 0
  | d :: r => uptoBulk d + uptoBulkAll r
def uptoBulkEntries {H : Type} : List (Lit × DataW H) → Nat
  | [] => 0
  | x :: r => uptoBulkEntry x + uptoBulkEntries r
def uptoBulkEntry {H : Type} : Lit × DataW H → Nat
  | (.string bytes, d) => bytes.length + uptoBulk d + 1
  | (_, d) => uptoBulk d + 1
 end
def uptoSmall : (H : Type) → List (DataW H) → Bool := fun _ ds => decide (uptoBulkAll ds ≤ 1048576)
def OpenSpec.upto (s : _root_.Go.ChangeSpec) : _root_.Go.OpenSpec := { _root_.Go.OpenSpec.ofChange s with cond := some uptoSmall }

/-- 'bogworkslaw08.BurstReads', WHERE WHAT IT READS IS OF BULK AT MOST 1048576: true; the input reads as it did. -/
def burstReadsUptoRow : OpenClaim := { program := "ytoggggnlponfhaa", sum := "75f02a006025c888ada9a9202a260305f9bec1532bbed64b29553fb1739e145c", func := "bogworks/bogworkslaw08.BurstReads", spec := "burstReads", unfollowed := true, recurses := true, plainKeys := false, apart := false, narrowed := true }
def BurstReadsUptoSaid : Prop := burstReadsUptoRow.holds Try.pinned (OpenSpec.upto burstReadsSpec)

/-- 'bogworkslaw08.BurstLooks', WHERE WHAT IT READS IS OF BULK AT MOST 1048576: true; the input reads as it did. -/
def burstLooksUptoRow : OpenClaim := { program := "ytoggggnlponfhaa", sum := "75f02a006025c888ada9a9202a260305f9bec1532bbed64b29553fb1739e145c", func := "bogworks/bogworkslaw08.BurstLooks", spec := "burstLooks", unfollowed := true, recurses := true, plainKeys := false, apart := false, narrowed := true }
def BurstLooksUptoSaid : Prop := burstLooksUptoRow.holds Try.pinned (OpenSpec.upto burstLooksSpec)

/-- 'bogworkslaw08.BurstTrue', WHERE WHAT IT READS IS OF BULK AT MOST 1048576: true; the input reads as it did. -/
def burstTrueUptoRow : OpenClaim := { program := "ytoggggnlponfhaa", sum := "75f02a006025c888ada9a9202a260305f9bec1532bbed64b29553fb1739e145c", func := "bogworks/bogworkslaw08.BurstTrue", spec := "burstTrue", unfollowed := true, recurses := true, plainKeys := false, apart := false, narrowed := true }
def BurstTrueUptoSaid : Prop := burstTrueUptoRow.holds Try.pinned (OpenSpec.upto burstTrueSpec)

/-- 'bogworkslaw08.BurstEnds', WHERE WHAT IT READS IS OF BULK AT MOST 1048576: true; the input reads as it did. -/
def burstEndsUptoRow : OpenClaim := { program := "ytoggggnlponfhaa", sum := "75f02a006025c888ada9a9202a260305f9bec1532bbed64b29553fb1739e145c", func := "bogworks/bogworkslaw08.BurstEnds", spec := "burstEnds", unfollowed := true, recurses := true, plainKeys := false, apart := false, narrowed := true }
def BurstEndsUptoSaid : Prop := burstEndsUptoRow.holds Try.pinned (OpenSpec.upto burstEndsSpec)

/-- 'bogworkslaw08.BurstSafe', WHERE WHAT IT READS IS OF BULK AT MOST 1048576: true; the input reads as it did. -/
def burstSafeUptoRow : OpenClaim := { program := "ytoggggnlponfhaa", sum := "75f02a006025c888ada9a9202a260305f9bec1532bbed64b29553fb1739e145c", func := "bogworks/bogworkslaw08.BurstSafe", spec := "burstSafe", unfollowed := true, recurses := true, plainKeys := false, apart := false, narrowed := true }
def BurstSafeUptoSaid : Prop := burstSafeUptoRow.holds Try.pinned (OpenSpec.upto burstSafeSpec)

/-- 'bogworkslaw08.BurstFirst', WHERE WHAT IT READS IS OF BULK AT MOST 1048576: true; the input reads as it did. -/
def burstFirstUptoRow : OpenClaim := { program := "ytoggggnlponfhaa", sum := "75f02a006025c888ada9a9202a260305f9bec1532bbed64b29553fb1739e145c", func := "bogworks/bogworkslaw08.BurstFirst", spec := "burstFirst", unfollowed := true, recurses := true, plainKeys := false, apart := false, narrowed := true }
def BurstFirstUptoSaid : Prop := burstFirstUptoRow.holds Try.pinned (OpenSpec.upto burstFirstSpec)

/-- 'bogworkslaw08.BurstCut', WHERE WHAT IT READS IS OF BULK AT MOST 1048576: true; the input reads as it did. -/
def burstCutUptoRow : OpenClaim := { program := "ytoggggnlponfhaa", sum := "75f02a006025c888ada9a9202a260305f9bec1532bbed64b29553fb1739e145c", func := "bogworks/bogworkslaw08.BurstCut", spec := "burstCut", unfollowed := true, recurses := true, plainKeys := false, apart := false, narrowed := true }
def BurstCutUptoSaid : Prop := burstCutUptoRow.holds Try.pinned (OpenSpec.upto burstCutSpec)

/-- 'bogworkslaw08.BurstClash', WHERE WHAT IT READS IS OF BULK AT MOST 1048576: true; the input reads as it did. -/
def burstClashUptoRow : OpenClaim := { program := "ytoggggnlponfhaa", sum := "75f02a006025c888ada9a9202a260305f9bec1532bbed64b29553fb1739e145c", func := "bogworks/bogworkslaw08.BurstClash", spec := "burstClash", unfollowed := true, recurses := true, plainKeys := false, apart := false, narrowed := true }
def BurstClashUptoSaid : Prop := burstClashUptoRow.holds Try.pinned (OpenSpec.upto burstClashSpec)

/-- 'bogworkslaw08.BurstMore', WHERE WHAT IT READS IS OF BULK AT MOST 1048576: true; the input reads as it did. -/
def burstMoreUptoRow : OpenClaim := { program := "ytoggggnlponfhaa", sum := "75f02a006025c888ada9a9202a260305f9bec1532bbed64b29553fb1739e145c", func := "bogworks/bogworkslaw08.BurstMore", spec := "burstMore", unfollowed := true, recurses := true, plainKeys := false, apart := false, narrowed := true }
def BurstMoreUptoSaid : Prop := burstMoreUptoRow.holds Try.pinned (OpenSpec.upto burstMoreSpec)

end Rows
end Go.Proofs.Ytoggggnlponfhaa
