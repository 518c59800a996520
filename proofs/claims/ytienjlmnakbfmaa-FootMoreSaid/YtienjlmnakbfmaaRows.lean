/-
  No cell of these rows narrows 'for every input' (looked for: loops, veiled, ifaces, maps, wideKeys, modest, calm, conditions, laid).
  DERIVED. THE GIVEN ROWS OF THIS SEAT. 10 by the template 'for every input the law returns true; each argument reads behind the call as it read before'; 0 by the template 'total and deterministic' (their statements: YtienjlmnakbfmaaTotals.lean).
  GIVEN WITH THE SEED: the statements are not yours to turn. If you find one false, say at which input.
  Laid BY PROGRAM, IN A SANDBOX (cutbox-rows.mjs): the forced cells as the released guide's own fill.sh prints them over the translation 09735b3ce2be3850… (all of the seat's roots in one cut). By AI agents, Wed Nov 11 2026. No macro, syntax, notation, axiom, sorry.
-/
import Derived.Test.YtienjlmnakbfmaaChecked
import GoSem.Claim
import GoSem.ClaimJoined
import GoSem.ClaimMapViews
import Derived.JoinedTies
import Derived.KernelRfl
namespace Go.Proofs.Ytienjlmnakbfmaa
/- THE CELL 'sum', in the pinned program and in every row, IS THE sha256 OF THE DUMP (.gsa) THAT YtienjlmnakbfmaaProg.lean LOADS. Nothing in Lean hashes anything: it is a label: what it is worth is what the hold of that sum in a sandbox is worth. -/
noncomputable def Try.pinned : Pinned := { name := "ytienjlmnakbfmaa", sum := "09735b3ce2be3850e10622b6537e49b6a2ded8fdf4c5f9a6e5b93c204fa336d0", checked := Try.checked }
namespace Rows
def none {H : Type} : Left H := { results := [], args := [] }

/-- 'bogworkslaw04.FootReads': WHATEVER THE INPUT: true; the input reads as it did. -/
def footReadsSpec : ChangeSpec := { name := "footReads", fn := fun _ => fun
  | [d1, d2, d3, d4] => { results := [.lit (.bool true)], args := [d1, d2, d3, d4] }
  | _ => none }
def footReadsRow : OpenClaim := { program := "ytienjlmnakbfmaa", sum := "09735b3ce2be3850e10622b6537e49b6a2ded8fdf4c5f9a6e5b93c204fa336d0", func := "bogworks/bogworkslaw04.FootReads", spec := "footReads", unfollowed := true, recurses := true, plainKeys := false, apart := false }
def FootReadsSaid : Prop := footReadsRow.holds Try.pinned (OpenSpec.ofChange footReadsSpec)

/-- ITS FALSE NEIGHBOUR: 'it returns false'. Refute it at one input. -/
def footReadsWrong : ChangeSpec := { name := "footReads", fn := fun _ => fun
  | [d1, d2, d3, d4] => { results := [.lit (.bool false)], args := [d1, d2, d3, d4] }
  | _ => none }
def FootReadsWrongFalsely : Prop := footReadsRow.holds Try.pinned (OpenSpec.ofChange footReadsWrong)

/-- 'bogworkslaw04.FootBreaks': WHATEVER THE INPUT: true; the input reads as it did. -/
def footBreaksSpec : ChangeSpec := { name := "footBreaks", fn := fun _ => fun
  | [d1, d2] => { results := [.lit (.bool true)], args := [d1, d2] }
  | _ => none }
def footBreaksRow : OpenClaim := { program := "ytienjlmnakbfmaa", sum := "09735b3ce2be3850e10622b6537e49b6a2ded8fdf4c5f9a6e5b93c204fa336d0", func := "bogworks/bogworkslaw04.FootBreaks", spec := "footBreaks", unfollowed := true, recurses := true, plainKeys := false, apart := false }
def FootBreaksSaid : Prop := footBreaksRow.holds Try.pinned (OpenSpec.ofChange footBreaksSpec)

/-- ITS FALSE NEIGHBOUR: 'it returns false'. Refute it at one input. -/
def footBreaksWrong : ChangeSpec := { name := "footBreaks", fn := fun _ => fun
  | [d1, d2] => { results := [.lit (.bool false)], args := [d1, d2] }
  | _ => none }
def FootBreaksWrongFalsely : Prop := footBreaksRow.holds Try.pinned (OpenSpec.ofChange footBreaksWrong)

/-- 'bogworkslaw04.FootPlans': WHATEVER THE INPUT: true; the input reads as it did. -/
def footPlansSpec : ChangeSpec := { name := "footPlans", fn := fun _ => fun
  | [d] => { results := [.lit (.bool true)], args := [d] }
  | _ => none }
def footPlansRow : OpenClaim := { program := "ytienjlmnakbfmaa", sum := "09735b3ce2be3850e10622b6537e49b6a2ded8fdf4c5f9a6e5b93c204fa336d0", func := "bogworks/bogworkslaw04.FootPlans", spec := "footPlans", unfollowed := true, recurses := true, plainKeys := false, apart := false }
def FootPlansSaid : Prop := footPlansRow.holds Try.pinned (OpenSpec.ofChange footPlansSpec)

/-- ITS FALSE NEIGHBOUR: 'it returns false'. Refute it at one input. -/
def footPlansWrong : ChangeSpec := { name := "footPlans", fn := fun _ => fun
  | [d] => { results := [.lit (.bool false)], args := [d] }
  | _ => none }
def FootPlansWrongFalsely : Prop := footPlansRow.holds Try.pinned (OpenSpec.ofChange footPlansWrong)

/-- 'bogworkslaw04.FootTrue': WHATEVER THE INPUT: true; the input reads as it did. -/
def footTrueSpec : ChangeSpec := { name := "footTrue", fn := fun _ => fun
  | [d1, d2, d3, d4] => { results := [.lit (.bool true)], args := [d1, d2, d3, d4] }
  | _ => none }
def footTrueRow : OpenClaim := { program := "ytienjlmnakbfmaa", sum := "09735b3ce2be3850e10622b6537e49b6a2ded8fdf4c5f9a6e5b93c204fa336d0", func := "bogworks/bogworkslaw04.FootTrue", spec := "footTrue", unfollowed := true, recurses := true, plainKeys := false, apart := false }
def FootTrueSaid : Prop := footTrueRow.holds Try.pinned (OpenSpec.ofChange footTrueSpec)

/-- ITS FALSE NEIGHBOUR: 'it returns false'. Refute it at one input. -/
def footTrueWrong : ChangeSpec := { name := "footTrue", fn := fun _ => fun
  | [d1, d2, d3, d4] => { results := [.lit (.bool false)], args := [d1, d2, d3, d4] }
  | _ => none }
def FootTrueWrongFalsely : Prop := footTrueRow.holds Try.pinned (OpenSpec.ofChange footTrueWrong)

/-- 'bogworkslaw04.FootEnds': WHATEVER THE INPUT: true; the input reads as it did. -/
def footEndsSpec : ChangeSpec := { name := "footEnds", fn := fun _ => fun
  | [d1, d2, d3] => { results := [.lit (.bool true)], args := [d1, d2, d3] }
  | _ => none }
def footEndsRow : OpenClaim := { program := "ytienjlmnakbfmaa", sum := "09735b3ce2be3850e10622b6537e49b6a2ded8fdf4c5f9a6e5b93c204fa336d0", func := "bogworks/bogworkslaw04.FootEnds", spec := "footEnds", unfollowed := true, recurses := true, plainKeys := false, apart := false }
def FootEndsSaid : Prop := footEndsRow.holds Try.pinned (OpenSpec.ofChange footEndsSpec)

/-- ITS FALSE NEIGHBOUR: 'it returns false'. Refute it at one input. -/
def footEndsWrong : ChangeSpec := { name := "footEnds", fn := fun _ => fun
  | [d1, d2, d3] => { results := [.lit (.bool false)], args := [d1, d2, d3] }
  | _ => none }
def FootEndsWrongFalsely : Prop := footEndsRow.holds Try.pinned (OpenSpec.ofChange footEndsWrong)

/-- 'bogworkslaw04.FootSoon': WHATEVER THE INPUT: true; the input reads as it did. -/
def footSoonSpec : ChangeSpec := { name := "footSoon", fn := fun _ => fun
  | [d1, d2, d3, d4, d5] => { results := [.lit (.bool true)], args := [d1, d2, d3, d4, d5] }
  | _ => none }
def footSoonRow : OpenClaim := { program := "ytienjlmnakbfmaa", sum := "09735b3ce2be3850e10622b6537e49b6a2ded8fdf4c5f9a6e5b93c204fa336d0", func := "bogworks/bogworkslaw04.FootSoon", spec := "footSoon", unfollowed := true, recurses := true, plainKeys := false, apart := false }
def FootSoonSaid : Prop := footSoonRow.holds Try.pinned (OpenSpec.ofChange footSoonSpec)

/-- ITS FALSE NEIGHBOUR: 'it returns false'. Refute it at one input. -/
def footSoonWrong : ChangeSpec := { name := "footSoon", fn := fun _ => fun
  | [d1, d2, d3, d4, d5] => { results := [.lit (.bool false)], args := [d1, d2, d3, d4, d5] }
  | _ => none }
def FootSoonWrongFalsely : Prop := footSoonRow.holds Try.pinned (OpenSpec.ofChange footSoonWrong)

/-- 'bogworkslaw04.FootBroken': WHATEVER THE INPUT: true; the input reads as it did. -/
def footBrokenSpec : ChangeSpec := { name := "footBroken", fn := fun _ => fun
  | [d1, d2] => { results := [.lit (.bool true)], args := [d1, d2] }
  | _ => none }
def footBrokenRow : OpenClaim := { program := "ytienjlmnakbfmaa", sum := "09735b3ce2be3850e10622b6537e49b6a2ded8fdf4c5f9a6e5b93c204fa336d0", func := "bogworks/bogworkslaw04.FootBroken", spec := "footBroken", unfollowed := true, recurses := true, plainKeys := false, apart := false }
def FootBrokenSaid : Prop := footBrokenRow.holds Try.pinned (OpenSpec.ofChange footBrokenSpec)

/-- ITS FALSE NEIGHBOUR: 'it returns false'. Refute it at one input. -/
def footBrokenWrong : ChangeSpec := { name := "footBroken", fn := fun _ => fun
  | [d1, d2] => { results := [.lit (.bool false)], args := [d1, d2] }
  | _ => none }
def FootBrokenWrongFalsely : Prop := footBrokenRow.holds Try.pinned (OpenSpec.ofChange footBrokenWrong)

/-- 'bogworkslaw04.FootBest': WHATEVER THE INPUT: true; the input reads as it did. -/
def footBestSpec : ChangeSpec := { name := "footBest", fn := fun _ => fun
  | [d1, d2] => { results := [.lit (.bool true)], args := [d1, d2] }
  | _ => none }
def footBestRow : OpenClaim := { program := "ytienjlmnakbfmaa", sum := "09735b3ce2be3850e10622b6537e49b6a2ded8fdf4c5f9a6e5b93c204fa336d0", func := "bogworks/bogworkslaw04.FootBest", spec := "footBest", unfollowed := true, recurses := true, plainKeys := false, apart := false }
def FootBestSaid : Prop := footBestRow.holds Try.pinned (OpenSpec.ofChange footBestSpec)

/-- ITS FALSE NEIGHBOUR: 'it returns false'. Refute it at one input. -/
def footBestWrong : ChangeSpec := { name := "footBest", fn := fun _ => fun
  | [d1, d2] => { results := [.lit (.bool false)], args := [d1, d2] }
  | _ => none }
def FootBestWrongFalsely : Prop := footBestRow.holds Try.pinned (OpenSpec.ofChange footBestWrong)

/-- 'bogworkslaw04.FootHands': WHATEVER THE INPUT: true; the input reads as it did. -/
def footHandsSpec : ChangeSpec := { name := "footHands", fn := fun _ => fun
  | [d] => { results := [.lit (.bool true)], args := [d] }
  | _ => none }
def footHandsRow : OpenClaim := { program := "ytienjlmnakbfmaa", sum := "09735b3ce2be3850e10622b6537e49b6a2ded8fdf4c5f9a6e5b93c204fa336d0", func := "bogworks/bogworkslaw04.FootHands", spec := "footHands", unfollowed := true, recurses := true, plainKeys := false, apart := false }
def FootHandsSaid : Prop := footHandsRow.holds Try.pinned (OpenSpec.ofChange footHandsSpec)

/-- ITS FALSE NEIGHBOUR: 'it returns false'. Refute it at one input. -/
def footHandsWrong : ChangeSpec := { name := "footHands", fn := fun _ => fun
  | [d] => { results := [.lit (.bool false)], args := [d] }
  | _ => none }
def FootHandsWrongFalsely : Prop := footHandsRow.holds Try.pinned (OpenSpec.ofChange footHandsWrong)

/-- 'bogworkslaw04.FootMore': WHATEVER THE INPUT: true; the input reads as it did. -/
def footMoreSpec : ChangeSpec := { name := "footMore", fn := fun _ => fun
  | [d1, d2, d3, d4] => { results := [.lit (.bool true)], args := [d1, d2, d3, d4] }
  | _ => none }
def footMoreRow : OpenClaim := { program := "ytienjlmnakbfmaa", sum := "09735b3ce2be3850e10622b6537e49b6a2ded8fdf4c5f9a6e5b93c204fa336d0", func := "bogworks/bogworkslaw04.FootMore", spec := "footMore", unfollowed := true, recurses := true, plainKeys := false, apart := false }
def FootMoreSaid : Prop := footMoreRow.holds Try.pinned (OpenSpec.ofChange footMoreSpec)

/-- ITS FALSE NEIGHBOUR: 'it returns false'. Refute it at one input. -/
def footMoreWrong : ChangeSpec := { name := "footMore", fn := fun _ => fun
  | [d1, d2, d3, d4] => { results := [.lit (.bool false)], args := [d1, d2, d3, d4] }
  | _ => none }
def FootMoreWrongFalsely : Prop := footMoreRow.holds Try.pinned (OpenSpec.ofChange footMoreWrong)

/- THE SECOND FORM. 'bulk': how many values and letters a reading holds, each counted each time it is reached (what is shared counts as often as it is met; a slice's spare places count too). A statement '..UptoSaid' is the law's where the arguments, and the package variables that the reading takes, are together of bulk at most 1048576: NARROWER than '..Said'. Prove '..Said' where nothing that the law and all that it calls make is longer than what came in: it says more and counts as full. Else prove '..UptoSaid'. A law counts once. -/
mutual
def uptoBulk {H : Type} : DataW H → Nat
  | .lit (.string bytes) => bytes.length + 1
  | .lit _ => 1
  | .nil => 1
  | .ptr d => uptoBulk d + 1
  | .slice elems spare => uptoBulkAll elems + uptoBulkAll spare + 1
  | .agg parts => uptoBulkAll parts + 1
  | .iface _ d => uptoBulk d + 1
  | .map entries => uptoBulkEntries entries + 1
  | .held _ => 1
def uptoBulkAll {H : Type} : List (DataW H) → Nat
  | [] => 0
  | d :: r => uptoBulk d + uptoBulkAll r
def uptoBulkEntries {H : Type} : List (Lit × DataW H) → Nat
  | [] => 0
  | x :: r => uptoBulkEntry x + uptoBulkEntries r
def uptoBulkEntry {H : Type} : Lit × DataW H → Nat
  | (.string bytes, d) => bytes.length + uptoBulk d + 1
  | (_, d) => uptoBulk d + 1
 end
def uptoSmall : (H : Type) → List (DataW H) → Bool := fun _ ds => decide (uptoBulkAll ds ≤ 1048576)
def OpenSpec.upto (s : _root_.Go.ChangeSpec) : _root_.Go.OpenSpec := { _root_.Go.OpenSpec.ofChange s with cond := some uptoSmall }

/-- 'bogworkslaw04.FootReads', WHERE WHAT IT READS IS OF BULK AT MOST 1048576: true; the input reads as it did. -/
def footReadsUptoRow : OpenClaim := { program := "ytienjlmnakbfmaa", sum := "09735b3ce2be3850e10622b6537e49b6a2ded8fdf4c5f9a6e5b93c204fa336d0", func := "bogworks/bogworkslaw04.FootReads", spec := "footReads", unfollowed := true, recurses := true, plainKeys := false, apart := false, narrowed := true }
def FootReadsUptoSaid : Prop := footReadsUptoRow.holds Try.pinned (OpenSpec.upto footReadsSpec)

/-- 'bogworkslaw04.FootBreaks', WHERE WHAT IT READS IS OF BULK AT MOST 1048576: true; the input reads as it did. -/
def footBreaksUptoRow : OpenClaim := { program := "ytienjlmnakbfmaa", sum := "09735b3ce2be3850e10622b6537e49b6a2ded8fdf4c5f9a6e5b93c204fa336d0", func := "bogworks/bogworkslaw04.FootBreaks", spec := "footBreaks", unfollowed := true, recurses := true, plainKeys := false, apart := false, narrowed := true }
def FootBreaksUptoSaid : Prop := footBreaksUptoRow.holds Try.pinned (OpenSpec.upto footBreaksSpec)

/-- 'bogworkslaw04.FootPlans', WHERE WHAT IT READS IS OF BULK AT MOST 1048576: true; the input reads as it did. -/
def footPlansUptoRow : OpenClaim := { program := "ytienjlmnakbfmaa", sum := "09735b3ce2be3850e10622b6537e49b6a2ded8fdf4c5f9a6e5b93c204fa336d0", func := "bogworks/bogworkslaw04.FootPlans", spec := "footPlans", unfollowed := true, recurses := true, plainKeys := false, apart := false, narrowed := true }
def FootPlansUptoSaid : Prop := footPlansUptoRow.holds Try.pinned (OpenSpec.upto footPlansSpec)

/-- 'bogworkslaw04.FootTrue', WHERE WHAT IT READS IS OF BULK AT MOST 1048576: true; the input reads as it did. -/
def footTrueUptoRow : OpenClaim := { program := "ytienjlmnakbfmaa", sum := "09735b3ce2be3850e10622b6537e49b6a2ded8fdf4c5f9a6e5b93c204fa336d0", func := "bogworks/bogworkslaw04.FootTrue", spec := "footTrue", unfollowed := true, recurses := true, plainKeys := false, apart := false, narrowed := true }
def FootTrueUptoSaid : Prop := footTrueUptoRow.holds Try.pinned (OpenSpec.upto footTrueSpec)

/-- 'bogworkslaw04.FootEnds', WHERE WHAT IT READS IS OF BULK AT MOST 1048576: true; the input reads as it did. -/
def footEndsUptoRow : OpenClaim := { program := "ytienjlmnakbfmaa", sum := "09735b3ce2be3850e10622b6537e49b6a2ded8fdf4c5f9a6e5b93c204fa336d0", func := "bogworks/bogworkslaw04.FootEnds", spec := "footEnds", unfollowed := true, recurses := true, plainKeys := false, apart := false, narrowed := true }
def FootEndsUptoSaid : Prop := footEndsUptoRow.holds Try.pinned (OpenSpec.upto footEndsSpec)

/-- 'bogworkslaw04.FootSoon', WHERE WHAT IT READS IS OF BULK AT MOST 1048576: true; the input reads as it did. -/
def footSoonUptoRow : OpenClaim := { program := "ytienjlmnakbfmaa", sum := "09735b3ce2be3850e10622b6537e49b6a2ded8fdf4c5f9a6e5b93c204fa336d0", func := "bogworks/bogworkslaw04.FootSoon", spec := "footSoon", unfollowed := true, recurses := true, plainKeys := false, apart := false, narrowed := true }
def FootSoonUptoSaid : Prop := footSoonUptoRow.holds Try.pinned (OpenSpec.upto footSoonSpec)

/-- 'bogworkslaw04.FootBroken', WHERE WHAT IT READS IS OF BULK AT MOST 1048576: true; the input reads as it did. -/
def footBrokenUptoRow : OpenClaim := { program := "ytienjlmnakbfmaa", sum := "09735b3ce2be3850e10622b6537e49b6a2ded8fdf4c5f9a6e5b93c204fa336d0", func := "bogworks/bogworkslaw04.FootBroken", spec := "footBroken", unfollowed := true, recurses := true, plainKeys := false, apart := false, narrowed := true }
def FootBrokenUptoSaid : Prop := footBrokenUptoRow.holds Try.pinned (OpenSpec.upto footBrokenSpec)

/-- 'bogworkslaw04.FootBest', WHERE WHAT IT READS IS OF BULK AT MOST 1048576: true; the input reads as it did. -/
def footBestUptoRow : OpenClaim := { program := "ytienjlmnakbfmaa", sum := "09735b3ce2be3850e10622b6537e49b6a2ded8fdf4c5f9a6e5b93c204fa336d0", func := "bogworks/bogworkslaw04.FootBest", spec := "footBest", unfollowed := true, recurses := true, plainKeys := false, apart := false, narrowed := true }
def FootBestUptoSaid : Prop := footBestUptoRow.holds Try.pinned (OpenSpec.upto footBestSpec)

/-- 'bogworkslaw04.FootHands', WHERE WHAT IT READS IS OF BULK AT MOST 1048576: true; the input reads as it did. -/
def footHandsUptoRow : OpenClaim := { program := "ytienjlmnakbfmaa", sum := "09735b3ce2be3850e10622b6537e49b6a2ded8fdf4c5f9a6e5b93c204fa336d0", func := "bogworks/bogworkslaw04.FootHands", spec := "footHands", unfollowed := true, recurses := true, plainKeys := false, apart := false, narrowed := true }
def FootHandsUptoSaid : Prop := footHandsUptoRow.holds Try.pinned (OpenSpec.upto footHandsSpec)

/-- 'bogworkslaw04.FootMore', WHERE WHAT IT READS IS OF BULK AT MOST 1048576: true; the input reads as it did. -/
def footMoreUptoRow : OpenClaim := { program := "ytienjlmnakbfmaa", sum := "09735b3ce2be3850e10622b6537e49b6a2ded8fdf4c5f9a6e5b93c204fa336d0", func := "bogworks/bogworkslaw04.FootMore", spec := "footMore", unfollowed := true, recurses := true, plainKeys := false, apart := false, narrowed := true }
def FootMoreUptoSaid : Prop := footMoreUptoRow.holds Try.pinned (OpenSpec.upto footMoreSpec)

end Rows
end Go.Proofs.Ytienjlmnakbfmaa
