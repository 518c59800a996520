/-
  NARROWER THAN 'FOR EVERY INPUT', by the rows' own cells (each row's printed sentence says how): DebtReads: laid · DebtLooks: laid · DebtTrue: laid · DebtEnds: laid · DebtNeeds: laid · DebtMost: laid · DebtChecks: laid · DebtKept: laid · DebtMore: laid.
  DERIVED. THE GIVEN ROWS OF THIS SEAT. 9 by the template 'for every input the law returns true; each argument reads behind the call as it read before'; 0 by the template 'total and deterministic' (their statements: YtpfgiednfjfdmaaDoorTotals.lean).
  GIVEN WITH THE SEED: the statements are not yours to turn. If you find one false, say at which input.
  Laid BY PROGRAM, IN A SANDBOX (cutbox-rows.mjs): the forced cells as the released guide's own fill.sh prints them over the translation 6f1b9c8b793a5f78… (all of the seat's roots in one cut). By AI agents, Wed Nov 11 2026. No macro, syntax, notation, axiom, sorry.
-/
import Derived.Test.YtpfgiednfjfdmaaDoorChecked
import GoSem.Claim
import GoSem.ClaimJoined
import GoSem.ClaimMapViews
import Derived.JoinedTies
import Derived.KernelRfl
namespace Go.Proofs.YtpfgiednfjfdmaaDoor
/- THE CELL 'sum', in the pinned program and in every row, IS THE sha256 OF THE DUMP (.gsa) THAT YtpfgiednfjfdmaaDoorProg.lean LOADS. Nothing in Lean hashes anything: it is a label: what it is worth is what the hold of that sum in a sandbox is worth. -/
noncomputable def Tryd.pinned : Pinned := { name := "ytpfgiednfjfdmaadoor", sum := "6f1b9c8b793a5f7838bf15d3d17c647eb03f3a936ffb5c4fd55adab5e5f3d982", checked := Tryd.checked }
namespace Rows
def none {H : Type} : Left H := { results := [], args := [] }

/- WHAT THE LISTED PACKAGE-LEVEL VARIABLES READ AS WHEN THE CALL BEGINS. Each datum BY PROGRAM (the guide's laid-datum.mjs) off the statement by which the dump's own 'gosem.cut.vars' lays the variable. In a bare row this is a premise. The card (YtpfgiednfjfdmaaDoorCards.lean) ties it to the program's text. -/
def laid_bogworks_debt_ends {H : Type} : DataW H := .agg [.iface "bogworks/debt.good" (.agg []), .iface "bogworks/debt.bad" (.agg [.agg []])]

/-- 'bogworkslaw10.DebtReads': WHATEVER THE INPUT: true; the input reads as it did. -/
def debtReadsSpec : ChangeSpec := { name := "debtReads", fn := fun _ => fun
  | [d1, d2, d3] => { results := [.lit (.bool true)], args := [d1, d2, d3] }
  | _ => none }
def debtReadsRow : OpenClaim := { program := "ytpfgiednfjfdmaadoor", sum := "6f1b9c8b793a5f7838bf15d3d17c647eb03f3a936ffb5c4fd55adab5e5f3d982", func := "bogworks/bogworkslaw10.DebtReads", spec := "debtReads", unfollowed := true, recurses := true, named := ["bogworks/debt.ends"], plainKeys := false, apart := false, laid := [("bogworks/debt.ends", laid_bogworks_debt_ends)] }
def DebtReadsSaid : Prop := debtReadsRow.holds Tryd.pinned (OpenSpec.ofChange debtReadsSpec)

/-- ITS FALSE NEIGHBOUR: 'it returns false'. Refute it at one input. -/
def debtReadsWrong : ChangeSpec := { name := "debtReads", fn := fun _ => fun
  | [d1, d2, d3] => { results := [.lit (.bool false)], args := [d1, d2, d3] }
  | _ => none }
def DebtReadsWrongFalsely : Prop := debtReadsRow.holds Tryd.pinned (OpenSpec.ofChange debtReadsWrong)

/-- 'bogworkslaw10.DebtLooks': WHATEVER THE INPUT: true; the input reads as it did. -/
def debtLooksSpec : ChangeSpec := { name := "debtLooks", fn := fun _ => fun
  | [d1, d2, d3] => { results := [.lit (.bool true)], args := [d1, d2, d3] }
  | _ => none }
def debtLooksRow : OpenClaim := { program := "ytpfgiednfjfdmaadoor", sum := "6f1b9c8b793a5f7838bf15d3d17c647eb03f3a936ffb5c4fd55adab5e5f3d982", func := "bogworks/bogworkslaw10.DebtLooks", spec := "debtLooks", unfollowed := true, recurses := true, named := ["bogworks/debt.ends"], plainKeys := false, apart := false, laid := [("bogworks/debt.ends", laid_bogworks_debt_ends)] }
def DebtLooksSaid : Prop := debtLooksRow.holds Tryd.pinned (OpenSpec.ofChange debtLooksSpec)

/-- ITS FALSE NEIGHBOUR: 'it returns false'. Refute it at one input. -/
def debtLooksWrong : ChangeSpec := { name := "debtLooks", fn := fun _ => fun
  | [d1, d2, d3] => { results := [.lit (.bool false)], args := [d1, d2, d3] }
  | _ => none }
def DebtLooksWrongFalsely : Prop := debtLooksRow.holds Tryd.pinned (OpenSpec.ofChange debtLooksWrong)

/-- 'bogworkslaw10.DebtTrue': WHATEVER THE INPUT: true; the input reads as it did. -/
def debtTrueSpec : ChangeSpec := { name := "debtTrue", fn := fun _ => fun
  | [d1, d2, d3, d4] => { results := [.lit (.bool true)], args := [d1, d2, d3, d4] }
  | _ => none }
def debtTrueRow : OpenClaim := { program := "ytpfgiednfjfdmaadoor", sum := "6f1b9c8b793a5f7838bf15d3d17c647eb03f3a936ffb5c4fd55adab5e5f3d982", func := "bogworks/bogworkslaw10.DebtTrue", spec := "debtTrue", unfollowed := true, recurses := true, named := ["bogworks/debt.ends"], plainKeys := false, apart := false, laid := [("bogworks/debt.ends", laid_bogworks_debt_ends)] }
def DebtTrueSaid : Prop := debtTrueRow.holds Tryd.pinned (OpenSpec.ofChange debtTrueSpec)

/-- ITS FALSE NEIGHBOUR: 'it returns false'. Refute it at one input. -/
def debtTrueWrong : ChangeSpec := { name := "debtTrue", fn := fun _ => fun
  | [d1, d2, d3, d4] => { results := [.lit (.bool false)], args := [d1, d2, d3, d4] }
  | _ => none }
def DebtTrueWrongFalsely : Prop := debtTrueRow.holds Tryd.pinned (OpenSpec.ofChange debtTrueWrong)

/-- 'bogworkslaw10.DebtEnds': WHATEVER THE INPUT: true; the input reads as it did. -/
def debtEndsSpec : ChangeSpec := { name := "debtEnds", fn := fun _ => fun
  | [d1, d2, d3] => { results := [.lit (.bool true)], args := [d1, d2, d3] }
  | _ => none }
def debtEndsRow : OpenClaim := { program := "ytpfgiednfjfdmaadoor", sum := "6f1b9c8b793a5f7838bf15d3d17c647eb03f3a936ffb5c4fd55adab5e5f3d982", func := "bogworks/bogworkslaw10.DebtEnds", spec := "debtEnds", unfollowed := true, recurses := true, named := ["bogworks/debt.ends"], plainKeys := false, apart := false, laid := [("bogworks/debt.ends", laid_bogworks_debt_ends)] }
def DebtEndsSaid : Prop := debtEndsRow.holds Tryd.pinned (OpenSpec.ofChange debtEndsSpec)

/-- ITS FALSE NEIGHBOUR: 'it returns false'. Refute it at one input. -/
def debtEndsWrong : ChangeSpec := { name := "debtEnds", fn := fun _ => fun
  | [d1, d2, d3] => { results := [.lit (.bool false)], args := [d1, d2, d3] }
  | _ => none }
def DebtEndsWrongFalsely : Prop := debtEndsRow.holds Tryd.pinned (OpenSpec.ofChange debtEndsWrong)

/-- 'bogworkslaw10.DebtNeeds': WHATEVER THE INPUT: true; the input reads as it did. -/
def debtNeedsSpec : ChangeSpec := { name := "debtNeeds", fn := fun _ => fun
  | [d1, d2, d3] => { results := [.lit (.bool true)], args := [d1, d2, d3] }
  | _ => none }
def debtNeedsRow : OpenClaim := { program := "ytpfgiednfjfdmaadoor", sum := "6f1b9c8b793a5f7838bf15d3d17c647eb03f3a936ffb5c4fd55adab5e5f3d982", func := "bogworks/bogworkslaw10.DebtNeeds", spec := "debtNeeds", unfollowed := true, recurses := true, named := ["bogworks/debt.ends"], plainKeys := false, apart := false, laid := [("bogworks/debt.ends", laid_bogworks_debt_ends)] }
def DebtNeedsSaid : Prop := debtNeedsRow.holds Tryd.pinned (OpenSpec.ofChange debtNeedsSpec)

/-- ITS FALSE NEIGHBOUR: 'it returns false'. Refute it at one input. -/
def debtNeedsWrong : ChangeSpec := { name := "debtNeeds", fn := fun _ => fun
  | [d1, d2, d3] => { results := [.lit (.bool false)], args := [d1, d2, d3] }
  | _ => none }
def DebtNeedsWrongFalsely : Prop := debtNeedsRow.holds Tryd.pinned (OpenSpec.ofChange debtNeedsWrong)

/-- 'bogworkslaw10.DebtMost': WHATEVER THE INPUT: true; the input reads as it did. -/
def debtMostSpec : ChangeSpec := { name := "debtMost", fn := fun _ => fun
  | [d1, d2, d3, d4] => { results := [.lit (.bool true)], args := [d1, d2, d3, d4] }
  | _ => none }
def debtMostRow : OpenClaim := { program := "ytpfgiednfjfdmaadoor", sum := "6f1b9c8b793a5f7838bf15d3d17c647eb03f3a936ffb5c4fd55adab5e5f3d982", func := "bogworks/bogworkslaw10.DebtMost", spec := "debtMost", unfollowed := true, recurses := true, named := ["bogworks/debt.ends"], plainKeys := false, apart := false, laid := [("bogworks/debt.ends", laid_bogworks_debt_ends)] }
def DebtMostSaid : Prop := debtMostRow.holds Tryd.pinned (OpenSpec.ofChange debtMostSpec)

/-- ITS FALSE NEIGHBOUR: 'it returns false'. Refute it at one input. -/
def debtMostWrong : ChangeSpec := { name := "debtMost", fn := fun _ => fun
  | [d1, d2, d3, d4] => { results := [.lit (.bool false)], args := [d1, d2, d3, d4] }
  | _ => none }
def DebtMostWrongFalsely : Prop := debtMostRow.holds Tryd.pinned (OpenSpec.ofChange debtMostWrong)

/-- 'bogworkslaw10.DebtChecks': WHATEVER THE INPUT: true; the input reads as it did. -/
def debtChecksSpec : ChangeSpec := { name := "debtChecks", fn := fun _ => fun
  | [d] => { results := [.lit (.bool true)], args := [d] }
  | _ => none }
def debtChecksRow : OpenClaim := { program := "ytpfgiednfjfdmaadoor", sum := "6f1b9c8b793a5f7838bf15d3d17c647eb03f3a936ffb5c4fd55adab5e5f3d982", func := "bogworks/bogworkslaw10.DebtChecks", spec := "debtChecks", unfollowed := true, recurses := true, named := ["bogworks/debt.ends"], plainKeys := false, apart := false, laid := [("bogworks/debt.ends", laid_bogworks_debt_ends)] }
def DebtChecksSaid : Prop := debtChecksRow.holds Tryd.pinned (OpenSpec.ofChange debtChecksSpec)

/-- ITS FALSE NEIGHBOUR: 'it returns false'. Refute it at one input. -/
def debtChecksWrong : ChangeSpec := { name := "debtChecks", fn := fun _ => fun
  | [d] => { results := [.lit (.bool false)], args := [d] }
  | _ => none }
def DebtChecksWrongFalsely : Prop := debtChecksRow.holds Tryd.pinned (OpenSpec.ofChange debtChecksWrong)

/-- 'bogworkslaw10.DebtKept': WHATEVER THE INPUT: true; the input reads as it did. -/
def debtKeptSpec : ChangeSpec := { name := "debtKept", fn := fun _ => fun
  | [d1, d2, d3, d4] => { results := [.lit (.bool true)], args := [d1, d2, d3, d4] }
  | _ => none }
def debtKeptRow : OpenClaim := { program := "ytpfgiednfjfdmaadoor", sum := "6f1b9c8b793a5f7838bf15d3d17c647eb03f3a936ffb5c4fd55adab5e5f3d982", func := "bogworks/bogworkslaw10.DebtKept", spec := "debtKept", unfollowed := true, recurses := true, named := ["bogworks/debt.ends"], plainKeys := false, apart := false, laid := [("bogworks/debt.ends", laid_bogworks_debt_ends)] }
def DebtKeptSaid : Prop := debtKeptRow.holds Tryd.pinned (OpenSpec.ofChange debtKeptSpec)

/-- ITS FALSE NEIGHBOUR: 'it returns false'. Refute it at one input. -/
def debtKeptWrong : ChangeSpec := { name := "debtKept", fn := fun _ => fun
  | [d1, d2, d3, d4] => { results := [.lit (.bool false)], args := [d1, d2, d3, d4] }
  | _ => none }
def DebtKeptWrongFalsely : Prop := debtKeptRow.holds Tryd.pinned (OpenSpec.ofChange debtKeptWrong)

/-- 'bogworkslaw10.DebtMore': WHATEVER THE INPUT: true; the input reads as it did. -/
def debtMoreSpec : ChangeSpec := { name := "debtMore", fn := fun _ => fun
  | [d1, d2, d3, d4] => { results := [.lit (.bool true)], args := [d1, d2, d3, d4] }
  | _ => none }
def debtMoreRow : OpenClaim := { program := "ytpfgiednfjfdmaadoor", sum := "6f1b9c8b793a5f7838bf15d3d17c647eb03f3a936ffb5c4fd55adab5e5f3d982", func := "bogworks/bogworkslaw10.DebtMore", spec := "debtMore", unfollowed := true, recurses := true, named := ["bogworks/debt.ends"], plainKeys := false, apart := false, laid := [("bogworks/debt.ends", laid_bogworks_debt_ends)] }
def DebtMoreSaid : Prop := debtMoreRow.holds Tryd.pinned (OpenSpec.ofChange debtMoreSpec)

/-- ITS FALSE NEIGHBOUR: 'it returns false'. Refute it at one input. -/
def debtMoreWrong : ChangeSpec := { name := "debtMore", fn := fun _ => fun
  | [d1, d2, d3, d4] => { results := [.lit (.bool false)], args := [d1, d2, d3, d4] }
  | _ => none }
def DebtMoreWrongFalsely : Prop := debtMoreRow.holds Tryd.pinned (OpenSpec.ofChange debtMoreWrong)

/- THE SECOND FORM. 'bulk': how many values and letters a reading holds, each counted each time it is reached (what is shared counts as often as it is met; a slice's spare places count too). A statement '..UptoSaid' is the law's where the arguments, and the package variables that the reading takes, are together of bulk at most 1048576: NARROWER than '..Said'. Prove '..Said' where nothing that the law and all that it calls make is longer than what came in: it says more and counts as full. Else prove '..UptoSaid'. A law counts once. -/
mutual
def uptoBulk {H : Type} : DataW H → Nat
  | .lit (.string bytes) => bytes.length + 1
  | .lit _ => 1
  | .nil => 1
  | .ptr d => uptoBulk d + 1
  | .slice elems spare => uptoBulkAll elems + uptoBulkAll spare + 1
  | .agg parts => uptoBulkAll parts + 1
  | .iface _ d => uptoBulk d + 1
  | .map entries => uptoBulkEntries entries + 1
  | .held _ => 1
def uptoBulkAll {H : Type} : List (DataW H) → Nat
  | [] => 0
  | d :: r => uptoBulk d + uptoBulkAll r
def uptoBulkEntries {H : Type} : List (Lit × DataW H) → Nat
  | [] => 0
  | x :: r => uptoBulkEntry x + uptoBulkEntries r
def uptoBulkEntry {H : Type} : Lit × DataW H → Nat
  | (.string bytes, d) => bytes.length + uptoBulk d + 1
  | (_, d) => uptoBulk d + 1
 end
def uptoSmall : (H : Type) → List (DataW H) → Bool := fun _ ds => decide (uptoBulkAll ds ≤ 1048576)
def OpenSpec.upto (s : _root_.Go.ChangeSpec) : _root_.Go.OpenSpec := { _root_.Go.OpenSpec.ofChange s with cond := some uptoSmall }

/-- 'bogworkslaw10.DebtReads', WHERE WHAT IT READS IS OF BULK AT MOST 1048576: true; the input reads as it did. -/
def debtReadsUptoRow : OpenClaim := { program := "ytpfgiednfjfdmaadoor", sum := "6f1b9c8b793a5f7838bf15d3d17c647eb03f3a936ffb5c4fd55adab5e5f3d982", func := "bogworks/bogworkslaw10.DebtReads", spec := "debtReads", unfollowed := true, recurses := true, named := ["bogworks/debt.ends"], plainKeys := false, apart := false, laid := [("bogworks/debt.ends", laid_bogworks_debt_ends)], narrowed := true }
def DebtReadsUptoSaid : Prop := debtReadsUptoRow.holds Tryd.pinned (OpenSpec.upto debtReadsSpec)

/-- 'bogworkslaw10.DebtLooks', WHERE WHAT IT READS IS OF BULK AT MOST 1048576: true; the input reads as it did. -/
def debtLooksUptoRow : OpenClaim := { program := "ytpfgiednfjfdmaadoor", sum := "6f1b9c8b793a5f7838bf15d3d17c647eb03f3a936ffb5c4fd55adab5e5f3d982", func := "bogworks/bogworkslaw10.DebtLooks", spec := "debtLooks", unfollowed := true, recurses := true, named := ["bogworks/debt.ends"], plainKeys := false, apart := false, laid := [("bogworks/debt.ends", laid_bogworks_debt_ends)], narrowed := true }
def DebtLooksUptoSaid : Prop := debtLooksUptoRow.holds Tryd.pinned (OpenSpec.upto debtLooksSpec)

/-- 'bogworkslaw10.DebtTrue', WHERE WHAT IT READS IS OF BULK AT MOST 1048576: true; the input reads as it did. -/
def debtTrueUptoRow : OpenClaim := { program := "ytpfgiednfjfdmaadoor", sum := "6f1b9c8b793a5f7838bf15d3d17c647eb03f3a936ffb5c4fd55adab5e5f3d982", func := "bogworks/bogworkslaw10.DebtTrue", spec := "debtTrue", unfollowed := true, recurses := true, named := ["bogworks/debt.ends"], plainKeys := false, apart := false, laid := [("bogworks/debt.ends", laid_bogworks_debt_ends)], narrowed := true }
def DebtTrueUptoSaid : Prop := debtTrueUptoRow.holds Tryd.pinned (OpenSpec.upto debtTrueSpec)

/-- 'bogworkslaw10.DebtEnds', WHERE WHAT IT READS IS OF BULK AT MOST 1048576: true; the input reads as it did. -/
def debtEndsUptoRow : OpenClaim := { program := "ytpfgiednfjfdmaadoor", sum := "6f1b9c8b793a5f7838bf15d3d17c647eb03f3a936ffb5c4fd55adab5e5f3d982", func := "bogworks/bogworkslaw10.DebtEnds", spec := "debtEnds", unfollowed := true, recurses := true, named := ["bogworks/debt.ends"], plainKeys := false, apart := false, laid := [("bogworks/debt.ends", laid_bogworks_debt_ends)], narrowed := true }
def DebtEndsUptoSaid : Prop := debtEndsUptoRow.holds Tryd.pinned (OpenSpec.upto debtEndsSpec)

/-- 'bogworkslaw10.DebtNeeds', WHERE WHAT IT READS IS OF BULK AT MOST 1048576: true; the input reads as it did. -/
def debtNeedsUptoRow : OpenClaim := { program := "ytpfgiednfjfdmaadoor", sum := "6f1b9c8b793a5f7838bf15d3d17c647eb03f3a936ffb5c4fd55adab5e5f3d982", func := "bogworks/bogworkslaw10.DebtNeeds", spec := "debtNeeds", unfollowed := true, recurses := true, named := ["bogworks/debt.ends"], plainKeys := false, apart := false, laid := [("bogworks/debt.ends", laid_bogworks_debt_ends)], narrowed := true }
def DebtNeedsUptoSaid : Prop := debtNeedsUptoRow.holds Tryd.pinned (OpenSpec.upto debtNeedsSpec)

/-- 'bogworkslaw10.DebtMost', WHERE WHAT IT READS IS OF BULK AT MOST 1048576: true; the input reads as it did. -/
def debtMostUptoRow : OpenClaim := { program := "ytpfgiednfjfdmaadoor", sum := "6f1b9c8b793a5f7838bf15d3d17c647eb03f3a936ffb5c4fd55adab5e5f3d982", func := "bogworks/bogworkslaw10.DebtMost", spec := "debtMost", unfollowed := true, recurses := true, named := ["bogworks/debt.ends"], plainKeys := false, apart := false, laid := [("bogworks/debt.ends", laid_bogworks_debt_ends)], narrowed := true }
def DebtMostUptoSaid : Prop := debtMostUptoRow.holds Tryd.pinned (OpenSpec.upto debtMostSpec)

/-- 'bogworkslaw10.DebtChecks', WHERE WHAT IT READS IS OF BULK AT MOST 1048576: true; the input reads as it did. -/
def debtChecksUptoRow : OpenClaim := { program := "ytpfgiednfjfdmaadoor", sum := "6f1b9c8b793a5f7838bf15d3d17c647eb03f3a936ffb5c4fd55adab5e5f3d982", func := "bogworks/bogworkslaw10.DebtChecks", spec := "debtChecks", unfollowed := true, recurses := true, named := ["bogworks/debt.ends"], plainKeys := false, apart := false, laid := [("bogworks/debt.ends", laid_bogworks_debt_ends)], narrowed := true }
def DebtChecksUptoSaid : Prop := debtChecksUptoRow.holds Tryd.pinned (OpenSpec.upto debtChecksSpec)

/-- 'bogworkslaw10.DebtKept', WHERE WHAT IT READS IS OF BULK AT MOST 1048576: true; the input reads as it did. -/
def debtKeptUptoRow : OpenClaim := { program := "ytpfgiednfjfdmaadoor", sum := "6f1b9c8b793a5f7838bf15d3d17c647eb03f3a936ffb5c4fd55adab5e5f3d982", func := "bogworks/bogworkslaw10.DebtKept", spec := "debtKept", unfollowed := true, recurses := true, named := ["bogworks/debt.ends"], plainKeys := false, apart := false, laid := [("bogworks/debt.ends", laid_bogworks_debt_ends)], narrowed := true }
def DebtKeptUptoSaid : Prop := debtKeptUptoRow.holds Tryd.pinned (OpenSpec.upto debtKeptSpec)

/-- 'bogworkslaw10.DebtMore', WHERE WHAT IT READS IS OF BULK AT MOST 1048576: true; the input reads as it did. -/
def debtMoreUptoRow : OpenClaim := { program := "ytpfgiednfjfdmaadoor", sum := "6f1b9c8b793a5f7838bf15d3d17c647eb03f3a936ffb5c4fd55adab5e5f3d982", func := "bogworks/bogworkslaw10.DebtMore", spec := "debtMore", unfollowed := true, recurses := true, named := ["bogworks/debt.ends"], plainKeys := false, apart := false, laid := [("bogworks/debt.ends", laid_bogworks_debt_ends)], narrowed := true }
def DebtMoreUptoSaid : Prop := debtMoreUptoRow.holds Tryd.pinned (OpenSpec.upto debtMoreSpec)

end Rows
end Go.Proofs.YtpfgiednfjfdmaaDoor
