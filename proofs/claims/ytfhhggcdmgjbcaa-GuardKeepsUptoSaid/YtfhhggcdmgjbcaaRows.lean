/-
  No cell of these rows narrows 'for every input' (looked for: loops, veiled, ifaces, maps, wideKeys, modest, calm, conditions, laid).
  DERIVED. THE GIVEN ROWS OF THIS SEAT. 11 by the template 'for every input the law returns true; each argument reads behind the call as it read before'; 0 by the template 'total and deterministic' (their statements: YtfhhggcdmgjbcaaTotals.lean).
  GIVEN WITH THE SEED: the statements are not yours to turn. If you find one false, say at which input.
  Laid BY PROGRAM, IN A SANDBOX (cutbox-rows.mjs): the forced cells as the released guide's own fill.sh prints them over the translation cfbaf4fec8f69977… (all of the seat's roots in one cut). By AI agents, Wed Nov 11 2026. No macro, syntax, notation, axiom, sorry.
-/
import Derived.Test.YtfhhggcdmgjbcaaChecked
import GoSem.Claim
import GoSem.ClaimJoined
import GoSem.ClaimMapViews
import Derived.JoinedTies
import Derived.KernelRfl
namespace Go.Proofs.Ytfhhggcdmgjbcaa
/- THE CELL 'sum', in the pinned program and in every row, IS THE sha256 OF THE DUMP (.gsa) THAT YtfhhggcdmgjbcaaProg.lean LOADS. Nothing in Lean hashes anything: it is a label: what it is worth is what the hold of that sum in a sandbox is worth. -/
noncomputable def Try.pinned : Pinned := { name := "ytfhhggcdmgjbcaa", sum := "cfbaf4fec8f6997752765844e6cadf0d4456d5264a636c462d5f682aa2553740", checked := Try.checked }
namespace Rows
def none {H : Type} : Left H := { results := [], args := [] }

/-- 'wharfingerlaw14.NodesFound': WHATEVER THE INPUT: true; the input reads as it did. -/
def nodesFoundSpec : ChangeSpec := { name := "nodesFound", fn := fun _ => fun
  | [d] => { results := [.lit (.bool true)], args := [d] }
  | _ => none }
def nodesFoundRow : OpenClaim := { program := "ytfhhggcdmgjbcaa", sum := "cfbaf4fec8f6997752765844e6cadf0d4456d5264a636c462d5f682aa2553740", func := "wharfinger/wharfingerlaw14.NodesFound", spec := "nodesFound", unfollowed := true, recurses := true, apart := false }
def NodesFoundSaid : Prop := nodesFoundRow.holds Try.pinned (OpenSpec.ofChange nodesFoundSpec)

/-- ITS FALSE NEIGHBOUR: 'it returns false'. Refute it at one input. -/
def nodesFoundWrong : ChangeSpec := { name := "nodesFound", fn := fun _ => fun
  | [d] => { results := [.lit (.bool false)], args := [d] }
  | _ => none }
def NodesFoundWrongFalsely : Prop := nodesFoundRow.holds Try.pinned (OpenSpec.ofChange nodesFoundWrong)

/-- 'wharfingerlaw14.NodesSpoil': WHATEVER THE INPUT: true; the input reads as it did. -/
def nodesSpoilSpec : ChangeSpec := { name := "nodesSpoil", fn := fun _ => fun
  | [d1, d2, d3] => { results := [.lit (.bool true)], args := [d1, d2, d3] }
  | _ => none }
def nodesSpoilRow : OpenClaim := { program := "ytfhhggcdmgjbcaa", sum := "cfbaf4fec8f6997752765844e6cadf0d4456d5264a636c462d5f682aa2553740", func := "wharfinger/wharfingerlaw14.NodesSpoil", spec := "nodesSpoil", unfollowed := true, recurses := true, apart := false }
def NodesSpoilSaid : Prop := nodesSpoilRow.holds Try.pinned (OpenSpec.ofChange nodesSpoilSpec)

/-- ITS FALSE NEIGHBOUR: 'it returns false'. Refute it at one input. -/
def nodesSpoilWrong : ChangeSpec := { name := "nodesSpoil", fn := fun _ => fun
  | [d1, d2, d3] => { results := [.lit (.bool false)], args := [d1, d2, d3] }
  | _ => none }
def NodesSpoilWrongFalsely : Prop := nodesSpoilRow.holds Try.pinned (OpenSpec.ofChange nodesSpoilWrong)

/-- 'wharfingerlaw16.GuardKeeps': WHATEVER THE INPUT: true; the input reads as it did. -/
def guardKeepsSpec : ChangeSpec := { name := "guardKeeps", fn := fun _ => fun
  | [d] => { results := [.lit (.bool true)], args := [d] }
  | _ => none }
def guardKeepsRow : OpenClaim := { program := "ytfhhggcdmgjbcaa", sum := "cfbaf4fec8f6997752765844e6cadf0d4456d5264a636c462d5f682aa2553740", func := "wharfinger/wharfingerlaw16.GuardKeeps", spec := "guardKeeps", unfollowed := true, recurses := true, apart := false }
def GuardKeepsSaid : Prop := guardKeepsRow.holds Try.pinned (OpenSpec.ofChange guardKeepsSpec)

/-- ITS FALSE NEIGHBOUR: 'it returns false'. Refute it at one input. -/
def guardKeepsWrong : ChangeSpec := { name := "guardKeeps", fn := fun _ => fun
  | [d] => { results := [.lit (.bool false)], args := [d] }
  | _ => none }
def GuardKeepsWrongFalsely : Prop := guardKeepsRow.holds Try.pinned (OpenSpec.ofChange guardKeepsWrong)

/-- 'wharfingerlaw20.CodecBack': WHATEVER THE INPUT: true; the input reads as it did. -/
def codecBackSpec : ChangeSpec := { name := "codecBack", fn := fun _ => fun
  | [d1, d2, d3] => { results := [.lit (.bool true)], args := [d1, d2, d3] }
  | _ => none }
def codecBackRow : OpenClaim := { program := "ytfhhggcdmgjbcaa", sum := "cfbaf4fec8f6997752765844e6cadf0d4456d5264a636c462d5f682aa2553740", func := "wharfinger/wharfingerlaw20.CodecBack", spec := "codecBack", unfollowed := true, recurses := true, apart := false }
def CodecBackSaid : Prop := codecBackRow.holds Try.pinned (OpenSpec.ofChange codecBackSpec)

/-- ITS FALSE NEIGHBOUR: 'it returns false'. Refute it at one input. -/
def codecBackWrong : ChangeSpec := { name := "codecBack", fn := fun _ => fun
  | [d1, d2, d3] => { results := [.lit (.bool false)], args := [d1, d2, d3] }
  | _ => none }
def CodecBackWrongFalsely : Prop := codecBackRow.holds Try.pinned (OpenSpec.ofChange codecBackWrong)

/-- 'wharfingerlaw19.PagesAll': WHATEVER THE INPUT: true; the input reads as it did. -/
def pagesAllSpec : ChangeSpec := { name := "pagesAll", fn := fun _ => fun
  | [d] => { results := [.lit (.bool true)], args := [d] }
  | _ => none }
def pagesAllRow : OpenClaim := { program := "ytfhhggcdmgjbcaa", sum := "cfbaf4fec8f6997752765844e6cadf0d4456d5264a636c462d5f682aa2553740", func := "wharfinger/wharfingerlaw19.PagesAll", spec := "pagesAll", unfollowed := true, recurses := true, apart := false }
def PagesAllSaid : Prop := pagesAllRow.holds Try.pinned (OpenSpec.ofChange pagesAllSpec)

/-- ITS FALSE NEIGHBOUR: 'it returns false'. Refute it at one input. -/
def pagesAllWrong : ChangeSpec := { name := "pagesAll", fn := fun _ => fun
  | [d] => { results := [.lit (.bool false)], args := [d] }
  | _ => none }
def PagesAllWrongFalsely : Prop := pagesAllRow.holds Try.pinned (OpenSpec.ofChange pagesAllWrong)

/-- 'wharfingerlaw17.LookKeeps': WHATEVER THE INPUT: true; the input reads as it did. -/
def lookKeepsSpec : ChangeSpec := { name := "lookKeeps", fn := fun _ => fun
  | [d] => { results := [.lit (.bool true)], args := [d] }
  | _ => none }
def lookKeepsRow : OpenClaim := { program := "ytfhhggcdmgjbcaa", sum := "cfbaf4fec8f6997752765844e6cadf0d4456d5264a636c462d5f682aa2553740", func := "wharfinger/wharfingerlaw17.LookKeeps", spec := "lookKeeps", unfollowed := true, recurses := true, apart := false }
def LookKeepsSaid : Prop := lookKeepsRow.holds Try.pinned (OpenSpec.ofChange lookKeepsSpec)

/-- ITS FALSE NEIGHBOUR: 'it returns false'. Refute it at one input. -/
def lookKeepsWrong : ChangeSpec := { name := "lookKeeps", fn := fun _ => fun
  | [d] => { results := [.lit (.bool false)], args := [d] }
  | _ => none }
def LookKeepsWrongFalsely : Prop := lookKeepsRow.holds Try.pinned (OpenSpec.ofChange lookKeepsWrong)

/-- 'wharfingerlaw17.LookReads': WHATEVER THE INPUT: true; the input reads as it did. -/
def lookReadsSpec : ChangeSpec := { name := "lookReads", fn := fun _ => fun
  | [d1, d2] => { results := [.lit (.bool true)], args := [d1, d2] }
  | _ => none }
def lookReadsRow : OpenClaim := { program := "ytfhhggcdmgjbcaa", sum := "cfbaf4fec8f6997752765844e6cadf0d4456d5264a636c462d5f682aa2553740", func := "wharfinger/wharfingerlaw17.LookReads", spec := "lookReads", unfollowed := true, recurses := true, apart := false }
def LookReadsSaid : Prop := lookReadsRow.holds Try.pinned (OpenSpec.ofChange lookReadsSpec)

/-- ITS FALSE NEIGHBOUR: 'it returns false'. Refute it at one input. -/
def lookReadsWrong : ChangeSpec := { name := "lookReads", fn := fun _ => fun
  | [d1, d2] => { results := [.lit (.bool false)], args := [d1, d2] }
  | _ => none }
def LookReadsWrongFalsely : Prop := lookReadsRow.holds Try.pinned (OpenSpec.ofChange lookReadsWrong)

/-- 'wharfingerlaw17.LookHides': WHATEVER THE INPUT: true; the input reads as it did. -/
def lookHidesSpec : ChangeSpec := { name := "lookHides", fn := fun _ => fun
  | [d1, d2] => { results := [.lit (.bool true)], args := [d1, d2] }
  | _ => none }
def lookHidesRow : OpenClaim := { program := "ytfhhggcdmgjbcaa", sum := "cfbaf4fec8f6997752765844e6cadf0d4456d5264a636c462d5f682aa2553740", func := "wharfinger/wharfingerlaw17.LookHides", spec := "lookHides", unfollowed := true, recurses := true, apart := false }
def LookHidesSaid : Prop := lookHidesRow.holds Try.pinned (OpenSpec.ofChange lookHidesSpec)

/-- ITS FALSE NEIGHBOUR: 'it returns false'. Refute it at one input. -/
def lookHidesWrong : ChangeSpec := { name := "lookHides", fn := fun _ => fun
  | [d1, d2] => { results := [.lit (.bool false)], args := [d1, d2] }
  | _ => none }
def LookHidesWrongFalsely : Prop := lookHidesRow.holds Try.pinned (OpenSpec.ofChange lookHidesWrong)

/-- 'wharfingerlaw21.JournalCuts': WHATEVER THE INPUT: true; the input reads as it did. -/
def journalCutsSpec : ChangeSpec := { name := "journalCuts", fn := fun _ => fun
  | [d1, d2, d3] => { results := [.lit (.bool true)], args := [d1, d2, d3] }
  | _ => none }
def journalCutsRow : OpenClaim := { program := "ytfhhggcdmgjbcaa", sum := "cfbaf4fec8f6997752765844e6cadf0d4456d5264a636c462d5f682aa2553740", func := "wharfinger/wharfingerlaw21.JournalCuts", spec := "journalCuts", unfollowed := true, recurses := true, apart := false }
def JournalCutsSaid : Prop := journalCutsRow.holds Try.pinned (OpenSpec.ofChange journalCutsSpec)

/-- ITS FALSE NEIGHBOUR: 'it returns false'. Refute it at one input. -/
def journalCutsWrong : ChangeSpec := { name := "journalCuts", fn := fun _ => fun
  | [d1, d2, d3] => { results := [.lit (.bool false)], args := [d1, d2, d3] }
  | _ => none }
def JournalCutsWrongFalsely : Prop := journalCutsRow.holds Try.pinned (OpenSpec.ofChange journalCutsWrong)

/-- 'wharfingerlaw21.JournalOpens': WHATEVER THE INPUT: true; the input reads as it did. -/
def journalOpensSpec : ChangeSpec := { name := "journalOpens", fn := fun _ => fun
  | [d] => { results := [.lit (.bool true)], args := [d] }
  | _ => none }
def journalOpensRow : OpenClaim := { program := "ytfhhggcdmgjbcaa", sum := "cfbaf4fec8f6997752765844e6cadf0d4456d5264a636c462d5f682aa2553740", func := "wharfinger/wharfingerlaw21.JournalOpens", spec := "journalOpens", unfollowed := true, recurses := true, apart := false }
def JournalOpensSaid : Prop := journalOpensRow.holds Try.pinned (OpenSpec.ofChange journalOpensSpec)

/-- ITS FALSE NEIGHBOUR: 'it returns false'. Refute it at one input. -/
def journalOpensWrong : ChangeSpec := { name := "journalOpens", fn := fun _ => fun
  | [d] => { results := [.lit (.bool false)], args := [d] }
  | _ => none }
def JournalOpensWrongFalsely : Prop := journalOpensRow.holds Try.pinned (OpenSpec.ofChange journalOpensWrong)

/-- 'wharfingerlaw21.JournalBytes': WHATEVER THE INPUT: true; the input reads as it did. -/
def journalBytesSpec : ChangeSpec := { name := "journalBytes", fn := fun _ => fun
  | [d] => { results := [.lit (.bool true)], args := [d] }
  | _ => none }
def journalBytesRow : OpenClaim := { program := "ytfhhggcdmgjbcaa", sum := "cfbaf4fec8f6997752765844e6cadf0d4456d5264a636c462d5f682aa2553740", func := "wharfinger/wharfingerlaw21.JournalBytes", spec := "journalBytes", unfollowed := true, recurses := true, apart := false }
def JournalBytesSaid : Prop := journalBytesRow.holds Try.pinned (OpenSpec.ofChange journalBytesSpec)

/-- ITS FALSE NEIGHBOUR: 'it returns false'. Refute it at one input. -/
def journalBytesWrong : ChangeSpec := { name := "journalBytes", fn := fun _ => fun
  | [d] => { results := [.lit (.bool false)], args := [d] }
  | _ => none }
def JournalBytesWrongFalsely : Prop := journalBytesRow.holds Try.pinned (OpenSpec.ofChange journalBytesWrong)

/- THE SECOND FORM. 'bulk': how many values and letters a reading holds, each counted each time it is reached (what is shared counts as often as it is met; a slice's spare places count too). A statement '..UptoSaid' is the law's where the arguments, and the package variables that the reading takes, are together of bulk at most 1048576: NARROWER than '..Said'. Prove '..Said' where nothing that the law and all that it calls make is longer than what came in: it says more and counts as full. Else prove '..UptoSaid'. A law counts once. -/
mutual
def uptoBulk {H : Type} : DataW H → Nat
  | .lit (.string bytes) => bytes.length + 1
  | .lit _ => 1
  | .nil => 1
  | .ptr d => uptoBulk d + 1
  | .slice elems spare => uptoBulkAll elems + uptoBulkAll spare + 1
  | .agg parts => uptoBulkAll parts + 1
  | .iface _ d => uptoBulk d + 1
  | .map entries => uptoBulkEntries entries + 1
  | .held _ => 1
def uptoBulkAll {H : Type} : List (DataW H) → Nat
  | [] => 0
  | d :: r => uptoBulk d + uptoBulkAll r
def uptoBulkEntries {H : Type} : List (Lit × DataW H) → Nat
  | [] => 0
  | x :: r => uptoBulkEntry x + uptoBulkEntries r
def uptoBulkEntry {H : Type} : Lit × DataW H → Nat
  | (.string bytes, d) => bytes.length + uptoBulk d + 1
  | (_, d) => uptoBulk d + 1
 end
def uptoSmall : (H : Type) → List (DataW H) → Bool := fun _ ds => decide (uptoBulkAll ds ≤ 1048576)
def OpenSpec.upto (s : _root_.Go.ChangeSpec) : _root_.Go.OpenSpec := { _root_.Go.OpenSpec.ofChange s with cond := some uptoSmall }

/-- 'wharfingerlaw14.NodesFound', WHERE WHAT IT READS IS OF BULK AT MOST 1048576: true; the input reads as it did. -/
def nodesFoundUptoRow : OpenClaim := { program := "ytfhhggcdmgjbcaa", sum := "cfbaf4fec8f6997752765844e6cadf0d4456d5264a636c462d5f682aa2553740", func := "wharfinger/wharfingerlaw14.NodesFound", spec := "nodesFound", unfollowed := true, recurses := true, apart := false, narrowed := true }
def NodesFoundUptoSaid : Prop := nodesFoundUptoRow.holds Try.pinned (OpenSpec.upto nodesFoundSpec)

/-- 'wharfingerlaw14.NodesSpoil', WHERE WHAT IT READS IS OF BULK AT MOST 1048576: true; the input reads as it did. -/
def nodesSpoilUptoRow : OpenClaim := { program := "ytfhhggcdmgjbcaa", sum := "cfbaf4fec8f6997752765844e6cadf0d4456d5264a636c462d5f682aa2553740", func := "wharfinger/wharfingerlaw14.NodesSpoil", spec := "nodesSpoil", unfollowed := true, recurses := true, apart := false, narrowed := true }
def NodesSpoilUptoSaid : Prop := nodesSpoilUptoRow.holds Try.pinned (OpenSpec.upto nodesSpoilSpec)

/-- 'wharfingerlaw16.GuardKeeps', WHERE WHAT IT READS IS OF BULK AT MOST 1048576: true; the input reads as it did. -/
def guardKeepsUptoRow : OpenClaim := { program := "ytfhhggcdmgjbcaa", sum := "cfbaf4fec8f6997752765844e6cadf0d4456d5264a636c462d5f682aa2553740", func := "wharfinger/wharfingerlaw16.GuardKeeps", spec := "guardKeeps", unfollowed := true, recurses := true, apart := false, narrowed := true }
def GuardKeepsUptoSaid : Prop := guardKeepsUptoRow.holds Try.pinned (OpenSpec.upto guardKeepsSpec)

/-- 'wharfingerlaw20.CodecBack', WHERE WHAT IT READS IS OF BULK AT MOST 1048576: true; the input reads as it did. -/
def codecBackUptoRow : OpenClaim := { program := "ytfhhggcdmgjbcaa", sum := "cfbaf4fec8f6997752765844e6cadf0d4456d5264a636c462d5f682aa2553740", func := "wharfinger/wharfingerlaw20.CodecBack", spec := "codecBack", unfollowed := true, recurses := true, apart := false, narrowed := true }
def CodecBackUptoSaid : Prop := codecBackUptoRow.holds Try.pinned (OpenSpec.upto codecBackSpec)

/-- 'wharfingerlaw19.PagesAll', WHERE WHAT IT READS IS OF BULK AT MOST 1048576: true; the input reads as it did. -/
def pagesAllUptoRow : OpenClaim := { program := "ytfhhggcdmgjbcaa", sum := "cfbaf4fec8f6997752765844e6cadf0d4456d5264a636c462d5f682aa2553740", func := "wharfinger/wharfingerlaw19.PagesAll", spec := "pagesAll", unfollowed := true, recurses := true, apart := false, narrowed := true }
def PagesAllUptoSaid : Prop := pagesAllUptoRow.holds Try.pinned (OpenSpec.upto pagesAllSpec)

/-- 'wharfingerlaw17.LookKeeps', WHERE WHAT IT READS IS OF BULK AT MOST 1048576: true; the input reads as it did. -/
def lookKeepsUptoRow : OpenClaim := { program := "ytfhhggcdmgjbcaa", sum := "cfbaf4fec8f6997752765844e6cadf0d4456d5264a636c462d5f682aa2553740", func := "wharfinger/wharfingerlaw17.LookKeeps", spec := "lookKeeps", unfollowed := true, recurses := true, apart := false, narrowed := true }
def LookKeepsUptoSaid : Prop := lookKeepsUptoRow.holds Try.pinned (OpenSpec.upto lookKeepsSpec)

/-- 'wharfingerlaw17.LookReads', WHERE WHAT IT READS IS OF BULK AT MOST 1048576: true; the input reads as it did. -/
def lookReadsUptoRow : OpenClaim := { program := "ytfhhggcdmgjbcaa", sum := "cfbaf4fec8f6997752765844e6cadf0d4456d5264a636c462d5f682aa2553740", func := "wharfinger/wharfingerlaw17.LookReads", spec := "lookReads", unfollowed := true, recurses := true, apart := false, narrowed := true }
def LookReadsUptoSaid : Prop := lookReadsUptoRow.holds Try.pinned (OpenSpec.upto lookReadsSpec)

/-- 'wharfingerlaw17.LookHides', WHERE WHAT IT READS IS OF BULK AT MOST 1048576: true; the input reads as it did. -/
def lookHidesUptoRow : OpenClaim := { program := "ytfhhggcdmgjbcaa", sum := "cfbaf4fec8f6997752765844e6cadf0d4456d5264a636c462d5f682aa2553740", func := "wharfinger/wharfingerlaw17.LookHides", spec := "lookHides", unfollowed := true, recurses := true, apart := false, narrowed := true }
def LookHidesUptoSaid : Prop := lookHidesUptoRow.holds Try.pinned (OpenSpec.upto lookHidesSpec)

/-- 'wharfingerlaw21.JournalCuts', WHERE WHAT IT READS IS OF BULK AT MOST 1048576: true; the input reads as it did. -/
def journalCutsUptoRow : OpenClaim := { program := "ytfhhggcdmgjbcaa", sum := "cfbaf4fec8f6997752765844e6cadf0d4456d5264a636c462d5f682aa2553740", func := "wharfinger/wharfingerlaw21.JournalCuts", spec := "journalCuts", unfollowed := true, recurses := true, apart := false, narrowed := true }
def JournalCutsUptoSaid : Prop := journalCutsUptoRow.holds Try.pinned (OpenSpec.upto journalCutsSpec)

/-- 'wharfingerlaw21.JournalOpens', WHERE WHAT IT READS IS OF BULK AT MOST 1048576: true; the input reads as it did. -/
def journalOpensUptoRow : OpenClaim := { program := "ytfhhggcdmgjbcaa", sum := "cfbaf4fec8f6997752765844e6cadf0d4456d5264a636c462d5f682aa2553740", func := "wharfinger/wharfingerlaw21.JournalOpens", spec := "journalOpens", unfollowed := true, recurses := true, apart := false, narrowed := true }
def JournalOpensUptoSaid : Prop := journalOpensUptoRow.holds Try.pinned (OpenSpec.upto journalOpensSpec)

/-- 'wharfingerlaw21.JournalBytes', WHERE WHAT IT READS IS OF BULK AT MOST 1048576: true; the input reads as it did. -/
def journalBytesUptoRow : OpenClaim := { program := "ytfhhggcdmgjbcaa", sum := "cfbaf4fec8f6997752765844e6cadf0d4456d5264a636c462d5f682aa2553740", func := "wharfinger/wharfingerlaw21.JournalBytes", spec := "journalBytes", unfollowed := true, recurses := true, apart := false, narrowed := true }
def JournalBytesUptoSaid : Prop := journalBytesUptoRow.holds Try.pinned (OpenSpec.upto journalBytesSpec)

end Rows
end Go.Proofs.Ytfhhggcdmgjbcaa
