/-
  NARROWER THAN 'FOR EVERY INPUT', by the rows' own cells (each row's printed sentence says how): CfgFirst: loops · CfgKinds: loops · CfgSwap: loops · CfgAll: loops · CfgFree: loops · CfgEnds: loops · AugFree: loops · AugExit: loops · AugAll: loops · AugTrap: loops · AugMore: loops · CdepAll: loops.
  DERIVED. THE GIVEN ROWS OF THIS SEAT. 12 by the template 'for every input the law returns true; each argument reads behind the call as it read before'; 0 by the template 'total and deterministic' (their statements: YtabdfngdamikiaaGreatTotals.lean).
  GIVEN WITH THE SEED: the statements are not yours to turn. If you find one false, say at which input.
  Laid BY PROGRAM, IN A SANDBOX (cutbox-rows.mjs): the forced cells as the released guide's own fill.sh prints them over the translation efa018573dd83d4e… (all of the seat's roots in one cut). By AI agents, Wed Nov 11 2026. No macro, syntax, notation, axiom, sorry.
-/
import Derived.Test.YtabdfngdamikiaaGreatChecked
import GoSem.Claim
import GoSem.ClaimJoined
import GoSem.ClaimMapViews
import Derived.JoinedTies
import Derived.KernelRfl
namespace Go.Proofs.YtabdfngdamikiaaGreat
/- THE CELL 'sum', in the pinned program and in every row, IS THE sha256 OF THE DUMP (.gsa) THAT YtabdfngdamikiaaGreatProg.lean LOADS. Nothing in Lean hashes anything: it is a label: what it is worth is what the hold of that sum in a sandbox is worth. -/
noncomputable def Tryz.pinned : Pinned := { name := "ytabdfngdamikiaagreat", sum := "efa018573dd83d4e542f7d1d033fd8f474f53a8fa12b8b09f22a2b8e6f62f5db", checked := Tryz.checked }
namespace Rows
def none {H : Type} : Left H := { results := [], args := [] }

/-- 'whittlerlaw15.CfgFirst': WHATEVER THE INPUT: true; the input reads as it did. -/
def cfgFirstSpec : ChangeSpec := { name := "cfgFirst", fn := fun _ => fun
  | [d1, d2] => { results := [.lit (.bool true)], args := [d1, d2] }
  | _ => none }
def cfgFirstRow : OpenClaim := { program := "ytabdfngdamikiaagreat", sum := "efa018573dd83d4e542f7d1d033fd8f474f53a8fa12b8b09f22a2b8e6f62f5db", func := "whittler/whittlerlaw15.CfgFirst", spec := "cfgFirst", inPlace := ["slices.overlaps[int]"], unfollowed := true, recurses := true, loops := true, apart := false }
def CfgFirstSaid : Prop := cfgFirstRow.holds Tryz.pinned (OpenSpec.ofChange cfgFirstSpec)

/-- ITS FALSE NEIGHBOUR: 'it returns false'. Refute it at one input. -/
def cfgFirstWrong : ChangeSpec := { name := "cfgFirst", fn := fun _ => fun
  | [d1, d2] => { results := [.lit (.bool false)], args := [d1, d2] }
  | _ => none }
def CfgFirstWrongFalsely : Prop := cfgFirstRow.holds Tryz.pinned (OpenSpec.ofChange cfgFirstWrong)

/-- 'whittlerlaw15.CfgKinds': WHATEVER THE INPUT: true; the input reads as it did. -/
def cfgKindsSpec : ChangeSpec := { name := "cfgKinds", fn := fun _ => fun
  | [d1, d2] => { results := [.lit (.bool true)], args := [d1, d2] }
  | _ => none }
def cfgKindsRow : OpenClaim := { program := "ytabdfngdamikiaagreat", sum := "efa018573dd83d4e542f7d1d033fd8f474f53a8fa12b8b09f22a2b8e6f62f5db", func := "whittler/whittlerlaw15.CfgKinds", spec := "cfgKinds", inPlace := ["slices.overlaps[int]"], unfollowed := true, recurses := true, loops := true, apart := false }
def CfgKindsSaid : Prop := cfgKindsRow.holds Tryz.pinned (OpenSpec.ofChange cfgKindsSpec)

/-- ITS FALSE NEIGHBOUR: 'it returns false'. Refute it at one input. -/
def cfgKindsWrong : ChangeSpec := { name := "cfgKinds", fn := fun _ => fun
  | [d1, d2] => { results := [.lit (.bool false)], args := [d1, d2] }
  | _ => none }
def CfgKindsWrongFalsely : Prop := cfgKindsRow.holds Tryz.pinned (OpenSpec.ofChange cfgKindsWrong)

/-- 'whittlerlaw15.CfgSwap': WHATEVER THE INPUT: true; the input reads as it did. -/
def cfgSwapSpec : ChangeSpec := { name := "cfgSwap", fn := fun _ => fun
  | [d1, d2, d3, d4, d5] => { results := [.lit (.bool true)], args := [d1, d2, d3, d4, d5] }
  | _ => none }
def cfgSwapRow : OpenClaim := { program := "ytabdfngdamikiaagreat", sum := "efa018573dd83d4e542f7d1d033fd8f474f53a8fa12b8b09f22a2b8e6f62f5db", func := "whittler/whittlerlaw15.CfgSwap", spec := "cfgSwap", inPlace := ["slices.overlaps[int]"], unfollowed := true, recurses := true, loops := true, apart := false }
def CfgSwapSaid : Prop := cfgSwapRow.holds Tryz.pinned (OpenSpec.ofChange cfgSwapSpec)

/-- ITS FALSE NEIGHBOUR: 'it returns false'. Refute it at one input. -/
def cfgSwapWrong : ChangeSpec := { name := "cfgSwap", fn := fun _ => fun
  | [d1, d2, d3, d4, d5] => { results := [.lit (.bool false)], args := [d1, d2, d3, d4, d5] }
  | _ => none }
def CfgSwapWrongFalsely : Prop := cfgSwapRow.holds Tryz.pinned (OpenSpec.ofChange cfgSwapWrong)

/-- 'whittlerlaw15.CfgAll': WHATEVER THE INPUT: true; the input reads as it did. -/
def cfgAllSpec : ChangeSpec := { name := "cfgAll", fn := fun _ => fun
  | [d1, d2, d3] => { results := [.lit (.bool true)], args := [d1, d2, d3] }
  | _ => none }
def cfgAllRow : OpenClaim := { program := "ytabdfngdamikiaagreat", sum := "efa018573dd83d4e542f7d1d033fd8f474f53a8fa12b8b09f22a2b8e6f62f5db", func := "whittler/whittlerlaw15.CfgAll", spec := "cfgAll", inPlace := ["slices.overlaps[int]"], unfollowed := true, recurses := true, loops := true, apart := false }
def CfgAllSaid : Prop := cfgAllRow.holds Tryz.pinned (OpenSpec.ofChange cfgAllSpec)

/-- ITS FALSE NEIGHBOUR: 'it returns false'. Refute it at one input. -/
def cfgAllWrong : ChangeSpec := { name := "cfgAll", fn := fun _ => fun
  | [d1, d2, d3] => { results := [.lit (.bool false)], args := [d1, d2, d3] }
  | _ => none }
def CfgAllWrongFalsely : Prop := cfgAllRow.holds Tryz.pinned (OpenSpec.ofChange cfgAllWrong)

/-- 'whittlerlaw15.CfgFree': WHATEVER THE INPUT: true; the input reads as it did. -/
def cfgFreeSpec : ChangeSpec := { name := "cfgFree", fn := fun _ => fun
  | [d] => { results := [.lit (.bool true)], args := [d] }
  | _ => none }
def cfgFreeRow : OpenClaim := { program := "ytabdfngdamikiaagreat", sum := "efa018573dd83d4e542f7d1d033fd8f474f53a8fa12b8b09f22a2b8e6f62f5db", func := "whittler/whittlerlaw15.CfgFree", spec := "cfgFree", inPlace := ["slices.overlaps[int]"], unfollowed := true, recurses := true, loops := true, apart := false }
def CfgFreeSaid : Prop := cfgFreeRow.holds Tryz.pinned (OpenSpec.ofChange cfgFreeSpec)

/-- ITS FALSE NEIGHBOUR: 'it returns false'. Refute it at one input. -/
def cfgFreeWrong : ChangeSpec := { name := "cfgFree", fn := fun _ => fun
  | [d] => { results := [.lit (.bool false)], args := [d] }
  | _ => none }
def CfgFreeWrongFalsely : Prop := cfgFreeRow.holds Tryz.pinned (OpenSpec.ofChange cfgFreeWrong)

/-- 'whittlerlaw15.CfgEnds': WHATEVER THE INPUT: true; the input reads as it did. -/
def cfgEndsSpec : ChangeSpec := { name := "cfgEnds", fn := fun _ => fun
  | [d1, d2] => { results := [.lit (.bool true)], args := [d1, d2] }
  | _ => none }
def cfgEndsRow : OpenClaim := { program := "ytabdfngdamikiaagreat", sum := "efa018573dd83d4e542f7d1d033fd8f474f53a8fa12b8b09f22a2b8e6f62f5db", func := "whittler/whittlerlaw15.CfgEnds", spec := "cfgEnds", inPlace := ["slices.overlaps[int]"], unfollowed := true, recurses := true, loops := true, apart := false }
def CfgEndsSaid : Prop := cfgEndsRow.holds Tryz.pinned (OpenSpec.ofChange cfgEndsSpec)

/-- ITS FALSE NEIGHBOUR: 'it returns false'. Refute it at one input. -/
def cfgEndsWrong : ChangeSpec := { name := "cfgEnds", fn := fun _ => fun
  | [d1, d2] => { results := [.lit (.bool false)], args := [d1, d2] }
  | _ => none }
def CfgEndsWrongFalsely : Prop := cfgEndsRow.holds Tryz.pinned (OpenSpec.ofChange cfgEndsWrong)

/-- 'whittlerlaw16.AugFree': WHATEVER THE INPUT: true; the input reads as it did. -/
def augFreeSpec : ChangeSpec := { name := "augFree", fn := fun _ => fun
  | [d] => { results := [.lit (.bool true)], args := [d] }
  | _ => none }
def augFreeRow : OpenClaim := { program := "ytabdfngdamikiaagreat", sum := "efa018573dd83d4e542f7d1d033fd8f474f53a8fa12b8b09f22a2b8e6f62f5db", func := "whittler/whittlerlaw16.AugFree", spec := "augFree", inPlace := ["slices.overlaps[int]"], unfollowed := true, recurses := true, loops := true, apart := false }
def AugFreeSaid : Prop := augFreeRow.holds Tryz.pinned (OpenSpec.ofChange augFreeSpec)

/-- ITS FALSE NEIGHBOUR: 'it returns false'. Refute it at one input. -/
def augFreeWrong : ChangeSpec := { name := "augFree", fn := fun _ => fun
  | [d] => { results := [.lit (.bool false)], args := [d] }
  | _ => none }
def AugFreeWrongFalsely : Prop := augFreeRow.holds Tryz.pinned (OpenSpec.ofChange augFreeWrong)

/-- 'whittlerlaw16.AugExit': WHATEVER THE INPUT: true; the input reads as it did. -/
def augExitSpec : ChangeSpec := { name := "augExit", fn := fun _ => fun
  | [d1, d2] => { results := [.lit (.bool true)], args := [d1, d2] }
  | _ => none }
def augExitRow : OpenClaim := { program := "ytabdfngdamikiaagreat", sum := "efa018573dd83d4e542f7d1d033fd8f474f53a8fa12b8b09f22a2b8e6f62f5db", func := "whittler/whittlerlaw16.AugExit", spec := "augExit", inPlace := ["slices.overlaps[int]"], unfollowed := true, recurses := true, loops := true, apart := false }
def AugExitSaid : Prop := augExitRow.holds Tryz.pinned (OpenSpec.ofChange augExitSpec)

/-- ITS FALSE NEIGHBOUR: 'it returns false'. Refute it at one input. -/
def augExitWrong : ChangeSpec := { name := "augExit", fn := fun _ => fun
  | [d1, d2] => { results := [.lit (.bool false)], args := [d1, d2] }
  | _ => none }
def AugExitWrongFalsely : Prop := augExitRow.holds Tryz.pinned (OpenSpec.ofChange augExitWrong)

/-- 'whittlerlaw16.AugAll': WHATEVER THE INPUT: true; the input reads as it did. -/
def augAllSpec : ChangeSpec := { name := "augAll", fn := fun _ => fun
  | [d1, d2] => { results := [.lit (.bool true)], args := [d1, d2] }
  | _ => none }
def augAllRow : OpenClaim := { program := "ytabdfngdamikiaagreat", sum := "efa018573dd83d4e542f7d1d033fd8f474f53a8fa12b8b09f22a2b8e6f62f5db", func := "whittler/whittlerlaw16.AugAll", spec := "augAll", inPlace := ["slices.overlaps[int]"], unfollowed := true, recurses := true, loops := true, apart := false }
def AugAllSaid : Prop := augAllRow.holds Tryz.pinned (OpenSpec.ofChange augAllSpec)

/-- ITS FALSE NEIGHBOUR: 'it returns false'. Refute it at one input. -/
def augAllWrong : ChangeSpec := { name := "augAll", fn := fun _ => fun
  | [d1, d2] => { results := [.lit (.bool false)], args := [d1, d2] }
  | _ => none }
def AugAllWrongFalsely : Prop := augAllRow.holds Tryz.pinned (OpenSpec.ofChange augAllWrong)

/-- 'whittlerlaw16.AugTrap': WHATEVER THE INPUT: true; the input reads as it did. -/
def augTrapSpec : ChangeSpec := { name := "augTrap", fn := fun _ => fun
  | [d1, d2] => { results := [.lit (.bool true)], args := [d1, d2] }
  | _ => none }
def augTrapRow : OpenClaim := { program := "ytabdfngdamikiaagreat", sum := "efa018573dd83d4e542f7d1d033fd8f474f53a8fa12b8b09f22a2b8e6f62f5db", func := "whittler/whittlerlaw16.AugTrap", spec := "augTrap", inPlace := ["slices.overlaps[int]"], unfollowed := true, recurses := true, loops := true, apart := false }
def AugTrapSaid : Prop := augTrapRow.holds Tryz.pinned (OpenSpec.ofChange augTrapSpec)

/-- ITS FALSE NEIGHBOUR: 'it returns false'. Refute it at one input. -/
def augTrapWrong : ChangeSpec := { name := "augTrap", fn := fun _ => fun
  | [d1, d2] => { results := [.lit (.bool false)], args := [d1, d2] }
  | _ => none }
def AugTrapWrongFalsely : Prop := augTrapRow.holds Tryz.pinned (OpenSpec.ofChange augTrapWrong)

/-- 'whittlerlaw16.AugMore': WHATEVER THE INPUT: true; the input reads as it did. -/
def augMoreSpec : ChangeSpec := { name := "augMore", fn := fun _ => fun
  | [d1, d2] => { results := [.lit (.bool true)], args := [d1, d2] }
  | _ => none }
def augMoreRow : OpenClaim := { program := "ytabdfngdamikiaagreat", sum := "efa018573dd83d4e542f7d1d033fd8f474f53a8fa12b8b09f22a2b8e6f62f5db", func := "whittler/whittlerlaw16.AugMore", spec := "augMore", inPlace := ["slices.overlaps[int]"], unfollowed := true, recurses := true, loops := true, apart := false }
def AugMoreSaid : Prop := augMoreRow.holds Tryz.pinned (OpenSpec.ofChange augMoreSpec)

/-- ITS FALSE NEIGHBOUR: 'it returns false'. Refute it at one input. -/
def augMoreWrong : ChangeSpec := { name := "augMore", fn := fun _ => fun
  | [d1, d2] => { results := [.lit (.bool false)], args := [d1, d2] }
  | _ => none }
def AugMoreWrongFalsely : Prop := augMoreRow.holds Tryz.pinned (OpenSpec.ofChange augMoreWrong)

/-- 'whittlerlaw18.CdepAll': WHATEVER THE INPUT: true; the input reads as it did. -/
def cdepAllSpec : ChangeSpec := { name := "cdepAll", fn := fun _ => fun
  | [d1, d2, d3] => { results := [.lit (.bool true)], args := [d1, d2, d3] }
  | _ => none }
def cdepAllRow : OpenClaim := { program := "ytabdfngdamikiaagreat", sum := "efa018573dd83d4e542f7d1d033fd8f474f53a8fa12b8b09f22a2b8e6f62f5db", func := "whittler/whittlerlaw18.CdepAll", spec := "cdepAll", inPlace := ["slices.overlaps[int]"], unfollowed := true, recurses := true, loops := true, apart := false }
def CdepAllSaid : Prop := cdepAllRow.holds Tryz.pinned (OpenSpec.ofChange cdepAllSpec)

/-- ITS FALSE NEIGHBOUR: 'it returns false'. Refute it at one input. -/
def cdepAllWrong : ChangeSpec := { name := "cdepAll", fn := fun _ => fun
  | [d1, d2, d3] => { results := [.lit (.bool false)], args := [d1, d2, d3] }
  | _ => none }
def CdepAllWrongFalsely : Prop := cdepAllRow.holds Tryz.pinned (OpenSpec.ofChange cdepAllWrong)

/- THE SECOND FORM. 'bulk': how many values and letters a reading holds, each counted each time it is reached (what is shared counts as often as it is met; a slice's spare places count too). A statement '..UptoSaid' is the law's where the arguments, and the package variables that the reading takes, are together of bulk at most 1048576: NARROWER than '..Said'. Prove '..Said' where nothing that the law and all that it calls make is longer than what came in: it says more and counts as full. Else prove '..UptoSaid'. A law counts once. -/
mutual
def uptoBulk {H : Type} : DataW H → Nat
  | .lit (.string bytes) => bytes.length + 1
  | .lit _ => 1
  | .nil => 1
  | .ptr d => uptoBulk d + 1
  | .slice elems spare => uptoBulkAll elems + uptoBulkAll spare + 1
  | .agg parts => uptoBulkAll parts + 1
  | .iface _ d => uptoBulk d + 1
  | .map entries => uptoBulkEntries entries + 1
  | .held _ => 1
def uptoBulkAll {H : Type} : List (DataW H) → Nat
  | [] => 0
  | d :: r => uptoBulk d + uptoBulkAll r
def uptoBulkEntries {H : Type} : List (Lit × DataW H) → Nat
  | [] => 0
  | x :: r => uptoBulkEntry x + uptoBulkEntries r
def uptoBulkEntry {H : Type} : Lit × DataW H → Nat
  | (.string bytes, d) => bytes.length + uptoBulk d + 1
  | (_, d) => uptoBulk d + 1
 end
def uptoSmall : (H : Type) → List (DataW H) → Bool := fun _ ds => decide (uptoBulkAll ds ≤ 1048576)
def OpenSpec.upto (s : _root_.Go.ChangeSpec) : _root_.Go.OpenSpec := { _root_.Go.OpenSpec.ofChange s with cond := some uptoSmall }

/-- 'whittlerlaw15.CfgFirst', WHERE WHAT IT READS IS OF BULK AT MOST 1048576: true; the input reads as it did. -/
def cfgFirstUptoRow : OpenClaim := { program := "ytabdfngdamikiaagreat", sum := "efa018573dd83d4e542f7d1d033fd8f474f53a8fa12b8b09f22a2b8e6f62f5db", func := "whittler/whittlerlaw15.CfgFirst", spec := "cfgFirst", inPlace := ["slices.overlaps[int]"], unfollowed := true, recurses := true, loops := true, apart := false, narrowed := true }
def CfgFirstUptoSaid : Prop := cfgFirstUptoRow.holds Tryz.pinned (OpenSpec.upto cfgFirstSpec)

/-- 'whittlerlaw15.CfgKinds', WHERE WHAT IT READS IS OF BULK AT MOST 1048576: true; the input reads as it did. -/
def cfgKindsUptoRow : OpenClaim := { program := "ytabdfngdamikiaagreat", sum := "efa018573dd83d4e542f7d1d033fd8f474f53a8fa12b8b09f22a2b8e6f62f5db", func := "whittler/whittlerlaw15.CfgKinds", spec := "cfgKinds", inPlace := ["slices.overlaps[int]"], unfollowed := true, recurses := true, loops := true, apart := false, narrowed := true }
def CfgKindsUptoSaid : Prop := cfgKindsUptoRow.holds Tryz.pinned (OpenSpec.upto cfgKindsSpec)

/-- 'whittlerlaw15.CfgSwap', WHERE WHAT IT READS IS OF BULK AT MOST 1048576: true; the input reads as it did. -/
def cfgSwapUptoRow : OpenClaim := { program := "ytabdfngdamikiaagreat", sum := "efa018573dd83d4e542f7d1d033fd8f474f53a8fa12b8b09f22a2b8e6f62f5db", func := "whittler/whittlerlaw15.CfgSwap", spec := "cfgSwap", inPlace := ["slices.overlaps[int]"], unfollowed := true, recurses := true, loops := true, apart := false, narrowed := true }
def CfgSwapUptoSaid : Prop := cfgSwapUptoRow.holds Tryz.pinned (OpenSpec.upto cfgSwapSpec)

/-- 'whittlerlaw15.CfgAll', WHERE WHAT IT READS IS OF BULK AT MOST 1048576: true; the input reads as it did. -/
def cfgAllUptoRow : OpenClaim := { program := "ytabdfngdamikiaagreat", sum := "efa018573dd83d4e542f7d1d033fd8f474f53a8fa12b8b09f22a2b8e6f62f5db", func := "whittler/whittlerlaw15.CfgAll", spec := "cfgAll", inPlace := ["slices.overlaps[int]"], unfollowed := true, recurses := true, loops := true, apart := false, narrowed := true }
def CfgAllUptoSaid : Prop := cfgAllUptoRow.holds Tryz.pinned (OpenSpec.upto cfgAllSpec)

/-- 'whittlerlaw15.CfgFree', WHERE WHAT IT READS IS OF BULK AT MOST 1048576: true; the input reads as it did. -/
def cfgFreeUptoRow : OpenClaim := { program := "ytabdfngdamikiaagreat", sum := "efa018573dd83d4e542f7d1d033fd8f474f53a8fa12b8b09f22a2b8e6f62f5db", func := "whittler/whittlerlaw15.CfgFree", spec := "cfgFree", inPlace := ["slices.overlaps[int]"], unfollowed := true, recurses := true, loops := true, apart := false, narrowed := true }
def CfgFreeUptoSaid : Prop := cfgFreeUptoRow.holds Tryz.pinned (OpenSpec.upto cfgFreeSpec)

/-- 'whittlerlaw15.CfgEnds', WHERE WHAT IT READS IS OF BULK AT MOST 1048576: true; the input reads as it did. -/
def cfgEndsUptoRow : OpenClaim := { program := "ytabdfngdamikiaagreat", sum := "efa018573dd83d4e542f7d1d033fd8f474f53a8fa12b8b09f22a2b8e6f62f5db", func := "whittler/whittlerlaw15.CfgEnds", spec := "cfgEnds", inPlace := ["slices.overlaps[int]"], unfollowed := true, recurses := true, loops := true, apart := false, narrowed := true }
def CfgEndsUptoSaid : Prop := cfgEndsUptoRow.holds Tryz.pinned (OpenSpec.upto cfgEndsSpec)

/-- 'whittlerlaw16.AugFree', WHERE WHAT IT READS IS OF BULK AT MOST 1048576: true; the input reads as it did. -/
def augFreeUptoRow : OpenClaim := { program := "ytabdfngdamikiaagreat", sum := "efa018573dd83d4e542f7d1d033fd8f474f53a8fa12b8b09f22a2b8e6f62f5db", func := "whittler/whittlerlaw16.AugFree", spec := "augFree", inPlace := ["slices.overlaps[int]"], unfollowed := true, recurses := true, loops := true, apart := false, narrowed := true }
def AugFreeUptoSaid : Prop := augFreeUptoRow.holds Tryz.pinned (OpenSpec.upto augFreeSpec)

/-- 'whittlerlaw16.AugExit', WHERE WHAT IT READS IS OF BULK AT MOST 1048576: true; the input reads as it did. -/
def augExitUptoRow : OpenClaim := { program := "ytabdfngdamikiaagreat", sum := "efa018573dd83d4e542f7d1d033fd8f474f53a8fa12b8b09f22a2b8e6f62f5db", func := "whittler/whittlerlaw16.AugExit", spec := "augExit", inPlace := ["slices.overlaps[int]"], unfollowed := true, recurses := true, loops := true, apart := false, narrowed := true }
def AugExitUptoSaid : Prop := augExitUptoRow.holds Tryz.pinned (OpenSpec.upto augExitSpec)

/-- 'whittlerlaw16.AugAll', WHERE WHAT IT READS IS OF BULK AT MOST 1048576: true; the input reads as it did. -/
def augAllUptoRow : OpenClaim := { program := "ytabdfngdamikiaagreat", sum := "efa018573dd83d4e542f7d1d033fd8f474f53a8fa12b8b09f22a2b8e6f62f5db", func := "whittler/whittlerlaw16.AugAll", spec := "augAll", inPlace := ["slices.overlaps[int]"], unfollowed := true, recurses := true, loops := true, apart := false, narrowed := true }
def AugAllUptoSaid : Prop := augAllUptoRow.holds Tryz.pinned (OpenSpec.upto augAllSpec)

/-- 'whittlerlaw16.AugTrap', WHERE WHAT IT READS IS OF BULK AT MOST 1048576: true; the input reads as it did. -/
def augTrapUptoRow : OpenClaim := { program := "ytabdfngdamikiaagreat", sum := "efa018573dd83d4e542f7d1d033fd8f474f53a8fa12b8b09f22a2b8e6f62f5db", func := "whittler/whittlerlaw16.AugTrap", spec := "augTrap", inPlace := ["slices.overlaps[int]"], unfollowed := true, recurses := true, loops := true, apart := false, narrowed := true }
def AugTrapUptoSaid : Prop := augTrapUptoRow.holds Tryz.pinned (OpenSpec.upto augTrapSpec)

/-- 'whittlerlaw16.AugMore', WHERE WHAT IT READS IS OF BULK AT MOST 1048576: true; the input reads as it did. -/
def augMoreUptoRow : OpenClaim := { program := "ytabdfngdamikiaagreat", sum := "efa018573dd83d4e542f7d1d033fd8f474f53a8fa12b8b09f22a2b8e6f62f5db", func := "whittler/whittlerlaw16.AugMore", spec := "augMore", inPlace := ["slices.overlaps[int]"], unfollowed := true, recurses := true, loops := true, apart := false, narrowed := true }
def AugMoreUptoSaid : Prop := augMoreUptoRow.holds Tryz.pinned (OpenSpec.upto augMoreSpec)

/-- 'whittlerlaw18.CdepAll', WHERE WHAT IT READS IS OF BULK AT MOST 1048576: true; the input reads as it did. -/
def cdepAllUptoRow : OpenClaim := { program := "ytabdfngdamikiaagreat", sum := "efa018573dd83d4e542f7d1d033fd8f474f53a8fa12b8b09f22a2b8e6f62f5db", func := "whittler/whittlerlaw18.CdepAll", spec := "cdepAll", inPlace := ["slices.overlaps[int]"], unfollowed := true, recurses := true, loops := true, apart := false, narrowed := true }
def CdepAllUptoSaid : Prop := cdepAllUptoRow.holds Tryz.pinned (OpenSpec.upto cdepAllSpec)

end Rows
end Go.Proofs.YtabdfngdamikiaaGreat
