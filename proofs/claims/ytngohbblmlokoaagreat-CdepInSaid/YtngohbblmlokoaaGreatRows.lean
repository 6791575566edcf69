/-
  NARROWER THAN 'FOR EVERY INPUT', by the rows' own cells (each row's printed sentence says how): CfgSwap: loops · CfgAll: loops · CfgFree: loops · AugFree: loops · CdepIn: loops · CdepEntry: loops · CdepFree: loops · CdepWho: loops · CdepSwap: loops · DomChain: loops · DomTree: loops · DomWays: loops.
  DERIVED. THE GIVEN ROWS OF THIS SEAT. 12 by the template 'for every input the law returns true; each argument reads behind the call as it read before'; 0 by the template 'total and deterministic' (their statements: YtngohbblmlokoaaGreatTotals.lean).
  GIVEN WITH THE SEED: the statements are not yours to turn. If you find one false, say at which input.
  Laid BY PROGRAM, IN A SANDBOX (cutbox-rows.mjs): the forced cells as the released guide's own fill.sh prints them over the translation 282fb38dd2cb9562… (all of the seat's roots in one cut). By AI agents, Wed Nov 11 2026. No macro, syntax, notation, axiom, sorry.
-/
import Derived.Test.YtngohbblmlokoaaGreatChecked
import GoSem.Claim
import GoSem.ClaimJoined
import GoSem.ClaimMapViews
import Derived.JoinedTies
import Derived.KernelRfl
namespace Go.Proofs.YtngohbblmlokoaaGreat
/- THE CELL 'sum', in the pinned program and in every row, IS THE sha256 OF THE DUMP (.gsa) THAT YtngohbblmlokoaaGreatProg.lean LOADS. Nothing in Lean hashes anything: it is a label: what it is worth is what the hold of that sum in a sandbox is worth. -/
noncomputable def Tryz.pinned : Pinned := { name := "ytngohbblmlokoaagreat", sum := "282fb38dd2cb9562d12270d0d13d1948679f7bf3c1ea8da5e75d2a8e96bf3f56", checked := Tryz.checked }
namespace Rows
def none {H : Type} : Left H := { results := [], args := [] }

/-- 'whittlerlaw15.CfgSwap': WHATEVER THE INPUT: true; the input reads as it did. -/
def cfgSwapSpec : ChangeSpec := { name := "cfgSwap", fn := fun _ => fun
  | [d1, d2, d3, d4, d5] => { results := [.lit (.bool true)], args := [d1, d2, d3, d4, d5] }
  | _ => none }
def cfgSwapRow : OpenClaim := { program := "ytngohbblmlokoaagreat", sum := "282fb38dd2cb9562d12270d0d13d1948679f7bf3c1ea8da5e75d2a8e96bf3f56", func := "whittler/whittlerlaw15.CfgSwap", spec := "cfgSwap", inPlace := ["slices.overlaps[int]"], unfollowed := true, recurses := true, loops := true, apart := false }
def CfgSwapSaid : Prop := cfgSwapRow.holds Tryz.pinned (OpenSpec.ofChange cfgSwapSpec)

/-- ITS FALSE NEIGHBOUR: 'it returns false'. Refute it at one input. -/
def cfgSwapWrong : ChangeSpec := { name := "cfgSwap", fn := fun _ => fun
  | [d1, d2, d3, d4, d5] => { results := [.lit (.bool false)], args := [d1, d2, d3, d4, d5] }
  | _ => none }
def CfgSwapWrongFalsely : Prop := cfgSwapRow.holds Tryz.pinned (OpenSpec.ofChange cfgSwapWrong)

/-- 'whittlerlaw15.CfgAll': WHATEVER THE INPUT: true; the input reads as it did. -/
def cfgAllSpec : ChangeSpec := { name := "cfgAll", fn := fun _ => fun
  | [d1, d2, d3] => { results := [.lit (.bool true)], args := [d1, d2, d3] }
  | _ => none }
def cfgAllRow : OpenClaim := { program := "ytngohbblmlokoaagreat", sum := "282fb38dd2cb9562d12270d0d13d1948679f7bf3c1ea8da5e75d2a8e96bf3f56", func := "whittler/whittlerlaw15.CfgAll", spec := "cfgAll", inPlace := ["slices.overlaps[int]"], unfollowed := true, recurses := true, loops := true, apart := false }
def CfgAllSaid : Prop := cfgAllRow.holds Tryz.pinned (OpenSpec.ofChange cfgAllSpec)

/-- ITS FALSE NEIGHBOUR: 'it returns false'. Refute it at one input. -/
def cfgAllWrong : ChangeSpec := { name := "cfgAll", fn := fun _ => fun
  | [d1, d2, d3] => { results := [.lit (.bool false)], args := [d1, d2, d3] }
  | _ => none }
def CfgAllWrongFalsely : Prop := cfgAllRow.holds Tryz.pinned (OpenSpec.ofChange cfgAllWrong)

/-- 'whittlerlaw15.CfgFree': WHATEVER THE INPUT: true; the input reads as it did. -/
def cfgFreeSpec : ChangeSpec := { name := "cfgFree", fn := fun _ => fun
  | [d] => { results := [.lit (.bool true)], args := [d] }
  | _ => none }
def cfgFreeRow : OpenClaim := { program := "ytngohbblmlokoaagreat", sum := "282fb38dd2cb9562d12270d0d13d1948679f7bf3c1ea8da5e75d2a8e96bf3f56", func := "whittler/whittlerlaw15.CfgFree", spec := "cfgFree", inPlace := ["slices.overlaps[int]"], unfollowed := true, recurses := true, loops := true, apart := false }
def CfgFreeSaid : Prop := cfgFreeRow.holds Tryz.pinned (OpenSpec.ofChange cfgFreeSpec)

/-- ITS FALSE NEIGHBOUR: 'it returns false'. Refute it at one input. -/
def cfgFreeWrong : ChangeSpec := { name := "cfgFree", fn := fun _ => fun
  | [d] => { results := [.lit (.bool false)], args := [d] }
  | _ => none }
def CfgFreeWrongFalsely : Prop := cfgFreeRow.holds Tryz.pinned (OpenSpec.ofChange cfgFreeWrong)

/-- 'whittlerlaw16.AugFree': WHATEVER THE INPUT: true; the input reads as it did. -/
def augFreeSpec : ChangeSpec := { name := "augFree", fn := fun _ => fun
  | [d] => { results := [.lit (.bool true)], args := [d] }
  | _ => none }
def augFreeRow : OpenClaim := { program := "ytngohbblmlokoaagreat", sum := "282fb38dd2cb9562d12270d0d13d1948679f7bf3c1ea8da5e75d2a8e96bf3f56", func := "whittler/whittlerlaw16.AugFree", spec := "augFree", inPlace := ["slices.overlaps[int]"], unfollowed := true, recurses := true, loops := true, apart := false }
def AugFreeSaid : Prop := augFreeRow.holds Tryz.pinned (OpenSpec.ofChange augFreeSpec)

/-- ITS FALSE NEIGHBOUR: 'it returns false'. Refute it at one input. -/
def augFreeWrong : ChangeSpec := { name := "augFree", fn := fun _ => fun
  | [d] => { results := [.lit (.bool false)], args := [d] }
  | _ => none }
def AugFreeWrongFalsely : Prop := augFreeRow.holds Tryz.pinned (OpenSpec.ofChange augFreeWrong)

/-- 'whittlerlaw18.CdepIn': WHATEVER THE INPUT: true; the input reads as it did. -/
def cdepInSpec : ChangeSpec := { name := "cdepIn", fn := fun _ => fun
  | [d1, d2] => { results := [.lit (.bool true)], args := [d1, d2] }
  | _ => none }
def cdepInRow : OpenClaim := { program := "ytngohbblmlokoaagreat", sum := "282fb38dd2cb9562d12270d0d13d1948679f7bf3c1ea8da5e75d2a8e96bf3f56", func := "whittler/whittlerlaw18.CdepIn", spec := "cdepIn", inPlace := ["slices.overlaps[int]"], unfollowed := true, recurses := true, loops := true, apart := false }
def CdepInSaid : Prop := cdepInRow.holds Tryz.pinned (OpenSpec.ofChange cdepInSpec)

/-- ITS FALSE NEIGHBOUR: 'it returns false'. Refute it at one input. -/
def cdepInWrong : ChangeSpec := { name := "cdepIn", fn := fun _ => fun
  | [d1, d2] => { results := [.lit (.bool false)], args := [d1, d2] }
  | _ => none }
def CdepInWrongFalsely : Prop := cdepInRow.holds Tryz.pinned (OpenSpec.ofChange cdepInWrong)

/-- 'whittlerlaw18.CdepEntry': WHATEVER THE INPUT: true; the input reads as it did. -/
def cdepEntrySpec : ChangeSpec := { name := "cdepEntry", fn := fun _ => fun
  | [d1, d2] => { results := [.lit (.bool true)], args := [d1, d2] }
  | _ => none }
def cdepEntryRow : OpenClaim := { program := "ytngohbblmlokoaagreat", sum := "282fb38dd2cb9562d12270d0d13d1948679f7bf3c1ea8da5e75d2a8e96bf3f56", func := "whittler/whittlerlaw18.CdepEntry", spec := "cdepEntry", inPlace := ["slices.overlaps[int]"], unfollowed := true, recurses := true, loops := true, apart := false }
def CdepEntrySaid : Prop := cdepEntryRow.holds Tryz.pinned (OpenSpec.ofChange cdepEntrySpec)

/-- ITS FALSE NEIGHBOUR: 'it returns false'. Refute it at one input. -/
def cdepEntryWrong : ChangeSpec := { name := "cdepEntry", fn := fun _ => fun
  | [d1, d2] => { results := [.lit (.bool false)], args := [d1, d2] }
  | _ => none }
def CdepEntryWrongFalsely : Prop := cdepEntryRow.holds Tryz.pinned (OpenSpec.ofChange cdepEntryWrong)

/-- 'whittlerlaw18.CdepFree': WHATEVER THE INPUT: true; the input reads as it did. -/
def cdepFreeSpec : ChangeSpec := { name := "cdepFree", fn := fun _ => fun
  | [d1, d2] => { results := [.lit (.bool true)], args := [d1, d2] }
  | _ => none }
def cdepFreeRow : OpenClaim := { program := "ytngohbblmlokoaagreat", sum := "282fb38dd2cb9562d12270d0d13d1948679f7bf3c1ea8da5e75d2a8e96bf3f56", func := "whittler/whittlerlaw18.CdepFree", spec := "cdepFree", inPlace := ["slices.overlaps[int]"], unfollowed := true, recurses := true, loops := true, apart := false }
def CdepFreeSaid : Prop := cdepFreeRow.holds Tryz.pinned (OpenSpec.ofChange cdepFreeSpec)

/-- ITS FALSE NEIGHBOUR: 'it returns false'. Refute it at one input. -/
def cdepFreeWrong : ChangeSpec := { name := "cdepFree", fn := fun _ => fun
  | [d1, d2] => { results := [.lit (.bool false)], args := [d1, d2] }
  | _ => none }
def CdepFreeWrongFalsely : Prop := cdepFreeRow.holds Tryz.pinned (OpenSpec.ofChange cdepFreeWrong)

/-- 'whittlerlaw18.CdepWho': WHATEVER THE INPUT: true; the input reads as it did. -/
def cdepWhoSpec : ChangeSpec := { name := "cdepWho", fn := fun _ => fun
  | [d1, d2] => { results := [.lit (.bool true)], args := [d1, d2] }
  | _ => none }
def cdepWhoRow : OpenClaim := { program := "ytngohbblmlokoaagreat", sum := "282fb38dd2cb9562d12270d0d13d1948679f7bf3c1ea8da5e75d2a8e96bf3f56", func := "whittler/whittlerlaw18.CdepWho", spec := "cdepWho", inPlace := ["slices.overlaps[int]"], unfollowed := true, recurses := true, loops := true, apart := false }
def CdepWhoSaid : Prop := cdepWhoRow.holds Tryz.pinned (OpenSpec.ofChange cdepWhoSpec)

/-- ITS FALSE NEIGHBOUR: 'it returns false'. Refute it at one input. -/
def cdepWhoWrong : ChangeSpec := { name := "cdepWho", fn := fun _ => fun
  | [d1, d2] => { results := [.lit (.bool false)], args := [d1, d2] }
  | _ => none }
def CdepWhoWrongFalsely : Prop := cdepWhoRow.holds Tryz.pinned (OpenSpec.ofChange cdepWhoWrong)

/-- 'whittlerlaw18.CdepSwap': WHATEVER THE INPUT: true; the input reads as it did. -/
def cdepSwapSpec : ChangeSpec := { name := "cdepSwap", fn := fun _ => fun
  | [d1, d2, d3, d4] => { results := [.lit (.bool true)], args := [d1, d2, d3, d4] }
  | _ => none }
def cdepSwapRow : OpenClaim := { program := "ytngohbblmlokoaagreat", sum := "282fb38dd2cb9562d12270d0d13d1948679f7bf3c1ea8da5e75d2a8e96bf3f56", func := "whittler/whittlerlaw18.CdepSwap", spec := "cdepSwap", inPlace := ["slices.overlaps[int]"], unfollowed := true, recurses := true, loops := true, apart := false }
def CdepSwapSaid : Prop := cdepSwapRow.holds Tryz.pinned (OpenSpec.ofChange cdepSwapSpec)

/-- ITS FALSE NEIGHBOUR: 'it returns false'. Refute it at one input. -/
def cdepSwapWrong : ChangeSpec := { name := "cdepSwap", fn := fun _ => fun
  | [d1, d2, d3, d4] => { results := [.lit (.bool false)], args := [d1, d2, d3, d4] }
  | _ => none }
def CdepSwapWrongFalsely : Prop := cdepSwapRow.holds Tryz.pinned (OpenSpec.ofChange cdepSwapWrong)

/-- 'whittlerlaw17.DomChain': WHATEVER THE INPUT: true; the input reads as it did. -/
def domChainSpec : ChangeSpec := { name := "domChain", fn := fun _ => fun
  | [d1, d2, d3] => { results := [.lit (.bool true)], args := [d1, d2, d3] }
  | _ => none }
def domChainRow : OpenClaim := { program := "ytngohbblmlokoaagreat", sum := "282fb38dd2cb9562d12270d0d13d1948679f7bf3c1ea8da5e75d2a8e96bf3f56", func := "whittler/whittlerlaw17.DomChain", spec := "domChain", inPlace := ["slices.overlaps[int]"], unfollowed := true, recurses := true, loops := true, apart := false }
def DomChainSaid : Prop := domChainRow.holds Tryz.pinned (OpenSpec.ofChange domChainSpec)

/-- ITS FALSE NEIGHBOUR: 'it returns false'. Refute it at one input. -/
def domChainWrong : ChangeSpec := { name := "domChain", fn := fun _ => fun
  | [d1, d2, d3] => { results := [.lit (.bool false)], args := [d1, d2, d3] }
  | _ => none }
def DomChainWrongFalsely : Prop := domChainRow.holds Tryz.pinned (OpenSpec.ofChange domChainWrong)

/-- 'whittlerlaw17.DomTree': WHATEVER THE INPUT: true; the input reads as it did. -/
def domTreeSpec : ChangeSpec := { name := "domTree", fn := fun _ => fun
  | [d1, d2, d3] => { results := [.lit (.bool true)], args := [d1, d2, d3] }
  | _ => none }
def domTreeRow : OpenClaim := { program := "ytngohbblmlokoaagreat", sum := "282fb38dd2cb9562d12270d0d13d1948679f7bf3c1ea8da5e75d2a8e96bf3f56", func := "whittler/whittlerlaw17.DomTree", spec := "domTree", inPlace := ["slices.overlaps[int]"], unfollowed := true, recurses := true, loops := true, apart := false }
def DomTreeSaid : Prop := domTreeRow.holds Tryz.pinned (OpenSpec.ofChange domTreeSpec)

/-- ITS FALSE NEIGHBOUR: 'it returns false'. Refute it at one input. -/
def domTreeWrong : ChangeSpec := { name := "domTree", fn := fun _ => fun
  | [d1, d2, d3] => { results := [.lit (.bool false)], args := [d1, d2, d3] }
  | _ => none }
def DomTreeWrongFalsely : Prop := domTreeRow.holds Tryz.pinned (OpenSpec.ofChange domTreeWrong)

/-- 'whittlerlaw17.DomWays': WHATEVER THE INPUT: true; the input reads as it did. -/
def domWaysSpec : ChangeSpec := { name := "domWays", fn := fun _ => fun
  | [d1, d2, d3, d4] => { results := [.lit (.bool true)], args := [d1, d2, d3, d4] }
  | _ => none }
def domWaysRow : OpenClaim := { program := "ytngohbblmlokoaagreat", sum := "282fb38dd2cb9562d12270d0d13d1948679f7bf3c1ea8da5e75d2a8e96bf3f56", func := "whittler/whittlerlaw17.DomWays", spec := "domWays", inPlace := ["slices.overlaps[int]"], unfollowed := true, recurses := true, loops := true, apart := false }
def DomWaysSaid : Prop := domWaysRow.holds Tryz.pinned (OpenSpec.ofChange domWaysSpec)

/-- ITS FALSE NEIGHBOUR: 'it returns false'. Refute it at one input. -/
def domWaysWrong : ChangeSpec := { name := "domWays", fn := fun _ => fun
  | [d1, d2, d3, d4] => { results := [.lit (.bool false)], args := [d1, d2, d3, d4] }
  | _ => none }
def DomWaysWrongFalsely : Prop := domWaysRow.holds Tryz.pinned (OpenSpec.ofChange domWaysWrong)

/- THE SECOND FORM. 'bulk': how many values and letters a reading holds, each counted each time it is reached (what is shared counts as often as it is met; a slice's spare places count too). A statement '..UptoSaid' is the law's where the arguments, and the package variables that the reading takes, are together of bulk at most 1048576: NARROWER than '..Said'. Prove '..Said' where nothing that the law and all that it calls make is longer than what came in: it says more and counts as full. Else prove '..UptoSaid'. A law counts once. -/
mutual
def uptoBulk {H : Type} : DataW H → Nat
  | .lit (.string bytes) => bytes.length + 1
  | .lit _ => 1
  | .nil => 1
  | .ptr d => uptoBulk d + 1
  | .slice elems spare => uptoBulkAll elems + uptoBulkAll spare + 1
  | .agg parts => uptoBulkAll parts + 1
  | .iface _ d => uptoBulk d + 1
  | .map entries => uptoBulkEntries entries + 1
  | .held _ => 1
def uptoBulkAll {H : Type} : List (DataW H) → Nat
  | [] => 0
  | d :: r => uptoBulk d + uptoBulkAll r
def uptoBulkEntries {H : Type} : List (Lit × DataW H) → Nat
  | [] => 0
  | x :: r => uptoBulkEntry x + uptoBulkEntries r
def uptoBulkEntry {H : Type} : Lit × DataW H → Nat
  | (.string bytes, d) => bytes.length + uptoBulk d + 1
  | (_, d) => uptoBulk d + 1
 end
def uptoSmall : (H : Type) → List (DataW H) → Bool := fun _ ds => decide (uptoBulkAll ds ≤ 1048576)
def OpenSpec.upto (s : _root_.Go.ChangeSpec) : _root_.Go.OpenSpec := { _root_.Go.OpenSpec.ofChange s with cond := some uptoSmall }

/-- 'whittlerlaw15.CfgSwap', WHERE WHAT IT READS IS OF BULK AT MOST 1048576: true; the input reads as it did. -/
def cfgSwapUptoRow : OpenClaim := { program := "ytngohbblmlokoaagreat", sum := "282fb38dd2cb9562d12270d0d13d1948679f7bf3c1ea8da5e75d2a8e96bf3f56", func := "whittler/whittlerlaw15.CfgSwap", spec := "cfgSwap", inPlace := ["slices.overlaps[int]"], unfollowed := true, recurses := true, loops := true, apart := false, narrowed := true }
def CfgSwapUptoSaid : Prop := cfgSwapUptoRow.holds Tryz.pinned (OpenSpec.upto cfgSwapSpec)

/-- 'whittlerlaw15.CfgAll', WHERE WHAT IT READS IS OF BULK AT MOST 1048576: true; the input reads as it did. -/
def cfgAllUptoRow : OpenClaim := { program := "ytngohbblmlokoaagreat", sum := "282fb38dd2cb9562d12270d0d13d1948679f7bf3c1ea8da5e75d2a8e96bf3f56", func := "whittler/whittlerlaw15.CfgAll", spec := "cfgAll", inPlace := ["slices.overlaps[int]"], unfollowed := true, recurses := true, loops := true, apart := false, narrowed := true }
def CfgAllUptoSaid : Prop := cfgAllUptoRow.holds Tryz.pinned (OpenSpec.upto cfgAllSpec)

/-- 'whittlerlaw15.CfgFree', WHERE WHAT IT READS IS OF BULK AT MOST 1048576: true; the input reads as it did. -/
def cfgFreeUptoRow : OpenClaim := { program := "ytngohbblmlokoaagreat", sum := "282fb38dd2cb9562d12270d0d13d1948679f7bf3c1ea8da5e75d2a8e96bf3f56", func := "whittler/whittlerlaw15.CfgFree", spec := "cfgFree", inPlace := ["slices.overlaps[int]"], unfollowed := true, recurses := true, loops := true, apart := false, narrowed := true }
def CfgFreeUptoSaid : Prop := cfgFreeUptoRow.holds Tryz.pinned (OpenSpec.upto cfgFreeSpec)

/-- 'whittlerlaw16.AugFree', WHERE WHAT IT READS IS OF BULK AT MOST 1048576: true; the input reads as it did. -/
def augFreeUptoRow : OpenClaim := { program := "ytngohbblmlokoaagreat", sum := "282fb38dd2cb9562d12270d0d13d1948679f7bf3c1ea8da5e75d2a8e96bf3f56", func := "whittler/whittlerlaw16.AugFree", spec := "augFree", inPlace := ["slices.overlaps[int]"], unfollowed := true, recurses := true, loops := true, apart := false, narrowed := true }
def AugFreeUptoSaid : Prop := augFreeUptoRow.holds Tryz.pinned (OpenSpec.upto augFreeSpec)

/-- 'whittlerlaw18.CdepIn', WHERE WHAT IT READS IS OF BULK AT MOST 1048576: true; the input reads as it did. -/
def cdepInUptoRow : OpenClaim := { program := "ytngohbblmlokoaagreat", sum := "282fb38dd2cb9562d12270d0d13d1948679f7bf3c1ea8da5e75d2a8e96bf3f56", func := "whittler/whittlerlaw18.CdepIn", spec := "cdepIn", inPlace := ["slices.overlaps[int]"], unfollowed := true, recurses := true, loops := true, apart := false, narrowed := true }
def CdepInUptoSaid : Prop := cdepInUptoRow.holds Tryz.pinned (OpenSpec.upto cdepInSpec)

/-- 'whittlerlaw18.CdepEntry', WHERE WHAT IT READS IS OF BULK AT MOST 1048576: true; the input reads as it did. -/
def cdepEntryUptoRow : OpenClaim := { program := "ytngohbblmlokoaagreat", sum := "282fb38dd2cb9562d12270d0d13d1948679f7bf3c1ea8da5e75d2a8e96bf3f56", func := "whittler/whittlerlaw18.CdepEntry", spec := "cdepEntry", inPlace := ["slices.overlaps[int]"], unfollowed := true, recurses := true, loops := true, apart := false, narrowed := true }
def CdepEntryUptoSaid : Prop := cdepEntryUptoRow.holds Tryz.pinned (OpenSpec.upto cdepEntrySpec)

/-- 'whittlerlaw18.CdepFree', WHERE WHAT IT READS IS OF BULK AT MOST 1048576: true; the input reads as it did. -/
def cdepFreeUptoRow : OpenClaim := { program := "ytngohbblmlokoaagreat", sum := "282fb38dd2cb9562d12270d0d13d1948679f7bf3c1ea8da5e75d2a8e96bf3f56", func := "whittler/whittlerlaw18.CdepFree", spec := "cdepFree", inPlace := ["slices.overlaps[int]"], unfollowed := true, recurses := true, loops := true, apart := false, narrowed := true }
def CdepFreeUptoSaid : Prop := cdepFreeUptoRow.holds Tryz.pinned (OpenSpec.upto cdepFreeSpec)

/-- 'whittlerlaw18.CdepWho', WHERE WHAT IT READS IS OF BULK AT MOST 1048576: true; the input reads as it did. -/
def cdepWhoUptoRow : OpenClaim := { program := "ytngohbblmlokoaagreat", sum := "282fb38dd2cb9562d12270d0d13d1948679f7bf3c1ea8da5e75d2a8e96bf3f56", func := "whittler/whittlerlaw18.CdepWho", spec := "cdepWho", inPlace := ["slices.overlaps[int]"], unfollowed := true, recurses := true, loops := true, apart := false, narrowed := true }
def CdepWhoUptoSaid : Prop := cdepWhoUptoRow.holds Tryz.pinned (OpenSpec.upto cdepWhoSpec)

/-- 'whittlerlaw18.CdepSwap', WHERE WHAT IT READS IS OF BULK AT MOST 1048576: true; the input reads as it did. -/
def cdepSwapUptoRow : OpenClaim := { program := "ytngohbblmlokoaagreat", sum := "282fb38dd2cb9562d12270d0d13d1948679f7bf3c1ea8da5e75d2a8e96bf3f56", func := "whittler/whittlerlaw18.CdepSwap", spec := "cdepSwap", inPlace := ["slices.overlaps[int]"], unfollowed := true, recurses := true, loops := true, apart := false, narrowed := true }
def CdepSwapUptoSaid : Prop := cdepSwapUptoRow.holds Tryz.pinned (OpenSpec.upto cdepSwapSpec)

/-- 'whittlerlaw17.DomChain', WHERE WHAT IT READS IS OF BULK AT MOST 1048576: true; the input reads as it did. -/
def domChainUptoRow : OpenClaim := { program := "ytngohbblmlokoaagreat", sum := "282fb38dd2cb9562d12270d0d13d1948679f7bf3c1ea8da5e75d2a8e96bf3f56", func := "whittler/whittlerlaw17.DomChain", spec := "domChain", inPlace := ["slices.overlaps[int]"], unfollowed := true, recurses := true, loops := true, apart := false, narrowed := true }
def DomChainUptoSaid : Prop := domChainUptoRow.holds Tryz.pinned (OpenSpec.upto domChainSpec)

/-- 'whittlerlaw17.DomTree', WHERE WHAT IT READS IS OF BULK AT MOST 1048576: true; the input reads as it did. -/
def domTreeUptoRow : OpenClaim := { program := "ytngohbblmlokoaagreat", sum := "282fb38dd2cb9562d12270d0d13d1948679f7bf3c1ea8da5e75d2a8e96bf3f56", func := "whittler/whittlerlaw17.DomTree", spec := "domTree", inPlace := ["slices.overlaps[int]"], unfollowed := true, recurses := true, loops := true, apart := false, narrowed := true }
def DomTreeUptoSaid : Prop := domTreeUptoRow.holds Tryz.pinned (OpenSpec.upto domTreeSpec)

/-- 'whittlerlaw17.DomWays', WHERE WHAT IT READS IS OF BULK AT MOST 1048576: true; the input reads as it did. -/
def domWaysUptoRow : OpenClaim := { program := "ytngohbblmlokoaagreat", sum := "282fb38dd2cb9562d12270d0d13d1948679f7bf3c1ea8da5e75d2a8e96bf3f56", func := "whittler/whittlerlaw17.DomWays", spec := "domWays", inPlace := ["slices.overlaps[int]"], unfollowed := true, recurses := true, loops := true, apart := false, narrowed := true }
def DomWaysUptoSaid : Prop := domWaysUptoRow.holds Tryz.pinned (OpenSpec.upto domWaysSpec)

end Rows
end Go.Proofs.YtngohbblmlokoaaGreat
