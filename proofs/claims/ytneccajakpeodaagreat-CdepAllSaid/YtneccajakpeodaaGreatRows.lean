/-
  NARROWER THAN 'FOR EVERY INPUT', by the rows' own cells (each row's printed sentence says how): CfgAll: loops · AugAll: loops · CdepAll: loops · CdepFree: loops · InoutCall: loops · InoutTape: loops · DomAll: loops · DomChain: loops · DomTree: loops · DomWays: loops · CdepWho: loops · CdepSwap: loops.
  DERIVED. THE GIVEN ROWS OF THIS SEAT. 12 by the template 'for every input the law returns true; each argument reads behind the call as it read before'; 0 by the template 'total and deterministic' (their statements: YtneccajakpeodaaGreatTotals.lean).
  GIVEN WITH THE SEED: the statements are not yours to turn. If you find one false, say at which input.
  Laid BY PROGRAM, IN A SANDBOX (cutbox-rows.mjs): the forced cells as the released guide's own fill.sh prints them over the translation d98e038d2b05f720… (all of the seat's roots in one cut). By AI agents, Wed Nov 11 2026. No macro, syntax, notation, axiom, sorry.
-/
import Derived.Test.YtneccajakpeodaaGreatChecked
import GoSem.Claim
import GoSem.ClaimJoined
import GoSem.ClaimMapViews
import Derived.JoinedTies
import Derived.KernelRfl
namespace Go.Proofs.YtneccajakpeodaaGreat
/- THE CELL 'sum', in the pinned program and in every row, IS THE sha256 OF THE DUMP (.gsa) THAT YtneccajakpeodaaGreatProg.lean LOADS. Nothing in Lean hashes anything: it is a label: what it is worth is what the hold of that sum in a sandbox is worth. -/
noncomputable def Tryz.pinned : Pinned := { name := "ytneccajakpeodaagreat", sum := "d98e038d2b05f720756db1696cf684c6d0974a9ed570aa230728c2691f402448", checked := Tryz.checked }
namespace Rows
def none {H : Type} : Left H := { results := [], args := [] }

/-- 'whittlerlaw15.CfgAll': WHATEVER THE INPUT: true; the input reads as it did. -/
def cfgAllSpec : ChangeSpec := { name := "cfgAll", fn := fun _ => fun
  | [d1, d2, d3] => { results := [.lit (.bool true)], args := [d1, d2, d3] }
  | _ => none }
def cfgAllRow : OpenClaim := { program := "ytneccajakpeodaagreat", sum := "d98e038d2b05f720756db1696cf684c6d0974a9ed570aa230728c2691f402448", func := "whittler/whittlerlaw15.CfgAll", spec := "cfgAll", inPlace := ["slices.overlaps[int]"], unfollowed := true, recurses := true, loops := true, apart := false }
def CfgAllSaid : Prop := cfgAllRow.holds Tryz.pinned (OpenSpec.ofChange cfgAllSpec)

/-- ITS FALSE NEIGHBOUR: 'it returns false'. Refute it at one input. -/
def cfgAllWrong : ChangeSpec := { name := "cfgAll", fn := fun _ => fun
  | [d1, d2, d3] => { results := [.lit (.bool false)], args := [d1, d2, d3] }
  | _ => none }
def CfgAllWrongFalsely : Prop := cfgAllRow.holds Tryz.pinned (OpenSpec.ofChange cfgAllWrong)

/-- 'whittlerlaw16.AugAll': WHATEVER THE INPUT: true; the input reads as it did. -/
def augAllSpec : ChangeSpec := { name := "augAll", fn := fun _ => fun
  | [d1, d2] => { results := [.lit (.bool true)], args := [d1, d2] }
  | _ => none }
def augAllRow : OpenClaim := { program := "ytneccajakpeodaagreat", sum := "d98e038d2b05f720756db1696cf684c6d0974a9ed570aa230728c2691f402448", func := "whittler/whittlerlaw16.AugAll", spec := "augAll", inPlace := ["slices.overlaps[int]"], unfollowed := true, recurses := true, loops := true, apart := false }
def AugAllSaid : Prop := augAllRow.holds Tryz.pinned (OpenSpec.ofChange augAllSpec)

/-- ITS FALSE NEIGHBOUR: 'it returns false'. Refute it at one input. -/
def augAllWrong : ChangeSpec := { name := "augAll", fn := fun _ => fun
  | [d1, d2] => { results := [.lit (.bool false)], args := [d1, d2] }
  | _ => none }
def AugAllWrongFalsely : Prop := augAllRow.holds Tryz.pinned (OpenSpec.ofChange augAllWrong)

/-- 'whittlerlaw18.CdepAll': WHATEVER THE INPUT: true; the input reads as it did. -/
def cdepAllSpec : ChangeSpec := { name := "cdepAll", fn := fun _ => fun
  | [d1, d2, d3] => { results := [.lit (.bool true)], args := [d1, d2, d3] }
  | _ => none }
def cdepAllRow : OpenClaim := { program := "ytneccajakpeodaagreat", sum := "d98e038d2b05f720756db1696cf684c6d0974a9ed570aa230728c2691f402448", func := "whittler/whittlerlaw18.CdepAll", spec := "cdepAll", inPlace := ["slices.overlaps[int]"], unfollowed := true, recurses := true, loops := true, apart := false }
def CdepAllSaid : Prop := cdepAllRow.holds Tryz.pinned (OpenSpec.ofChange cdepAllSpec)

/-- ITS FALSE NEIGHBOUR: 'it returns false'. Refute it at one input. -/
def cdepAllWrong : ChangeSpec := { name := "cdepAll", fn := fun _ => fun
  | [d1, d2, d3] => { results := [.lit (.bool false)], args := [d1, d2, d3] }
  | _ => none }
def CdepAllWrongFalsely : Prop := cdepAllRow.holds Tryz.pinned (OpenSpec.ofChange cdepAllWrong)

/-- 'whittlerlaw18.CdepFree': WHATEVER THE INPUT: true; the input reads as it did. -/
def cdepFreeSpec : ChangeSpec := { name := "cdepFree", fn := fun _ => fun
  | [d1, d2] => { results := [.lit (.bool true)], args := [d1, d2] }
  | _ => none }
def cdepFreeRow : OpenClaim := { program := "ytneccajakpeodaagreat", sum := "d98e038d2b05f720756db1696cf684c6d0974a9ed570aa230728c2691f402448", func := "whittler/whittlerlaw18.CdepFree", spec := "cdepFree", inPlace := ["slices.overlaps[int]"], unfollowed := true, recurses := true, loops := true, apart := false }
def CdepFreeSaid : Prop := cdepFreeRow.holds Tryz.pinned (OpenSpec.ofChange cdepFreeSpec)

/-- ITS FALSE NEIGHBOUR: 'it returns false'. Refute it at one input. -/
def cdepFreeWrong : ChangeSpec := { name := "cdepFree", fn := fun _ => fun
  | [d1, d2] => { results := [.lit (.bool false)], args := [d1, d2] }
  | _ => none }
def CdepFreeWrongFalsely : Prop := cdepFreeRow.holds Tryz.pinned (OpenSpec.ofChange cdepFreeWrong)

/-- 'whittlerlaw20.InoutCall': WHATEVER THE INPUT: true; the input reads as it did. -/
def inoutCallSpec : ChangeSpec := { name := "inoutCall", fn := fun _ => fun
  | [d1, d2] => { results := [.lit (.bool true)], args := [d1, d2] }
  | _ => none }
def inoutCallRow : OpenClaim := { program := "ytneccajakpeodaagreat", sum := "d98e038d2b05f720756db1696cf684c6d0974a9ed570aa230728c2691f402448", func := "whittler/whittlerlaw20.InoutCall", spec := "inoutCall", inPlace := ["slices.overlaps[int]"], unfollowed := true, recurses := true, loops := true, apart := false }
def InoutCallSaid : Prop := inoutCallRow.holds Tryz.pinned (OpenSpec.ofChange inoutCallSpec)

/-- ITS FALSE NEIGHBOUR: 'it returns false'. Refute it at one input. -/
def inoutCallWrong : ChangeSpec := { name := "inoutCall", fn := fun _ => fun
  | [d1, d2] => { results := [.lit (.bool false)], args := [d1, d2] }
  | _ => none }
def InoutCallWrongFalsely : Prop := inoutCallRow.holds Tryz.pinned (OpenSpec.ofChange inoutCallWrong)

/-- 'whittlerlaw20.InoutTape': WHATEVER THE INPUT: true; the input reads as it did. -/
def inoutTapeSpec : ChangeSpec := { name := "inoutTape", fn := fun _ => fun
  | [d1, d2] => { results := [.lit (.bool true)], args := [d1, d2] }
  | _ => none }
def inoutTapeRow : OpenClaim := { program := "ytneccajakpeodaagreat", sum := "d98e038d2b05f720756db1696cf684c6d0974a9ed570aa230728c2691f402448", func := "whittler/whittlerlaw20.InoutTape", spec := "inoutTape", inPlace := ["slices.overlaps[int]"], unfollowed := true, recurses := true, loops := true, apart := false }
def InoutTapeSaid : Prop := inoutTapeRow.holds Tryz.pinned (OpenSpec.ofChange inoutTapeSpec)

/-- ITS FALSE NEIGHBOUR: 'it returns false'. Refute it at one input. -/
def inoutTapeWrong : ChangeSpec := { name := "inoutTape", fn := fun _ => fun
  | [d1, d2] => { results := [.lit (.bool false)], args := [d1, d2] }
  | _ => none }
def InoutTapeWrongFalsely : Prop := inoutTapeRow.holds Tryz.pinned (OpenSpec.ofChange inoutTapeWrong)

/-- 'whittlerlaw17.DomAll': WHATEVER THE INPUT: true; the input reads as it did. -/
def domAllSpec : ChangeSpec := { name := "domAll", fn := fun _ => fun
  | [d1, d2, d3] => { results := [.lit (.bool true)], args := [d1, d2, d3] }
  | _ => none }
def domAllRow : OpenClaim := { program := "ytneccajakpeodaagreat", sum := "d98e038d2b05f720756db1696cf684c6d0974a9ed570aa230728c2691f402448", func := "whittler/whittlerlaw17.DomAll", spec := "domAll", inPlace := ["slices.overlaps[int]"], unfollowed := true, recurses := true, loops := true, apart := false }
def DomAllSaid : Prop := domAllRow.holds Tryz.pinned (OpenSpec.ofChange domAllSpec)

/-- ITS FALSE NEIGHBOUR: 'it returns false'. Refute it at one input. -/
def domAllWrong : ChangeSpec := { name := "domAll", fn := fun _ => fun
  | [d1, d2, d3] => { results := [.lit (.bool false)], args := [d1, d2, d3] }
  | _ => none }
def DomAllWrongFalsely : Prop := domAllRow.holds Tryz.pinned (OpenSpec.ofChange domAllWrong)

/-- 'whittlerlaw17.DomChain': WHATEVER THE INPUT: true; the input reads as it did. -/
def domChainSpec : ChangeSpec := { name := "domChain", fn := fun _ => fun
  | [d1, d2, d3] => { results := [.lit (.bool true)], args := [d1, d2, d3] }
  | _ => none }
def domChainRow : OpenClaim := { program := "ytneccajakpeodaagreat", sum := "d98e038d2b05f720756db1696cf684c6d0974a9ed570aa230728c2691f402448", func := "whittler/whittlerlaw17.DomChain", spec := "domChain", inPlace := ["slices.overlaps[int]"], unfollowed := true, recurses := true, loops := true, apart := false }
def DomChainSaid : Prop := domChainRow.holds Tryz.pinned (OpenSpec.ofChange domChainSpec)

/-- ITS FALSE NEIGHBOUR: 'it returns false'. Refute it at one input. -/
def domChainWrong : ChangeSpec := { name := "domChain", fn := fun _ => fun
  | [d1, d2, d3] => { results := [.lit (.bool false)], args := [d1, d2, d3] }
  | _ => none }
def DomChainWrongFalsely : Prop := domChainRow.holds Tryz.pinned (OpenSpec.ofChange domChainWrong)

/-- 'whittlerlaw17.DomTree': WHATEVER THE INPUT: true; the input reads as it did. -/
def domTreeSpec : ChangeSpec := { name := "domTree", fn := fun _ => fun
  | [d1, d2, d3] => { results := [.lit (.bool true)], args := [d1, d2, d3] }
  | _ => none }
def domTreeRow : OpenClaim := { program := "ytneccajakpeodaagreat", sum := "d98e038d2b05f720756db1696cf684c6d0974a9ed570aa230728c2691f402448", func := "whittler/whittlerlaw17.DomTree", spec := "domTree", inPlace := ["slices.overlaps[int]"], unfollowed := true, recurses := true, loops := true, apart := false }
def DomTreeSaid : Prop := domTreeRow.holds Tryz.pinned (OpenSpec.ofChange domTreeSpec)

/-- ITS FALSE NEIGHBOUR: 'it returns false'. Refute it at one input. -/
def domTreeWrong : ChangeSpec := { name := "domTree", fn := fun _ => fun
  | [d1, d2, d3] => { results := [.lit (.bool false)], args := [d1, d2, d3] }
  | _ => none }
def DomTreeWrongFalsely : Prop := domTreeRow.holds Tryz.pinned (OpenSpec.ofChange domTreeWrong)

/-- 'whittlerlaw17.DomWays': WHATEVER THE INPUT: true; the input reads as it did. -/
def domWaysSpec : ChangeSpec := { name := "domWays", fn := fun _ => fun
  | [d1, d2, d3, d4] => { results := [.lit (.bool true)], args := [d1, d2, d3, d4] }
  | _ => none }
def domWaysRow : OpenClaim := { program := "ytneccajakpeodaagreat", sum := "d98e038d2b05f720756db1696cf684c6d0974a9ed570aa230728c2691f402448", func := "whittler/whittlerlaw17.DomWays", spec := "domWays", inPlace := ["slices.overlaps[int]"], unfollowed := true, recurses := true, loops := true, apart := false }
def DomWaysSaid : Prop := domWaysRow.holds Tryz.pinned (OpenSpec.ofChange domWaysSpec)

/-- ITS FALSE NEIGHBOUR: 'it returns false'. Refute it at one input. -/
def domWaysWrong : ChangeSpec := { name := "domWays", fn := fun _ => fun
  | [d1, d2, d3, d4] => { results := [.lit (.bool false)], args := [d1, d2, d3, d4] }
  | _ => none }
def DomWaysWrongFalsely : Prop := domWaysRow.holds Tryz.pinned (OpenSpec.ofChange domWaysWrong)

/-- 'whittlerlaw18.CdepWho': WHATEVER THE INPUT: true; the input reads as it did. -/
def cdepWhoSpec : ChangeSpec := { name := "cdepWho", fn := fun _ => fun
  | [d1, d2] => { results := [.lit (.bool true)], args := [d1, d2] }
  | _ => none }
def cdepWhoRow : OpenClaim := { program := "ytneccajakpeodaagreat", sum := "d98e038d2b05f720756db1696cf684c6d0974a9ed570aa230728c2691f402448", func := "whittler/whittlerlaw18.CdepWho", spec := "cdepWho", inPlace := ["slices.overlaps[int]"], unfollowed := true, recurses := true, loops := true, apart := false }
def CdepWhoSaid : Prop := cdepWhoRow.holds Tryz.pinned (OpenSpec.ofChange cdepWhoSpec)

/-- ITS FALSE NEIGHBOUR: 'it returns false'. Refute it at one input. -/
def cdepWhoWrong : ChangeSpec := { name := "cdepWho", fn := fun _ => fun
  | [d1, d2] => { results := [.lit (.bool false)], args := [d1, d2] }
  | _ => none }
def CdepWhoWrongFalsely : Prop := cdepWhoRow.holds Tryz.pinned (OpenSpec.ofChange cdepWhoWrong)

/-- 'whittlerlaw18.CdepSwap': WHATEVER THE INPUT: true; the input reads as it did. -/
def cdepSwapSpec : ChangeSpec := { name := "cdepSwap", fn := fun _ => fun
  | [d1, d2, d3, d4] => { results := [.lit (.bool true)], args := [d1, d2, d3, d4] }
  | _ => none }
def cdepSwapRow : OpenClaim := { program := "ytneccajakpeodaagreat", sum := "d98e038d2b05f720756db1696cf684c6d0974a9ed570aa230728c2691f402448", func := "whittler/whittlerlaw18.CdepSwap", spec := "cdepSwap", inPlace := ["slices.overlaps[int]"], unfollowed := true, recurses := true, loops := true, apart := false }
def CdepSwapSaid : Prop := cdepSwapRow.holds Tryz.pinned (OpenSpec.ofChange cdepSwapSpec)

/-- ITS FALSE NEIGHBOUR: 'it returns false'. Refute it at one input. -/
def cdepSwapWrong : ChangeSpec := { name := "cdepSwap", fn := fun _ => fun
  | [d1, d2, d3, d4] => { results := [.lit (.bool false)], args := [d1, d2, d3, d4] }
  | _ => none }
def CdepSwapWrongFalsely : Prop := cdepSwapRow.holds Tryz.pinned (OpenSpec.ofChange cdepSwapWrong)

/- THE SECOND FORM. 'bulk': how many values and letters a reading holds, each counted each time it is reached (what is shared counts as often as it is met; a slice's spare places count too). A statement '..UptoSaid' is the law's where the arguments, and the package variables that the reading takes, are together of bulk at most 1048576: NARROWER than '..Said'. Prove '..Said' where nothing that the law and all that it calls make is longer than what came in: it says more and counts as full. Else prove '..UptoSaid'. A law counts once. -/
mutual
def uptoBulk {H : Type} : DataW H → Nat
  | .lit (.string bytes) => bytes.length + 1
  | .lit _ => 1
  | .nil => 1
  | .ptr d => uptoBulk d + 1
  | .slice elems spare => uptoBulkAll elems + uptoBulkAll spare + 1
  | .agg parts => uptoBulkAll parts + 1
  | .iface _ d => uptoBulk d + 1
  | .map entries => uptoBulkEntries entries + 1
  | .held _ => 1
def uptoBulkAll {H : Type} : List (DataW H) → Nat
  | [] => 0
  | d :: r => uptoBulk d + uptoBulkAll r
def uptoBulkEntries {H : Type} : List (Lit × DataW H) → Nat
  | [] => 0
  | x :: r => uptoBulkEntry x + uptoBulkEntries r
def uptoBulkEntry {H : Type} : Lit × DataW H → Nat
  | (.string bytes, d) => bytes.length + uptoBulk d + 1
  | (_, d) => uptoBulk d + 1
 end
def uptoSmall : (H : Type) → List (DataW H) → Bool := fun _ ds => decide (uptoBulkAll ds ≤ 1048576)
def OpenSpec.upto (s : _root_.Go.ChangeSpec) : _root_.Go.OpenSpec := { _root_.Go.OpenSpec.ofChange s with cond := some uptoSmall }

/-- 'whittlerlaw15.CfgAll', WHERE WHAT IT READS IS OF BULK AT MOST 1048576: true; the input reads as it did. -/
def cfgAllUptoRow : OpenClaim := { program := "ytneccajakpeodaagreat", sum := "d98e038d2b05f720756db1696cf684c6d0974a9ed570aa230728c2691f402448", func := "whittler/whittlerlaw15.CfgAll", spec := "cfgAll", inPlace := ["slices.overlaps[int]"], unfollowed := true, recurses := true, loops := true, apart := false, narrowed := true }
def CfgAllUptoSaid : Prop := cfgAllUptoRow.holds Tryz.pinned (OpenSpec.upto cfgAllSpec)

/-- 'whittlerlaw16.AugAll', WHERE WHAT IT READS IS OF BULK AT MOST 1048576: true; the input reads as it did. -/
def augAllUptoRow : OpenClaim := { program := "ytneccajakpeodaagreat", sum := "d98e038d2b05f720756db1696cf684c6d0974a9ed570aa230728c2691f402448", func := "whittler/whittlerlaw16.AugAll", spec := "augAll", inPlace := ["slices.overlaps[int]"], unfollowed := true, recurses := true, loops := true, apart := false, narrowed := true }
def AugAllUptoSaid : Prop := augAllUptoRow.holds Tryz.pinned (OpenSpec.upto augAllSpec)

/-- 'whittlerlaw18.CdepAll', WHERE WHAT IT READS IS OF BULK AT MOST 1048576: true; the input reads as it did. -/
def cdepAllUptoRow : OpenClaim := { program := "ytneccajakpeodaagreat", sum := "d98e038d2b05f720756db1696cf684c6d0974a9ed570aa230728c2691f402448", func := "whittler/whittlerlaw18.CdepAll", spec := "cdepAll", inPlace := ["slices.overlaps[int]"], unfollowed := true, recurses := true, loops := true, apart := false, narrowed := true }
def CdepAllUptoSaid : Prop := cdepAllUptoRow.holds Tryz.pinned (OpenSpec.upto cdepAllSpec)

/-- 'whittlerlaw18.CdepFree', WHERE WHAT IT READS IS OF BULK AT MOST 1048576: true; the input reads as it did. -/
def cdepFreeUptoRow : OpenClaim := { program := "ytneccajakpeodaagreat", sum := "d98e038d2b05f720756db1696cf684c6d0974a9ed570aa230728c2691f402448", func := "whittler/whittlerlaw18.CdepFree", spec := "cdepFree", inPlace := ["slices.overlaps[int]"], unfollowed := true, recurses := true, loops := true, apart := false, narrowed := true }
def CdepFreeUptoSaid : Prop := cdepFreeUptoRow.holds Tryz.pinned (OpenSpec.upto cdepFreeSpec)

/-- 'whittlerlaw20.InoutCall', WHERE WHAT IT READS IS OF BULK AT MOST 1048576: true; the input reads as it did. -/
def inoutCallUptoRow : OpenClaim := { program := "ytneccajakpeodaagreat", sum := "d98e038d2b05f720756db1696cf684c6d0974a9ed570aa230728c2691f402448", func := "whittler/whittlerlaw20.InoutCall", spec := "inoutCall", inPlace := ["slices.overlaps[int]"], unfollowed := true, recurses := true, loops := true, apart := false, narrowed := true }
def InoutCallUptoSaid : Prop := inoutCallUptoRow.holds Tryz.pinned (OpenSpec.upto inoutCallSpec)

/-- 'whittlerlaw20.InoutTape', WHERE WHAT IT READS IS OF BULK AT MOST 1048576: true; the input reads as it did. -/
def inoutTapeUptoRow : OpenClaim := { program := "ytneccajakpeodaagreat", sum := "d98e038d2b05f720756db1696cf684c6d0974a9ed570aa230728c2691f402448", func := "whittler/whittlerlaw20.InoutTape", spec := "inoutTape", inPlace := ["slices.overlaps[int]"], unfollowed := true, recurses := true, loops := true, apart := false, narrowed := true }
def InoutTapeUptoSaid : Prop := inoutTapeUptoRow.holds Tryz.pinned (OpenSpec.upto inoutTapeSpec)

/-- 'whittlerlaw17.DomAll', WHERE WHAT IT READS IS OF BULK AT MOST 1048576: true; the input reads as it did. -/
def domAllUptoRow : OpenClaim := { program := "ytneccajakpeodaagreat", sum := "d98e038d2b05f720756db1696cf684c6d0974a9ed570aa230728c2691f402448", func := "whittler/whittlerlaw17.DomAll", spec := "domAll", inPlace := ["slices.overlaps[int]"], unfollowed := true, recurses := true, loops := true, apart := false, narrowed := true }
def DomAllUptoSaid : Prop := domAllUptoRow.holds Tryz.pinned (OpenSpec.upto domAllSpec)

/-- 'whittlerlaw17.DomChain', WHERE WHAT IT READS IS OF BULK AT MOST 1048576: true; the input reads as it did. -/
def domChainUptoRow : OpenClaim := { program := "ytneccajakpeodaagreat", sum := "d98e038d2b05f720756db1696cf684c6d0974a9ed570aa230728c2691f402448", func := "whittler/whittlerlaw17.DomChain", spec := "domChain", inPlace := ["slices.overlaps[int]"], unfollowed := true, recurses := true, loops := true, apart := false, narrowed := true }
def DomChainUptoSaid : Prop := domChainUptoRow.holds Tryz.pinned (OpenSpec.upto domChainSpec)

/-- 'whittlerlaw17.DomTree', WHERE WHAT IT READS IS OF BULK AT MOST 1048576: true; the input reads as it did. -/
def domTreeUptoRow : OpenClaim := { program := "ytneccajakpeodaagreat", sum := "d98e038d2b05f720756db1696cf684c6d0974a9ed570aa230728c2691f402448", func := "whittler/whittlerlaw17.DomTree", spec := "domTree", inPlace := ["slices.overlaps[int]"], unfollowed := true, recurses := true, loops := true, apart := false, narrowed := true }
def DomTreeUptoSaid : Prop := domTreeUptoRow.holds Tryz.pinned (OpenSpec.upto domTreeSpec)

/-- 'whittlerlaw17.DomWays', WHERE WHAT IT READS IS OF BULK AT MOST 1048576: true; the input reads as it did. -/
def domWaysUptoRow : OpenClaim := { program := "ytneccajakpeodaagreat", sum := "d98e038d2b05f720756db1696cf684c6d0974a9ed570aa230728c2691f402448", func := "whittler/whittlerlaw17.DomWays", spec := "domWays", inPlace := ["slices.overlaps[int]"], unfollowed := true, recurses := true, loops := true, apart := false, narrowed := true }
def DomWaysUptoSaid : Prop := domWaysUptoRow.holds Tryz.pinned (OpenSpec.upto domWaysSpec)

/-- 'whittlerlaw18.CdepWho', WHERE WHAT IT READS IS OF BULK AT MOST 1048576: true; the input reads as it did. -/
def cdepWhoUptoRow : OpenClaim := { program := "ytneccajakpeodaagreat", sum := "d98e038d2b05f720756db1696cf684c6d0974a9ed570aa230728c2691f402448", func := "whittler/whittlerlaw18.CdepWho", spec := "cdepWho", inPlace := ["slices.overlaps[int]"], unfollowed := true, recurses := true, loops := true, apart := false, narrowed := true }
def CdepWhoUptoSaid : Prop := cdepWhoUptoRow.holds Tryz.pinned (OpenSpec.upto cdepWhoSpec)

/-- 'whittlerlaw18.CdepSwap', WHERE WHAT IT READS IS OF BULK AT MOST 1048576: true; the input reads as it did. -/
def cdepSwapUptoRow : OpenClaim := { program := "ytneccajakpeodaagreat", sum := "d98e038d2b05f720756db1696cf684c6d0974a9ed570aa230728c2691f402448", func := "whittler/whittlerlaw18.CdepSwap", spec := "cdepSwap", inPlace := ["slices.overlaps[int]"], unfollowed := true, recurses := true, loops := true, apart := false, narrowed := true }
def CdepSwapUptoSaid : Prop := cdepSwapUptoRow.holds Tryz.pinned (OpenSpec.upto cdepSwapSpec)

end Rows
end Go.Proofs.YtneccajakpeodaaGreat
