/-
  NARROWER THAN 'FOR EVERY INPUT', by the rows' own cells (each row's printed sentence says how): SdgHas: loops · SdgEnds: loops · SdgJoins: loops · SdgProcs: loops.
  DERIVED. THE GIVEN ROWS OF THIS SEAT. 4 by the template 'for every input the law returns true; each argument reads behind the call as it read before'; 0 by the template 'total and deterministic' (their statements: YtgpjfppgphaobaaGreatTotals.lean).
  GIVEN WITH THE SEED: the statements are not yours to turn. If you find one false, say at which input.
  Laid BY PROGRAM, IN A SANDBOX (cutbox-rows.mjs): the forced cells as the released guide's own fill.sh prints them over the translation d24f699d6380f7d6… (all of the seat's roots in one cut). By AI agents, Wed Nov 11 2026. No macro, syntax, notation, axiom, sorry.
-/
import Derived.Test.YtgpjfppgphaobaaGreatChecked
import GoSem.Claim
import GoSem.ClaimJoined
import GoSem.ClaimMapViews
import Derived.JoinedTies
import Derived.KernelRfl
namespace Go.Proofs.YtgpjfppgphaobaaGreat
/- THE CELL 'sum', in the pinned program and in every row, IS THE sha256 OF THE DUMP (.gsa) THAT YtgpjfppgphaobaaGreatProg.lean LOADS. Nothing in Lean hashes anything: it is a label: what it is worth is what the hold of that sum in a sandbox is worth. -/
noncomputable def Tryz.pinned : Pinned := { name := "ytgpjfppgphaobaagreat", sum := "d24f699d6380f7d6dfccae51598633306015decfb0828606b3f26da163b00db8", checked := Tryz.checked }
namespace Rows
def none {H : Type} : Left H := { results := [], args := [] }

/-- 'whittlerlaw23.SdgHas': WHATEVER THE INPUT: true; the input reads as it did. -/
def sdgHasSpec : ChangeSpec := { name := "sdgHas", fn := fun _ => fun
  | [d1, d2, d3] => { results := [.lit (.bool true)], args := [d1, d2, d3] }
  | _ => none }
def sdgHasRow : OpenClaim := { program := "ytgpjfppgphaobaagreat", sum := "d24f699d6380f7d6dfccae51598633306015decfb0828606b3f26da163b00db8", func := "whittler/whittlerlaw23.SdgHas", spec := "sdgHas", inPlace := ["slices.overlaps[int]"], unfollowed := true, recurses := true, loops := true, plainKeys := false, apart := false }
def SdgHasSaid : Prop := sdgHasRow.holds Tryz.pinned (OpenSpec.ofChange sdgHasSpec)

/-- ITS FALSE NEIGHBOUR: 'it returns false'. Refute it at one input. -/
def sdgHasWrong : ChangeSpec := { name := "sdgHas", fn := fun _ => fun
  | [d1, d2, d3] => { results := [.lit (.bool false)], args := [d1, d2, d3] }
  | _ => none }
def SdgHasWrongFalsely : Prop := sdgHasRow.holds Tryz.pinned (OpenSpec.ofChange sdgHasWrong)

/-- 'whittlerlaw23.SdgEnds': WHATEVER THE INPUT: true; the input reads as it did. -/
def sdgEndsSpec : ChangeSpec := { name := "sdgEnds", fn := fun _ => fun
  | [d1, d2] => { results := [.lit (.bool true)], args := [d1, d2] }
  | _ => none }
def sdgEndsRow : OpenClaim := { program := "ytgpjfppgphaobaagreat", sum := "d24f699d6380f7d6dfccae51598633306015decfb0828606b3f26da163b00db8", func := "whittler/whittlerlaw23.SdgEnds", spec := "sdgEnds", inPlace := ["slices.overlaps[int]"], unfollowed := true, recurses := true, loops := true, plainKeys := false, apart := false }
def SdgEndsSaid : Prop := sdgEndsRow.holds Tryz.pinned (OpenSpec.ofChange sdgEndsSpec)

/-- ITS FALSE NEIGHBOUR: 'it returns false'. Refute it at one input. -/
def sdgEndsWrong : ChangeSpec := { name := "sdgEnds", fn := fun _ => fun
  | [d1, d2] => { results := [.lit (.bool false)], args := [d1, d2] }
  | _ => none }
def SdgEndsWrongFalsely : Prop := sdgEndsRow.holds Tryz.pinned (OpenSpec.ofChange sdgEndsWrong)

/-- 'whittlerlaw23.SdgJoins': WHATEVER THE INPUT: true; the input reads as it did. -/
def sdgJoinsSpec : ChangeSpec := { name := "sdgJoins", fn := fun _ => fun
  | [d1, d2] => { results := [.lit (.bool true)], args := [d1, d2] }
  | _ => none }
def sdgJoinsRow : OpenClaim := { program := "ytgpjfppgphaobaagreat", sum := "d24f699d6380f7d6dfccae51598633306015decfb0828606b3f26da163b00db8", func := "whittler/whittlerlaw23.SdgJoins", spec := "sdgJoins", inPlace := ["slices.overlaps[int]"], unfollowed := true, recurses := true, loops := true, plainKeys := false, apart := false }
def SdgJoinsSaid : Prop := sdgJoinsRow.holds Tryz.pinned (OpenSpec.ofChange sdgJoinsSpec)

/-- ITS FALSE NEIGHBOUR: 'it returns false'. Refute it at one input. -/
def sdgJoinsWrong : ChangeSpec := { name := "sdgJoins", fn := fun _ => fun
  | [d1, d2] => { results := [.lit (.bool false)], args := [d1, d2] }
  | _ => none }
def SdgJoinsWrongFalsely : Prop := sdgJoinsRow.holds Tryz.pinned (OpenSpec.ofChange sdgJoinsWrong)

/-- 'whittlerlaw23.SdgProcs': WHATEVER THE INPUT: true; the input reads as it did. -/
def sdgProcsSpec : ChangeSpec := { name := "sdgProcs", fn := fun _ => fun
  | [d] => { results := [.lit (.bool true)], args := [d] }
  | _ => none }
def sdgProcsRow : OpenClaim := { program := "ytgpjfppgphaobaagreat", sum := "d24f699d6380f7d6dfccae51598633306015decfb0828606b3f26da163b00db8", func := "whittler/whittlerlaw23.SdgProcs", spec := "sdgProcs", inPlace := ["slices.overlaps[int]"], unfollowed := true, recurses := true, loops := true, plainKeys := false, apart := false }
def SdgProcsSaid : Prop := sdgProcsRow.holds Tryz.pinned (OpenSpec.ofChange sdgProcsSpec)

/-- ITS FALSE NEIGHBOUR: 'it returns false'. Refute it at one input. -/
def sdgProcsWrong : ChangeSpec := { name := "sdgProcs", fn := fun _ => fun
  | [d] => { results := [.lit (.bool false)], args := [d] }
  | _ => none }
def SdgProcsWrongFalsely : Prop := sdgProcsRow.holds Tryz.pinned (OpenSpec.ofChange sdgProcsWrong)

/- THE SECOND FORM. 'bulk': how many values and letters a reading holds, each counted each time it is reached (what is shared counts as often as it is met; a slice's spare places count too). A statement '..UptoSaid' is the law's where the arguments, and the package variables that the reading takes, are together of bulk at most 1048576: NARROWER than '..Said'. Prove '..Said' where nothing that the law and all that it calls make is longer than what came in: it says more and counts as full. Else prove '..UptoSaid'. A law counts once. -/
mutual
def uptoBulk {H : Type} : DataW H → Nat
  | .lit (.string bytes) => bytes.length + 1
  | .lit _ => 1
  | .nil => 1
  | .ptr d => uptoBulk d + 1
  | .slice elems spare => uptoBulkAll elems + uptoBulkAll spare + 1
  | .agg parts => uptoBulkAll parts + 1
  | .iface _ d => uptoBulk d + 1
  | .map entries => uptoBulkEntries entries + 1
  | .held _ => 1
def uptoBulkAll {H : Type} : List (DataW H) → Nat
  | [] => 0
  | d :: r => uptoBulk d + uptoBulkAll r
def uptoBulkEntries {H : Type} : List (Lit × DataW H) → Nat
  | [] => 0
  | x :: r => uptoBulkEntry x + uptoBulkEntries r
def uptoBulkEntry {H : Type} : Lit × DataW H → Nat
  | (.string bytes, d) => bytes.length + uptoBulk d + 1
  | (_, d) => uptoBulk d + 1
 end
def uptoSmall : (H : Type) → List (DataW H) → Bool := fun _ ds => decide (uptoBulkAll ds ≤ 1048576)
def OpenSpec.upto (s : _root_.Go.ChangeSpec) : _root_.Go.OpenSpec := { _root_.Go.OpenSpec.ofChange s with cond := some uptoSmall }

/-- 'whittlerlaw23.SdgHas', WHERE WHAT IT READS IS OF BULK AT MOST 1048576: true; the input reads as it did. -/
def sdgHasUptoRow : OpenClaim := { program := "ytgpjfppgphaobaagreat", sum := "d24f699d6380f7d6dfccae51598633306015decfb0828606b3f26da163b00db8", func := "whittler/whittlerlaw23.SdgHas", spec := "sdgHas", inPlace := ["slices.overlaps[int]"], unfollowed := true, recurses := true, loops := true, plainKeys := false, apart := false, narrowed := true }
def SdgHasUptoSaid : Prop := sdgHasUptoRow.holds Tryz.pinned (OpenSpec.upto sdgHasSpec)

/-- 'whittlerlaw23.SdgEnds', WHERE WHAT IT READS IS OF BULK AT MOST 1048576: true; the input reads as it did. -/
def sdgEndsUptoRow : OpenClaim := { program := "ytgpjfppgphaobaagreat", sum := "d24f699d6380f7d6dfccae51598633306015decfb0828606b3f26da163b00db8", func := "whittler/whittlerlaw23.SdgEnds", spec := "sdgEnds", inPlace := ["slices.overlaps[int]"], unfollowed := true, recurses := true, loops := true, plainKeys := false, apart := false, narrowed := true }
def SdgEndsUptoSaid : Prop := sdgEndsUptoRow.holds Tryz.pinned (OpenSpec.upto sdgEndsSpec)

/-- 'whittlerlaw23.SdgJoins', WHERE WHAT IT READS IS OF BULK AT MOST 1048576: true; the input reads as it did. -/
def sdgJoinsUptoRow : OpenClaim := { program := "ytgpjfppgphaobaagreat", sum := "d24f699d6380f7d6dfccae51598633306015decfb0828606b3f26da163b00db8", func := "whittler/whittlerlaw23.SdgJoins", spec := "sdgJoins", inPlace := ["slices.overlaps[int]"], unfollowed := true, recurses := true, loops := true, plainKeys := false, apart := false, narrowed := true }
def SdgJoinsUptoSaid : Prop := sdgJoinsUptoRow.holds Tryz.pinned (OpenSpec.upto sdgJoinsSpec)

/-- 'whittlerlaw23.SdgProcs', WHERE WHAT IT READS IS OF BULK AT MOST 1048576: true; the input reads as it did. -/
def sdgProcsUptoRow : OpenClaim := { program := "ytgpjfppgphaobaagreat", sum := "d24f699d6380f7d6dfccae51598633306015decfb0828606b3f26da163b00db8", func := "whittler/whittlerlaw23.SdgProcs", spec := "sdgProcs", inPlace := ["slices.overlaps[int]"], unfollowed := true, recurses := true, loops := true, plainKeys := false, apart := false, narrowed := true }
def SdgProcsUptoSaid : Prop := sdgProcsUptoRow.holds Tryz.pinned (OpenSpec.upto sdgProcsSpec)

end Rows
end Go.Proofs.YtgpjfppgphaobaaGreat
