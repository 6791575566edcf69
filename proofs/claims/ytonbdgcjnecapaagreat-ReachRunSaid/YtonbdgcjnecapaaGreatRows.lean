/-
  NARROWER THAN 'FOR EVERY INPUT', by the rows' own cells (each row's printed sentence says how): ReachAll: loops · ReachOuts: loops · ReachEnds: loops · ReachSome: loops · InoutKeeps: loops · InoutNeeds: loops · ReachRun: loops.
  DERIVED. THE GIVEN ROWS OF THIS SEAT. 7 by the template 'for every input the law returns true; each argument reads behind the call as it read before'; 0 by the template 'total and deterministic' (their statements: YtonbdgcjnecapaaGreatTotals.lean).
  GIVEN WITH THE SEED: the statements are not yours to turn. If you find one false, say at which input.
  Laid BY PROGRAM, IN A SANDBOX (cutbox-rows.mjs): the forced cells as the released guide's own fill.sh prints them over the translation 9ac865b7cc86a5c2… (all of the seat's roots in one cut). By AI agents, Wed Nov 11 2026. No macro, syntax, notation, axiom, sorry.
-/
import Derived.Test.YtonbdgcjnecapaaGreatChecked
import GoSem.Claim
import GoSem.ClaimJoined
import GoSem.ClaimMapViews
import Derived.JoinedTies
import Derived.KernelRfl
namespace Go.Proofs.YtonbdgcjnecapaaGreat
/- THE CELL 'sum', in the pinned program and in every row, IS THE sha256 OF THE DUMP (.gsa) THAT YtonbdgcjnecapaaGreatProg.lean LOADS. Nothing in Lean hashes anything: it is a label: what it is worth is what the hold of that sum in a sandbox is worth. -/
noncomputable def Tryz.pinned : Pinned := { name := "ytonbdgcjnecapaagreat", sum := "9ac865b7cc86a5c2bc98d00fbc65d65110b65d277d38b3260d72eb0f65debe2c", checked := Tryz.checked }
namespace Rows
def none {H : Type} : Left H := { results := [], args := [] }

/-- 'whittlerlaw21.ReachAll': WHATEVER THE INPUT: true; the input reads as it did. -/
def reachAllSpec : ChangeSpec := { name := "reachAll", fn := fun _ => fun
  | [d1, d2] => { results := [.lit (.bool true)], args := [d1, d2] }
  | _ => none }
def reachAllRow : OpenClaim := { program := "ytonbdgcjnecapaagreat", sum := "9ac865b7cc86a5c2bc98d00fbc65d65110b65d277d38b3260d72eb0f65debe2c", func := "whittler/whittlerlaw21.ReachAll", spec := "reachAll", inPlace := ["slices.overlaps[int]"], unfollowed := true, recurses := true, loops := true, apart := false }
def ReachAllSaid : Prop := reachAllRow.holds Tryz.pinned (OpenSpec.ofChange reachAllSpec)

/-- ITS FALSE NEIGHBOUR: 'it returns false'. Refute it at one input. -/
def reachAllWrong : ChangeSpec := { name := "reachAll", fn := fun _ => fun
  | [d1, d2] => { results := [.lit (.bool false)], args := [d1, d2] }
  | _ => none }
def ReachAllWrongFalsely : Prop := reachAllRow.holds Tryz.pinned (OpenSpec.ofChange reachAllWrong)

/-- 'whittlerlaw21.ReachOuts': WHATEVER THE INPUT: true; the input reads as it did. -/
def reachOutsSpec : ChangeSpec := { name := "reachOuts", fn := fun _ => fun
  | [d1, d2] => { results := [.lit (.bool true)], args := [d1, d2] }
  | _ => none }
def reachOutsRow : OpenClaim := { program := "ytonbdgcjnecapaagreat", sum := "9ac865b7cc86a5c2bc98d00fbc65d65110b65d277d38b3260d72eb0f65debe2c", func := "whittler/whittlerlaw21.ReachOuts", spec := "reachOuts", inPlace := ["slices.overlaps[int]"], unfollowed := true, recurses := true, loops := true, apart := false }
def ReachOutsSaid : Prop := reachOutsRow.holds Tryz.pinned (OpenSpec.ofChange reachOutsSpec)

/-- ITS FALSE NEIGHBOUR: 'it returns false'. Refute it at one input. -/
def reachOutsWrong : ChangeSpec := { name := "reachOuts", fn := fun _ => fun
  | [d1, d2] => { results := [.lit (.bool false)], args := [d1, d2] }
  | _ => none }
def ReachOutsWrongFalsely : Prop := reachOutsRow.holds Tryz.pinned (OpenSpec.ofChange reachOutsWrong)

/-- 'whittlerlaw21.ReachEnds': WHATEVER THE INPUT: true; the input reads as it did. -/
def reachEndsSpec : ChangeSpec := { name := "reachEnds", fn := fun _ => fun
  | [d1, d2] => { results := [.lit (.bool true)], args := [d1, d2] }
  | _ => none }
def reachEndsRow : OpenClaim := { program := "ytonbdgcjnecapaagreat", sum := "9ac865b7cc86a5c2bc98d00fbc65d65110b65d277d38b3260d72eb0f65debe2c", func := "whittler/whittlerlaw21.ReachEnds", spec := "reachEnds", inPlace := ["slices.overlaps[int]"], unfollowed := true, recurses := true, loops := true, apart := false }
def ReachEndsSaid : Prop := reachEndsRow.holds Tryz.pinned (OpenSpec.ofChange reachEndsSpec)

/-- ITS FALSE NEIGHBOUR: 'it returns false'. Refute it at one input. -/
def reachEndsWrong : ChangeSpec := { name := "reachEnds", fn := fun _ => fun
  | [d1, d2] => { results := [.lit (.bool false)], args := [d1, d2] }
  | _ => none }
def ReachEndsWrongFalsely : Prop := reachEndsRow.holds Tryz.pinned (OpenSpec.ofChange reachEndsWrong)

/-- 'whittlerlaw21.ReachSome': WHATEVER THE INPUT: true; the input reads as it did. -/
def reachSomeSpec : ChangeSpec := { name := "reachSome", fn := fun _ => fun
  | [d1, d2] => { results := [.lit (.bool true)], args := [d1, d2] }
  | _ => none }
def reachSomeRow : OpenClaim := { program := "ytonbdgcjnecapaagreat", sum := "9ac865b7cc86a5c2bc98d00fbc65d65110b65d277d38b3260d72eb0f65debe2c", func := "whittler/whittlerlaw21.ReachSome", spec := "reachSome", inPlace := ["slices.overlaps[int]"], unfollowed := true, recurses := true, loops := true, apart := false }
def ReachSomeSaid : Prop := reachSomeRow.holds Tryz.pinned (OpenSpec.ofChange reachSomeSpec)

/-- ITS FALSE NEIGHBOUR: 'it returns false'. Refute it at one input. -/
def reachSomeWrong : ChangeSpec := { name := "reachSome", fn := fun _ => fun
  | [d1, d2] => { results := [.lit (.bool false)], args := [d1, d2] }
  | _ => none }
def ReachSomeWrongFalsely : Prop := reachSomeRow.holds Tryz.pinned (OpenSpec.ofChange reachSomeWrong)

/-- 'whittlerlaw20.InoutKeeps': WHATEVER THE INPUT: true; the input reads as it did. -/
def inoutKeepsSpec : ChangeSpec := { name := "inoutKeeps", fn := fun _ => fun
  | [d1, d2, d3, d4] => { results := [.lit (.bool true)], args := [d1, d2, d3, d4] }
  | _ => none }
def inoutKeepsRow : OpenClaim := { program := "ytonbdgcjnecapaagreat", sum := "9ac865b7cc86a5c2bc98d00fbc65d65110b65d277d38b3260d72eb0f65debe2c", func := "whittler/whittlerlaw20.InoutKeeps", spec := "inoutKeeps", inPlace := ["slices.overlaps[int]"], unfollowed := true, recurses := true, loops := true, apart := false }
def InoutKeepsSaid : Prop := inoutKeepsRow.holds Tryz.pinned (OpenSpec.ofChange inoutKeepsSpec)

/-- ITS FALSE NEIGHBOUR: 'it returns false'. Refute it at one input. -/
def inoutKeepsWrong : ChangeSpec := { name := "inoutKeeps", fn := fun _ => fun
  | [d1, d2, d3, d4] => { results := [.lit (.bool false)], args := [d1, d2, d3, d4] }
  | _ => none }
def InoutKeepsWrongFalsely : Prop := inoutKeepsRow.holds Tryz.pinned (OpenSpec.ofChange inoutKeepsWrong)

/-- 'whittlerlaw20.InoutNeeds': WHATEVER THE INPUT: true; the input reads as it did. -/
def inoutNeedsSpec : ChangeSpec := { name := "inoutNeeds", fn := fun _ => fun
  | [d1, d2, d3, d4, d5, d6] => { results := [.lit (.bool true)], args := [d1, d2, d3, d4, d5, d6] }
  | _ => none }
def inoutNeedsRow : OpenClaim := { program := "ytonbdgcjnecapaagreat", sum := "9ac865b7cc86a5c2bc98d00fbc65d65110b65d277d38b3260d72eb0f65debe2c", func := "whittler/whittlerlaw20.InoutNeeds", spec := "inoutNeeds", inPlace := ["slices.overlaps[int]"], unfollowed := true, recurses := true, loops := true, apart := false }
def InoutNeedsSaid : Prop := inoutNeedsRow.holds Tryz.pinned (OpenSpec.ofChange inoutNeedsSpec)

/-- ITS FALSE NEIGHBOUR: 'it returns false'. Refute it at one input. -/
def inoutNeedsWrong : ChangeSpec := { name := "inoutNeeds", fn := fun _ => fun
  | [d1, d2, d3, d4, d5, d6] => { results := [.lit (.bool false)], args := [d1, d2, d3, d4, d5, d6] }
  | _ => none }
def InoutNeedsWrongFalsely : Prop := inoutNeedsRow.holds Tryz.pinned (OpenSpec.ofChange inoutNeedsWrong)

/-- 'whittlerlaw21.ReachRun': WHATEVER THE INPUT: true; the input reads as it did. -/
def reachRunSpec : ChangeSpec := { name := "reachRun", fn := fun _ => fun
  | [d1, d2, d3] => { results := [.lit (.bool true)], args := [d1, d2, d3] }
  | _ => none }
def reachRunRow : OpenClaim := { program := "ytonbdgcjnecapaagreat", sum := "9ac865b7cc86a5c2bc98d00fbc65d65110b65d277d38b3260d72eb0f65debe2c", func := "whittler/whittlerlaw21.ReachRun", spec := "reachRun", inPlace := ["slices.overlaps[int]"], unfollowed := true, recurses := true, loops := true, apart := false }
def ReachRunSaid : Prop := reachRunRow.holds Tryz.pinned (OpenSpec.ofChange reachRunSpec)

/-- ITS FALSE NEIGHBOUR: 'it returns false'. Refute it at one input. -/
def reachRunWrong : ChangeSpec := { name := "reachRun", fn := fun _ => fun
  | [d1, d2, d3] => { results := [.lit (.bool false)], args := [d1, d2, d3] }
  | _ => none }
def ReachRunWrongFalsely : Prop := reachRunRow.holds Tryz.pinned (OpenSpec.ofChange reachRunWrong)

/- THE SECOND FORM. 'bulk': how many values and letters a reading holds, each counted each time it is reached (what is shared counts as often as it is met; a slice's spare places count too). A statement '..UptoSaid' is the law's where the arguments, and the package variables that the reading takes, are together of bulk at most 1048576: NARROWER than '..Said'. Prove '..Said' where nothing that the law and all that it calls make is longer than what came in: it says more and counts as full. Else prove '..UptoSaid'. A law counts once. -/
mutual
def uptoBulk {H : Type} : DataW H → Nat
  | .lit (.string bytes) => bytes.length + 1
  | .lit _ => 1
  | .nil => 1
  | .ptr d => uptoBulk d + 1
  | .slice elems spare => uptoBulkAll elems + uptoBulkAll spare + 1
  | .agg parts => uptoBulkAll parts + 1
  | .iface _ d => uptoBulk d + 1
  | .map entries => uptoBulkEntries entries + 1
  | .held _ => 1
def uptoBulkAll {H : Type} : List (DataW H) → Nat
  | [] => 0
  | d :: r => uptoBulk d + uptoBulkAll r
def uptoBulkEntries {H : Type} : List (Lit × DataW H) → Nat
  | [] => 0
  | x :: r => uptoBulkEntry x + uptoBulkEntries r
def uptoBulkEntry {H : Type} : Lit × DataW H → Nat
  | (.string bytes, d) => bytes.length + uptoBulk d + 1
  | (_, d) => uptoBulk d + 1
 end
def uptoSmall : (H : Type) → List (DataW H) → Bool := fun _ ds => decide (uptoBulkAll ds ≤ 1048576)
def OpenSpec.upto (s : _root_.Go.ChangeSpec) : _root_.Go.OpenSpec := { _root_.Go.OpenSpec.ofChange s with cond := some uptoSmall }

/-- 'whittlerlaw21.ReachAll', WHERE WHAT IT READS IS OF BULK AT MOST 1048576: true; the input reads as it did. -/
def reachAllUptoRow : OpenClaim := { program := "ytonbdgcjnecapaagreat", sum := "9ac865b7cc86a5c2bc98d00fbc65d65110b65d277d38b3260d72eb0f65debe2c", func := "whittler/whittlerlaw21.ReachAll", spec := "reachAll", inPlace := ["slices.overlaps[int]"], unfollowed := true, recurses := true, loops := true, apart := false, narrowed := true }
def ReachAllUptoSaid : Prop := reachAllUptoRow.holds Tryz.pinned (OpenSpec.upto reachAllSpec)

/-- 'whittlerlaw21.ReachOuts', WHERE WHAT IT READS IS OF BULK AT MOST 1048576: true; the input reads as it did. -/
def reachOutsUptoRow : OpenClaim := { program := "ytonbdgcjnecapaagreat", sum := "9ac865b7cc86a5c2bc98d00fbc65d65110b65d277d38b3260d72eb0f65debe2c", func := "whittler/whittlerlaw21.ReachOuts", spec := "reachOuts", inPlace := ["slices.overlaps[int]"], unfollowed := true, recurses := true, loops := true, apart := false, narrowed := true }
def ReachOutsUptoSaid : Prop := reachOutsUptoRow.holds Tryz.pinned (OpenSpec.upto reachOutsSpec)

/-- 'whittlerlaw21.ReachEnds', WHERE WHAT IT READS IS OF BULK AT MOST 1048576: true; the input reads as it did. -/
def reachEndsUptoRow : OpenClaim := { program := "ytonbdgcjnecapaagreat", sum := "9ac865b7cc86a5c2bc98d00fbc65d65110b65d277d38b3260d72eb0f65debe2c", func := "whittler/whittlerlaw21.ReachEnds", spec := "reachEnds", inPlace := ["slices.overlaps[int]"], unfollowed := true, recurses := true, loops := true, apart := false, narrowed := true }
def ReachEndsUptoSaid : Prop := reachEndsUptoRow.holds Tryz.pinned (OpenSpec.upto reachEndsSpec)

/-- 'whittlerlaw21.ReachSome', WHERE WHAT IT READS IS OF BULK AT MOST 1048576: true; the input reads as it did. -/
def reachSomeUptoRow : OpenClaim := { program := "ytonbdgcjnecapaagreat", sum := "9ac865b7cc86a5c2bc98d00fbc65d65110b65d277d38b3260d72eb0f65debe2c", func := "whittler/whittlerlaw21.ReachSome", spec := "reachSome", inPlace := ["slices.overlaps[int]"], unfollowed := true, recurses := true, loops := true, apart := false, narrowed := true }
def ReachSomeUptoSaid : Prop := reachSomeUptoRow.holds Tryz.pinned (OpenSpec.upto reachSomeSpec)

/-- 'whittlerlaw20.InoutKeeps', WHERE WHAT IT READS IS OF BULK AT MOST 1048576: true; the input reads as it did. -/
def inoutKeepsUptoRow : OpenClaim := { program := "ytonbdgcjnecapaagreat", sum := "9ac865b7cc86a5c2bc98d00fbc65d65110b65d277d38b3260d72eb0f65debe2c", func := "whittler/whittlerlaw20.InoutKeeps", spec := "inoutKeeps", inPlace := ["slices.overlaps[int]"], unfollowed := true, recurses := true, loops := true, apart := false, narrowed := true }
def InoutKeepsUptoSaid : Prop := inoutKeepsUptoRow.holds Tryz.pinned (OpenSpec.upto inoutKeepsSpec)

/-- 'whittlerlaw20.InoutNeeds', WHERE WHAT IT READS IS OF BULK AT MOST 1048576: true; the input reads as it did. -/
def inoutNeedsUptoRow : OpenClaim := { program := "ytonbdgcjnecapaagreat", sum := "9ac865b7cc86a5c2bc98d00fbc65d65110b65d277d38b3260d72eb0f65debe2c", func := "whittler/whittlerlaw20.InoutNeeds", spec := "inoutNeeds", inPlace := ["slices.overlaps[int]"], unfollowed := true, recurses := true, loops := true, apart := false, narrowed := true }
def InoutNeedsUptoSaid : Prop := inoutNeedsUptoRow.holds Tryz.pinned (OpenSpec.upto inoutNeedsSpec)

/-- 'whittlerlaw21.ReachRun', WHERE WHAT IT READS IS OF BULK AT MOST 1048576: true; the input reads as it did. -/
def reachRunUptoRow : OpenClaim := { program := "ytonbdgcjnecapaagreat", sum := "9ac865b7cc86a5c2bc98d00fbc65d65110b65d277d38b3260d72eb0f65debe2c", func := "whittler/whittlerlaw21.ReachRun", spec := "reachRun", inPlace := ["slices.overlaps[int]"], unfollowed := true, recurses := true, loops := true, apart := false, narrowed := true }
def ReachRunUptoSaid : Prop := reachRunUptoRow.holds Tryz.pinned (OpenSpec.upto reachRunSpec)

end Rows
end Go.Proofs.YtonbdgcjnecapaaGreat
