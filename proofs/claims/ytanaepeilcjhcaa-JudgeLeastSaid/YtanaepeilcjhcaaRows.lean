/-
  NARROWER THAN 'FOR EVERY INPUT', by the rows' own cells (each row's printed sentence says how): JudgeHolds: loops.
  DERIVED. THE GIVEN ROWS OF THIS SEAT. 8 by the template 'for every input the law returns true; each argument reads behind the call as it read before'; 0 by the template 'total and deterministic' (their statements: YtanaepeilcjhcaaTotals.lean).
  GIVEN WITH THE SEED: the statements are not yours to turn. If you find one false, say at which input.
  Laid BY PROGRAM, IN A SANDBOX (cutbox-rows.mjs): the forced cells as the released guide's own fill.sh prints them over the translation c7d742890e54b855… (all of the seat's roots in one cut). By AI agents, Wed Nov 11 2026. No macro, syntax, notation, axiom, sorry.
-/
import Derived.Test.YtanaepeilcjhcaaChecked
import GoSem.Claim
import GoSem.ClaimJoined
import GoSem.ClaimMapViews
import Derived.JoinedTies
import Derived.KernelRfl
namespace Go.Proofs.Ytanaepeilcjhcaa
/- THE CELL 'sum', in the pinned program and in every row, IS THE sha256 OF THE DUMP (.gsa) THAT YtanaepeilcjhcaaProg.lean LOADS. Nothing in Lean hashes anything: it is a label: what it is worth is what the hold of that sum in a sandbox is worth. -/
noncomputable def Try.pinned : Pinned := { name := "ytanaepeilcjhcaa", sum := "c7d742890e54b855d8f5eb8a2a548c3cc3056b98afaa76cdca8874e602fe1bd7", checked := Try.checked }
namespace Rows
def none {H : Type} : Left H := { results := [], args := [] }

/-- 'cabotagelaw22.JudgeChecks': WHATEVER THE INPUT: true; the input reads as it did. -/
def judgeChecksSpec : ChangeSpec := { name := "judgeChecks", fn := fun _ => fun
  | [d] => { results := [.lit (.bool true)], args := [d] }
  | _ => none }
def judgeChecksRow : OpenClaim := { program := "ytanaepeilcjhcaa", sum := "c7d742890e54b855d8f5eb8a2a548c3cc3056b98afaa76cdca8874e602fe1bd7", func := "cabotage/cabotagelaw22.JudgeChecks", spec := "judgeChecks", unfollowed := true, recurses := true, plainKeys := false, apart := false }
def JudgeChecksSaid : Prop := judgeChecksRow.holds Try.pinned (OpenSpec.ofChange judgeChecksSpec)

/-- ITS FALSE NEIGHBOUR: 'it returns false'. Refute it at one input. -/
def judgeChecksWrong : ChangeSpec := { name := "judgeChecks", fn := fun _ => fun
  | [d] => { results := [.lit (.bool false)], args := [d] }
  | _ => none }
def JudgeChecksWrongFalsely : Prop := judgeChecksRow.holds Try.pinned (OpenSpec.ofChange judgeChecksWrong)

/-- 'cabotagelaw22.JudgeTells': WHATEVER THE INPUT: true; the input reads as it did. -/
def judgeTellsSpec : ChangeSpec := { name := "judgeTells", fn := fun _ => fun
  | [d1, d2, d3] => { results := [.lit (.bool true)], args := [d1, d2, d3] }
  | _ => none }
def judgeTellsRow : OpenClaim := { program := "ytanaepeilcjhcaa", sum := "c7d742890e54b855d8f5eb8a2a548c3cc3056b98afaa76cdca8874e602fe1bd7", func := "cabotage/cabotagelaw22.JudgeTells", spec := "judgeTells", unfollowed := true, recurses := true, plainKeys := false, apart := false }
def JudgeTellsSaid : Prop := judgeTellsRow.holds Try.pinned (OpenSpec.ofChange judgeTellsSpec)

/-- ITS FALSE NEIGHBOUR: 'it returns false'. Refute it at one input. -/
def judgeTellsWrong : ChangeSpec := { name := "judgeTells", fn := fun _ => fun
  | [d1, d2, d3] => { results := [.lit (.bool false)], args := [d1, d2, d3] }
  | _ => none }
def JudgeTellsWrongFalsely : Prop := judgeTellsRow.holds Try.pinned (OpenSpec.ofChange judgeTellsWrong)

/-- 'cabotagelaw22.JudgeWeak': WHATEVER THE INPUT: true; the input reads as it did. -/
def judgeWeakSpec : ChangeSpec := { name := "judgeWeak", fn := fun _ => fun
  | [d1, d2] => { results := [.lit (.bool true)], args := [d1, d2] }
  | _ => none }
def judgeWeakRow : OpenClaim := { program := "ytanaepeilcjhcaa", sum := "c7d742890e54b855d8f5eb8a2a548c3cc3056b98afaa76cdca8874e602fe1bd7", func := "cabotage/cabotagelaw22.JudgeWeak", spec := "judgeWeak", unfollowed := true, recurses := true, plainKeys := false, apart := false }
def JudgeWeakSaid : Prop := judgeWeakRow.holds Try.pinned (OpenSpec.ofChange judgeWeakSpec)

/-- ITS FALSE NEIGHBOUR: 'it returns false'. Refute it at one input. -/
def judgeWeakWrong : ChangeSpec := { name := "judgeWeak", fn := fun _ => fun
  | [d1, d2] => { results := [.lit (.bool false)], args := [d1, d2] }
  | _ => none }
def JudgeWeakWrongFalsely : Prop := judgeWeakRow.holds Try.pinned (OpenSpec.ofChange judgeWeakWrong)

/-- 'cabotagelaw22.JudgeAlikes': WHATEVER THE INPUT: true; the input reads as it did. -/
def judgeAlikesSpec : ChangeSpec := { name := "judgeAlikes", fn := fun _ => fun
  | [d1, d2, d3] => { results := [.lit (.bool true)], args := [d1, d2, d3] }
  | _ => none }
def judgeAlikesRow : OpenClaim := { program := "ytanaepeilcjhcaa", sum := "c7d742890e54b855d8f5eb8a2a548c3cc3056b98afaa76cdca8874e602fe1bd7", func := "cabotage/cabotagelaw22.JudgeAlikes", spec := "judgeAlikes", unfollowed := true, recurses := true, plainKeys := false, apart := false }
def JudgeAlikesSaid : Prop := judgeAlikesRow.holds Try.pinned (OpenSpec.ofChange judgeAlikesSpec)

/-- ITS FALSE NEIGHBOUR: 'it returns false'. Refute it at one input. -/
def judgeAlikesWrong : ChangeSpec := { name := "judgeAlikes", fn := fun _ => fun
  | [d1, d2, d3] => { results := [.lit (.bool false)], args := [d1, d2, d3] }
  | _ => none }
def JudgeAlikesWrongFalsely : Prop := judgeAlikesRow.holds Try.pinned (OpenSpec.ofChange judgeAlikesWrong)

/-- 'cabotagelaw22.JudgeHolds': WHATEVER THE INPUT: true; the input reads as it did. -/
def judgeHoldsSpec : ChangeSpec := { name := "judgeHolds", fn := fun _ => fun
  | [d1, d2, d3] => { results := [.lit (.bool true)], args := [d1, d2, d3] }
  | _ => none }
def judgeHoldsRow : OpenClaim := { program := "ytanaepeilcjhcaa", sum := "c7d742890e54b855d8f5eb8a2a548c3cc3056b98afaa76cdca8874e602fe1bd7", func := "cabotage/cabotagelaw22.JudgeHolds", spec := "judgeHolds", unfollowed := true, recurses := true, loops := true, plainKeys := false, apart := false }
def JudgeHoldsSaid : Prop := judgeHoldsRow.holds Try.pinned (OpenSpec.ofChange judgeHoldsSpec)

/-- ITS FALSE NEIGHBOUR: 'it returns false'. Refute it at one input. -/
def judgeHoldsWrong : ChangeSpec := { name := "judgeHolds", fn := fun _ => fun
  | [d1, d2, d3] => { results := [.lit (.bool false)], args := [d1, d2, d3] }
  | _ => none }
def JudgeHoldsWrongFalsely : Prop := judgeHoldsRow.holds Try.pinned (OpenSpec.ofChange judgeHoldsWrong)

/-- 'cabotagelaw22.JudgeApart': WHATEVER THE INPUT: true; the input reads as it did. -/
def judgeApartSpec : ChangeSpec := { name := "judgeApart", fn := fun _ => fun
  | [d1, d2, d3] => { results := [.lit (.bool true)], args := [d1, d2, d3] }
  | _ => none }
def judgeApartRow : OpenClaim := { program := "ytanaepeilcjhcaa", sum := "c7d742890e54b855d8f5eb8a2a548c3cc3056b98afaa76cdca8874e602fe1bd7", func := "cabotage/cabotagelaw22.JudgeApart", spec := "judgeApart", unfollowed := true, recurses := true, plainKeys := false, apart := false }
def JudgeApartSaid : Prop := judgeApartRow.holds Try.pinned (OpenSpec.ofChange judgeApartSpec)

/-- ITS FALSE NEIGHBOUR: 'it returns false'. Refute it at one input. -/
def judgeApartWrong : ChangeSpec := { name := "judgeApart", fn := fun _ => fun
  | [d1, d2, d3] => { results := [.lit (.bool false)], args := [d1, d2, d3] }
  | _ => none }
def JudgeApartWrongFalsely : Prop := judgeApartRow.holds Try.pinned (OpenSpec.ofChange judgeApartWrong)

/-- 'cabotagelaw22.JudgeClasses': WHATEVER THE INPUT: true; the input reads as it did. -/
def judgeClassesSpec : ChangeSpec := { name := "judgeClasses", fn := fun _ => fun
  | [d] => { results := [.lit (.bool true)], args := [d] }
  | _ => none }
def judgeClassesRow : OpenClaim := { program := "ytanaepeilcjhcaa", sum := "c7d742890e54b855d8f5eb8a2a548c3cc3056b98afaa76cdca8874e602fe1bd7", func := "cabotage/cabotagelaw22.JudgeClasses", spec := "judgeClasses", unfollowed := true, recurses := true, plainKeys := false, apart := false }
def JudgeClassesSaid : Prop := judgeClassesRow.holds Try.pinned (OpenSpec.ofChange judgeClassesSpec)

/-- ITS FALSE NEIGHBOUR: 'it returns false'. Refute it at one input. -/
def judgeClassesWrong : ChangeSpec := { name := "judgeClasses", fn := fun _ => fun
  | [d] => { results := [.lit (.bool false)], args := [d] }
  | _ => none }
def JudgeClassesWrongFalsely : Prop := judgeClassesRow.holds Try.pinned (OpenSpec.ofChange judgeClassesWrong)

/-- 'cabotagelaw22.JudgeLeast': WHATEVER THE INPUT: true; the input reads as it did. -/
def judgeLeastSpec : ChangeSpec := { name := "judgeLeast", fn := fun _ => fun
  | [d] => { results := [.lit (.bool true)], args := [d] }
  | _ => none }
def judgeLeastRow : OpenClaim := { program := "ytanaepeilcjhcaa", sum := "c7d742890e54b855d8f5eb8a2a548c3cc3056b98afaa76cdca8874e602fe1bd7", func := "cabotage/cabotagelaw22.JudgeLeast", spec := "judgeLeast", unfollowed := true, recurses := true, plainKeys := false, apart := false }
def JudgeLeastSaid : Prop := judgeLeastRow.holds Try.pinned (OpenSpec.ofChange judgeLeastSpec)

/-- ITS FALSE NEIGHBOUR: 'it returns false'. Refute it at one input. -/
def judgeLeastWrong : ChangeSpec := { name := "judgeLeast", fn := fun _ => fun
  | [d] => { results := [.lit (.bool false)], args := [d] }
  | _ => none }
def JudgeLeastWrongFalsely : Prop := judgeLeastRow.holds Try.pinned (OpenSpec.ofChange judgeLeastWrong)

/- THE SECOND FORM. 'bulk': how many values and letters a reading holds, each counted each time it is reached (what is shared counts as often as it is met; a slice's spare places count too). A statement '..UptoSaid' is the law's where the arguments, and the package variables that the reading takes, are together of bulk at most 1048576: NARROWER than '..Said'. Prove '..Said' where nothing that the law and all that it calls make is longer than what came in: it says more and counts as full. Else prove '..UptoSaid'. A law counts once. -/
mutual
def uptoBulk {H : Type} : DataW H → Nat
  | .lit (.string bytes) => bytes.length + 1
  | .lit _ => 1
  | .nil => 1
  | .ptr d => uptoBulk d + 1
  | .slice elems spare => uptoBulkAll elems + uptoBulkAll spare + 1
  | .agg parts => uptoBulkAll parts + 1
  | .iface _ d => uptoBulk d + 1
  | .map entries => uptoBulkEntries entries + 1
  | .held _ => 1
def uptoBulkAll {H : Type} : List (DataW H) → Nat
  | [] => 0
  | d :: r => uptoBulk d + uptoBulkAll r
def uptoBulkEntries {H : Type} : List (Lit × DataW H) → Nat
  | [] => 0
  | x :: r => uptoBulkEntry x + uptoBulkEntries r
def uptoBulkEntry {H : Type} : Lit × DataW H → Nat
  | (.string bytes, d) => bytes.length + uptoBulk d + 1
  | (_, d) => uptoBulk d + 1
 end
def uptoSmall : (H : Type) → List (DataW H) → Bool := fun _ ds => decide (uptoBulkAll ds ≤ 1048576)
def OpenSpec.upto (s : _root_.Go.ChangeSpec) : _root_.Go.OpenSpec := { _root_.Go.OpenSpec.ofChange s with cond := some uptoSmall }

/-- 'cabotagelaw22.JudgeChecks', WHERE WHAT IT READS IS OF BULK AT MOST 1048576: true; the input reads as it did. -/
def judgeChecksUptoRow : OpenClaim := { program := "ytanaepeilcjhcaa", sum := "c7d742890e54b855d8f5eb8a2a548c3cc3056b98afaa76cdca8874e602fe1bd7", func := "cabotage/cabotagelaw22.JudgeChecks", spec := "judgeChecks", unfollowed := true, recurses := true, plainKeys := false, apart := false, narrowed := true }
def JudgeChecksUptoSaid : Prop := judgeChecksUptoRow.holds Try.pinned (OpenSpec.upto judgeChecksSpec)

/-- 'cabotagelaw22.JudgeTells', WHERE WHAT IT READS IS OF BULK AT MOST 1048576: true; the input reads as it did. -/
def judgeTellsUptoRow : OpenClaim := { program := "ytanaepeilcjhcaa", sum := "c7d742890e54b855d8f5eb8a2a548c3cc3056b98afaa76cdca8874e602fe1bd7", func := "cabotage/cabotagelaw22.JudgeTells", spec := "judgeTells", unfollowed := true, recurses := true, plainKeys := false, apart := false, narrowed := true }
def JudgeTellsUptoSaid : Prop := judgeTellsUptoRow.holds Try.pinned (OpenSpec.upto judgeTellsSpec)

/-- 'cabotagelaw22.JudgeWeak', WHERE WHAT IT READS IS OF BULK AT MOST 1048576: true; the input reads as it did. -/
def judgeWeakUptoRow : OpenClaim := { program := "ytanaepeilcjhcaa", sum := "c7d742890e54b855d8f5eb8a2a548c3cc3056b98afaa76cdca8874e602fe1bd7", func := "cabotage/cabotagelaw22.JudgeWeak", spec := "judgeWeak", unfollowed := true, recurses := true, plainKeys := false, apart := false, narrowed := true }
def JudgeWeakUptoSaid : Prop := judgeWeakUptoRow.holds Try.pinned (OpenSpec.upto judgeWeakSpec)

/-- 'cabotagelaw22.JudgeAlikes', WHERE WHAT IT READS IS OF BULK AT MOST 1048576: true; the input reads as it did. -/
def judgeAlikesUptoRow : OpenClaim := { program := "ytanaepeilcjhcaa", sum := "c7d742890e54b855d8f5eb8a2a548c3cc3056b98afaa76cdca8874e602fe1bd7", func := "cabotage/cabotagelaw22.JudgeAlikes", spec := "judgeAlikes", unfollowed := true, recurses := true, plainKeys := false, apart := false, narrowed := true }
def JudgeAlikesUptoSaid : Prop := judgeAlikesUptoRow.holds Try.pinned (OpenSpec.upto judgeAlikesSpec)

/-- 'cabotagelaw22.JudgeHolds', WHERE WHAT IT READS IS OF BULK AT MOST 1048576: true; the input reads as it did. -/
def judgeHoldsUptoRow : OpenClaim := { program := "ytanaepeilcjhcaa", sum := "c7d742890e54b855d8f5eb8a2a548c3cc3056b98afaa76cdca8874e602fe1bd7", func := "cabotage/cabotagelaw22.JudgeHolds", spec := "judgeHolds", unfollowed := true, recurses := true, loops := true, plainKeys := false, apart := false, narrowed := true }
def JudgeHoldsUptoSaid : Prop := judgeHoldsUptoRow.holds Try.pinned (OpenSpec.upto judgeHoldsSpec)

/-- 'cabotagelaw22.JudgeApart', WHERE WHAT IT READS IS OF BULK AT MOST 1048576: true; the input reads as it did. -/
def judgeApartUptoRow : OpenClaim := { program := "ytanaepeilcjhcaa", sum := "c7d742890e54b855d8f5eb8a2a548c3cc3056b98afaa76cdca8874e602fe1bd7", func := "cabotage/cabotagelaw22.JudgeApart", spec := "judgeApart", unfollowed := true, recurses := true, plainKeys := false, apart := false, narrowed := true }
def JudgeApartUptoSaid : Prop := judgeApartUptoRow.holds Try.pinned (OpenSpec.upto judgeApartSpec)

/-- 'cabotagelaw22.JudgeClasses', WHERE WHAT IT READS IS OF BULK AT MOST 1048576: true; the input reads as it did. -/
def judgeClassesUptoRow : OpenClaim := { program := "ytanaepeilcjhcaa", sum := "c7d742890e54b855d8f5eb8a2a548c3cc3056b98afaa76cdca8874e602fe1bd7", func := "cabotage/cabotagelaw22.JudgeClasses", spec := "judgeClasses", unfollowed := true, recurses := true, plainKeys := false, apart := false, narrowed := true }
def JudgeClassesUptoSaid : Prop := judgeClassesUptoRow.holds Try.pinned (OpenSpec.upto judgeClassesSpec)

/-- 'cabotagelaw22.JudgeLeast', WHERE WHAT IT READS IS OF BULK AT MOST 1048576: true; the input reads as it did. -/
def judgeLeastUptoRow : OpenClaim := { program := "ytanaepeilcjhcaa", sum := "c7d742890e54b855d8f5eb8a2a548c3cc3056b98afaa76cdca8874e602fe1bd7", func := "cabotage/cabotagelaw22.JudgeLeast", spec := "judgeLeast", unfollowed := true, recurses := true, plainKeys := false, apart := false, narrowed := true }
def JudgeLeastUptoSaid : Prop := judgeLeastUptoRow.holds Try.pinned (OpenSpec.upto judgeLeastSpec)

end Rows
end Go.Proofs.Ytanaepeilcjhcaa
