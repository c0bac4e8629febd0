/-
  No cell of these rows narrows 'for every input' (looked for: loops, veiled, ifaces, maps, wideKeys, modest, calm, conditions, laid).
  DERIVED. THE GIVEN ROWS OF THIS SEAT. 5 by the template 'for every input the law returns true; each argument reads behind the call as it read before'; 0 by the template 'total and deterministic' (their statements: YtkfdniccmcolgaaGreatTotals.lean).
  GIVEN WITH THE SEED: the statements are not yours to turn. If you find one false, say at which input.
  Laid BY PROGRAM, IN A SANDBOX (cutbox-rows.mjs): the forced cells as the released guide's own fill.sh prints them over the translation 85621b9907b0720c… (all of the seat's roots in one cut). By AI agents, Wed Nov 11 2026. No macro, syntax, notation, axiom, sorry.
-/
import Derived.Test.YtkfdniccmcolgaaGreatChecked
import GoSem.Claim
import GoSem.ClaimJoined
import GoSem.ClaimMapViews
import Derived.JoinedTies
import Derived.KernelRfl
namespace Go.Proofs.YtkfdniccmcolgaaGreat
/- THE CELL 'sum', in the pinned program and in every row, IS THE sha256 OF THE DUMP (.gsa) THAT YtkfdniccmcolgaaGreatProg.lean LOADS. Nothing in Lean hashes anything: it is a label: what it is worth is what the hold of that sum in a sandbox is worth. -/
noncomputable def Tryz.pinned : Pinned := { name := "ytkfdniccmcolgaagreat", sum := "85621b9907b0720cf87b67585e7a732d9168c44a93bbc47add268aba03bf88ab", checked := Tryz.checked }
namespace Rows
def none {H : Type} : Left H := { results := [], args := [] }

/-- 'geoproverlaw38.RulesApplies': WHATEVER THE INPUT: true; the input reads as it did. -/
def rulesAppliesSpec : ChangeSpec := { name := "rulesApplies", fn := fun _ => fun
  | [d1, d2] => { results := [.lit (.bool true)], args := [d1, d2] }
  | _ => none }
def rulesAppliesRow : OpenClaim := { program := "ytkfdniccmcolgaagreat", sum := "85621b9907b0720cf87b67585e7a732d9168c44a93bbc47add268aba03bf88ab", func := "geoprover/geoproverlaw38.RulesApplies", spec := "rulesApplies", unfollowed := true, recurses := true, apart := false }
def RulesAppliesSaid : Prop := rulesAppliesRow.holds Tryz.pinned (OpenSpec.ofChange rulesAppliesSpec)

/-- ITS FALSE NEIGHBOUR: 'it returns false'. Refute it at one input. -/
def rulesAppliesWrong : ChangeSpec := { name := "rulesApplies", fn := fun _ => fun
  | [d1, d2] => { results := [.lit (.bool false)], args := [d1, d2] }
  | _ => none }
def RulesAppliesWrongFalsely : Prop := rulesAppliesRow.holds Tryz.pinned (OpenSpec.ofChange rulesAppliesWrong)

/-- 'geoproverlaw38.RulesFollows': WHATEVER THE INPUT: true; the input reads as it did. -/
def rulesFollowsSpec : ChangeSpec := { name := "rulesFollows", fn := fun _ => fun
  | [d1, d2, d3] => { results := [.lit (.bool true)], args := [d1, d2, d3] }
  | _ => none }
def rulesFollowsRow : OpenClaim := { program := "ytkfdniccmcolgaagreat", sum := "85621b9907b0720cf87b67585e7a732d9168c44a93bbc47add268aba03bf88ab", func := "geoprover/geoproverlaw38.RulesFollows", spec := "rulesFollows", unfollowed := true, recurses := true, apart := false }
def RulesFollowsSaid : Prop := rulesFollowsRow.holds Tryz.pinned (OpenSpec.ofChange rulesFollowsSpec)

/-- ITS FALSE NEIGHBOUR: 'it returns false'. Refute it at one input. -/
def rulesFollowsWrong : ChangeSpec := { name := "rulesFollows", fn := fun _ => fun
  | [d1, d2, d3] => { results := [.lit (.bool false)], args := [d1, d2, d3] }
  | _ => none }
def RulesFollowsWrongFalsely : Prop := rulesFollowsRow.holds Tryz.pinned (OpenSpec.ofChange rulesFollowsWrong)

/-- 'geoproverlaw38.RulesTurn': WHATEVER THE INPUT: true; the input reads as it did. -/
def rulesTurnSpec : ChangeSpec := { name := "rulesTurn", fn := fun _ => fun
  | [d1, d2, d3] => { results := [.lit (.bool true)], args := [d1, d2, d3] }
  | _ => none }
def rulesTurnRow : OpenClaim := { program := "ytkfdniccmcolgaagreat", sum := "85621b9907b0720cf87b67585e7a732d9168c44a93bbc47add268aba03bf88ab", func := "geoprover/geoproverlaw38.RulesTurn", spec := "rulesTurn", unfollowed := true, recurses := true, apart := false }
def RulesTurnSaid : Prop := rulesTurnRow.holds Tryz.pinned (OpenSpec.ofChange rulesTurnSpec)

/-- ITS FALSE NEIGHBOUR: 'it returns false'. Refute it at one input. -/
def rulesTurnWrong : ChangeSpec := { name := "rulesTurn", fn := fun _ => fun
  | [d1, d2, d3] => { results := [.lit (.bool false)], args := [d1, d2, d3] }
  | _ => none }
def RulesTurnWrongFalsely : Prop := rulesTurnRow.holds Tryz.pinned (OpenSpec.ofChange rulesTurnWrong)

/-- 'geoproverlaw38.RulesNames': WHATEVER THE INPUT: true; the input reads as it did. -/
def rulesNamesSpec : ChangeSpec := { name := "rulesNames", fn := fun _ => fun
  | [d] => { results := [.lit (.bool true)], args := [d] }
  | _ => none }
def rulesNamesRow : OpenClaim := { program := "ytkfdniccmcolgaagreat", sum := "85621b9907b0720cf87b67585e7a732d9168c44a93bbc47add268aba03bf88ab", func := "geoprover/geoproverlaw38.RulesNames", spec := "rulesNames", unfollowed := true, recurses := true, apart := false }
def RulesNamesSaid : Prop := rulesNamesRow.holds Tryz.pinned (OpenSpec.ofChange rulesNamesSpec)

/-- ITS FALSE NEIGHBOUR: 'it returns false'. Refute it at one input. -/
def rulesNamesWrong : ChangeSpec := { name := "rulesNames", fn := fun _ => fun
  | [d] => { results := [.lit (.bool false)], args := [d] }
  | _ => none }
def RulesNamesWrongFalsely : Prop := rulesNamesRow.holds Tryz.pinned (OpenSpec.ofChange rulesNamesWrong)

/-- 'geoproverlaw38.RulesSound': WHATEVER THE INPUT: true; the input reads as it did. -/
def rulesSoundSpec : ChangeSpec := { name := "rulesSound", fn := fun _ => fun
  | [d1, d2, d3] => { results := [.lit (.bool true)], args := [d1, d2, d3] }
  | _ => none }
def rulesSoundRow : OpenClaim := { program := "ytkfdniccmcolgaagreat", sum := "85621b9907b0720cf87b67585e7a732d9168c44a93bbc47add268aba03bf88ab", func := "geoprover/geoproverlaw38.RulesSound", spec := "rulesSound", unfollowed := true, recurses := true, apart := false }
def RulesSoundSaid : Prop := rulesSoundRow.holds Tryz.pinned (OpenSpec.ofChange rulesSoundSpec)

/-- ITS FALSE NEIGHBOUR: 'it returns false'. Refute it at one input. -/
def rulesSoundWrong : ChangeSpec := { name := "rulesSound", fn := fun _ => fun
  | [d1, d2, d3] => { results := [.lit (.bool false)], args := [d1, d2, d3] }
  | _ => none }
def RulesSoundWrongFalsely : Prop := rulesSoundRow.holds Tryz.pinned (OpenSpec.ofChange rulesSoundWrong)

/- THE SECOND FORM. 'bulk': how many values and letters a reading holds, each counted each time it is reached (what is shared counts as often as it is met; a slice's spare places count too). A statement '..UptoSaid' is the law's where the arguments, and the package variables that the reading takes, are together of bulk at most 1048576: NARROWER than '..Said'. Prove '..Said' where nothing that the law and all that it calls make is longer than what came in: it says more and counts as full. Else prove '..UptoSaid'. A law counts once. -/
mutual
def uptoBulk {H : Type} : DataW H → Nat
  | .lit (.string bytes) => bytes.length + 1
  | .lit _ => 1
  | .nil => 1
  | .ptr d => uptoBulk d + 1
  | .slice elems spare => uptoBulkAll elems + uptoBulkAll spare + 1
  | .agg parts => uptoBulkAll parts + 1
  | .iface _ d => uptoBulk d + 1
  | .map entries => uptoBulkEntries entries + 1
  | .held _ => 1
def uptoBulkAll {H : Type} : List (DataW H) → Nat
  | [] => 0
  | d :: r => uptoBulk d + uptoBulkAll r
def uptoBulkEntries {H : Type} : List (Lit × DataW H) → Nat
  | [] => 0
  | x :: r => uptoBulkEntry x + uptoBulkEntries r
def uptoBulkEntry {H : Type} : Lit × DataW H → Nat
  | (.string bytes, d) => bytes.length + uptoBulk d + 1
  | (_, d) => uptoBulk d + 1
 end
def uptoSmall : (H : Type) → List (DataW H) → Bool := fun _ ds => decide (uptoBulkAll ds ≤ 1048576)
def OpenSpec.upto (s : _root_.Go.ChangeSpec) : _root_.Go.OpenSpec := { _root_.Go.OpenSpec.ofChange s with cond := some uptoSmall }

/-- 'geoproverlaw38.RulesApplies', WHERE WHAT IT READS IS OF BULK AT MOST 1048576: true; the input reads as it did. -/
def rulesAppliesUptoRow : OpenClaim := { program := "ytkfdniccmcolgaagreat", sum := "85621b9907b0720cf87b67585e7a732d9168c44a93bbc47add268aba03bf88ab", func := "geoprover/geoproverlaw38.RulesApplies", spec := "rulesApplies", unfollowed := true, recurses := true, apart := false, narrowed := true }
def RulesAppliesUptoSaid : Prop := rulesAppliesUptoRow.holds Tryz.pinned (OpenSpec.upto rulesAppliesSpec)

/-- 'geoproverlaw38.RulesFollows', WHERE WHAT IT READS IS OF BULK AT MOST 1048576: true; the input reads as it did. -/
def rulesFollowsUptoRow : OpenClaim := { program := "ytkfdniccmcolgaagreat", sum := "85621b9907b0720cf87b67585e7a732d9168c44a93bbc47add268aba03bf88ab", func := "geoprover/geoproverlaw38.RulesFollows", spec := "rulesFollows", unfollowed := true, recurses := true, apart := false, narrowed := true }
def RulesFollowsUptoSaid : Prop := rulesFollowsUptoRow.holds Tryz.pinned (OpenSpec.upto rulesFollowsSpec)

/-- 'geoproverlaw38.RulesTurn', WHERE WHAT IT READS IS OF BULK AT MOST 1048576: true; the input reads as it did. -/
def rulesTurnUptoRow : OpenClaim := { program := "ytkfdniccmcolgaagreat", sum := "85621b9907b0720cf87b67585e7a732d9168c44a93bbc47add268aba03bf88ab", func := "geoprover/geoproverlaw38.RulesTurn", spec := "rulesTurn", unfollowed := true, recurses := true, apart := false, narrowed := true }
def RulesTurnUptoSaid : Prop := rulesTurnUptoRow.holds Tryz.pinned (OpenSpec.upto rulesTurnSpec)

/-- 'geoproverlaw38.RulesNames', WHERE WHAT IT READS IS OF BULK AT MOST 1048576: true; the input reads as it did. -/
def rulesNamesUptoRow : OpenClaim := { program := "ytkfdniccmcolgaagreat", sum := "85621b9907b0720cf87b67585e7a732d9168c44a93bbc47add268aba03bf88ab", func := "geoprover/geoproverlaw38.RulesNames", spec := "rulesNames", unfollowed := true, recurses := true, apart := false, narrowed := true }
def RulesNamesUptoSaid : Prop := rulesNamesUptoRow.holds Tryz.pinned (OpenSpec.upto rulesNamesSpec)

/-- 'geoproverlaw38.RulesSound', WHERE WHAT IT READS IS OF BULK AT MOST 1048576: true; the input reads as it did. -/
def rulesSoundUptoRow : OpenClaim := { program := "ytkfdniccmcolgaagreat", sum := "85621b9907b0720cf87b67585e7a732d9168c44a93bbc47add268aba03bf88ab", func := "geoprover/geoproverlaw38.RulesSound", spec := "rulesSound", unfollowed := true, recurses := true, apart := false, narrowed := true }
def RulesSoundUptoSaid : Prop := rulesSoundUptoRow.holds Tryz.pinned (OpenSpec.upto rulesSoundSpec)

end Rows
end Go.Proofs.YtkfdniccmcolgaaGreat
