/-
  No cell of these rows narrows 'for every input' (looked for: loops, veiled, ifaces, maps, wideKeys, modest, calm, conditions, laid).
  DERIVED. THE GIVEN ROWS OF THIS SEAT. 5 by the template 'for every input the law returns true; each argument reads behind the call as it read before'; 0 by the template 'total and deterministic' (their statements: YtdjgdhbeikdojaaGreatTotals.lean).
  GIVEN WITH THE SEED: the statements are not yours to turn. If you find one false, say at which input.
  Laid BY PROGRAM, IN A SANDBOX (cutbox-rows.mjs): the forced cells as the released guide's own fill.sh prints them over the translation 0411225c834348a7… (all of the seat's roots in one cut). By AI agents, Wed Nov 11 2026. No macro, syntax, notation, axiom, sorry.
-/
import Derived.Test.YtdjgdhbeikdojaaGreatChecked
import GoSem.Claim
import GoSem.ClaimJoined
import GoSem.ClaimMapViews
import Derived.JoinedTies
import Derived.KernelRfl
namespace Go.Proofs.YtdjgdhbeikdojaaGreat
/- THE CELL 'sum', in the pinned program and in every row, IS THE sha256 OF THE DUMP (.gsa) THAT YtdjgdhbeikdojaaGreatProg.lean LOADS. Nothing in Lean hashes anything: it is a label: what it is worth is what the hold of that sum in a sandbox is worth. -/
noncomputable def Tryz.pinned : Pinned := { name := "ytdjgdhbeikdojaagreat", sum := "0411225c834348a7dd0b530b186d7b939449256b72718c4cffe2667c55f5e761", checked := Tryz.checked }
namespace Rows
def none {H : Type} : Left H := { results := [], args := [] }

/-- 'geoproverlaw37.FactNorms': WHATEVER THE INPUT: true; the input reads as it did. -/
def factNormsSpec : ChangeSpec := { name := "factNorms", fn := fun _ => fun
  | [d1, d2] => { results := [.lit (.bool true)], args := [d1, d2] }
  | _ => none }
def factNormsRow : OpenClaim := { program := "ytdjgdhbeikdojaagreat", sum := "0411225c834348a7dd0b530b186d7b939449256b72718c4cffe2667c55f5e761", func := "geoprover/geoproverlaw37.FactNorms", spec := "factNorms", unfollowed := true, recurses := true, apart := false }
def FactNormsSaid : Prop := factNormsRow.holds Tryz.pinned (OpenSpec.ofChange factNormsSpec)

/-- ITS FALSE NEIGHBOUR: 'it returns false'. Refute it at one input. -/
def factNormsWrong : ChangeSpec := { name := "factNorms", fn := fun _ => fun
  | [d1, d2] => { results := [.lit (.bool false)], args := [d1, d2] }
  | _ => none }
def FactNormsWrongFalsely : Prop := factNormsRow.holds Tryz.pinned (OpenSpec.ofChange factNormsWrong)

/-- 'geoproverlaw37.FactCompares': WHATEVER THE INPUT: true; the input reads as it did. -/
def factComparesSpec : ChangeSpec := { name := "factCompares", fn := fun _ => fun
  | [d1, d2] => { results := [.lit (.bool true)], args := [d1, d2] }
  | _ => none }
def factComparesRow : OpenClaim := { program := "ytdjgdhbeikdojaagreat", sum := "0411225c834348a7dd0b530b186d7b939449256b72718c4cffe2667c55f5e761", func := "geoprover/geoproverlaw37.FactCompares", spec := "factCompares", unfollowed := true, recurses := true, apart := false }
def FactComparesSaid : Prop := factComparesRow.holds Tryz.pinned (OpenSpec.ofChange factComparesSpec)

/-- ITS FALSE NEIGHBOUR: 'it returns false'. Refute it at one input. -/
def factComparesWrong : ChangeSpec := { name := "factCompares", fn := fun _ => fun
  | [d1, d2] => { results := [.lit (.bool false)], args := [d1, d2] }
  | _ => none }
def FactComparesWrongFalsely : Prop := factComparesRow.holds Tryz.pinned (OpenSpec.ofChange factComparesWrong)

/-- 'geoproverlaw37.FactVariants': WHATEVER THE INPUT: true; the input reads as it did. -/
def factVariantsSpec : ChangeSpec := { name := "factVariants", fn := fun _ => fun
  | [d] => { results := [.lit (.bool true)], args := [d] }
  | _ => none }
def factVariantsRow : OpenClaim := { program := "ytdjgdhbeikdojaagreat", sum := "0411225c834348a7dd0b530b186d7b939449256b72718c4cffe2667c55f5e761", func := "geoprover/geoproverlaw37.FactVariants", spec := "factVariants", unfollowed := true, recurses := true, apart := false }
def FactVariantsSaid : Prop := factVariantsRow.holds Tryz.pinned (OpenSpec.ofChange factVariantsSpec)

/-- ITS FALSE NEIGHBOUR: 'it returns false'. Refute it at one input. -/
def factVariantsWrong : ChangeSpec := { name := "factVariants", fn := fun _ => fun
  | [d] => { results := [.lit (.bool false)], args := [d] }
  | _ => none }
def FactVariantsWrongFalsely : Prop := factVariantsRow.holds Tryz.pinned (OpenSpec.ofChange factVariantsWrong)

/-- 'geoproverlaw37.FactOrders': WHATEVER THE INPUT: true; the input reads as it did. -/
def factOrdersSpec : ChangeSpec := { name := "factOrders", fn := fun _ => fun
  | [d1, d2, d3] => { results := [.lit (.bool true)], args := [d1, d2, d3] }
  | _ => none }
def factOrdersRow : OpenClaim := { program := "ytdjgdhbeikdojaagreat", sum := "0411225c834348a7dd0b530b186d7b939449256b72718c4cffe2667c55f5e761", func := "geoprover/geoproverlaw37.FactOrders", spec := "factOrders", unfollowed := true, recurses := true, apart := false }
def FactOrdersSaid : Prop := factOrdersRow.holds Tryz.pinned (OpenSpec.ofChange factOrdersSpec)

/-- ITS FALSE NEIGHBOUR: 'it returns false'. Refute it at one input. -/
def factOrdersWrong : ChangeSpec := { name := "factOrders", fn := fun _ => fun
  | [d1, d2, d3] => { results := [.lit (.bool false)], args := [d1, d2, d3] }
  | _ => none }
def FactOrdersWrongFalsely : Prop := factOrdersRow.holds Tryz.pinned (OpenSpec.ofChange factOrdersWrong)

/-- 'geoproverlaw37.FactRenames': WHATEVER THE INPUT: true; the input reads as it did. -/
def factRenamesSpec : ChangeSpec := { name := "factRenames", fn := fun _ => fun
  | [d1, d2] => { results := [.lit (.bool true)], args := [d1, d2] }
  | _ => none }
def factRenamesRow : OpenClaim := { program := "ytdjgdhbeikdojaagreat", sum := "0411225c834348a7dd0b530b186d7b939449256b72718c4cffe2667c55f5e761", func := "geoprover/geoproverlaw37.FactRenames", spec := "factRenames", unfollowed := true, recurses := true, apart := false }
def FactRenamesSaid : Prop := factRenamesRow.holds Tryz.pinned (OpenSpec.ofChange factRenamesSpec)

/-- ITS FALSE NEIGHBOUR: 'it returns false'. Refute it at one input. -/
def factRenamesWrong : ChangeSpec := { name := "factRenames", fn := fun _ => fun
  | [d1, d2] => { results := [.lit (.bool false)], args := [d1, d2] }
  | _ => none }
def FactRenamesWrongFalsely : Prop := factRenamesRow.holds Tryz.pinned (OpenSpec.ofChange factRenamesWrong)

/- THE SECOND FORM. 'bulk': how many values and letters a reading holds, each counted each time it is reached (what is shared counts as often as it is met; a slice's spare places count too). A statement '..UptoSaid' is the law's where the arguments, and the package variables that the reading takes, are together of bulk at most 1048576: NARROWER than '..Said'. Prove '..Said' where nothing that the law and all that it calls make is longer than what came in: it says more and counts as full. Else prove '..UptoSaid'. A law counts once. -/
mutual
def uptoBulk {H : Type} : DataW H → Nat
  | .lit (.string bytes) => bytes.length + 1
  | .lit _ => 1
  | .nil => 1
  | .ptr d => uptoBulk d + 1
  | .slice elems spare => uptoBulkAll elems + uptoBulkAll spare + 1
  | .agg parts => uptoBulkAll parts + 1
  | .iface _ d => uptoBulk d + 1
  | .map entries => uptoBulkEntries entries + 1
  | .held _ => 1
def uptoBulkAll {H : Type} : List (DataW H) → Nat
  | [] => 0
  | d :: r => uptoBulk d + uptoBulkAll r
def uptoBulkEntries {H : Type} : List (Lit × DataW H) → Nat
  | [] => 0
  | x :: r => uptoBulkEntry x + uptoBulkEntries r
def uptoBulkEntry {H : Type} : Lit × DataW H → Nat
  | (.string bytes, d) => bytes.length + uptoBulk d + 1
  | (_, d) => uptoBulk d + 1
 end
def uptoSmall : (H : Type) → List (DataW H) → Bool := fun _ ds => decide (uptoBulkAll ds ≤ 1048576)
def OpenSpec.upto (s : _root_.Go.ChangeSpec) : _root_.Go.OpenSpec := { _root_.Go.OpenSpec.ofChange s with cond := some uptoSmall }

/-- 'geoproverlaw37.FactNorms', WHERE WHAT IT READS IS OF BULK AT MOST 1048576: true; the input reads as it did. -/
def factNormsUptoRow : OpenClaim := { program := "ytdjgdhbeikdojaagreat", sum := "0411225c834348a7dd0b530b186d7b939449256b72718c4cffe2667c55f5e761", func := "geoprover/geoproverlaw37.FactNorms", spec := "factNorms", unfollowed := true, recurses := true, apart := false, narrowed := true }
def FactNormsUptoSaid : Prop := factNormsUptoRow.holds Tryz.pinned (OpenSpec.upto factNormsSpec)

/-- 'geoproverlaw37.FactCompares', WHERE WHAT IT READS IS OF BULK AT MOST 1048576: true; the input reads as it did. -/
def factComparesUptoRow : OpenClaim := { program := "ytdjgdhbeikdojaagreat", sum := "0411225c834348a7dd0b530b186d7b939449256b72718c4cffe2667c55f5e761", func := "geoprover/geoproverlaw37.FactCompares", spec := "factCompares", unfollowed := true, recurses := true, apart := false, narrowed := true }
def FactComparesUptoSaid : Prop := factComparesUptoRow.holds Tryz.pinned (OpenSpec.upto factComparesSpec)

/-- 'geoproverlaw37.FactVariants', WHERE WHAT IT READS IS OF BULK AT MOST 1048576: true; the input reads as it did. -/
def factVariantsUptoRow : OpenClaim := { program := "ytdjgdhbeikdojaagreat", sum := "0411225c834348a7dd0b530b186d7b939449256b72718c4cffe2667c55f5e761", func := "geoprover/geoproverlaw37.FactVariants", spec := "factVariants", unfollowed := true, recurses := true, apart := false, narrowed := true }
def FactVariantsUptoSaid : Prop := factVariantsUptoRow.holds Tryz.pinned (OpenSpec.upto factVariantsSpec)

/-- 'geoproverlaw37.FactOrders', WHERE WHAT IT READS IS OF BULK AT MOST 1048576: true; the input reads as it did. -/
def factOrdersUptoRow : OpenClaim := { program := "ytdjgdhbeikdojaagreat", sum := "0411225c834348a7dd0b530b186d7b939449256b72718c4cffe2667c55f5e761", func := "geoprover/geoproverlaw37.FactOrders", spec := "factOrders", unfollowed := true, recurses := true, apart := false, narrowed := true }
def FactOrdersUptoSaid : Prop := factOrdersUptoRow.holds Tryz.pinned (OpenSpec.upto factOrdersSpec)

/-- 'geoproverlaw37.FactRenames', WHERE WHAT IT READS IS OF BULK AT MOST 1048576: true; the input reads as it did. -/
def factRenamesUptoRow : OpenClaim := { program := "ytdjgdhbeikdojaagreat", sum := "0411225c834348a7dd0b530b186d7b939449256b72718c4cffe2667c55f5e761", func := "geoprover/geoproverlaw37.FactRenames", spec := "factRenames", unfollowed := true, recurses := true, apart := false, narrowed := true }
def FactRenamesUptoSaid : Prop := factRenamesUptoRow.holds Tryz.pinned (OpenSpec.upto factRenamesSpec)

end Rows
end Go.Proofs.YtdjgdhbeikdojaaGreat
