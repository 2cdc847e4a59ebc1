/-
  No cell of these rows narrows 'for every input' (looked for: loops, veiled, ifaces, maps, wideKeys, modest, calm, conditions, laid).
  DERIVED. THE GIVEN ROWS OF THIS SEAT. 19 by the template 'for every input the law returns true; each argument reads behind the call as it read before'; 0 by the template 'total and deterministic' (their statements: YthdipcbjhhopaaaTotals.lean).
  GIVEN WITH THE SEED: the statements are not yours to turn. If you find one false, say at which input.
  Laid BY PROGRAM, IN A SANDBOX (cutbox-rows.mjs): the forced cells as the released guide's own fill.sh prints them over the translation da29d896a00dce9e… (all of the seat's roots in one cut). By AI agents, Wed Nov 11 2026. No macro, syntax, notation, axiom, sorry.
-/
import Derived.Test.YthdipcbjhhopaaaChecked
import GoSem.Claim
import GoSem.ClaimJoined
import GoSem.ClaimMapViews
import Derived.JoinedTies
import Derived.KernelRfl
namespace Go.Proofs.Ythdipcbjhhopaaa
/- THE CELL 'sum', in the pinned program and in every row, IS THE sha256 OF THE DUMP (.gsa) THAT YthdipcbjhhopaaaProg.lean LOADS. Nothing in Lean hashes anything: it is a label: what it is worth is what the hold of that sum in a sandbox is worth. -/
noncomputable def Try.pinned : Pinned := { name := "ythdipcbjhhopaaa", sum := "da29d896a00dce9ed862caaf641a9b6ca1cbb7bb2ed83d8ef8451fe27cfb4e83", checked := Try.checked }
namespace Rows
def none {H : Type} : Left H := { results := [], args := [] }

/-- 'laws.FnExactMemCut': WHATEVER THE INPUT: true; the input reads as it did. -/
def fnExactMemCutSpec : ChangeSpec := { name := "fnExactMemCut", fn := fun _ => fun
  | [d1, d2, d3, d4] => { results := [.lit (.bool true)], args := [d1, d2, d3, d4] }
  | _ => none }
def fnExactMemCutRow : OpenClaim := { program := "ythdipcbjhhopaaa", sum := "da29d896a00dce9ed862caaf641a9b6ca1cbb7bb2ed83d8ef8451fe27cfb4e83", func := "loop.example/quarterdeck/laws.FnExactMemCut", spec := "fnExactMemCut", unfollowed := true, recurses := true, plainKeys := false, apart := false }
def FnExactMemCutSaid : Prop := fnExactMemCutRow.holds Try.pinned (OpenSpec.ofChange fnExactMemCutSpec)

/-- ITS FALSE NEIGHBOUR: 'it returns false'. Refute it at one input. -/
def fnExactMemCutWrong : ChangeSpec := { name := "fnExactMemCut", fn := fun _ => fun
  | [d1, d2, d3, d4] => { results := [.lit (.bool false)], args := [d1, d2, d3, d4] }
  | _ => none }
def FnExactMemCutWrongFalsely : Prop := fnExactMemCutRow.holds Try.pinned (OpenSpec.ofChange fnExactMemCutWrong)

/-- 'laws.FnMemPlaces': WHATEVER THE INPUT: true; the input reads as it did. -/
def fnMemPlacesSpec : ChangeSpec := { name := "fnMemPlaces", fn := fun _ => fun
  | [d] => { results := [.lit (.bool true)], args := [d] }
  | _ => none }
def fnMemPlacesRow : OpenClaim := { program := "ythdipcbjhhopaaa", sum := "da29d896a00dce9ed862caaf641a9b6ca1cbb7bb2ed83d8ef8451fe27cfb4e83", func := "loop.example/quarterdeck/laws.FnMemPlaces", spec := "fnMemPlaces", unfollowed := true, recurses := true, plainKeys := false, apart := false }
def FnMemPlacesSaid : Prop := fnMemPlacesRow.holds Try.pinned (OpenSpec.ofChange fnMemPlacesSpec)

/-- ITS FALSE NEIGHBOUR: 'it returns false'. Refute it at one input. -/
def fnMemPlacesWrong : ChangeSpec := { name := "fnMemPlaces", fn := fun _ => fun
  | [d] => { results := [.lit (.bool false)], args := [d] }
  | _ => none }
def FnMemPlacesWrongFalsely : Prop := fnMemPlacesRow.holds Try.pinned (OpenSpec.ofChange fnMemPlacesWrong)

/-- 'laws.FnMemPressure': WHATEVER THE INPUT: true; the input reads as it did. -/
def fnMemPressureSpec : ChangeSpec := { name := "fnMemPressure", fn := fun _ => fun
  | [d1, d2] => { results := [.lit (.bool true)], args := [d1, d2] }
  | _ => none }
def fnMemPressureRow : OpenClaim := { program := "ythdipcbjhhopaaa", sum := "da29d896a00dce9ed862caaf641a9b6ca1cbb7bb2ed83d8ef8451fe27cfb4e83", func := "loop.example/quarterdeck/laws.FnMemPressure", spec := "fnMemPressure", unfollowed := true, recurses := true, plainKeys := false, apart := false }
def FnMemPressureSaid : Prop := fnMemPressureRow.holds Try.pinned (OpenSpec.ofChange fnMemPressureSpec)

/-- ITS FALSE NEIGHBOUR: 'it returns false'. Refute it at one input. -/
def fnMemPressureWrong : ChangeSpec := { name := "fnMemPressure", fn := fun _ => fun
  | [d1, d2] => { results := [.lit (.bool false)], args := [d1, d2] }
  | _ => none }
def FnMemPressureWrongFalsely : Prop := fnMemPressureRow.holds Try.pinned (OpenSpec.ofChange fnMemPressureWrong)

/-- 'laws.FnMemFull': WHATEVER THE INPUT: true; the input reads as it did. -/
def fnMemFullSpec : ChangeSpec := { name := "fnMemFull", fn := fun _ => fun
  | [d] => { results := [.lit (.bool true)], args := [d] }
  | _ => none }
def fnMemFullRow : OpenClaim := { program := "ythdipcbjhhopaaa", sum := "da29d896a00dce9ed862caaf641a9b6ca1cbb7bb2ed83d8ef8451fe27cfb4e83", func := "loop.example/quarterdeck/laws.FnMemFull", spec := "fnMemFull", unfollowed := true, recurses := true, plainKeys := false, apart := false }
def FnMemFullSaid : Prop := fnMemFullRow.holds Try.pinned (OpenSpec.ofChange fnMemFullSpec)

/-- ITS FALSE NEIGHBOUR: 'it returns false'. Refute it at one input. -/
def fnMemFullWrong : ChangeSpec := { name := "fnMemFull", fn := fun _ => fun
  | [d] => { results := [.lit (.bool false)], args := [d] }
  | _ => none }
def FnMemFullWrongFalsely : Prop := fnMemFullRow.holds Try.pinned (OpenSpec.ofChange fnMemFullWrong)

/-- 'laws.FnMemApart': WHATEVER THE INPUT: true; the input reads as it did. -/
def fnMemApartSpec : ChangeSpec := { name := "fnMemApart", fn := fun _ => fun
  | [d] => { results := [.lit (.bool true)], args := [d] }
  | _ => none }
def fnMemApartRow : OpenClaim := { program := "ythdipcbjhhopaaa", sum := "da29d896a00dce9ed862caaf641a9b6ca1cbb7bb2ed83d8ef8451fe27cfb4e83", func := "loop.example/quarterdeck/laws.FnMemApart", spec := "fnMemApart", unfollowed := true, recurses := true, plainKeys := false, apart := false }
def FnMemApartSaid : Prop := fnMemApartRow.holds Try.pinned (OpenSpec.ofChange fnMemApartSpec)

/-- ITS FALSE NEIGHBOUR: 'it returns false'. Refute it at one input. -/
def fnMemApartWrong : ChangeSpec := { name := "fnMemApart", fn := fun _ => fun
  | [d] => { results := [.lit (.bool false)], args := [d] }
  | _ => none }
def FnMemApartWrongFalsely : Prop := fnMemApartRow.holds Try.pinned (OpenSpec.ofChange fnMemApartWrong)

/-- 'laws.FnMemGet': WHATEVER THE INPUT: true; the input reads as it did. -/
def fnMemGetSpec : ChangeSpec := { name := "fnMemGet", fn := fun _ => fun
  | [d] => { results := [.lit (.bool true)], args := [d] }
  | _ => none }
def fnMemGetRow : OpenClaim := { program := "ythdipcbjhhopaaa", sum := "da29d896a00dce9ed862caaf641a9b6ca1cbb7bb2ed83d8ef8451fe27cfb4e83", func := "loop.example/quarterdeck/laws.FnMemGet", spec := "fnMemGet", unfollowed := true, recurses := true, plainKeys := false, apart := false }
def FnMemGetSaid : Prop := fnMemGetRow.holds Try.pinned (OpenSpec.ofChange fnMemGetSpec)

/-- ITS FALSE NEIGHBOUR: 'it returns false'. Refute it at one input. -/
def fnMemGetWrong : ChangeSpec := { name := "fnMemGet", fn := fun _ => fun
  | [d] => { results := [.lit (.bool false)], args := [d] }
  | _ => none }
def FnMemGetWrongFalsely : Prop := fnMemGetRow.holds Try.pinned (OpenSpec.ofChange fnMemGetWrong)

/-- 'laws.FnMemForkWrite': WHATEVER THE INPUT: true; the input reads as it did. -/
def fnMemForkWriteSpec : ChangeSpec := { name := "fnMemForkWrite", fn := fun _ => fun
  | [d1, d2] => { results := [.lit (.bool true)], args := [d1, d2] }
  | _ => none }
def fnMemForkWriteRow : OpenClaim := { program := "ythdipcbjhhopaaa", sum := "da29d896a00dce9ed862caaf641a9b6ca1cbb7bb2ed83d8ef8451fe27cfb4e83", func := "loop.example/quarterdeck/laws.FnMemForkWrite", spec := "fnMemForkWrite", unfollowed := true, recurses := true, plainKeys := false, apart := false }
def FnMemForkWriteSaid : Prop := fnMemForkWriteRow.holds Try.pinned (OpenSpec.ofChange fnMemForkWriteSpec)

/-- ITS FALSE NEIGHBOUR: 'it returns false'. Refute it at one input. -/
def fnMemForkWriteWrong : ChangeSpec := { name := "fnMemForkWrite", fn := fun _ => fun
  | [d1, d2] => { results := [.lit (.bool false)], args := [d1, d2] }
  | _ => none }
def FnMemForkWriteWrongFalsely : Prop := fnMemForkWriteRow.holds Try.pinned (OpenSpec.ofChange fnMemForkWriteWrong)

/-- 'laws.FnMemForks': WHATEVER THE INPUT: true; the input reads as it did. -/
def fnMemForksSpec : ChangeSpec := { name := "fnMemForks", fn := fun _ => fun
  | [d1, d2] => { results := [.lit (.bool true)], args := [d1, d2] }
  | _ => none }
def fnMemForksRow : OpenClaim := { program := "ythdipcbjhhopaaa", sum := "da29d896a00dce9ed862caaf641a9b6ca1cbb7bb2ed83d8ef8451fe27cfb4e83", func := "loop.example/quarterdeck/laws.FnMemForks", spec := "fnMemForks", unfollowed := true, recurses := true, plainKeys := false, apart := false }
def FnMemForksSaid : Prop := fnMemForksRow.holds Try.pinned (OpenSpec.ofChange fnMemForksSpec)

/-- ITS FALSE NEIGHBOUR: 'it returns false'. Refute it at one input. -/
def fnMemForksWrong : ChangeSpec := { name := "fnMemForks", fn := fun _ => fun
  | [d1, d2] => { results := [.lit (.bool false)], args := [d1, d2] }
  | _ => none }
def FnMemForksWrongFalsely : Prop := fnMemForksRow.holds Try.pinned (OpenSpec.ofChange fnMemForksWrong)

/-- 'laws.FnExactMemGet': WHATEVER THE INPUT: true; the input reads as it did. -/
def fnExactMemGetSpec : ChangeSpec := { name := "fnExactMemGet", fn := fun _ => fun
  | [d1, d2, d3] => { results := [.lit (.bool true)], args := [d1, d2, d3] }
  | _ => none }
def fnExactMemGetRow : OpenClaim := { program := "ythdipcbjhhopaaa", sum := "da29d896a00dce9ed862caaf641a9b6ca1cbb7bb2ed83d8ef8451fe27cfb4e83", func := "loop.example/quarterdeck/laws.FnExactMemGet", spec := "fnExactMemGet", unfollowed := true, recurses := true, plainKeys := false, apart := false }
def FnExactMemGetSaid : Prop := fnExactMemGetRow.holds Try.pinned (OpenSpec.ofChange fnExactMemGetSpec)

/-- ITS FALSE NEIGHBOUR: 'it returns false'. Refute it at one input. -/
def fnExactMemGetWrong : ChangeSpec := { name := "fnExactMemGet", fn := fun _ => fun
  | [d1, d2, d3] => { results := [.lit (.bool false)], args := [d1, d2, d3] }
  | _ => none }
def FnExactMemGetWrongFalsely : Prop := fnExactMemGetRow.holds Try.pinned (OpenSpec.ofChange fnExactMemGetWrong)

/-- 'laws.FnMemOrder': WHATEVER THE INPUT: true; the input reads as it did. -/
def fnMemOrderSpec : ChangeSpec := { name := "fnMemOrder", fn := fun _ => fun
  | [d1, d2] => { results := [.lit (.bool true)], args := [d1, d2] }
  | _ => none }
def fnMemOrderRow : OpenClaim := { program := "ythdipcbjhhopaaa", sum := "da29d896a00dce9ed862caaf641a9b6ca1cbb7bb2ed83d8ef8451fe27cfb4e83", func := "loop.example/quarterdeck/laws.FnMemOrder", spec := "fnMemOrder", unfollowed := true, recurses := true, plainKeys := false, apart := false }
def FnMemOrderSaid : Prop := fnMemOrderRow.holds Try.pinned (OpenSpec.ofChange fnMemOrderSpec)

/-- ITS FALSE NEIGHBOUR: 'it returns false'. Refute it at one input. -/
def fnMemOrderWrong : ChangeSpec := { name := "fnMemOrder", fn := fun _ => fun
  | [d1, d2] => { results := [.lit (.bool false)], args := [d1, d2] }
  | _ => none }
def FnMemOrderWrongFalsely : Prop := fnMemOrderRow.holds Try.pinned (OpenSpec.ofChange fnMemOrderWrong)

/-- 'laws.FnMemTwice': WHATEVER THE INPUT: true; the input reads as it did. -/
def fnMemTwiceSpec : ChangeSpec := { name := "fnMemTwice", fn := fun _ => fun
  | [d1, d2] => { results := [.lit (.bool true)], args := [d1, d2] }
  | _ => none }
def fnMemTwiceRow : OpenClaim := { program := "ythdipcbjhhopaaa", sum := "da29d896a00dce9ed862caaf641a9b6ca1cbb7bb2ed83d8ef8451fe27cfb4e83", func := "loop.example/quarterdeck/laws.FnMemTwice", spec := "fnMemTwice", unfollowed := true, recurses := true, plainKeys := false, apart := false }
def FnMemTwiceSaid : Prop := fnMemTwiceRow.holds Try.pinned (OpenSpec.ofChange fnMemTwiceSpec)

/-- ITS FALSE NEIGHBOUR: 'it returns false'. Refute it at one input. -/
def fnMemTwiceWrong : ChangeSpec := { name := "fnMemTwice", fn := fun _ => fun
  | [d1, d2] => { results := [.lit (.bool false)], args := [d1, d2] }
  | _ => none }
def FnMemTwiceWrongFalsely : Prop := fnMemTwiceRow.holds Try.pinned (OpenSpec.ofChange fnMemTwiceWrong)

/-- 'laws.FnMemFork': WHATEVER THE INPUT: true; the input reads as it did. -/
def fnMemForkSpec : ChangeSpec := { name := "fnMemFork", fn := fun _ => fun
  | [d] => { results := [.lit (.bool true)], args := [d] }
  | _ => none }
def fnMemForkRow : OpenClaim := { program := "ythdipcbjhhopaaa", sum := "da29d896a00dce9ed862caaf641a9b6ca1cbb7bb2ed83d8ef8451fe27cfb4e83", func := "loop.example/quarterdeck/laws.FnMemFork", spec := "fnMemFork", unfollowed := true, recurses := true, plainKeys := false, apart := false }
def FnMemForkSaid : Prop := fnMemForkRow.holds Try.pinned (OpenSpec.ofChange fnMemForkSpec)

/-- ITS FALSE NEIGHBOUR: 'it returns false'. Refute it at one input. -/
def fnMemForkWrong : ChangeSpec := { name := "fnMemFork", fn := fun _ => fun
  | [d] => { results := [.lit (.bool false)], args := [d] }
  | _ => none }
def FnMemForkWrongFalsely : Prop := fnMemForkRow.holds Try.pinned (OpenSpec.ofChange fnMemForkWrong)

/-- 'laws.FnMemForkDrop': WHATEVER THE INPUT: true; the input reads as it did. -/
def fnMemForkDropSpec : ChangeSpec := { name := "fnMemForkDrop", fn := fun _ => fun
  | [d] => { results := [.lit (.bool true)], args := [d] }
  | _ => none }
def fnMemForkDropRow : OpenClaim := { program := "ythdipcbjhhopaaa", sum := "da29d896a00dce9ed862caaf641a9b6ca1cbb7bb2ed83d8ef8451fe27cfb4e83", func := "loop.example/quarterdeck/laws.FnMemForkDrop", spec := "fnMemForkDrop", unfollowed := true, recurses := true, plainKeys := false, apart := false }
def FnMemForkDropSaid : Prop := fnMemForkDropRow.holds Try.pinned (OpenSpec.ofChange fnMemForkDropSpec)

/-- ITS FALSE NEIGHBOUR: 'it returns false'. Refute it at one input. -/
def fnMemForkDropWrong : ChangeSpec := { name := "fnMemForkDrop", fn := fun _ => fun
  | [d] => { results := [.lit (.bool false)], args := [d] }
  | _ => none }
def FnMemForkDropWrongFalsely : Prop := fnMemForkDropRow.holds Try.pinned (OpenSpec.ofChange fnMemForkDropWrong)

/-- 'laws.FnExactMemFork': WHATEVER THE INPUT: true; the input reads as it did. -/
def fnExactMemForkSpec : ChangeSpec := { name := "fnExactMemFork", fn := fun _ => fun
  | [d1, d2] => { results := [.lit (.bool true)], args := [d1, d2] }
  | _ => none }
def fnExactMemForkRow : OpenClaim := { program := "ythdipcbjhhopaaa", sum := "da29d896a00dce9ed862caaf641a9b6ca1cbb7bb2ed83d8ef8451fe27cfb4e83", func := "loop.example/quarterdeck/laws.FnExactMemFork", spec := "fnExactMemFork", unfollowed := true, recurses := true, plainKeys := false, apart := false }
def FnExactMemForkSaid : Prop := fnExactMemForkRow.holds Try.pinned (OpenSpec.ofChange fnExactMemForkSpec)

/-- ITS FALSE NEIGHBOUR: 'it returns false'. Refute it at one input. -/
def fnExactMemForkWrong : ChangeSpec := { name := "fnExactMemFork", fn := fun _ => fun
  | [d1, d2] => { results := [.lit (.bool false)], args := [d1, d2] }
  | _ => none }
def FnExactMemForkWrongFalsely : Prop := fnExactMemForkRow.holds Try.pinned (OpenSpec.ofChange fnExactMemForkWrong)

/-- 'laws.FnMemSet': WHATEVER THE INPUT: true; the input reads as it did. -/
def fnMemSetSpec : ChangeSpec := { name := "fnMemSet", fn := fun _ => fun
  | [d] => { results := [.lit (.bool true)], args := [d] }
  | _ => none }
def fnMemSetRow : OpenClaim := { program := "ythdipcbjhhopaaa", sum := "da29d896a00dce9ed862caaf641a9b6ca1cbb7bb2ed83d8ef8451fe27cfb4e83", func := "loop.example/quarterdeck/laws.FnMemSet", spec := "fnMemSet", unfollowed := true, recurses := true, plainKeys := false, apart := false }
def FnMemSetSaid : Prop := fnMemSetRow.holds Try.pinned (OpenSpec.ofChange fnMemSetSpec)

/-- ITS FALSE NEIGHBOUR: 'it returns false'. Refute it at one input. -/
def fnMemSetWrong : ChangeSpec := { name := "fnMemSet", fn := fun _ => fun
  | [d] => { results := [.lit (.bool false)], args := [d] }
  | _ => none }
def FnMemSetWrongFalsely : Prop := fnMemSetRow.holds Try.pinned (OpenSpec.ofChange fnMemSetWrong)

/-- 'laws.FnExactMemSet': WHATEVER THE INPUT: true; the input reads as it did. -/
def fnExactMemSetSpec : ChangeSpec := { name := "fnExactMemSet", fn := fun _ => fun
  | [d1, d2, d3, d4] => { results := [.lit (.bool true)], args := [d1, d2, d3, d4] }
  | _ => none }
def fnExactMemSetRow : OpenClaim := { program := "ythdipcbjhhopaaa", sum := "da29d896a00dce9ed862caaf641a9b6ca1cbb7bb2ed83d8ef8451fe27cfb4e83", func := "loop.example/quarterdeck/laws.FnExactMemSet", spec := "fnExactMemSet", unfollowed := true, recurses := true, plainKeys := false, apart := false }
def FnExactMemSetSaid : Prop := fnExactMemSetRow.holds Try.pinned (OpenSpec.ofChange fnExactMemSetSpec)

/-- ITS FALSE NEIGHBOUR: 'it returns false'. Refute it at one input. -/
def fnExactMemSetWrong : ChangeSpec := { name := "fnExactMemSet", fn := fun _ => fun
  | [d1, d2, d3, d4] => { results := [.lit (.bool false)], args := [d1, d2, d3, d4] }
  | _ => none }
def FnExactMemSetWrongFalsely : Prop := fnExactMemSetRow.holds Try.pinned (OpenSpec.ofChange fnExactMemSetWrong)

/-- 'laws.FnExactMemMap': WHATEVER THE INPUT: true; the input reads as it did. -/
def fnExactMemMapSpec : ChangeSpec := { name := "fnExactMemMap", fn := fun _ => fun
  | [d1, d2, d3] => { results := [.lit (.bool true)], args := [d1, d2, d3] }
  | _ => none }
def fnExactMemMapRow : OpenClaim := { program := "ythdipcbjhhopaaa", sum := "da29d896a00dce9ed862caaf641a9b6ca1cbb7bb2ed83d8ef8451fe27cfb4e83", func := "loop.example/quarterdeck/laws.FnExactMemMap", spec := "fnExactMemMap", unfollowed := true, recurses := true, plainKeys := false, apart := false }
def FnExactMemMapSaid : Prop := fnExactMemMapRow.holds Try.pinned (OpenSpec.ofChange fnExactMemMapSpec)

/-- ITS FALSE NEIGHBOUR: 'it returns false'. Refute it at one input. -/
def fnExactMemMapWrong : ChangeSpec := { name := "fnExactMemMap", fn := fun _ => fun
  | [d1, d2, d3] => { results := [.lit (.bool false)], args := [d1, d2, d3] }
  | _ => none }
def FnExactMemMapWrongFalsely : Prop := fnExactMemMapRow.holds Try.pinned (OpenSpec.ofChange fnExactMemMapWrong)

/-- 'laws.FnMemMap': WHATEVER THE INPUT: true; the input reads as it did. -/
def fnMemMapSpec : ChangeSpec := { name := "fnMemMap", fn := fun _ => fun
  | [d] => { results := [.lit (.bool true)], args := [d] }
  | _ => none }
def fnMemMapRow : OpenClaim := { program := "ythdipcbjhhopaaa", sum := "da29d896a00dce9ed862caaf641a9b6ca1cbb7bb2ed83d8ef8451fe27cfb4e83", func := "loop.example/quarterdeck/laws.FnMemMap", spec := "fnMemMap", unfollowed := true, recurses := true, plainKeys := false, apart := false }
def FnMemMapSaid : Prop := fnMemMapRow.holds Try.pinned (OpenSpec.ofChange fnMemMapSpec)

/-- ITS FALSE NEIGHBOUR: 'it returns false'. Refute it at one input. -/
def fnMemMapWrong : ChangeSpec := { name := "fnMemMap", fn := fun _ => fun
  | [d] => { results := [.lit (.bool false)], args := [d] }
  | _ => none }
def FnMemMapWrongFalsely : Prop := fnMemMapRow.holds Try.pinned (OpenSpec.ofChange fnMemMapWrong)

/-- 'laws.FnMemCutMap': WHATEVER THE INPUT: true; the input reads as it did. -/
def fnMemCutMapSpec : ChangeSpec := { name := "fnMemCutMap", fn := fun _ => fun
  | [d] => { results := [.lit (.bool true)], args := [d] }
  | _ => none }
def fnMemCutMapRow : OpenClaim := { program := "ythdipcbjhhopaaa", sum := "da29d896a00dce9ed862caaf641a9b6ca1cbb7bb2ed83d8ef8451fe27cfb4e83", func := "loop.example/quarterdeck/laws.FnMemCutMap", spec := "fnMemCutMap", unfollowed := true, recurses := true, plainKeys := false, apart := false }
def FnMemCutMapSaid : Prop := fnMemCutMapRow.holds Try.pinned (OpenSpec.ofChange fnMemCutMapSpec)

/-- ITS FALSE NEIGHBOUR: 'it returns false'. Refute it at one input. -/
def fnMemCutMapWrong : ChangeSpec := { name := "fnMemCutMap", fn := fun _ => fun
  | [d] => { results := [.lit (.bool false)], args := [d] }
  | _ => none }
def FnMemCutMapWrongFalsely : Prop := fnMemCutMapRow.holds Try.pinned (OpenSpec.ofChange fnMemCutMapWrong)

/- THE SECOND FORM. 'bulk': how many values and letters a reading holds, each counted each time it is reached (what is shared counts as often as it is met; a slice's spare places count too). A statement '..UptoSaid' is the law's where the arguments, and the package variables that the reading takes, are together of bulk at most 1048576: NARROWER than '..Said'. Prove '..Said' where nothing that the law and all that it calls make is longer than what came in: it says more and counts as full. Else prove '..UptoSaid'. A law counts once. -/
mutual
def uptoBulk {H : Type} : DataW H → Nat
  | .lit (.string bytes) => bytes.length + 1
  | .lit _ => 1
  | .nil => 1
  | .ptr d => uptoBulk d + 1
  | .slice elems spare => uptoBulkAll elems + uptoBulkAll spare + 1
  | .agg parts => uptoBulkAll parts + 1
  | .iface _ d => uptoBulk d + 1
  | .map entries => uptoBulkEntries entries + 1
  | .held _ => 1
def uptoBulkAll {H : Type} : List (DataW H) → Nat
  | [] => 0
  | d :: r => uptoBulk d + uptoBulkAll r
def uptoBulkEntries {H : Type} : List (Lit × DataW H) → Nat
  | [] => 0
  | x :: r => uptoBulkEntry x + uptoBulkEntries r
def uptoBulkEntry {H : Type} : Lit × DataW H → Nat
  | (.string bytes, d) => bytes.length + uptoBulk d + 1
  | (_, d) => uptoBulk d + 1
 end
def uptoSmall : (H : Type) → List (DataW H) → Bool := fun _ ds => decide (uptoBulkAll ds ≤ 1048576)
def OpenSpec.upto (s : _root_.Go.ChangeSpec) : _root_.Go.OpenSpec := { _root_.Go.OpenSpec.ofChange s with cond := some uptoSmall }

/-- 'laws.FnExactMemCut', WHERE WHAT IT READS IS OF BULK AT MOST 1048576: true; the input reads as it did. -/
def fnExactMemCutUptoRow : OpenClaim := { program := "ythdipcbjhhopaaa", sum := "da29d896a00dce9ed862caaf641a9b6ca1cbb7bb2ed83d8ef8451fe27cfb4e83", func := "loop.example/quarterdeck/laws.FnExactMemCut", spec := "fnExactMemCut", unfollowed := true, recurses := true, plainKeys := false, apart := false, narrowed := true }
def FnExactMemCutUptoSaid : Prop := fnExactMemCutUptoRow.holds Try.pinned (OpenSpec.upto fnExactMemCutSpec)

/-- 'laws.FnMemPlaces', WHERE WHAT IT READS IS OF BULK AT MOST 1048576: true; the input reads as it did. -/
def fnMemPlacesUptoRow : OpenClaim := { program := "ythdipcbjhhopaaa", sum := "da29d896a00dce9ed862caaf641a9b6ca1cbb7bb2ed83d8ef8451fe27cfb4e83", func := "loop.example/quarterdeck/laws.FnMemPlaces", spec := "fnMemPlaces", unfollowed := true, recurses := true, plainKeys := false, apart := false, narrowed := true }
def FnMemPlacesUptoSaid : Prop := fnMemPlacesUptoRow.holds Try.pinned (OpenSpec.upto fnMemPlacesSpec)

/-- 'laws.FnMemPressure', WHERE WHAT IT READS IS OF BULK AT MOST 1048576: true; the input reads as it did. -/
def fnMemPressureUptoRow : OpenClaim := { program := "ythdipcbjhhopaaa", sum := "da29d896a00dce9ed862caaf641a9b6ca1cbb7bb2ed83d8ef8451fe27cfb4e83", func := "loop.example/quarterdeck/laws.FnMemPressure", spec := "fnMemPressure", unfollowed := true, recurses := true, plainKeys := false, apart := false, narrowed := true }
def FnMemPressureUptoSaid : Prop := fnMemPressureUptoRow.holds Try.pinned (OpenSpec.upto fnMemPressureSpec)

/-- 'laws.FnMemFull', WHERE WHAT IT READS IS OF BULK AT MOST 1048576: true; the input reads as it did. -/
def fnMemFullUptoRow : OpenClaim := { program := "ythdipcbjhhopaaa", sum := "da29d896a00dce9ed862caaf641a9b6ca1cbb7bb2ed83d8ef8451fe27cfb4e83", func := "loop.example/quarterdeck/laws.FnMemFull", spec := "fnMemFull", unfollowed := true, recurses := true, plainKeys := false, apart := false, narrowed := true }
def FnMemFullUptoSaid : Prop := fnMemFullUptoRow.holds Try.pinned (OpenSpec.upto fnMemFullSpec)

/-- 'laws.FnMemApart', WHERE WHAT IT READS IS OF BULK AT MOST 1048576: true; the input reads as it did. -/
def fnMemApartUptoRow : OpenClaim := { program := "ythdipcbjhhopaaa", sum := "da29d896a00dce9ed862caaf641a9b6ca1cbb7bb2ed83d8ef8451fe27cfb4e83", func := "loop.example/quarterdeck/laws.FnMemApart", spec := "fnMemApart", unfollowed := true, recurses := true, plainKeys := false, apart := false, narrowed := true }
def FnMemApartUptoSaid : Prop := fnMemApartUptoRow.holds Try.pinned (OpenSpec.upto fnMemApartSpec)

/-- 'laws.FnMemGet', WHERE WHAT IT READS IS OF BULK AT MOST 1048576: true; the input reads as it did. -/
def fnMemGetUptoRow : OpenClaim := { program := "ythdipcbjhhopaaa", sum := "da29d896a00dce9ed862caaf641a9b6ca1cbb7bb2ed83d8ef8451fe27cfb4e83", func := "loop.example/quarterdeck/laws.FnMemGet", spec := "fnMemGet", unfollowed := true, recurses := true, plainKeys := false, apart := false, narrowed := true }
def FnMemGetUptoSaid : Prop := fnMemGetUptoRow.holds Try.pinned (OpenSpec.upto fnMemGetSpec)

/-- 'laws.FnMemForkWrite', WHERE WHAT IT READS IS OF BULK AT MOST 1048576: true; the input reads as it did. -/
def fnMemForkWriteUptoRow : OpenClaim := { program := "ythdipcbjhhopaaa", sum := "da29d896a00dce9ed862caaf641a9b6ca1cbb7bb2ed83d8ef8451fe27cfb4e83", func := "loop.example/quarterdeck/laws.FnMemForkWrite", spec := "fnMemForkWrite", unfollowed := true, recurses := true, plainKeys := false, apart := false, narrowed := true }
def FnMemForkWriteUptoSaid : Prop := fnMemForkWriteUptoRow.holds Try.pinned (OpenSpec.upto fnMemForkWriteSpec)

/-- 'laws.FnMemForks', WHERE WHAT IT READS IS OF BULK AT MOST 1048576: true; the input reads as it did. -/
def fnMemForksUptoRow : OpenClaim := { program := "ythdipcbjhhopaaa", sum := "da29d896a00dce9ed862caaf641a9b6ca1cbb7bb2ed83d8ef8451fe27cfb4e83", func := "loop.example/quarterdeck/laws.FnMemForks", spec := "fnMemForks", unfollowed := true, recurses := true, plainKeys := false, apart := false, narrowed := true }
def FnMemForksUptoSaid : Prop := fnMemForksUptoRow.holds Try.pinned (OpenSpec.upto fnMemForksSpec)

/-- 'laws.FnExactMemGet', WHERE WHAT IT READS IS OF BULK AT MOST 1048576: true; the input reads as it did. -/
def fnExactMemGetUptoRow : OpenClaim := { program := "ythdipcbjhhopaaa", sum := "da29d896a00dce9ed862caaf641a9b6ca1cbb7bb2ed83d8ef8451fe27cfb4e83", func := "loop.example/quarterdeck/laws.FnExactMemGet", spec := "fnExactMemGet", unfollowed := true, recurses := true, plainKeys := false, apart := false, narrowed := true }
def FnExactMemGetUptoSaid : Prop := fnExactMemGetUptoRow.holds Try.pinned (OpenSpec.upto fnExactMemGetSpec)

/-- 'laws.FnMemOrder', WHERE WHAT IT READS IS OF BULK AT MOST 1048576: true; the input reads as it did. -/
def fnMemOrderUptoRow : OpenClaim := { program := "ythdipcbjhhopaaa", sum := "da29d896a00dce9ed862caaf641a9b6ca1cbb7bb2ed83d8ef8451fe27cfb4e83", func := "loop.example/quarterdeck/laws.FnMemOrder", spec := "fnMemOrder", unfollowed := true, recurses := true, plainKeys := false, apart := false, narrowed := true }
def FnMemOrderUptoSaid : Prop := fnMemOrderUptoRow.holds Try.pinned (OpenSpec.upto fnMemOrderSpec)

/-- 'laws.FnMemTwice', WHERE WHAT IT READS IS OF BULK AT MOST 1048576: true; the input reads as it did. -/
def fnMemTwiceUptoRow : OpenClaim := { program := "ythdipcbjhhopaaa", sum := "da29d896a00dce9ed862caaf641a9b6ca1cbb7bb2ed83d8ef8451fe27cfb4e83", func := "loop.example/quarterdeck/laws.FnMemTwice", spec := "fnMemTwice", unfollowed := true, recurses := true, plainKeys := false, apart := false, narrowed := true }
def FnMemTwiceUptoSaid : Prop := fnMemTwiceUptoRow.holds Try.pinned (OpenSpec.upto fnMemTwiceSpec)

/-- 'laws.FnMemFork', WHERE WHAT IT READS IS OF BULK AT MOST 1048576: true; the input reads as it did. -/
def fnMemForkUptoRow : OpenClaim := { program := "ythdipcbjhhopaaa", sum := "da29d896a00dce9ed862caaf641a9b6ca1cbb7bb2ed83d8ef8451fe27cfb4e83", func := "loop.example/quarterdeck/laws.FnMemFork", spec := "fnMemFork", unfollowed := true, recurses := true, plainKeys := false, apart := false, narrowed := true }
def FnMemForkUptoSaid : Prop := fnMemForkUptoRow.holds Try.pinned (OpenSpec.upto fnMemForkSpec)

/-- 'laws.FnMemForkDrop', WHERE WHAT IT READS IS OF BULK AT MOST 1048576: true; the input reads as it did. -/
def fnMemForkDropUptoRow : OpenClaim := { program := "ythdipcbjhhopaaa", sum := "da29d896a00dce9ed862caaf641a9b6ca1cbb7bb2ed83d8ef8451fe27cfb4e83", func := "loop.example/quarterdeck/laws.FnMemForkDrop", spec := "fnMemForkDrop", unfollowed := true, recurses := true, plainKeys := false, apart := false, narrowed := true }
def FnMemForkDropUptoSaid : Prop := fnMemForkDropUptoRow.holds Try.pinned (OpenSpec.upto fnMemForkDropSpec)

/-- 'laws.FnExactMemFork', WHERE WHAT IT READS IS OF BULK AT MOST 1048576: true; the input reads as it did. -/
def fnExactMemForkUptoRow : OpenClaim := { program := "ythdipcbjhhopaaa", sum := "da29d896a00dce9ed862caaf641a9b6ca1cbb7bb2ed83d8ef8451fe27cfb4e83", func := "loop.example/quarterdeck/laws.FnExactMemFork", spec := "fnExactMemFork", unfollowed := true, recurses := true, plainKeys := false, apart := false, narrowed := true }
def FnExactMemForkUptoSaid : Prop := fnExactMemForkUptoRow.holds Try.pinned (OpenSpec.upto fnExactMemForkSpec)

/-- 'laws.FnMemSet', WHERE WHAT IT READS IS OF BULK AT MOST 1048576: true; the input reads as it did. -/
def fnMemSetUptoRow : OpenClaim := { program := "ythdipcbjhhopaaa", sum := "da29d896a00dce9ed862caaf641a9b6ca1cbb7bb2ed83d8ef8451fe27cfb4e83", func := "loop.example/quarterdeck/laws.FnMemSet", spec := "fnMemSet", unfollowed := true, recurses := true, plainKeys := false, apart := false, narrowed := true }
def FnMemSetUptoSaid : Prop := fnMemSetUptoRow.holds Try.pinned (OpenSpec.upto fnMemSetSpec)

/-- 'laws.FnExactMemSet', WHERE WHAT IT READS IS OF BULK AT MOST 1048576: true; the input reads as it did. -/
def fnExactMemSetUptoRow : OpenClaim := { program := "ythdipcbjhhopaaa", sum := "da29d896a00dce9ed862caaf641a9b6ca1cbb7bb2ed83d8ef8451fe27cfb4e83", func := "loop.example/quarterdeck/laws.FnExactMemSet", spec := "fnExactMemSet", unfollowed := true, recurses := true, plainKeys := false, apart := false, narrowed := true }
def FnExactMemSetUptoSaid : Prop := fnExactMemSetUptoRow.holds Try.pinned (OpenSpec.upto fnExactMemSetSpec)

/-- 'laws.FnExactMemMap', WHERE WHAT IT READS IS OF BULK AT MOST 1048576: true; the input reads as it did. -/
def fnExactMemMapUptoRow : OpenClaim := { program := "ythdipcbjhhopaaa", sum := "da29d896a00dce9ed862caaf641a9b6ca1cbb7bb2ed83d8ef8451fe27cfb4e83", func := "loop.example/quarterdeck/laws.FnExactMemMap", spec := "fnExactMemMap", unfollowed := true, recurses := true, plainKeys := false, apart := false, narrowed := true }
def FnExactMemMapUptoSaid : Prop := fnExactMemMapUptoRow.holds Try.pinned (OpenSpec.upto fnExactMemMapSpec)

/-- 'laws.FnMemMap', WHERE WHAT IT READS IS OF BULK AT MOST 1048576: true; the input reads as it did. -/
def fnMemMapUptoRow : OpenClaim := { program := "ythdipcbjhhopaaa", sum := "da29d896a00dce9ed862caaf641a9b6ca1cbb7bb2ed83d8ef8451fe27cfb4e83", func := "loop.example/quarterdeck/laws.FnMemMap", spec := "fnMemMap", unfollowed := true, recurses := true, plainKeys := false, apart := false, narrowed := true }
def FnMemMapUptoSaid : Prop := fnMemMapUptoRow.holds Try.pinned (OpenSpec.upto fnMemMapSpec)

/-- 'laws.FnMemCutMap', WHERE WHAT IT READS IS OF BULK AT MOST 1048576: true; the input reads as it did. -/
def fnMemCutMapUptoRow : OpenClaim := { program := "ythdipcbjhhopaaa", sum := "da29d896a00dce9ed862caaf641a9b6ca1cbb7bb2ed83d8ef8451fe27cfb4e83", func := "loop.example/quarterdeck/laws.FnMemCutMap", spec := "fnMemCutMap", unfollowed := true, recurses := true, plainKeys := false, apart := false, narrowed := true }
def FnMemCutMapUptoSaid : Prop := fnMemCutMapUptoRow.holds Try.pinned (OpenSpec.upto fnMemCutMapSpec)

end Rows
end Go.Proofs.Ythdipcbjhhopaaa
