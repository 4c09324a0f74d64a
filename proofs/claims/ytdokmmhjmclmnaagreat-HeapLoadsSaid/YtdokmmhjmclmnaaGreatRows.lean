/-
  No cell of these rows narrows 'for every input' (looked for: loops, veiled, ifaces, maps, wideKeys, modest, calm, conditions, laid).
  DERIVED. THE GIVEN ROWS OF THIS SEAT. 11 by the template 'for every input the law returns true; each argument reads behind the call as it read before'; 0 by the template 'total and deterministic' (their statements: YtdokmmhjmclmnaaGreatTotals.lean).
  GIVEN WITH THE SEED: the statements are not yours to turn. If you find one false, say at which input.
  Laid BY PROGRAM, IN A SANDBOX (cutbox-rows.mjs): the forced cells as the released guide's own fill.sh prints them over the translation b0b6d39015d8356a… (all of the seat's roots in one cut). By AI agents, Wed Nov 11 2026. No macro, syntax, notation, axiom, sorry.
-/
import Derived.Test.YtdokmmhjmclmnaaGreatChecked
import GoSem.Claim
import GoSem.ClaimJoined
import GoSem.ClaimMapViews
import Derived.JoinedTies
import Derived.KernelRfl
namespace Go.Proofs.YtdokmmhjmclmnaaGreat
/- THE CELL 'sum', in the pinned program and in every row, IS THE sha256 OF THE DUMP (.gsa) THAT YtdokmmhjmclmnaaGreatProg.lean LOADS. Nothing in Lean hashes anything: it is a label: what it is worth is what the hold of that sum in a sandbox is worth. -/
noncomputable def Tryz.pinned : Pinned := { name := "ytdokmmhjmclmnaagreat", sum := "b0b6d39015d8356accf80379516f603ee03f212909b7d115d1b4a631a19b18ec", checked := Tryz.checked }
namespace Rows
def none {H : Type} : Left H := { results := [], args := [] }

/-- 'mistlaw18.HeapLoads': WHATEVER THE INPUT: true; the input reads as it did. -/
def heapLoadsSpec : ChangeSpec := { name := "heapLoads", fn := fun _ => fun
  | [d1, d2, d3] => { results := [.lit (.bool true)], args := [d1, d2, d3] }
  | _ => none }
def heapLoadsRow : OpenClaim := { program := "ytdokmmhjmclmnaagreat", sum := "b0b6d39015d8356accf80379516f603ee03f212909b7d115d1b4a631a19b18ec", func := "mist/mistlaw18.HeapLoads", spec := "heapLoads", unfollowed := true, recurses := true, plainKeys := false, apart := false }
def HeapLoadsSaid : Prop := heapLoadsRow.holds Tryz.pinned (OpenSpec.ofChange heapLoadsSpec)

/-- ITS FALSE NEIGHBOUR: 'it returns false'. Refute it at one input. -/
def heapLoadsWrong : ChangeSpec := { name := "heapLoads", fn := fun _ => fun
  | [d1, d2, d3] => { results := [.lit (.bool false)], args := [d1, d2, d3] }
  | _ => none }
def HeapLoadsWrongFalsely : Prop := heapLoadsRow.holds Tryz.pinned (OpenSpec.ofChange heapLoadsWrong)

/-- 'mistlaw18.HeapPlays': WHATEVER THE INPUT: true; the input reads as it did. -/
def heapPlaysSpec : ChangeSpec := { name := "heapPlays", fn := fun _ => fun
  | [d] => { results := [.lit (.bool true)], args := [d] }
  | _ => none }
def heapPlaysRow : OpenClaim := { program := "ytdokmmhjmclmnaagreat", sum := "b0b6d39015d8356accf80379516f603ee03f212909b7d115d1b4a631a19b18ec", func := "mist/mistlaw18.HeapPlays", spec := "heapPlays", unfollowed := true, recurses := true, plainKeys := false, apart := false }
def HeapPlaysSaid : Prop := heapPlaysRow.holds Tryz.pinned (OpenSpec.ofChange heapPlaysSpec)

/-- ITS FALSE NEIGHBOUR: 'it returns false'. Refute it at one input. -/
def heapPlaysWrong : ChangeSpec := { name := "heapPlays", fn := fun _ => fun
  | [d] => { results := [.lit (.bool false)], args := [d] }
  | _ => none }
def HeapPlaysWrongFalsely : Prop := heapPlaysRow.holds Tryz.pinned (OpenSpec.ofChange heapPlaysWrong)

/-- 'mistlaw18.HeapBack': WHATEVER THE INPUT: true; the input reads as it did. -/
def heapBackSpec : ChangeSpec := { name := "heapBack", fn := fun _ => fun
  | [d1, d2] => { results := [.lit (.bool true)], args := [d1, d2] }
  | _ => none }
def heapBackRow : OpenClaim := { program := "ytdokmmhjmclmnaagreat", sum := "b0b6d39015d8356accf80379516f603ee03f212909b7d115d1b4a631a19b18ec", func := "mist/mistlaw18.HeapBack", spec := "heapBack", unfollowed := true, recurses := true, plainKeys := false, apart := false }
def HeapBackSaid : Prop := heapBackRow.holds Tryz.pinned (OpenSpec.ofChange heapBackSpec)

/-- ITS FALSE NEIGHBOUR: 'it returns false'. Refute it at one input. -/
def heapBackWrong : ChangeSpec := { name := "heapBack", fn := fun _ => fun
  | [d1, d2] => { results := [.lit (.bool false)], args := [d1, d2] }
  | _ => none }
def HeapBackWrongFalsely : Prop := heapBackRow.holds Tryz.pinned (OpenSpec.ofChange heapBackWrong)

/-- 'mistlaw18.HeapOne': WHATEVER THE INPUT: true; the input reads as it did. -/
def heapOneSpec : ChangeSpec := { name := "heapOne", fn := fun _ => fun
  | [d] => { results := [.lit (.bool true)], args := [d] }
  | _ => none }
def heapOneRow : OpenClaim := { program := "ytdokmmhjmclmnaagreat", sum := "b0b6d39015d8356accf80379516f603ee03f212909b7d115d1b4a631a19b18ec", func := "mist/mistlaw18.HeapOne", spec := "heapOne", unfollowed := true, recurses := true, plainKeys := false, apart := false }
def HeapOneSaid : Prop := heapOneRow.holds Tryz.pinned (OpenSpec.ofChange heapOneSpec)

/-- ITS FALSE NEIGHBOUR: 'it returns false'. Refute it at one input. -/
def heapOneWrong : ChangeSpec := { name := "heapOne", fn := fun _ => fun
  | [d] => { results := [.lit (.bool false)], args := [d] }
  | _ => none }
def HeapOneWrongFalsely : Prop := heapOneRow.holds Tryz.pinned (OpenSpec.ofChange heapOneWrong)

/-- 'mistlaw18.HeapFreed': WHATEVER THE INPUT: true; the input reads as it did. -/
def heapFreedSpec : ChangeSpec := { name := "heapFreed", fn := fun _ => fun
  | [d] => { results := [.lit (.bool true)], args := [d] }
  | _ => none }
def heapFreedRow : OpenClaim := { program := "ytdokmmhjmclmnaagreat", sum := "b0b6d39015d8356accf80379516f603ee03f212909b7d115d1b4a631a19b18ec", func := "mist/mistlaw18.HeapFreed", spec := "heapFreed", unfollowed := true, recurses := true, plainKeys := false, apart := false }
def HeapFreedSaid : Prop := heapFreedRow.holds Tryz.pinned (OpenSpec.ofChange heapFreedSpec)

/-- ITS FALSE NEIGHBOUR: 'it returns false'. Refute it at one input. -/
def heapFreedWrong : ChangeSpec := { name := "heapFreed", fn := fun _ => fun
  | [d] => { results := [.lit (.bool false)], args := [d] }
  | _ => none }
def HeapFreedWrongFalsely : Prop := heapFreedRow.holds Tryz.pinned (OpenSpec.ofChange heapFreedWrong)

/-- 'mistlaw18.HeapPuts': WHATEVER THE INPUT: true; the input reads as it did. -/
def heapPutsSpec : ChangeSpec := { name := "heapPuts", fn := fun _ => fun
  | [d1, d2] => { results := [.lit (.bool true)], args := [d1, d2] }
  | _ => none }
def heapPutsRow : OpenClaim := { program := "ytdokmmhjmclmnaagreat", sum := "b0b6d39015d8356accf80379516f603ee03f212909b7d115d1b4a631a19b18ec", func := "mist/mistlaw18.HeapPuts", spec := "heapPuts", unfollowed := true, recurses := true, plainKeys := false, apart := false }
def HeapPutsSaid : Prop := heapPutsRow.holds Tryz.pinned (OpenSpec.ofChange heapPutsSpec)

/-- ITS FALSE NEIGHBOUR: 'it returns false'. Refute it at one input. -/
def heapPutsWrong : ChangeSpec := { name := "heapPuts", fn := fun _ => fun
  | [d1, d2] => { results := [.lit (.bool false)], args := [d1, d2] }
  | _ => none }
def HeapPutsWrongFalsely : Prop := heapPutsRow.holds Tryz.pinned (OpenSpec.ofChange heapPutsWrong)

/-- 'mistlaw18.HeapSound': WHATEVER THE INPUT: true; the input reads as it did. -/
def heapSoundSpec : ChangeSpec := { name := "heapSound", fn := fun _ => fun
  | [d1, d2] => { results := [.lit (.bool true)], args := [d1, d2] }
  | _ => none }
def heapSoundRow : OpenClaim := { program := "ytdokmmhjmclmnaagreat", sum := "b0b6d39015d8356accf80379516f603ee03f212909b7d115d1b4a631a19b18ec", func := "mist/mistlaw18.HeapSound", spec := "heapSound", unfollowed := true, recurses := true, plainKeys := false, apart := false }
def HeapSoundSaid : Prop := heapSoundRow.holds Tryz.pinned (OpenSpec.ofChange heapSoundSpec)

/-- ITS FALSE NEIGHBOUR: 'it returns false'. Refute it at one input. -/
def heapSoundWrong : ChangeSpec := { name := "heapSound", fn := fun _ => fun
  | [d1, d2] => { results := [.lit (.bool false)], args := [d1, d2] }
  | _ => none }
def HeapSoundWrongFalsely : Prop := heapSoundRow.holds Tryz.pinned (OpenSpec.ofChange heapSoundWrong)

/-- 'mistlaw18.HeapSums': WHATEVER THE INPUT: true; the input reads as it did. -/
def heapSumsSpec : ChangeSpec := { name := "heapSums", fn := fun _ => fun
  | [d] => { results := [.lit (.bool true)], args := [d] }
  | _ => none }
def heapSumsRow : OpenClaim := { program := "ytdokmmhjmclmnaagreat", sum := "b0b6d39015d8356accf80379516f603ee03f212909b7d115d1b4a631a19b18ec", func := "mist/mistlaw18.HeapSums", spec := "heapSums", unfollowed := true, recurses := true, plainKeys := false, apart := false }
def HeapSumsSaid : Prop := heapSumsRow.holds Tryz.pinned (OpenSpec.ofChange heapSumsSpec)

/-- ITS FALSE NEIGHBOUR: 'it returns false'. Refute it at one input. -/
def heapSumsWrong : ChangeSpec := { name := "heapSums", fn := fun _ => fun
  | [d] => { results := [.lit (.bool false)], args := [d] }
  | _ => none }
def HeapSumsWrongFalsely : Prop := heapSumsRow.holds Tryz.pinned (OpenSpec.ofChange heapSumsWrong)

/-- 'mistlaw18.HeapFull': WHATEVER THE INPUT: true; the input reads as it did. -/
def heapFullSpec : ChangeSpec := { name := "heapFull", fn := fun _ => fun
  | [d1, d2] => { results := [.lit (.bool true)], args := [d1, d2] }
  | _ => none }
def heapFullRow : OpenClaim := { program := "ytdokmmhjmclmnaagreat", sum := "b0b6d39015d8356accf80379516f603ee03f212909b7d115d1b4a631a19b18ec", func := "mist/mistlaw18.HeapFull", spec := "heapFull", unfollowed := true, recurses := true, plainKeys := false, apart := false }
def HeapFullSaid : Prop := heapFullRow.holds Tryz.pinned (OpenSpec.ofChange heapFullSpec)

/-- ITS FALSE NEIGHBOUR: 'it returns false'. Refute it at one input. -/
def heapFullWrong : ChangeSpec := { name := "heapFull", fn := fun _ => fun
  | [d1, d2] => { results := [.lit (.bool false)], args := [d1, d2] }
  | _ => none }
def HeapFullWrongFalsely : Prop := heapFullRow.holds Tryz.pinned (OpenSpec.ofChange heapFullWrong)

/-- 'mistlaw18.HeapKept': WHATEVER THE INPUT: true; the input reads as it did. -/
def heapKeptSpec : ChangeSpec := { name := "heapKept", fn := fun _ => fun
  | [d1, d2, d3] => { results := [.lit (.bool true)], args := [d1, d2, d3] }
  | _ => none }
def heapKeptRow : OpenClaim := { program := "ytdokmmhjmclmnaagreat", sum := "b0b6d39015d8356accf80379516f603ee03f212909b7d115d1b4a631a19b18ec", func := "mist/mistlaw18.HeapKept", spec := "heapKept", unfollowed := true, recurses := true, plainKeys := false, apart := false }
def HeapKeptSaid : Prop := heapKeptRow.holds Tryz.pinned (OpenSpec.ofChange heapKeptSpec)

/-- ITS FALSE NEIGHBOUR: 'it returns false'. Refute it at one input. -/
def heapKeptWrong : ChangeSpec := { name := "heapKept", fn := fun _ => fun
  | [d1, d2, d3] => { results := [.lit (.bool false)], args := [d1, d2, d3] }
  | _ => none }
def HeapKeptWrongFalsely : Prop := heapKeptRow.holds Tryz.pinned (OpenSpec.ofChange heapKeptWrong)

/-- 'mistlaw18.HeapNames': WHATEVER THE INPUT: true; the input reads as it did. -/
def heapNamesSpec : ChangeSpec := { name := "heapNames", fn := fun _ => fun
  | [] => { results := [.lit (.bool true)], args := [] }
  | _ => none }
def heapNamesRow : OpenClaim := { program := "ytdokmmhjmclmnaagreat", sum := "b0b6d39015d8356accf80379516f603ee03f212909b7d115d1b4a631a19b18ec", func := "mist/mistlaw18.HeapNames", spec := "heapNames", unfollowed := true, recurses := true, plainKeys := false, apart := false }
def HeapNamesSaid : Prop := heapNamesRow.holds Tryz.pinned (OpenSpec.ofChange heapNamesSpec)

/-- ITS FALSE NEIGHBOUR: 'it returns false'. Refute it at one input. -/
def heapNamesWrong : ChangeSpec := { name := "heapNames", fn := fun _ => fun
  | [] => { results := [.lit (.bool false)], args := [] }
  | _ => none }
def HeapNamesWrongFalsely : Prop := heapNamesRow.holds Tryz.pinned (OpenSpec.ofChange heapNamesWrong)

/- THE SECOND FORM. 'bulk': how many values and letters a reading holds, each counted each time it is reached (what is shared counts as often as it is met; a slice's spare places count too). A statement '..UptoSaid' is the law's where the arguments, and the package variables that the reading takes, are together of bulk at most 1048576: NARROWER than '..Said'. Prove '..Said' where nothing that the law and all that it calls make is longer than what came in: it says more and counts as full. Else prove '..UptoSaid'. A law counts once. -/
mutual
def uptoBulk {H : Type} : DataW H → Nat
  | .lit (.string bytes) => bytes.length + 1
  | .lit _ => 1
  | .nil => 1
  | .ptr d => uptoBulk d + 1
  | .slice elems spare => uptoBulkAll elems + uptoBulkAll spare + 1
  | .agg parts => uptoBulkAll parts + 1
  | .iface _ d => uptoBulk d + 1
  | .map entries => uptoBulkEntries entries + 1
  | .held _ => 1
def uptoBulkAll {H : Type} : List (DataW H) → Nat
  | [] => 0
  | d :: r => uptoBulk d + uptoBulkAll r
def uptoBulkEntries {H : Type} : List (Lit × DataW H) → Nat
  | [] => 0
  | x :: r => uptoBulkEntry x + uptoBulkEntries r
def uptoBulkEntry {H : Type} : Lit × DataW H → Nat
  | (.string bytes, d) => bytes.length + uptoBulk d + 1
  | (_, d) => uptoBulk d + 1
 end
def uptoSmall : (H : Type) → List (DataW H) → Bool := fun _ ds => decide (uptoBulkAll ds ≤ 1048576)
def OpenSpec.upto (s : _root_.Go.ChangeSpec) : _root_.Go.OpenSpec := { _root_.Go.OpenSpec.ofChange s with cond := some uptoSmall }

/-- 'mistlaw18.HeapLoads', WHERE WHAT IT READS IS OF BULK AT MOST 1048576: true; the input reads as it did. -/
def heapLoadsUptoRow : OpenClaim := { program := "ytdokmmhjmclmnaagreat", sum := "b0b6d39015d8356accf80379516f603ee03f212909b7d115d1b4a631a19b18ec", func := "mist/mistlaw18.HeapLoads", spec := "heapLoads", unfollowed := true, recurses := true, plainKeys := false, apart := false, narrowed := true }
def HeapLoadsUptoSaid : Prop := heapLoadsUptoRow.holds Tryz.pinned (OpenSpec.upto heapLoadsSpec)

/-- 'mistlaw18.HeapPlays', WHERE WHAT IT READS IS OF BULK AT MOST 1048576: true; the input reads as it did. -/
def heapPlaysUptoRow : OpenClaim := { program := "ytdokmmhjmclmnaagreat", sum := "b0b6d39015d8356accf80379516f603ee03f212909b7d115d1b4a631a19b18ec", func := "mist/mistlaw18.HeapPlays", spec := "heapPlays", unfollowed := true, recurses := true, plainKeys := false, apart := false, narrowed := true }
def HeapPlaysUptoSaid : Prop := heapPlaysUptoRow.holds Tryz.pinned (OpenSpec.upto heapPlaysSpec)

/-- 'mistlaw18.HeapBack', WHERE WHAT IT READS IS OF BULK AT MOST 1048576: true; the input reads as it did. -/
def heapBackUptoRow : OpenClaim := { program := "ytdokmmhjmclmnaagreat", sum := "b0b6d39015d8356accf80379516f603ee03f212909b7d115d1b4a631a19b18ec", func := "mist/mistlaw18.HeapBack", spec := "heapBack", unfollowed := true, recurses := true, plainKeys := false, apart := false, narrowed := true }
def HeapBackUptoSaid : Prop := heapBackUptoRow.holds Tryz.pinned (OpenSpec.upto heapBackSpec)

/-- 'mistlaw18.HeapOne', WHERE WHAT IT READS IS OF BULK AT MOST 1048576: true; the input reads as it did. -/
def heapOneUptoRow : OpenClaim := { program := "ytdokmmhjmclmnaagreat", sum := "b0b6d39015d8356accf80379516f603ee03f212909b7d115d1b4a631a19b18ec", func := "mist/mistlaw18.HeapOne", spec := "heapOne", unfollowed := true, recurses := true, plainKeys := false, apart := false, narrowed := true }
def HeapOneUptoSaid : Prop := heapOneUptoRow.holds Tryz.pinned (OpenSpec.upto heapOneSpec)

/-- 'mistlaw18.HeapFreed', WHERE WHAT IT READS IS OF BULK AT MOST 1048576: true; the input reads as it did. -/
def heapFreedUptoRow : OpenClaim := { program := "ytdokmmhjmclmnaagreat", sum := "b0b6d39015d8356accf80379516f603ee03f212909b7d115d1b4a631a19b18ec", func := "mist/mistlaw18.HeapFreed", spec := "heapFreed", unfollowed := true, recurses := true, plainKeys := false, apart := false, narrowed := true }
def HeapFreedUptoSaid : Prop := heapFreedUptoRow.holds Tryz.pinned (OpenSpec.upto heapFreedSpec)

/-- 'mistlaw18.HeapPuts', WHERE WHAT IT READS IS OF BULK AT MOST 1048576: true; the input reads as it did. -/
def heapPutsUptoRow : OpenClaim := { program := "ytdokmmhjmclmnaagreat", sum := "b0b6d39015d8356accf80379516f603ee03f212909b7d115d1b4a631a19b18ec", func := "mist/mistlaw18.HeapPuts", spec := "heapPuts", unfollowed := true, recurses := true, plainKeys := false, apart := false, narrowed := true }
def HeapPutsUptoSaid : Prop := heapPutsUptoRow.holds Tryz.pinned (OpenSpec.upto heapPutsSpec)

/-- 'mistlaw18.HeapSound', WHERE WHAT IT READS IS OF BULK AT MOST 1048576: true; the input reads as it did. -/
def heapSoundUptoRow : OpenClaim := { program := "ytdokmmhjmclmnaagreat", sum := "b0b6d39015d8356accf80379516f603ee03f212909b7d115d1b4a631a19b18ec", func := "mist/mistlaw18.HeapSound", spec := "heapSound", unfollowed := true, recurses := true, plainKeys := false, apart := false, narrowed := true }
def HeapSoundUptoSaid : Prop := heapSoundUptoRow.holds Tryz.pinned (OpenSpec.upto heapSoundSpec)

/-- 'mistlaw18.HeapSums', WHERE WHAT IT READS IS OF BULK AT MOST 1048576: true; the input reads as it did. -/
def heapSumsUptoRow : OpenClaim := { program := "ytdokmmhjmclmnaagreat", sum := "b0b6d39015d8356accf80379516f603ee03f212909b7d115d1b4a631a19b18ec", func := "mist/mistlaw18.HeapSums", spec := "heapSums", unfollowed := true, recurses := true, plainKeys := false, apart := false, narrowed := true }
def HeapSumsUptoSaid : Prop := heapSumsUptoRow.holds Tryz.pinned (OpenSpec.upto heapSumsSpec)

/-- 'mistlaw18.HeapFull', WHERE WHAT IT READS IS OF BULK AT MOST 1048576: true; the input reads as it did. -/
def heapFullUptoRow : OpenClaim := { program := "ytdokmmhjmclmnaagreat", sum := "b0b6d39015d8356accf80379516f603ee03f212909b7d115d1b4a631a19b18ec", func := "mist/mistlaw18.HeapFull", spec := "heapFull", unfollowed := true, recurses := true, plainKeys := false, apart := false, narrowed := true }
def HeapFullUptoSaid : Prop := heapFullUptoRow.holds Tryz.pinned (OpenSpec.upto heapFullSpec)

/-- 'mistlaw18.HeapKept', WHERE WHAT IT READS IS OF BULK AT MOST 1048576: true; the input reads as it did. -/
def heapKeptUptoRow : OpenClaim := { program := "ytdokmmhjmclmnaagreat", sum := "b0b6d39015d8356accf80379516f603ee03f212909b7d115d1b4a631a19b18ec", func := "mist/mistlaw18.HeapKept", spec := "heapKept", unfollowed := true, recurses := true, plainKeys := false, apart := false, narrowed := true }
def HeapKeptUptoSaid : Prop := heapKeptUptoRow.holds Tryz.pinned (OpenSpec.upto heapKeptSpec)

/-- 'mistlaw18.HeapNames', WHERE WHAT IT READS IS OF BULK AT MOST 1048576: true; the input reads as it did. -/
def heapNamesUptoRow : OpenClaim := { program := "ytdokmmhjmclmnaagreat", sum := "b0b6d39015d8356accf80379516f603ee03f212909b7d115d1b4a631a19b18ec", func := "mist/mistlaw18.HeapNames", spec := "heapNames", unfollowed := true, recurses := true, plainKeys := false, apart := false, narrowed := true }
def HeapNamesUptoSaid : Prop := heapNamesUptoRow.holds Tryz.pinned (OpenSpec.upto heapNamesSpec)

end Rows
end Go.Proofs.YtdokmmhjmclmnaaGreat
