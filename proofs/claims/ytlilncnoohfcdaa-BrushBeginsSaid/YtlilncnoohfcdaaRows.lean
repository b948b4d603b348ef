/-
  No cell of these rows narrows 'for every input' (looked for: loops, veiled, ifaces, maps, wideKeys, modest, calm, conditions, laid).
  DERIVED. THE GIVEN ROWS OF THIS SEAT. 11 by the template 'for every input the law returns true; each argument reads behind the call as it read before'; 0 by the template 'total and deterministic' (their statements: YtlilncnoohfcdaaTotals.lean).
  GIVEN WITH THE SEED: the statements are not yours to turn. If you find one false, say at which input.
  Laid BY PROGRAM, IN A SANDBOX (cutbox-rows.mjs): the forced cells as the released guide's own fill.sh prints them over the translation afaa3554e46d53bc… (all of the seat's roots in one cut). By AI agents, Wed Nov 11 2026. No macro, syntax, notation, axiom, sorry.
-/
import Derived.Test.YtlilncnoohfcdaaChecked
import GoSem.Claim
import GoSem.ClaimJoined
import GoSem.ClaimMapViews
import Derived.JoinedTies
import Derived.KernelRfl
namespace Go.Proofs.Ytlilncnoohfcdaa
/- THE CELL 'sum', in the pinned program and in every row, IS THE sha256 OF THE DUMP (.gsa) THAT YtlilncnoohfcdaaProg.lean LOADS. Nothing in Lean hashes anything: it is a label: what it is worth is what the hold of that sum in a sandbox is worth. -/
noncomputable def Try.pinned : Pinned := { name := "ytlilncnoohfcdaa", sum := "afaa3554e46d53bc785bb5571040a3c2daf90755ce836784ad46fc40f5ec70b4", checked := Try.checked }
namespace Rows
def none {H : Type} : Left H := { results := [], args := [] }

/-- 'imageeditorlaw27.DabChecks': WHATEVER THE INPUT: true; the input reads as it did. -/
def dabChecksSpec : ChangeSpec := { name := "dabChecks", fn := fun _ => fun
  | [d1, d2] => { results := [.lit (.bool true)], args := [d1, d2] }
  | _ => none }
def dabChecksRow : OpenClaim := { program := "ytlilncnoohfcdaa", sum := "afaa3554e46d53bc785bb5571040a3c2daf90755ce836784ad46fc40f5ec70b4", func := "imageeditor/imageeditorlaw27.DabChecks", spec := "dabChecks", unfollowed := true, recurses := true, apart := false }
def DabChecksSaid : Prop := dabChecksRow.holds Try.pinned (OpenSpec.ofChange dabChecksSpec)

/-- ITS FALSE NEIGHBOUR: 'it returns false'. Refute it at one input. -/
def dabChecksWrong : ChangeSpec := { name := "dabChecks", fn := fun _ => fun
  | [d1, d2] => { results := [.lit (.bool false)], args := [d1, d2] }
  | _ => none }
def DabChecksWrongFalsely : Prop := dabChecksRow.holds Try.pinned (OpenSpec.ofChange dabChecksWrong)

/-- 'imageeditorlaw27.DabTips': WHATEVER THE INPUT: true; the input reads as it did. -/
def dabTipsSpec : ChangeSpec := { name := "dabTips", fn := fun _ => fun
  | [d1, d2, d3] => { results := [.lit (.bool true)], args := [d1, d2, d3] }
  | _ => none }
def dabTipsRow : OpenClaim := { program := "ytlilncnoohfcdaa", sum := "afaa3554e46d53bc785bb5571040a3c2daf90755ce836784ad46fc40f5ec70b4", func := "imageeditor/imageeditorlaw27.DabTips", spec := "dabTips", unfollowed := true, recurses := true, apart := false }
def DabTipsSaid : Prop := dabTipsRow.holds Try.pinned (OpenSpec.ofChange dabTipsSpec)

/-- ITS FALSE NEIGHBOUR: 'it returns false'. Refute it at one input. -/
def dabTipsWrong : ChangeSpec := { name := "dabTips", fn := fun _ => fun
  | [d1, d2, d3] => { results := [.lit (.bool false)], args := [d1, d2, d3] }
  | _ => none }
def DabTipsWrongFalsely : Prop := dabTipsRow.holds Try.pinned (OpenSpec.ofChange dabTipsWrong)

/-- 'imageeditorlaw27.DabMoves': WHATEVER THE INPUT: true; the input reads as it did. -/
def dabMovesSpec : ChangeSpec := { name := "dabMoves", fn := fun _ => fun
  | [d1, d2, d3, d4, d5, d6] => { results := [.lit (.bool true)], args := [d1, d2, d3, d4, d5, d6] }
  | _ => none }
def dabMovesRow : OpenClaim := { program := "ytlilncnoohfcdaa", sum := "afaa3554e46d53bc785bb5571040a3c2daf90755ce836784ad46fc40f5ec70b4", func := "imageeditor/imageeditorlaw27.DabMoves", spec := "dabMoves", unfollowed := true, recurses := true, apart := false }
def DabMovesSaid : Prop := dabMovesRow.holds Try.pinned (OpenSpec.ofChange dabMovesSpec)

/-- ITS FALSE NEIGHBOUR: 'it returns false'. Refute it at one input. -/
def dabMovesWrong : ChangeSpec := { name := "dabMoves", fn := fun _ => fun
  | [d1, d2, d3, d4, d5, d6] => { results := [.lit (.bool false)], args := [d1, d2, d3, d4, d5, d6] }
  | _ => none }
def DabMovesWrongFalsely : Prop := dabMovesRow.holds Try.pinned (OpenSpec.ofChange dabMovesWrong)

/-- 'imageeditorlaw27.DabMirrors': WHATEVER THE INPUT: true; the input reads as it did. -/
def dabMirrorsSpec : ChangeSpec := { name := "dabMirrors", fn := fun _ => fun
  | [d1, d2, d3, d4, d5, d6, d7] => { results := [.lit (.bool true)], args := [d1, d2, d3, d4, d5, d6, d7] }
  | _ => none }
def dabMirrorsRow : OpenClaim := { program := "ytlilncnoohfcdaa", sum := "afaa3554e46d53bc785bb5571040a3c2daf90755ce836784ad46fc40f5ec70b4", func := "imageeditor/imageeditorlaw27.DabMirrors", spec := "dabMirrors", unfollowed := true, recurses := true, apart := false }
def DabMirrorsSaid : Prop := dabMirrorsRow.holds Try.pinned (OpenSpec.ofChange dabMirrorsSpec)

/-- ITS FALSE NEIGHBOUR: 'it returns false'. Refute it at one input. -/
def dabMirrorsWrong : ChangeSpec := { name := "dabMirrors", fn := fun _ => fun
  | [d1, d2, d3, d4, d5, d6, d7] => { results := [.lit (.bool false)], args := [d1, d2, d3, d4, d5, d6, d7] }
  | _ => none }
def DabMirrorsWrongFalsely : Prop := dabMirrorsRow.holds Try.pinned (OpenSpec.ofChange dabMirrorsWrong)

/-- 'imageeditorlaw27.DabCovers': WHATEVER THE INPUT: true; the input reads as it did. -/
def dabCoversSpec : ChangeSpec := { name := "dabCovers", fn := fun _ => fun
  | [d1, d2, d3, d4] => { results := [.lit (.bool true)], args := [d1, d2, d3, d4] }
  | _ => none }
def dabCoversRow : OpenClaim := { program := "ytlilncnoohfcdaa", sum := "afaa3554e46d53bc785bb5571040a3c2daf90755ce836784ad46fc40f5ec70b4", func := "imageeditor/imageeditorlaw27.DabCovers", spec := "dabCovers", unfollowed := true, recurses := true, apart := false }
def DabCoversSaid : Prop := dabCoversRow.holds Try.pinned (OpenSpec.ofChange dabCoversSpec)

/-- ITS FALSE NEIGHBOUR: 'it returns false'. Refute it at one input. -/
def dabCoversWrong : ChangeSpec := { name := "dabCovers", fn := fun _ => fun
  | [d1, d2, d3, d4] => { results := [.lit (.bool false)], args := [d1, d2, d3, d4] }
  | _ => none }
def DabCoversWrongFalsely : Prop := dabCoversRow.holds Try.pinned (OpenSpec.ofChange dabCoversWrong)

/-- 'imageeditorlaw28.BrushBegins': WHATEVER THE INPUT: true; the input reads as it did. -/
def brushBeginsSpec : ChangeSpec := { name := "brushBegins", fn := fun _ => fun
  | [d1, d2, d3] => { results := [.lit (.bool true)], args := [d1, d2, d3] }
  | _ => none }
def brushBeginsRow : OpenClaim := { program := "ytlilncnoohfcdaa", sum := "afaa3554e46d53bc785bb5571040a3c2daf90755ce836784ad46fc40f5ec70b4", func := "imageeditor/imageeditorlaw28.BrushBegins", spec := "brushBegins", unfollowed := true, recurses := true, apart := false }
def BrushBeginsSaid : Prop := brushBeginsRow.holds Try.pinned (OpenSpec.ofChange brushBeginsSpec)

/-- ITS FALSE NEIGHBOUR: 'it returns false'. Refute it at one input. -/
def brushBeginsWrong : ChangeSpec := { name := "brushBegins", fn := fun _ => fun
  | [d1, d2, d3] => { results := [.lit (.bool false)], args := [d1, d2, d3] }
  | _ => none }
def BrushBeginsWrongFalsely : Prop := brushBeginsRow.holds Try.pinned (OpenSpec.ofChange brushBeginsWrong)

/-- 'imageeditorlaw28.BrushDabs': WHATEVER THE INPUT: true; the input reads as it did. -/
def brushDabsSpec : ChangeSpec := { name := "brushDabs", fn := fun _ => fun
  | [d1, d2] => { results := [.lit (.bool true)], args := [d1, d2] }
  | _ => none }
def brushDabsRow : OpenClaim := { program := "ytlilncnoohfcdaa", sum := "afaa3554e46d53bc785bb5571040a3c2daf90755ce836784ad46fc40f5ec70b4", func := "imageeditor/imageeditorlaw28.BrushDabs", spec := "brushDabs", unfollowed := true, recurses := true, apart := false }
def BrushDabsSaid : Prop := brushDabsRow.holds Try.pinned (OpenSpec.ofChange brushDabsSpec)

/-- ITS FALSE NEIGHBOUR: 'it returns false'. Refute it at one input. -/
def brushDabsWrong : ChangeSpec := { name := "brushDabs", fn := fun _ => fun
  | [d1, d2] => { results := [.lit (.bool false)], args := [d1, d2] }
  | _ => none }
def BrushDabsWrongFalsely : Prop := brushDabsRow.holds Try.pinned (OpenSpec.ofChange brushDabsWrong)

/-- 'imageeditorlaw28.BrushBoxes': WHATEVER THE INPUT: true; the input reads as it did. -/
def brushBoxesSpec : ChangeSpec := { name := "brushBoxes", fn := fun _ => fun
  | [d] => { results := [.lit (.bool true)], args := [d] }
  | _ => none }
def brushBoxesRow : OpenClaim := { program := "ytlilncnoohfcdaa", sum := "afaa3554e46d53bc785bb5571040a3c2daf90755ce836784ad46fc40f5ec70b4", func := "imageeditor/imageeditorlaw28.BrushBoxes", spec := "brushBoxes", unfollowed := true, recurses := true, apart := false }
def BrushBoxesSaid : Prop := brushBoxesRow.holds Try.pinned (OpenSpec.ofChange brushBoxesSpec)

/-- ITS FALSE NEIGHBOUR: 'it returns false'. Refute it at one input. -/
def brushBoxesWrong : ChangeSpec := { name := "brushBoxes", fn := fun _ => fun
  | [d] => { results := [.lit (.bool false)], args := [d] }
  | _ => none }
def BrushBoxesWrongFalsely : Prop := brushBoxesRow.holds Try.pinned (OpenSpec.ofChange brushBoxesWrong)

/-- 'imageeditorlaw28.BrushStrokes': WHATEVER THE INPUT: true; the input reads as it did. -/
def brushStrokesSpec : ChangeSpec := { name := "brushStrokes", fn := fun _ => fun
  | [d] => { results := [.lit (.bool true)], args := [d] }
  | _ => none }
def brushStrokesRow : OpenClaim := { program := "ytlilncnoohfcdaa", sum := "afaa3554e46d53bc785bb5571040a3c2daf90755ce836784ad46fc40f5ec70b4", func := "imageeditor/imageeditorlaw28.BrushStrokes", spec := "brushStrokes", unfollowed := true, recurses := true, apart := false }
def BrushStrokesSaid : Prop := brushStrokesRow.holds Try.pinned (OpenSpec.ofChange brushStrokesSpec)

/-- ITS FALSE NEIGHBOUR: 'it returns false'. Refute it at one input. -/
def brushStrokesWrong : ChangeSpec := { name := "brushStrokes", fn := fun _ => fun
  | [d] => { results := [.lit (.bool false)], args := [d] }
  | _ => none }
def BrushStrokesWrongFalsely : Prop := brushStrokesRow.holds Try.pinned (OpenSpec.ofChange brushStrokesWrong)

/-- 'imageeditorlaw28.BrushCovers': WHATEVER THE INPUT: true; the input reads as it did. -/
def brushCoversSpec : ChangeSpec := { name := "brushCovers", fn := fun _ => fun
  | [d] => { results := [.lit (.bool true)], args := [d] }
  | _ => none }
def brushCoversRow : OpenClaim := { program := "ytlilncnoohfcdaa", sum := "afaa3554e46d53bc785bb5571040a3c2daf90755ce836784ad46fc40f5ec70b4", func := "imageeditor/imageeditorlaw28.BrushCovers", spec := "brushCovers", unfollowed := true, recurses := true, apart := false }
def BrushCoversSaid : Prop := brushCoversRow.holds Try.pinned (OpenSpec.ofChange brushCoversSpec)

/-- ITS FALSE NEIGHBOUR: 'it returns false'. Refute it at one input. -/
def brushCoversWrong : ChangeSpec := { name := "brushCovers", fn := fun _ => fun
  | [d] => { results := [.lit (.bool false)], args := [d] }
  | _ => none }
def BrushCoversWrongFalsely : Prop := brushCoversRow.holds Try.pinned (OpenSpec.ofChange brushCoversWrong)

/-- 'imageeditorlaw29.RetouchSame': WHATEVER THE INPUT: true; the input reads as it did. -/
def retouchSameSpec : ChangeSpec := { name := "retouchSame", fn := fun _ => fun
  | [d1, d2, d3, d4, d5] => { results := [.lit (.bool true)], args := [d1, d2, d3, d4, d5] }
  | _ => none }
def retouchSameRow : OpenClaim := { program := "ytlilncnoohfcdaa", sum := "afaa3554e46d53bc785bb5571040a3c2daf90755ce836784ad46fc40f5ec70b4", func := "imageeditor/imageeditorlaw29.RetouchSame", spec := "retouchSame", unfollowed := true, recurses := true, apart := false }
def RetouchSameSaid : Prop := retouchSameRow.holds Try.pinned (OpenSpec.ofChange retouchSameSpec)

/-- ITS FALSE NEIGHBOUR: 'it returns false'. Refute it at one input. -/
def retouchSameWrong : ChangeSpec := { name := "retouchSame", fn := fun _ => fun
  | [d1, d2, d3, d4, d5] => { results := [.lit (.bool false)], args := [d1, d2, d3, d4, d5] }
  | _ => none }
def RetouchSameWrongFalsely : Prop := retouchSameRow.holds Try.pinned (OpenSpec.ofChange retouchSameWrong)

/- THE SECOND FORM. 'bulk': how many values and letters a reading holds, each counted each time it is reached (what is shared counts as often as it is met; a slice's spare places count too). A statement '..UptoSaid' is the law's where the arguments, and the package variables that the reading takes, are together of bulk at most 1048576: NARROWER than '..Said'. Prove '..Said' where nothing that the law and all that it calls make is longer than what came in: it says more and counts as full. Else prove '..UptoSaid'. A law counts once. -/
mutual
def uptoBulk {H : Type} : DataW H → Nat
  | .lit (.string bytes) => bytes.length + 1
  | .lit _ => 1
  | .nil => 1
  | .ptr d => uptoBulk d + 1
  | .slice elems spare => uptoBulkAll elems + uptoBulkAll spare + 1
  | .agg parts => uptoBulkAll parts + 1
  | .iface _ d => uptoBulk d + 1
  | .map entries => uptoBulkEntries entries + 1
  | .held _ => 1
def uptoBulkAll {H : Type} : List (DataW H) → Nat
  | [] => 0
  | d :: r => uptoBulk d + uptoBulkAll r
def uptoBulkEntries {H : Type} : List (Lit × DataW H) → Nat
  | [] => 0
  | x :: r => uptoBulkEntry x + uptoBulkEntries r
def uptoBulkEntry {H : Type} : Lit × DataW H → Nat
  | (.string bytes, d) => bytes.length + uptoBulk d + 1
  | (_, d) => uptoBulk d + 1
 end
def uptoSmall : (H : Type) → List (DataW H) → Bool := fun _ ds => decide (uptoBulkAll ds ≤ 1048576)
def OpenSpec.upto (s : _root_.Go.ChangeSpec) : _root_.Go.OpenSpec := { _root_.Go.OpenSpec.ofChange s with cond := some uptoSmall }

/-- 'imageeditorlaw27.DabChecks', WHERE WHAT IT READS IS OF BULK AT MOST 1048576: true; the input reads as it did. -/
def dabChecksUptoRow : OpenClaim := { program := "ytlilncnoohfcdaa", sum := "afaa3554e46d53bc785bb5571040a3c2daf90755ce836784ad46fc40f5ec70b4", func := "imageeditor/imageeditorlaw27.DabChecks", spec := "dabChecks", unfollowed := true, recurses := true, apart := false, narrowed := true }
def DabChecksUptoSaid : Prop := dabChecksUptoRow.holds Try.pinned (OpenSpec.upto dabChecksSpec)

/-- 'imageeditorlaw27.DabTips', WHERE WHAT IT READS IS OF BULK AT MOST 1048576: true; the input reads as it did. -/
def dabTipsUptoRow : OpenClaim := { program := "ytlilncnoohfcdaa", sum := "afaa3554e46d53bc785bb5571040a3c2daf90755ce836784ad46fc40f5ec70b4", func := "imageeditor/imageeditorlaw27.DabTips", spec := "dabTips", unfollowed := true, recurses := true, apart := false, narrowed := true }
def DabTipsUptoSaid : Prop := dabTipsUptoRow.holds Try.pinned (OpenSpec.upto dabTipsSpec)

/-- 'imageeditorlaw27.DabMoves', WHERE WHAT IT READS IS OF BULK AT MOST 1048576: true; the input reads as it did. -/
def dabMovesUptoRow : OpenClaim := { program := "ytlilncnoohfcdaa", sum := "afaa3554e46d53bc785bb5571040a3c2daf90755ce836784ad46fc40f5ec70b4", func := "imageeditor/imageeditorlaw27.DabMoves", spec := "dabMoves", unfollowed := true, recurses := true, apart := false, narrowed := true }
def DabMovesUptoSaid : Prop := dabMovesUptoRow.holds Try.pinned (OpenSpec.upto dabMovesSpec)

/-- 'imageeditorlaw27.DabMirrors', WHERE WHAT IT READS IS OF BULK AT MOST 1048576: true; the input reads as it did. -/
def dabMirrorsUptoRow : OpenClaim := { program := "ytlilncnoohfcdaa", sum := "afaa3554e46d53bc785bb5571040a3c2daf90755ce836784ad46fc40f5ec70b4", func := "imageeditor/imageeditorlaw27.DabMirrors", spec := "dabMirrors", unfollowed := true, recurses := true, apart := false, narrowed := true }
def DabMirrorsUptoSaid : Prop := dabMirrorsUptoRow.holds Try.pinned (OpenSpec.upto dabMirrorsSpec)

/-- 'imageeditorlaw27.DabCovers', WHERE WHAT IT READS IS OF BULK AT MOST 1048576: true; the input reads as it did. -/
def dabCoversUptoRow : OpenClaim := { program := "ytlilncnoohfcdaa", sum := "afaa3554e46d53bc785bb5571040a3c2daf90755ce836784ad46fc40f5ec70b4", func := "imageeditor/imageeditorlaw27.DabCovers", spec := "dabCovers", unfollowed := true, recurses := true, apart := false, narrowed := true }
def DabCoversUptoSaid : Prop := dabCoversUptoRow.holds Try.pinned (OpenSpec.upto dabCoversSpec)

/-- 'imageeditorlaw28.BrushBegins', WHERE WHAT IT READS IS OF BULK AT MOST 1048576: true; the input reads as it did. -/
def brushBeginsUptoRow : OpenClaim := { program := "ytlilncnoohfcdaa", sum := "afaa3554e46d53bc785bb5571040a3c2daf90755ce836784ad46fc40f5ec70b4", func := "imageeditor/imageeditorlaw28.BrushBegins", spec := "brushBegins", unfollowed := true, recurses := true, apart := false, narrowed := true }
def BrushBeginsUptoSaid : Prop := brushBeginsUptoRow.holds Try.pinned (OpenSpec.upto brushBeginsSpec)

/-- 'imageeditorlaw28.BrushDabs', WHERE WHAT IT READS IS OF BULK AT MOST 1048576: true; the input reads as it did. -/
def brushDabsUptoRow : OpenClaim := { program := "ytlilncnoohfcdaa", sum := "afaa3554e46d53bc785bb5571040a3c2daf90755ce836784ad46fc40f5ec70b4", func := "imageeditor/imageeditorlaw28.BrushDabs", spec := "brushDabs", unfollowed := true, recurses := true, apart := false, narrowed := true }
def BrushDabsUptoSaid : Prop := brushDabsUptoRow.holds Try.pinned (OpenSpec.upto brushDabsSpec)

/-- 'imageeditorlaw28.BrushBoxes', WHERE WHAT IT READS IS OF BULK AT MOST 1048576: true; the input reads as it did. -/
def brushBoxesUptoRow : OpenClaim := { program := "ytlilncnoohfcdaa", sum := "afaa3554e46d53bc785bb5571040a3c2daf90755ce836784ad46fc40f5ec70b4", func := "imageeditor/imageeditorlaw28.BrushBoxes", spec := "brushBoxes", unfollowed := true, recurses := true, apart := false, narrowed := true }
def BrushBoxesUptoSaid : Prop := brushBoxesUptoRow.holds Try.pinned (OpenSpec.upto brushBoxesSpec)

/-- 'imageeditorlaw28.BrushStrokes', WHERE WHAT IT READS IS OF BULK AT MOST 1048576: true; the input reads as it did. -/
def brushStrokesUptoRow : OpenClaim := { program := "ytlilncnoohfcdaa", sum := "afaa3554e46d53bc785bb5571040a3c2daf90755ce836784ad46fc40f5ec70b4", func := "imageeditor/imageeditorlaw28.BrushStrokes", spec := "brushStrokes", unfollowed := true, recurses := true, apart := false, narrowed := true }
def BrushStrokesUptoSaid : Prop := brushStrokesUptoRow.holds Try.pinned (OpenSpec.upto brushStrokesSpec)

/-- 'imageeditorlaw28.BrushCovers', WHERE WHAT IT READS IS OF BULK AT MOST 1048576: true; the input reads as it did. -/
def brushCoversUptoRow : OpenClaim := { program := "ytlilncnoohfcdaa", sum := "afaa3554e46d53bc785bb5571040a3c2daf90755ce836784ad46fc40f5ec70b4", func := "imageeditor/imageeditorlaw28.BrushCovers", spec := "brushCovers", unfollowed := true, recurses := true, apart := false, narrowed := true }
def BrushCoversUptoSaid : Prop := brushCoversUptoRow.holds Try.pinned (OpenSpec.upto brushCoversSpec)

/-- 'imageeditorlaw29.RetouchSame', WHERE WHAT IT READS IS OF BULK AT MOST 1048576: true; the input reads as it did. -/
def retouchSameUptoRow : OpenClaim := { program := "ytlilncnoohfcdaa", sum := "afaa3554e46d53bc785bb5571040a3c2daf90755ce836784ad46fc40f5ec70b4", func := "imageeditor/imageeditorlaw29.RetouchSame", spec := "retouchSame", unfollowed := true, recurses := true, apart := false, narrowed := true }
def RetouchSameUptoSaid : Prop := retouchSameUptoRow.holds Try.pinned (OpenSpec.upto retouchSameSpec)

end Rows
end Go.Proofs.Ytlilncnoohfcdaa
