import PyProof.Rows.All
import Wide.All
import OpenK.AllK
import Wide.FinOn
import PyProof.EqAt
import PyProof.EqKinds
import PyProof.TupleCall
import KE.KLam
import KE.KCallOwn
import KE.GoesEnum
import KE.GoesNew
import KE.SortData
import KE.SortKeyHeap
import HandS.Base
import HandS.Call
import HandS.List
import HandS.Comp
import HandS.Ends
import HandS.Dict
import HandS.Iter
import HandS.Walk
import HandS.Text
import HandS.Words
import HandS.WordsList
import HandS.WordsDict
import HandS.Flow
import HandS.Style
import HandS.IsInst
import HandS.Exc
import HandS.ExcOwn
import HandS.ExcCtx
import HandS.ExcField
import HandS.ExcInit
import HandS.ExcInitHot
import HandS.RaiseFrom
import HandS.SuiteRaise
import HandS.TryOnly
import HandS.TryMany
import HandS.HotCalls
import HandS.Codes
import HandS.Defaults
import HandS.ClsMeth
import HandS.FStr
import HandS.DictComp
import HandS.OwnEq
import HandS.Zip
import HandS.SetKeys
import HandS.Lambda
import HandS.EndTab
import HandS.HeadHook1
import HandS.HeadHook2
import HandS.HeadHook3
import HandS.HeadHook4
import HandS.HeadNt
import HandS.HeadWalk
import HandS.Head0
import HandS.Head1
import HandS.Head2
import PySem.Challenge.RW_newesttells_k11_whole_texts_of_bands
import HandS.SetFor
import HandS.Strs
import HandS.SortKw
import HandS.RaiseMore
import HandS.SlotsOwn
set_option Elab.async false
set_option linter.all false
set_option maxRecDepth 100000
set_option maxHeartbeats 0
namespace NT
open PySem PySem.Spec PyProof.Rows L2 LamX
/-! ### the text by its places -/
def top (i : Nat) : Stmt := PySem.Challenge.pw_newesttells_k11_whole_texts_of_bands.main.body.getD i (.Pass ⟨0, 0, 0, 0⟩)
abbrev s_is_name : Stmt := top 3
abbrev s_is_number : Stmt := top 4
abbrev s_cell_of : Stmt := top 7
abbrev s_seed_of : Stmt := top 8
abbrev s_leading_cells : Stmt := top 9
abbrev s_leading_seeds : Stmt := top 10
abbrev s_check_cells : Stmt := top 26
abbrev s_is_row : Stmt := top 27
abbrev s_over : Stmt := top 28
abbrev s_lot_of : Stmt := top 29
abbrev s_blank : Stmt := top 30
abbrev s_lot_size : Stmt := top 32
abbrev s_ordered_lots : Stmt := top 33
abbrev s_check_seeds : Stmt := top 43
abbrev s_grown_rows : Stmt := top 44
abbrev s__law_bag : Stmt := top 47
abbrev s__law_draw : Stmt := top 48
abbrev s__law_of : Stmt := top 49
abbrev s__law_same : Stmt := top 50
abbrev s__law_field : Stmt := top 51
abbrev s__law_try : Stmt := top 52
abbrev s__law_title : Stmt := top 53
abbrev s__law_frame : Stmt := top 54
abbrev s__law_row : Stmt := top 55
abbrev s__law_once : Stmt := top 56
abbrev s__law_stack : Stmt := top 57
abbrev s__law_size : Stmt := top 58
abbrev s__law_lay : Stmt := top 59
abbrev s__law_lot : Stmt := top 60
abbrev s__law_blank : Stmt := top 61
abbrev s__law_rows : Stmt := top 62
abbrev s__law_is_row : Stmt := top 63
abbrev s__law_text : Stmt := top 64
abbrev s__law_cell_of : Stmt := top 65
abbrev s__law_seed_of : Stmt := top 66
abbrev s__law_refused : Stmt := top 67
abbrev s__law_read : Stmt := top 68
abbrev s__law_line : Stmt := top 69
abbrev s__law_bent : Stmt := top 70
abbrev s__law_text_so : Stmt := top 71
abbrev s__law_wide_texts_so : Stmt := top 72
abbrev s_law : Stmt := top 73
abbrev s_Band___init__ : Stmt := inClass (top 45) 0
abbrev s_Band_cells : Stmt := inClass (top 45) 1
abbrev s_Band_seeds : Stmt := inClass (top 45) 2
abbrev s_Band_text : Stmt := inClass (top 45) 18
abbrev s_Band___eq__ : Stmt := inClass (top 45) 22
abbrev s_Band___len__ : Stmt := inClass (top 45) 23
abbrev s_Band___str__ : Stmt := inClass (top 45) 25
abbrev s_Band_read : Stmt := inClass (top 45) 19
abbrev s_BadCells : Stmt := inClass (top 13) 0
abbrev s_BadSeed : Stmt := inClass (top 14) 0
abbrev s_TooMany : Stmt := inClass (top 17) 0
abbrev s_Untold : Stmt := inClass (top 18) 0
abbrev s_InvalidText : Stmt := inClass (top 19) 0
def rd (K : PySem.W.Frag) : Addr := He5.wf K (He.ga K "Band") "staticmethod" "read"
abbrev cT1 (K : PySem.W.Frag) : Addr × Addr := He.cT K ("_law_text_so", none)
abbrev cT2 (K : PySem.W.Frag) : Addr × Addr := He.cT K ("law", none)
def oexB (K : PySem.W.Frag) (C : Addr) : Bool := match K.lookup C with
  | some ⟨.type "type", _, .cls cd, sl⟩ => (match cd.mro, sl.toList with
    | .ref C2 :: bm, [_, _, _, _, some (.builtin n), _] => C2 == C && n == "ValueError.__new__" && !cd.hasDel && cd.hasDict && PySem.HandSPX.refsVE bm
    | _, _ => false)
  | _ => false
def d0 : He5.DefA := ⟨fun K => He.ma K (He.ga K "BadCells") "__init__", "__init__", "BadCells.__init__", defArgs s_BadCells, defBody s_BadCells, defScope s_BadCells, [], []⟩
def d1 : He5.DefA := ⟨fun K => He.ma K (He.ga K "BadSeed") "__init__", "__init__", "BadSeed.__init__", defArgs s_BadSeed, defBody s_BadSeed, defScope s_BadSeed, [], []⟩
def d2 : He5.DefA := ⟨fun K => He.ma K (He.ga K "TooMany") "__init__", "__init__", "TooMany.__init__", defArgs s_TooMany, defBody s_TooMany, defScope s_TooMany, [], []⟩
def d3 : He5.DefA := ⟨fun K => He.ma K (He.ga K "Untold") "__init__", "__init__", "Untold.__init__", defArgs s_Untold, defBody s_Untold, defScope s_Untold, [], []⟩
def d4 : He5.DefA := ⟨fun K => He.ma K (He.ga K "InvalidText") "__init__", "__init__", "InvalidText.__init__", defArgs s_InvalidText, defBody s_InvalidText, defScope s_InvalidText, [], []⟩
def d5 : He5.DefA := ⟨fun K => He.ma K (He.ga K "Band") "__init__", "__init__", "Band.__init__", defArgs s_Band___init__, defBody s_Band___init__, defScope s_Band___init__, [], [("most", .int 800)]⟩
def d6 : He5.DefA := ⟨fun K => He.ma K (He.ga K "Band") "cells", "cells", "Band.cells", defArgs s_Band_cells, defBody s_Band_cells, defScope s_Band_cells, [], []⟩
def d7 : He5.DefA := ⟨fun K => He.ma K (He.ga K "Band") "seeds", "seeds", "Band.seeds", defArgs s_Band_seeds, defBody s_Band_seeds, defScope s_Band_seeds, [], []⟩
def d8 : He5.DefA := ⟨fun K => He.ma K (He.ga K "Band") "text", "text", "Band.text", defArgs s_Band_text, defBody s_Band_text, defScope s_Band_text, [], []⟩
def d9 : He5.DefA := ⟨fun K => He.ma K (He.ga K "Band") "__eq__", "__eq__", "Band.__eq__", defArgs s_Band___eq__, defBody s_Band___eq__, defScope s_Band___eq__, [], []⟩
def d10 : He5.DefA := ⟨fun K => He.ma K (He.ga K "Band") "__len__", "__len__", "Band.__len__", defArgs s_Band___len__, defBody s_Band___len__, defScope s_Band___len__, [], []⟩
def d11 : He5.DefA := ⟨fun K => He.ma K (He.ga K "Band") "__str__", "__str__", "Band.__str__", defArgs s_Band___str__, defBody s_Band___str__, defScope s_Band___str__, [], []⟩
def d12 : He5.DefA := ⟨rd, "read", "Band.read", defArgs s_Band_read, defBody s_Band_read, defScope s_Band_read, [], []⟩
def d13 : He5.DefA := ⟨fun K => He.ga K "is_name", "is_name", "is_name", defArgs s_is_name, defBody s_is_name, defScope s_is_name, [], []⟩
def d14 : He5.DefA := ⟨fun K => He.ga K "is_number", "is_number", "is_number", defArgs s_is_number, defBody s_is_number, defScope s_is_number, [], []⟩
def d15 : He5.DefA := ⟨fun K => He.ga K "cell_of", "cell_of", "cell_of", defArgs s_cell_of, defBody s_cell_of, defScope s_cell_of, [], []⟩
def d16 : He5.DefA := ⟨fun K => He.ga K "seed_of", "seed_of", "seed_of", defArgs s_seed_of, defBody s_seed_of, defScope s_seed_of, [], []⟩
def d17 : He5.DefA := ⟨fun K => He.ga K "leading_cells", "leading_cells", "leading_cells", defArgs s_leading_cells, defBody s_leading_cells, defScope s_leading_cells, [], []⟩
def d18 : He5.DefA := ⟨fun K => He.ga K "leading_seeds", "leading_seeds", "leading_seeds", defArgs s_leading_seeds, defBody s_leading_seeds, defScope s_leading_seeds, [], []⟩
def d19 : He5.DefA := ⟨fun K => He.ga K "check_cells", "check_cells", "check_cells", defArgs s_check_cells, defBody s_check_cells, defScope s_check_cells, [], []⟩
def d20 : He5.DefA := ⟨fun K => He.ga K "is_row", "is_row", "is_row", defArgs s_is_row, defBody s_is_row, defScope s_is_row, [], []⟩
def d21 : He5.DefA := ⟨fun K => He.ga K "over", "over", "over", defArgs s_over, defBody s_over, defScope s_over, [], []⟩
def d22 : He5.DefA := ⟨fun K => He.ga K "lot_of", "lot_of", "lot_of", defArgs s_lot_of, defBody s_lot_of, defScope s_lot_of, [], []⟩
def d23 : He5.DefA := ⟨fun K => He.ga K "blank", "blank", "blank", defArgs s_blank, defBody s_blank, defScope s_blank, [], []⟩
def d24 : He5.DefA := ⟨fun K => He.ga K "lot_size", "lot_size", "lot_size", defArgs s_lot_size, defBody s_lot_size, defScope s_lot_size, [], []⟩
def d25 : He5.DefA := ⟨fun K => He.ga K "ordered_lots", "ordered_lots", "ordered_lots", defArgs s_ordered_lots, defBody s_ordered_lots, defScope s_ordered_lots, [], []⟩
def d26 : He5.DefA := ⟨fun K => He.ga K "check_seeds", "check_seeds", "check_seeds", defArgs s_check_seeds, defBody s_check_seeds, defScope s_check_seeds, [], []⟩
def d27 : He5.DefA := ⟨fun K => He.ga K "grown_rows", "grown_rows", "grown_rows", defArgs s_grown_rows, defBody s_grown_rows, defScope s_grown_rows, [], []⟩
def d28 : He5.DefA := ⟨fun K => He.ga K "_law_bag", "_law_bag", "_law_bag", defArgs s__law_bag, defBody s__law_bag, defScope s__law_bag, [], []⟩
def d29 : He5.DefA := ⟨fun K => He.ga K "_law_draw", "_law_draw", "_law_draw", defArgs s__law_draw, defBody s__law_draw, defScope s__law_draw, [], []⟩
def d30 : He5.DefA := ⟨fun K => He.ga K "_law_of", "_law_of", "_law_of", defArgs s__law_of, defBody s__law_of, defScope s__law_of, [], []⟩
def d31 : He5.DefA := ⟨fun K => He.ga K "_law_same", "_law_same", "_law_same", defArgs s__law_same, defBody s__law_same, defScope s__law_same, [], []⟩
def d32 : He5.DefA := ⟨fun K => He.ga K "_law_field", "_law_field", "_law_field", defArgs s__law_field, defBody s__law_field, defScope s__law_field, [], []⟩
def d33 : He5.DefA := ⟨fun K => He.ga K "_law_try", "_law_try", "_law_try", defArgs s__law_try, defBody s__law_try, defScope s__law_try, [], []⟩
def d34 : He5.DefA := ⟨fun K => He.ga K "_law_title", "_law_title", "_law_title", defArgs s__law_title, defBody s__law_title, defScope s__law_title, [], []⟩
def d35 : He5.DefA := ⟨fun K => He.ga K "_law_frame", "_law_frame", "_law_frame", defArgs s__law_frame, defBody s__law_frame, defScope s__law_frame, [], []⟩
def d36 : He5.DefA := ⟨fun K => He.ga K "_law_row", "_law_row", "_law_row", defArgs s__law_row, defBody s__law_row, defScope s__law_row, [.int 2], []⟩
def d37 : He5.DefA := ⟨fun K => He.ga K "_law_once", "_law_once", "_law_once", defArgs s__law_once, defBody s__law_once, defScope s__law_once, [], []⟩
def d38 : He5.DefA := ⟨fun K => He.ga K "_law_stack", "_law_stack", "_law_stack", defArgs s__law_stack, defBody s__law_stack, defScope s__law_stack, [], []⟩
def d39 : He5.DefA := ⟨fun K => He.ga K "_law_size", "_law_size", "_law_size", defArgs s__law_size, defBody s__law_size, defScope s__law_size, [], []⟩
def d40 : He5.DefA := ⟨fun K => He.ga K "_law_lay", "_law_lay", "_law_lay", defArgs s__law_lay, defBody s__law_lay, defScope s__law_lay, [], []⟩
def d41 : He5.DefA := ⟨fun K => He.ga K "_law_lot", "_law_lot", "_law_lot", defArgs s__law_lot, defBody s__law_lot, defScope s__law_lot, [], []⟩
def d42 : He5.DefA := ⟨fun K => He.ga K "_law_blank", "_law_blank", "_law_blank", defArgs s__law_blank, defBody s__law_blank, defScope s__law_blank, [], []⟩
def d43 : He5.DefA := ⟨fun K => He.ga K "_law_rows", "_law_rows", "_law_rows", defArgs s__law_rows, defBody s__law_rows, defScope s__law_rows, [], []⟩
def d44 : He5.DefA := ⟨fun K => He.ga K "_law_is_row", "_law_is_row", "_law_is_row", defArgs s__law_is_row, defBody s__law_is_row, defScope s__law_is_row, [], []⟩
def d45 : He5.DefA := ⟨fun K => He.ga K "_law_text", "_law_text", "_law_text", defArgs s__law_text, defBody s__law_text, defScope s__law_text, [], []⟩
def d46 : He5.DefA := ⟨fun K => He.ga K "_law_cell_of", "_law_cell_of", "_law_cell_of", defArgs s__law_cell_of, defBody s__law_cell_of, defScope s__law_cell_of, [], []⟩
def d47 : He5.DefA := ⟨fun K => He.ga K "_law_seed_of", "_law_seed_of", "_law_seed_of", defArgs s__law_seed_of, defBody s__law_seed_of, defScope s__law_seed_of, [], []⟩
def d48 : He5.DefA := ⟨fun K => He.ga K "_law_refused", "_law_refused", "_law_refused", defArgs s__law_refused, defBody s__law_refused, defScope s__law_refused, [], []⟩
def d49 : He5.DefA := ⟨fun K => He.ga K "_law_read", "_law_read", "_law_read", defArgs s__law_read, defBody s__law_read, defScope s__law_read, [], []⟩
def d50 : He5.DefA := ⟨fun K => He.ga K "_law_line", "_law_line", "_law_line", defArgs s__law_line, defBody s__law_line, defScope s__law_line, [], []⟩
def d51 : He5.DefA := ⟨fun K => He.ga K "_law_bent", "_law_bent", "_law_bent", defArgs s__law_bent, defBody s__law_bent, defScope s__law_bent, [], []⟩
def d52 : He5.DefA := ⟨fun K => He.ga K "_law_text_so", "_law_text_so", "_law_text_so", defArgs s__law_text_so, defBody s__law_text_so, defScope s__law_text_so, [], []⟩
def d53 : He5.DefA := ⟨fun K => He.ga K "_law_wide_texts_so", "_law_wide_texts_so", "_law_wide_texts_so", defArgs s__law_wide_texts_so, defBody s__law_wide_texts_so, defScope s__law_wide_texts_so, [], []⟩
def d54 : He5.DefA := ⟨fun K => He.ga K "law", "law", "law", defArgs s_law, defBody s_law, defScope s_law, [], []⟩
def fnL : List He5.DefA := [d0, d1, d2, d3, d4, d5, d6, d7, d8, d9, d10, d11, d12, d13, d14, d15, d16, d17, d18, d19, d20, d21, d22, d23, d24, d25, d26, d27, d28, d29, d30, d31, d32, d33, d34, d35, d36, d37, d38, d39, d40, d41, d42, d43, d44, d45, d46, d47, d48, d49, d50, d51, d52, d53, d54]
def faL : List He.Fa := [.free "isinstance", .free "str", .free "int", .free "bool", .free "list", .free "tuple", .free "dict", .free "len", .free "all", .free "enumerate", .free "zip", .free "range", .free "sorted", .free "set", .free "abs", .int "MOST_ROWS" 800, .int "MOST_SEEDS" 30, .int "MOST_CELLS" 12, .int "MOST_VALUES" 4, .str "LETTERS" "abcdefghijklmnopqrstuvwxyz", .glo "COUNTS", .glo "TellsError", .glo "Missing", .glo "BadCells", .exm "BadCells" "TellsError" true, .noat "BadCells" "code", .noat "BadCells" "at", .glo "BadSeed", .exm "BadSeed" "TellsError" true, .noat "BadSeed" "code", .noat "BadSeed" "at", .glo "TooMany", .exm "TooMany" "TellsError" true, .noat "TooMany" "code", .noat "TooMany" "most", .glo "Untold", .exm "Untold" "TellsError" true, .noat "Untold" "code", .noat "Untold" "cell", .glo "InvalidText", .exm "InvalidText" "TellsError" true, .noat "InvalidText" "code", .noat "InvalidText" "line", .noat "InvalidText" "why", .glo "Band", .cls "Band", .mkr "Band", .noat "Band" "cell_list", .noat "Band" "seed_list", .noat "Band" "row_list", .noat "Band" "known_rows", .noat "Band" "lot_list", .meth "Band" "cells", .meth "Band" "seeds", .meth "Band" "text", .meth "Band" "__eq__", .meth "Band" "__len__", .meth "Band" "__str__", .glo "is_name", .glo "is_number", .glo "cell_of", .glo "seed_of", .glo "leading_cells", .glo "leading_seeds", .glo "check_cells", .glo "is_row", .glo "over", .glo "lot_of", .glo "blank", .glo "lot_size", .glo "ordered_lots", .glo "check_seeds", .glo "grown_rows", .glo "_law_bag", .glo "_law_draw", .glo "_law_of", .glo "_law_same", .glo "_law_field", .glo "_law_try", .glo "_law_title", .glo "_law_frame", .glo "_law_row", .glo "_law_once", .glo "_law_stack", .glo "_law_size", .glo "_law_lay", .glo "_law_lot", .glo "_law_blank", .glo "_law_rows", .glo "_law_is_row", .glo "_law_text", .glo "_law_cell_of", .glo "_law_seed_of", .glo "_law_refused", .glo "_law_read", .glo "_law_line", .glo "_law_bent", .glo "_law_text_so", .glo "_law_wide_texts_so", .glo "law"]
def exL (K : PySem.W.Frag) : List Bool := [
  He.tupB K "COUNTS" [.str "1", .str "2", .str "3", .str "4"],
  oexB K (He.ga K "BadCells"),
  He.eqO (PySem.W.findIn K (.ref (He.ga K "BadCells")) "__setattr__") (some (some (.builtin "object.__setattr__"))),
  decide (PySem.W.subIn K (.ref (He.ga K "BadCells")) (.type "BaseException") = some true),
  decide (PySem.W.typeIn K (.ref (He.ga K "BadCells")) = some (.type "type")),
  PySem.W.keepIn K (.ref (He.ga K "BadCells")),
  xfB K (He.ga K "BadCells"),
  He.eqO (PySem.W.findIn K (.ref (He.ga K "BadCells")) "__init__") (some (some (.ref (He.ma K (He.ga K "BadCells") "__init__")))),
  decide (PySem.W.typeIn K (.ref (He.ma K (He.ga K "BadCells") "__init__")) = some (.type "function")),
  oexB K (He.ga K "BadSeed"),
  He.eqO (PySem.W.findIn K (.ref (He.ga K "BadSeed")) "__setattr__") (some (some (.builtin "object.__setattr__"))),
  decide (PySem.W.subIn K (.ref (He.ga K "BadSeed")) (.type "BaseException") = some true),
  decide (PySem.W.typeIn K (.ref (He.ga K "BadSeed")) = some (.type "type")),
  PySem.W.keepIn K (.ref (He.ga K "BadSeed")),
  xfB K (He.ga K "BadSeed"),
  He.eqO (PySem.W.findIn K (.ref (He.ga K "BadSeed")) "__init__") (some (some (.ref (He.ma K (He.ga K "BadSeed") "__init__")))),
  decide (PySem.W.typeIn K (.ref (He.ma K (He.ga K "BadSeed") "__init__")) = some (.type "function")),
  oexB K (He.ga K "TooMany"),
  He.eqO (PySem.W.findIn K (.ref (He.ga K "TooMany")) "__setattr__") (some (some (.builtin "object.__setattr__"))),
  decide (PySem.W.subIn K (.ref (He.ga K "TooMany")) (.type "BaseException") = some true),
  decide (PySem.W.typeIn K (.ref (He.ga K "TooMany")) = some (.type "type")),
  PySem.W.keepIn K (.ref (He.ga K "TooMany")),
  xfB K (He.ga K "TooMany"),
  He.eqO (PySem.W.findIn K (.ref (He.ga K "TooMany")) "__init__") (some (some (.ref (He.ma K (He.ga K "TooMany") "__init__")))),
  decide (PySem.W.typeIn K (.ref (He.ma K (He.ga K "TooMany") "__init__")) = some (.type "function")),
  oexB K (He.ga K "Untold"),
  He.eqO (PySem.W.findIn K (.ref (He.ga K "Untold")) "__setattr__") (some (some (.builtin "object.__setattr__"))),
  decide (PySem.W.subIn K (.ref (He.ga K "Untold")) (.type "BaseException") = some true),
  decide (PySem.W.typeIn K (.ref (He.ga K "Untold")) = some (.type "type")),
  PySem.W.keepIn K (.ref (He.ga K "Untold")),
  xfB K (He.ga K "Untold"),
  He.eqO (PySem.W.findIn K (.ref (He.ga K "Untold")) "__init__") (some (some (.ref (He.ma K (He.ga K "Untold") "__init__")))),
  decide (PySem.W.typeIn K (.ref (He.ma K (He.ga K "Untold") "__init__")) = some (.type "function")),
  oexB K (He.ga K "InvalidText"),
  He.eqO (PySem.W.findIn K (.ref (He.ga K "InvalidText")) "__setattr__") (some (some (.builtin "object.__setattr__"))),
  decide (PySem.W.subIn K (.ref (He.ga K "InvalidText")) (.type "BaseException") = some true),
  decide (PySem.W.typeIn K (.ref (He.ga K "InvalidText")) = some (.type "type")),
  PySem.W.keepIn K (.ref (He.ga K "InvalidText")),
  xfB K (He.ga K "InvalidText"),
  He.eqO (PySem.W.findIn K (.ref (He.ga K "InvalidText")) "__init__") (some (some (.ref (He.ma K (He.ga K "InvalidText") "__init__")))),
  decide (PySem.W.typeIn K (.ref (He.ma K (He.ga K "InvalidText") "__init__")) = some (.type "function")),
  decide (PySem.W.exmAny K (.ref (He.ga K "InvalidText")) [.ref (He.ga K "TellsError"), .ref (He.ga K "Missing")] = some true),
  He.eqO (PySem.W.findIn K (.ref (He.ga K "Band")) "__class__") (some (some (.builtin "object.__class__"))),
  He.eqO (PySem.W.specialIn K (.builtin "object.__class__") "__get__") (some (some (.builtin "getset_descriptor.__get__"))),
  decide (PySem.W.takesIn K (.builtin "object.__class__") = some true),
  decide (PySem.W.mroIn K (He.ga K "Band") (.type "object") = some true),
  decide (PySem.W.kitOne K (.ref (He.ga K "Band")) (.ref (He.ga K "Band")) = some true),
  decide (PySem.W.kitOne K (.ref (He.ga K "Band")) (.type "str") = some false),
  decide (PySem.W.kitOne K (.ref (He.ga K "Band")) (.type "list") = some false),
  decide (PySem.W.kitOne K (.ref (He.ga K "Band")) (.type "tuple") = some false),
  decide (PySem.W.kitOne K (.ref (He.ga K "Band")) (.type "dict") = some false),
  decide (PySem.W.kitOne K (.ref (He.ga K "Band")) (.type "bool") = some false),
  decide (PySem.W.kitOne K (.ref (He.ga K "Band")) (.type "int") = some false),
  PySem.W.readsIn K (He.ga K "Band") (.type "type"),
  He.eqO (PySem.W.specialIn K (.ref (He.ga K "Band")) "__getattribute__") (some (some (.builtin "type.__getattribute__"))),
  He5.wrapB K (He.ga K "Band") "staticmethod" "staticmethod.__get__" "read",
  decide ((cT1 K).2 ≠ (cT2 K).2)]
def exB (K : PySem.W.Frag) : Bool := (exL K).all fun b => b
def tfL : List He.Defn := [("_law_text_so", none), ("law", none)]
def kOf (g : Addr → Option Obj) : PySem.W.Frag := He.frT g (List.range 672)
end NT
/-! ### the head's run, fact by fact (each theorem runs the top anew: one alone for all of it passes the memory's limit) -/
noncomputable section
namespace NT
open PySem PySem.W PySem.Calls PyProof.Rows
abbrev RL : OpenRow := OpenLaw.row PySem.Challenge.rw_newesttells_k11_whole_texts_of_bands
def names1 : List PySem.Str := ["_wall", "LETTERS", "is_name", "is_number", "COUNTS", "cell_of", "seed_of", "leading_cells", "leading_seeds", "TellsError", "BadCells", "BadSeed", "BadRow", "BadNumber", "TooMany", "Untold", "InvalidText", "Missing", "MOST_ROWS", "MOST_SEEDS", "MOST_CELLS", "MOST_VALUES", "check_cells", "is_row", "over", "lot_of", "blank", "union", "lot_size", "ordered_lots"]
def names2 : List PySem.Str := ["new_places", "can_take", "first_to_take", "taking", "bar_lines", "come", "come_coming", "check_seeds", "grown_rows", "Band", "_law_bag", "_law_draw", "_law_of", "_law_same", "_law_field", "_law_try", "_law_title", "_law_frame", "_law_row", "_law_once", "_law_stack", "_law_size", "_law_lay", "_law_lot", "_law_blank", "_law_rows", "_law_is_row", "_law_text"]
def names3 : List PySem.Str := ["_law_cell_of", "_law_seed_of", "_law_refused", "_law_read", "_law_line", "_law_bent", "_law_text_so", "_law_wide_texts_so"]
def names : List PySem.Str := names1 ++ names2 ++ names3
/-- the state behind the top -/
abbrev endL (w : World) (os : OsState) : Option PySem.W.SharedT := HandSHeadRun.endF (HandSHeadRun.stepQ (HandSHeadRun.denQ HandSHeadRun.tabQ) RL.prog w) 8000 RL.prog w os
abbrev kAt (s : PySem.W.SharedT) : PySem.W.Frag := kOf (HandSHeadRun.getT s)
theorem run0 (w : World) : HandSHeadRun.RunEq RL (view RL.prog [73]) Hook.none (fun _ => ()) 8000 names w := by
  intro os
  kernel_rfl
theorem run1 (w : World) (os : OsState) : (endL w os).map (fun s => faL.all fun f => f.ok (kAt s)) = some true := by
  kernel_rfl
theorem run2 (w : World) (os : OsState) : (endL w os).map (fun s => fnL.all fun d => d.ok (kAt s)) = some true := by
  kernel_rfl
theorem run3 (w : World) (os : OsState) : (endL w os).map (fun s => fnL.map fun d => He5.fnA (kAt s) (d.at_ (kAt s))) = some (fnL.map He5.DefA.val) := by
  kernel_rfl
theorem run4 (w : World) (os : OsState) : (endL w os).map (fun s => exB (kAt s) && He.tabsB (HandSHeadRun.getT s) tfL (kAt s)) = some true := by
  kernel_rfl
end NT
end
namespace NT
open PySem PySem.Spec PyProof.Rows L2
/-! ### what the top has left -/
/-- a def of the module: its function object, its name -/
structure Df (K : PySem.W.Frag) (mg : Str → Option Value) (x : Str) (st : Stmt) (dvs : List V) : Prop where
  fd : ∃ fd, FunD K x x (defArgs st) (defBody st) (defScope st) dvs [] (He.ga K x) fd
  gm : mg x = some (.ref (He.ga K x))
/-- an own exception class with its __init__ -/
structure XCls (K : PySem.W.Frag) (mg : Str → Option Value) (x q : Str) (st : Stmt) : Prop where
  gC : mg x = some (.ref (He.ga K x))
  oex : OexC K (He.ga K x)
  xf : XfC K (He.ga K x)
  iC : PySem.W.findIn K (.ref (He.ga K x)) "__init__" = some (some (.ref (He.ma K (He.ga K x) "__init__")))
  tI : PySem.W.typeIn K (.ref (He.ma K (He.ga K x) "__init__")) = some (.type "function")
  te : PySem.W.exmOne K (.ref (He.ga K x)) (.ref (He.ga K "TellsError")) = some true
  fd : ∃ fd, FunD K "__init__" q (defArgs st) (defBody st) (defScope st) [] [] (He.ma K (He.ga K x) "__init__") fd
  nc : PySem.W.findIn K (.ref (He.ga K x)) "code" = some none
/-- where Band.read's function stands -/
structure Txt (K : PySem.W.Frag) (mg : Str → Option Value) : Prop where
  f_isinstance : mg "isinstance" = none
  f_str : mg "str" = none
  f_int : mg "int" = none
  f_bool : mg "bool" = none
  f_list : mg "list" = none
  f_tuple : mg "tuple" = none
  f_dict : mg "dict" = none
  f_len : mg "len" = none
  f_all : mg "all" = none
  f_enumerate : mg "enumerate" = none
  f_zip : mg "zip" = none
  f_range : mg "range" = none
  f_sorted : mg "sorted" = none
  f_set : mg "set" = none
  f_abs : mg "abs" = none
  v_MOST_ROWS : ∃ u, mg "MOST_ROWS" = some u ∧ RelV (.int 800) u
  v_MOST_SEEDS : ∃ u, mg "MOST_SEEDS" = some u ∧ RelV (.int 30) u
  v_MOST_CELLS : ∃ u, mg "MOST_CELLS" = some u ∧ RelV (.int 12) u
  v_MOST_VALUES : ∃ u, mg "MOST_VALUES" = some u ∧ RelV (.int 4) u
  v_LETTERS : ∃ u, mg "LETTERS" = some u ∧ RelV (.str "abcdefghijklmnopqrstuvwxyz") u
  v_COUNTS : ∃ u, mg "COUNTS" = some u ∧ RelV (.ref (He.ga K "COUNTS")) u
  t_COUNTS : ∀ H, SqT K H (He.ga K "COUNTS") [.str "1", .str "2", .str "3", .str "4"]
  g_TellsError : mg "TellsError" = some (.ref (He.ga K "TellsError"))
  g_Missing : mg "Missing" = some (.ref (He.ga K "Missing"))
  x_BadCells : XCls K mg "BadCells" "BadCells.__init__" s_BadCells
  n_BadCells_at : PySem.W.findIn K (.ref (He.ga K "BadCells")) "at" = some none
  x_BadSeed : XCls K mg "BadSeed" "BadSeed.__init__" s_BadSeed
  n_BadSeed_at : PySem.W.findIn K (.ref (He.ga K "BadSeed")) "at" = some none
  x_TooMany : XCls K mg "TooMany" "TooMany.__init__" s_TooMany
  n_TooMany_most : PySem.W.findIn K (.ref (He.ga K "TooMany")) "most" = some none
  x_Untold : XCls K mg "Untold" "Untold.__init__" s_Untold
  n_Untold_cell : PySem.W.findIn K (.ref (He.ga K "Untold")) "cell" = some none
  x_InvalidText : XCls K mg "InvalidText" "InvalidText.__init__" s_InvalidText
  n_InvalidText_line : PySem.W.findIn K (.ref (He.ga K "InvalidText")) "line" = some none
  n_InvalidText_why : PySem.W.findIn K (.ref (He.ga K "InvalidText")) "why" = some none
  xa_InvalidText : PySem.W.exmAny K (.ref (He.ga K "InvalidText")) [.ref (He.ga K "TellsError"), .ref (He.ga K "Missing")] = some true
  g_Band : mg "Band" = some (.ref (He.ga K "Band"))
  c_Band : Cls K (He.ga K "Band")
  mk_Band : Mk K (He.ga K "Band") (He.ma K (He.ga K "Band") "__init__")
  i_Band : C8.InsC K (He.ga K "Band")
  k_Band_str : PySem.W.kitOne K (.ref (He.ga K "Band")) (.type "str") = some false
  k_Band_list : PySem.W.kitOne K (.ref (He.ga K "Band")) (.type "list") = some false
  k_Band_tuple : PySem.W.kitOne K (.ref (He.ga K "Band")) (.type "tuple") = some false
  k_Band_dict : PySem.W.kitOne K (.ref (He.ga K "Band")) (.type "dict") = some false
  k_Band_bool : PySem.W.kitOne K (.ref (He.ga K "Band")) (.type "bool") = some false
  k_Band_int : PySem.W.kitOne K (.ref (He.ga K "Band")) (.type "int") = some false
  n_cell_list : NoAttr K (He.ga K "Band") "cell_list"
  n_seed_list : NoAttr K (He.ga K "Band") "seed_list"
  n_row_list : NoAttr K (He.ga K "Band") "row_list"
  n_known_rows : NoAttr K (He.ga K "Band") "known_rows"
  n_lot_list : NoAttr K (He.ga K "Band") "lot_list"
  m_Band_cells : Meth K (He.ga K "Band") "cells" (He.ma K (He.ga K "Band") "cells")
  m_Band_seeds : Meth K (He.ga K "Band") "seeds" (He.ma K (He.ga K "Band") "seeds")
  m_Band_text : Meth K (He.ga K "Band") "text" (He.ma K (He.ga K "Band") "text")
  m_Band___eq__ : Meth K (He.ga K "Band") "__eq__" (He.ma K (He.ga K "Band") "__eq__")
  m_Band___len__ : Meth K (He.ga K "Band") "__len__" (He.ma K (He.ga K "Band") "__len__")
  m_Band___str__ : Meth K (He.ga K "Band") "__str__" (He.ma K (He.ga K "Band") "__str__")
  d_Band___init__ : ∃ fd, FunD K "__init__" "Band.__init__" (defArgs s_Band___init__) (defBody s_Band___init__) (defScope s_Band___init__) [] [("most", .int 800)] (He.ma K (He.ga K "Band") "__init__") fd
  d_Band_cells : ∃ fd, FunD K "cells" "Band.cells" (defArgs s_Band_cells) (defBody s_Band_cells) (defScope s_Band_cells) [] [] (He.ma K (He.ga K "Band") "cells") fd
  d_Band_seeds : ∃ fd, FunD K "seeds" "Band.seeds" (defArgs s_Band_seeds) (defBody s_Band_seeds) (defScope s_Band_seeds) [] [] (He.ma K (He.ga K "Band") "seeds") fd
  d_Band_text : ∃ fd, FunD K "text" "Band.text" (defArgs s_Band_text) (defBody s_Band_text) (defScope s_Band_text) [] [] (He.ma K (He.ga K "Band") "text") fd
  d_Band___eq__ : ∃ fd, FunD K "__eq__" "Band.__eq__" (defArgs s_Band___eq__) (defBody s_Band___eq__) (defScope s_Band___eq__) [] [] (He.ma K (He.ga K "Band") "__eq__") fd
  d_Band___len__ : ∃ fd, FunD K "__len__" "Band.__len__" (defArgs s_Band___len__) (defBody s_Band___len__) (defScope s_Band___len__) [] [] (He.ma K (He.ga K "Band") "__len__") fd
  d_Band___str__ : ∃ fd, FunD K "__str__" "Band.__str__" (defArgs s_Band___str__) (defBody s_Band___str__) (defScope s_Band___str__) [] [] (He.ma K (He.ga K "Band") "__str__") fd
  r_Band : ClX.CRead K (He.ga K "Band") (.type "type")
  m_Band_read : PySem.W.findCls K (.ref (He.ga K "Band")) (.type "type") "read" = some (.get (.builtin "staticmethod.__get__") (.ref (He.ma K (He.ga K "Band") "read")) .none (.ref (He.ga K "Band"))) ∧ ∃ rest, PySem.W.recIn K (He.ma K (He.ga K "Band") "read") "staticmethod" = some (.ref (rd K) :: rest)
  d_Band_read : ∃ fd, FunD K "read" "Band.read" (defArgs s_Band_read) (defBody s_Band_read) (defScope s_Band_read) [] [] (rd K) fd
  d_is_name : Df K mg "is_name" s_is_name []
  d_is_number : Df K mg "is_number" s_is_number []
  d_cell_of : Df K mg "cell_of" s_cell_of []
  d_seed_of : Df K mg "seed_of" s_seed_of []
  d_leading_cells : Df K mg "leading_cells" s_leading_cells []
  d_leading_seeds : Df K mg "leading_seeds" s_leading_seeds []
  d_check_cells : Df K mg "check_cells" s_check_cells []
  d_is_row : Df K mg "is_row" s_is_row []
  d_over : Df K mg "over" s_over []
  d_lot_of : Df K mg "lot_of" s_lot_of []
  d_blank : Df K mg "blank" s_blank []
  d_lot_size : Df K mg "lot_size" s_lot_size []
  d_ordered_lots : Df K mg "ordered_lots" s_ordered_lots []
  d_check_seeds : Df K mg "check_seeds" s_check_seeds []
  d_grown_rows : Df K mg "grown_rows" s_grown_rows []
  d__law_bag : Df K mg "_law_bag" s__law_bag []
  d__law_draw : Df K mg "_law_draw" s__law_draw []
  d__law_of : Df K mg "_law_of" s__law_of []
  d__law_same : Df K mg "_law_same" s__law_same []
  d__law_field : Df K mg "_law_field" s__law_field []
  d__law_try : Df K mg "_law_try" s__law_try []
  d__law_title : Df K mg "_law_title" s__law_title []
  d__law_frame : Df K mg "_law_frame" s__law_frame []
  d__law_row : Df K mg "_law_row" s__law_row [.int 2]
  d__law_once : Df K mg "_law_once" s__law_once []
  d__law_stack : Df K mg "_law_stack" s__law_stack []
  d__law_size : Df K mg "_law_size" s__law_size []
  d__law_lay : Df K mg "_law_lay" s__law_lay []
  d__law_lot : Df K mg "_law_lot" s__law_lot []
  d__law_blank : Df K mg "_law_blank" s__law_blank []
  d__law_rows : Df K mg "_law_rows" s__law_rows []
  d__law_is_row : Df K mg "_law_is_row" s__law_is_row []
  d__law_text : Df K mg "_law_text" s__law_text []
  d__law_cell_of : Df K mg "_law_cell_of" s__law_cell_of []
  d__law_seed_of : Df K mg "_law_seed_of" s__law_seed_of []
  d__law_refused : Df K mg "_law_refused" s__law_refused []
  d__law_read : Df K mg "_law_read" s__law_read []
  d__law_line : Df K mg "_law_line" s__law_line []
  d__law_bent : Df K mg "_law_bent" s__law_bent []
  d__law_text_so : Df K mg "_law_text_so" s__law_text_so []
  d__law_wide_texts_so : Df K mg "_law_wide_texts_so" s__law_wide_texts_so []
/-! ### a def that may be called by its name -/
structure Cl (P : Program) (w : World) (K : PySem.W.Frag) (mg : Str → Option Value) (base : Heap) (CX : CXT) (k : Nat) (x : Str) (sp : Sp) (dvs : List V) : Prop where
  ex : ∃ (f : Addr) (fd : FuncData) (ps : List Str) (ds : List Value), FnOk P w K mg base CX k f fd ps sp ∧ mg x = some (.ref f) ∧ PySem.W.keepIn K (.ref f) = true ∧ Binds K fd ps ds ∧ Vals dvs ds
section
variable {P : Program} {w : World} {K : PySem.W.Frag} {mg : Str → Option Value} {base : Heap}
theorem FunD.ok0 {x qual : Str} {params : Arguments} {body : List Stmt} {scope : Scope} {dvs : List V} {kws : List (Str × V)} {f : Addr} {fd : FuncData} {N ps : List Str} {k : Nat} {sp : Sp} (F : FunD K x qual params body scope dvs kws f fd) (S : FnScope N ps scope) (len : ∀ vs H Q E, sp vs H Q E → vs.length = ps.length)
    (hbody : ∀ (cdv : Value) (A : Around) (outer : List Env) (s : Shared) (H : Hp) (vs : List V) (Q : VK) (E : XK), Room k (A.deeper (envOfC qual scope s.heap.objs.size f cdv)) → sp vs H Q E →
      ∃ t, PSs (cxOf CX0 P w K mg base N qual scope f cdv A outer s H E).nox body t ∧ t { nx := fun _ H' => Q .non H', rt := Q } (L2.start N vs) H) : FnOk P w K mg base CX0 (k + 1) f fd ps sp :=
  F.ok S len fun cdv A outer s H vs Q E hr hsp => by
    obtain ⟨t, h, q⟩ := hbody cdv A outer s H vs Q E hr hsp
    exact ⟨t, h.nox, q⟩
/-- a def that raises nothing -/
theorem cl0 {x : Str} {st : Stmt} {N ps : List Str} {k : Nat} {sp : Sp} (D : Df K mg x st []) (S : FnScope N ps (defScope st)) 
    (hb : ∀ (kV doc pm : Value) (an : Option Addr) (cdv ct : Value) (us : List Value), us.length = ps.length → bindArgs (PySem.W.fnOf x x (defArgs st) (defBody st) (defScope st) .none kV doc pm an cdv ct) ⟨us, []⟩ = pure (ps.zip us))
    (len : ∀ vs H Q E, sp vs H Q E → vs.length = ps.length)
    (hbody : ∀ (f : Addr) (cdv : Value) (A : Around) (outer : List Env) (s : Shared) (H : Hp) (vs : List V) (Q : VK) (E : XK), Room k (A.deeper (envOfC x (defScope st) s.heap.objs.size f cdv)) → sp vs H Q E →
      ∃ t, PSs (cxOf CX0 P w K mg base N x (defScope st) f cdv A outer s H E).nox (defBody st) t ∧ t { nx := fun _ H' => Q .non H', rt := Q } (L2.start N vs) H) : Cl P w K mg base CX0 (k + 1) x sp [] := by
  obtain ⟨fd, F⟩ := D.fd
  exact ⟨_, fd, ps, [], FunD.ok0 F S len (hbody _), D.gm, F.kp, F.bindsN hb, .nil⟩
/-- a def that may raise (CX: what it lets out) -/
theorem clX {CX : CXT} {x : Str} {st : Stmt} {N ps : List Str} {k : Nat} {sp : Sp} (D : Df K mg x st []) (S : FnScope N ps (defScope st)) 
    (hb : ∀ (kV doc pm : Value) (an : Option Addr) (cdv ct : Value) (us : List Value), us.length = ps.length → bindArgs (PySem.W.fnOf x x (defArgs st) (defBody st) (defScope st) .none kV doc pm an cdv ct) ⟨us, []⟩ = pure (ps.zip us))
    (len : ∀ vs H Q E, sp vs H Q E → vs.length = ps.length)
    (hbody : ∀ (f : Addr) (cdv : Value) (A : Around) (outer : List Env) (s : Shared) (H : Hp) (vs : List V) (Q : VK) (E : XK), Room k (A.deeper (envOfC x (defScope st) s.heap.objs.size f cdv)) → sp vs H Q E →
      ∃ t, PSs (cxOf CX P w K mg base N x (defScope st) f cdv A outer s H E) (defBody st) t ∧ t { nx := fun _ H' => Q .non H', rt := Q } (L2.start N vs) H) : Cl P w K mg base CX (k + 1) x sp [] := by
  obtain ⟨fd, F⟩ := D.fd
  exact ⟨_, fd, ps, [], F.ok S len (hbody _), D.gm, F.kp, F.bindsN hb, .nil⟩
end
section
variable {X : Cx} {CX : CXT} {k j : Nat} {x : Str} {sp : Sp} {dvs : List V} {p pos : Pos} {e : Expr} {es : List Expr} {t : TA} {E : XK}
theorem pe_clx (c : Cl X.prog X.w X.K X.mg X.base CX k x sp dvs) (hr : Room j X.A) (hk : k ≤ j) (hg : Gl X x) (hx : Passes CX X E) (ha : PA X (e :: es) t)
    (hdb : (x == ("__debug__" : Str)) = false := by decide) (he : starEach (e :: es) X.env = (false, eval e X.env) :: starEach es X.env := by rfl) (hpl : (backTo pos (starEach es X.env)).any (·.1) = false := by rfl) :
    PE X (.Call (.Name x p) (e :: es) [] pos) (tCall sp dvs E t) := by
  obtain ⟨f, fd, ps, ds, F, hm, kp, b, d⟩ := c.ex
  exact pe_call F (hr.mono hk) hg hm kp b d hx ha hdb he hpl
theorem pe_cl (c : Cl X.prog X.w X.K X.mg X.base CX0 k x sp dvs) (hr : Room j X.A) (hk : k ≤ j) (hg : Gl X x) (ha : PA X (e :: es) t)
    (hdb : (x == ("__debug__" : Str)) = false := by decide) (he : starEach (e :: es) X.env = (false, eval e X.env) :: starEach es X.env := by rfl) (hpl : (backTo pos (starEach es X.env)).any (·.1) = false := by rfl) :
    PE X (.Call (.Name x p) (e :: es) [] pos) (tCall sp dvs E0 t) := pe_clx c hr hk hg pass0 ha hdb he hpl
end
/-! ### texts by their codes, heaps -/
open SX (S)
abbrev sv (l : List Nat) : V := .str (S l)
theorem _root_.L2.Same.upd1 {H H' : Hp} (e : Same H H') {p : Addr} {o : HO} (h : H' p = none) : Same H (upd H' p o) := fun b u q => by
  have q' := e b u q
  rw [upd_ne (ne_of_none q' h)]
  exact q'
/-- an object that is new to H may change -/
theorem _root_.L2.Same.mut1 {H H' : Hp} (e : Same H H') {p : Addr} {o : HO} (h : H p = none) : Same H (L2.upd H' p o) := fun b u q => by
  rw [upd_ne (ne_of_none q h)]
  exact e b u q
theorem line_le {n : Nat} (h : n ≤ 16000000) : n ≤ sizeLine := by rw [sizeLine_eq]; omega
theorem line_lt {n : Nat} (h : n ≤ 16000000) : n < sizeLine := by rw [sizeLine_eq]; omega
end NT
namespace NT
open PySem PySem.Spec PyProof.Rows L2
open SX (S)
/-! ### what a reading gives, the heap only growing -/
def Ev (te : TE) (σ : L2.St) (H : Hp) (v : V) : Prop := ∀ Q : VK, (∀ H2, Same H H2 → Q v H2) → te σ H Q
def EvT (tt : TT) (σ : L2.St) (H : Hp) (b : Bool) : Prop := ∀ Q : Bool → Hp → Prop, (∀ H2, Same H H2 → Q b H2) → tt σ H Q
theorem evT_yes {σ : L2.St} {H : Hp} : EvT tYes σ H true := fun Q q => q H (Same.refl H)
/-- a target takes the value, the slots then are σ2 -/
def Gv (g : TG) (v : V) (σ : L2.St) (H : Hp) (σ2 : L2.St) : Prop := ∀ Q : L2.St → Hp → Prop, Q σ2 H → g v σ H Q
theorem gv_name {i : Nat} {v : V} {σ : L2.St} {H : Hp} : Gv (gName i) v σ H (σ.set i (some v)) := fun _ q => q
theorem gv_pair {K : PySem.W.Frag} {i j : Nat} {a : Addr} {x y : V} {σ : L2.St} {H : Hp} (h : H a = some (.tup [x, y])) : Gv (gTup K 2 (gCons (gName i) (gCons (gName j) gNil))) (.ref a) σ H ((σ.set i (some x)).set j (some y)) :=
  fun _ q => ⟨a, _, rfl, SqT.of h, rfl, x, _, rfl, y, _, rfl, rfl, q⟩
theorem take_snoc {α : Type} {l : List α} {i : Nat} {x : α} (h : l[i]? = some x) : l.take (i + 1) = l.take i ++ [x] := by
  obtain ⟨hi, e⟩ := List.getElem?_eq_some_iff.mp h
  rw [← e, List.take_append_getElem hi]
/-- a comprehension whose element only makes objects -/
theorem lc_pure {α : Type} {J : It} {G : Hp → Prop} {Y : Nat → Hp → V → Hp → Prop} (ys : List α) (w : Walk J ys.length G Y) {g : TG} {tt : TT} {te : TE} {vs : List Nat} {σ : L2.St} {H : Hp} {D : Addr} {Qd : Hp → Prop} (hD : H D = none) (p : α → Bool) (f : α → V)
    (hG : ∀ H', Same H H' → G H') (hn : ys.length ≤ 16000000)
    (hs : ∀ i y v H' H1, ys[i]? = some y → Same H H' → Y i H' v H1 → Same H' H1 ∧ ∃ σ2, Gv g v (wipe σ vs) H1 σ2 ∧ wipe σ2 vs = wipe σ vs ∧ EvT tt σ2 H1 (p y) ∧ ∀ H2, Same H1 H2 → p y = true → Ev te σ2 H2 (f y))
    (hd : ∀ H', Same H H' → H' D = some (.lst ((ys.filter p).map f)) → Qd H') :
    ∃ W : Nat → Nat → Hp → Prop, (∃ m, W 0 m (upd H D (.lst []))) ∧ ∀ i m H, W i m H →
      (J.stop i H ∧ Qd H) ∨ (J.go i H ∧ ∃ Nx : Hp → Prop, (∀ H', Nx H' → ∃ m', m' < m ∧ W (i + 1) m' H') ∧ ∀ x H', J.yld i H x H' → g x (wipe σ vs) H' fun σ2 H2 => wipe σ2 vs = wipe σ vs ∧ tt σ2 H2 fun b H3 =>
        if b = true then te σ2 H3 fun y H4 => ∃ acc, H4 D = some (.lst acc) ∧ acc.length < sizeLine ∧ Nx (upd H4 D (.lst (acc ++ [y]))) else Nx H3) := by
  refine lc_it w (Qd := Qd) (fun i H' => Same H H' ∧ H' D = some (.lst (((ys.take i).filter p).map f))) ⟨(Same.refl H).upd1 hD, upd_same⟩ (fun i H' _ q => hG H' q.1) ?_ (fun H' q => ?_)
  · rintro i v H' H1 hi ⟨q1, q2⟩ y
    obtain ⟨z, hz⟩ : ∃ z, ys[i]? = some z := ⟨ys[i], by simp [hi]⟩
    obtain ⟨e1, σ2, hg, hw, ht, he⟩ := hs i z v H' H1 hz q1 y
    refine hg _ ⟨hw, ht _ fun H3 e3 => ?_⟩
    have k : (ys.take (i + 1)).filter p = (ys.take i).filter p ++ if p z = true then [z] else [] := by
      rw [take_snoc hz, List.filter_append]
      cases hp : p z <;> simp [List.filter, hp]
    have len : (((ys.take i).filter p).map f).length ≤ 16000000 := by
      rw [List.length_map]
      exact Nat.le_trans (List.length_filter_le _ _) (Nat.le_trans (by rw [List.length_take]; exact Nat.min_le_right _ _) hn)
    cases hp : p z with
    | true =>
      show te σ2 H3 _
      refine he H3 e3 hp _ fun H4 e4 => ⟨_, e4 _ _ (e3 _ _ (e1 _ _ q2)), line_lt len, (((q1.trans e1).trans e3).trans e4).mut1 hD, ?_⟩
      rw [upd_same, k, if_pos hp, List.map_append]
      rfl
    | false =>
      show Same H H3 ∧ _
      refine ⟨(q1.trans e1).trans e3, ?_⟩
      rw [k, if_neg (by rw [hp]; decide), List.append_nil]
      exact e3 _ _ (e1 _ _ q2)
  · obtain ⟨q1, q2⟩ := q
    rw [List.take_length] at q2
    exact hd H' q1 q2
/-! over a text, over a list -/
theorem S_size (x : List Nat) : (S x).cps.size = x.length := by
  show (S x).length = _
  exact SX.S_len x
theorem S_get (x : List Nat) (i : Nat) : (S x).cps[i]? = x[i]? := by
  show x.toArray[i]? = _
  simp
theorem walk_signs (x : List Nat) : Walk (Its (S x)) x.length (fun _ => True) (fun i H v H' => H' = H ∧ ∃ c, x[i]? = some c ∧ v = sv [c]) := by
  have h := walk_str (z := S x)
  rw [S_size] at h
  refine h.mono (fun _ _ => True.intro) fun i H v H' _ _ y => ?_
  obtain ⟨e, c, hc, hv⟩ := y
  rw [S_get] at hc
  exact ⟨e, c, hc, hv⟩
theorem lc_signs {g : TG} {tt : TT} {te : TE} {vs : List Nat} {σ : L2.St} {H : Hp} {D : Addr} {Qd : Hp → Prop} (hD : H D = none) (x : List Nat) (p : Nat → Bool) (f : Nat → V) (hn : x.length ≤ 16000000)
    (hs : ∀ c H1, c ∈ x → Same H H1 → ∃ σ2, Gv g (sv [c]) (wipe σ vs) H1 σ2 ∧ wipe σ2 vs = wipe σ vs ∧ EvT tt σ2 H1 (p c) ∧ ∀ H2, Same H1 H2 → p c = true → Ev te σ2 H2 (f c))
    (hd : ∀ H', Same H H' → H' D = some (.lst ((x.filter p).map f)) → Qd H') :
    ∃ W : Nat → Nat → Hp → Prop, (∃ m, W 0 m (upd H D (.lst []))) ∧ ∀ i m H, W i m H →
      ((Its (S x)).stop i H ∧ Qd H) ∨ ((Its (S x)).go i H ∧ ∃ Nx : Hp → Prop, (∀ H', Nx H' → ∃ m', m' < m ∧ W (i + 1) m' H') ∧ ∀ x' H', (Its (S x)).yld i H x' H' → g x' (wipe σ vs) H' fun σ2 H2 => wipe σ2 vs = wipe σ vs ∧ tt σ2 H2 fun b H3 =>
        if b = true then te σ2 H3 fun y H4 => ∃ acc, H4 D = some (.lst acc) ∧ acc.length < sizeLine ∧ Nx (upd H4 D (.lst (acc ++ [y]))) else Nx H3) :=
  lc_pure x (walk_signs x) hD p f (fun _ _ => True.intro) hn (fun i y v H' H1 hy e yy => by
    obtain ⟨rfl, c, hc, rfl⟩ := yy
    have : c = y := Option.some.inj (hc.symm.trans hy)
    subst this
    exact ⟨Same.refl _, hs c _ (List.mem_of_getElem? hy) e⟩) hd
theorem lc_lst {α : Type} {K : PySem.W.Frag} {a : Addr} {g : TG} {tt : TT} {te : TE} {vs : List Nat} {σ : L2.St} {H : Hp} {D : Addr} {Qd : Hp → Prop} (hD : H D = none) (ys : List α) (c : α → V) (ha : SqL K H a (ys.map c)) (p : α → Bool) (f : α → V) (hn : ys.length ≤ 16000000)
    (hs : ∀ y H1, y ∈ ys → Same H H1 → ∃ σ2, Gv g (c y) (wipe σ vs) H1 σ2 ∧ wipe σ2 vs = wipe σ vs ∧ EvT tt σ2 H1 (p y) ∧ ∀ H2, Same H1 H2 → p y = true → Ev te σ2 H2 (f y))
    (hd : ∀ H', Same H H' → H' D = some (.lst ((ys.filter p).map f)) → Qd H') :
    ∃ W : Nat → Nat → Hp → Prop, (∃ m, W 0 m (upd H D (.lst []))) ∧ ∀ i m H, W i m H →
      ((Itl K a).stop i H ∧ Qd H) ∨ ((Itl K a).go i H ∧ ∃ Nx : Hp → Prop, (∀ H', Nx H' → ∃ m', m' < m ∧ W (i + 1) m' H') ∧ ∀ x' H', (Itl K a).yld i H x' H' → g x' (wipe σ vs) H' fun σ2 H2 => wipe σ2 vs = wipe σ vs ∧ tt σ2 H2 fun b H3 =>
        if b = true then te σ2 H3 fun y H4 => ∃ acc, H4 D = some (.lst acc) ∧ acc.length < sizeLine ∧ Nx (upd H4 D (.lst (acc ++ [y]))) else Nx H3) := by
  have w := walk_list (K := K) (a := a) (xs := ys.map c)
  rw [List.length_map] at w
  refine lc_pure ys w hD p f (fun H' e => e.seq ha) hn (fun i y v H' H1 hy e yy => ?_) hd
  obtain ⟨rfl, hv⟩ := yy
  rw [List.getElem?_map, hy] at hv
  cases Option.some.inj hv
  exact ⟨Same.refl _, hs y _ (List.mem_of_getElem? hy) e⟩
theorem filter_all {α : Type} (l : List α) : l.filter (fun _ => true) = l := by
  induction l with
  | nil => rfl
  | cons a l ih => rw [List.filter_cons_of_pos rfl, ih]
/-- all([.. for ..]) over tests -/
theorem all_map {α : Type} (l : List α) (b : α → Bool) : (l.map b).all id = l.all b := by
  induction l with
  | nil => rfl
  | cons a l ih => rw [List.map_cons, List.all_cons, List.all_cons, ih] <;> rfl
end NT
namespace NT
open PySem PySem.Spec PyProof.Rows L2
open SX (S)
/-! ### zip(text, text), zip(text, list) -/
/-- the signs of x, the items that yl tells, in new pairs -/
def Itzt (x : List Nat) (yl : Hp → List V → Prop) : It :=
  ⟨fun i H => ∃ ys, yl H ys ∧ i < min x.length ys.length,
    fun i H v H' => ∃ T c y, v = .ref T ∧ H T = none ∧ H' = upd H T (.tup [sv [c], y]) ∧ x[i]? = some c ∧ ∀ ys, yl H ys → ys[i]? = some y,
    fun i H => ∃ ys, yl H ys ∧ i = min x.length ys.length⟩
/-- the second thing's iterator at i2: what it is at turn i, what it draws -/
structure Snd (P : Program) (w : World) (K : PySem.W.Frag) (yl : Hp → List V → Prop) (i2 : Addr) (tn2 : Nat → Heap → Prop) : Prop where
  obj : ∀ i h, tn2 i h → ∃ o, h.get? i2 = some o ∧ ∀ v, o.data ≠ .cell v
  keep : ∀ i h h', tn2 i h → (∀ o, h.get? i2 = some o → h'.get? i2 = some o) → tn2 i h'
  inj : ∀ H ys zs, yl H ys → yl H zs → (∃ (X : Cx) (pins : List (Addr × Obj)) (σ : L2.St) (s : Shared), X.K = K ∧ Inv X pins σ H s) → ys = zs
  draws : ∀ (X : Cx), X.prog = P → X.w = w → X.K = K → X.A.handled = none → ∀ (pins : List (Addr × Obj)) (s : Shared) (σ : L2.St) (H : Hp) (ys : List V), Inv X pins σ H s → H i2 = none → yl H ys →
    ∃ (fp2 : List Addr) (P2 : Nat → Value → Prop) (St2 : Nat → Heap → Prop), (∀ b ∈ fp2, b = i2 ∨ H b ≠ none) ∧ i2 ∈ fp2 ∧ Draws P w X.A.in1 i2 fp2 ys.length P2 St2 ∧ (∀ i, tn2 i s.heap → St2 i s.heap) ∧ (∀ i h, St2 i h → tn2 i h) ∧ ∀ i v, P2 i v → ∃ y, ys[i]? = some y ∧ RelV y v
theorem turn_zt {P : Program} {w : World} {K : PySem.W.Frag} {elts : List Expr} {kk : Nat} {tpos : Pos} {x : List Nat} {t : Tok} {yl : Hp → List V → Prop} {z TI TO i1 i2 : Addr} {tn2 : Nat → Heap → Prop} (hd : [z, TI, TO, i1, i2].Nodup) (D : Snd P w K yl i2 tn2) :
    Turn P w K (.Tuple elts kk tpos) (Itzt x yl) [z, TI, TO, i1, i2] z (fun i h => IsZip h z TI TO .none ∧ IsTupOf2 h TI (.ref i1) (.ref i2) ∧ (∃ a1 a2, IsTupOf2 h TO a1 a2) ∧ h.IsStrIter i1 (strIterType (S x)) (S x) t i ∧ tn2 i h) where
  mem := by simp
  obj := fun i h st c hc => by
    obtain ⟨hz, hTI, ⟨a1, a2, hTO⟩, ⟨o1, e1, _, d1⟩, h2⟩ := st
    have e' : c = z ∨ c = TI ∨ c = TO ∨ c = i1 ∨ c = i2 := by simpa using hc
    rcases e' with q | q | q | q | q
    · rw [q]; exact ⟨_, hz, fun v q => nomatch q⟩
    · rw [q]; exact ⟨_, hTI, fun v q => nomatch q⟩
    · rw [q]; exact ⟨_, hTO, fun v q => nomatch q⟩
    · rw [q]; exact ⟨o1, e1, fun v q => by rw [d1] at q; cases q⟩
    · rw [q]; exact D.obj i h h2
  keep := fun i h h' st k => by
    obtain ⟨hz, hTI, ⟨a1, a2, hTO⟩, ⟨o1, e1, r1⟩, h2⟩ := st
    exact ⟨k z (by simp) _ hz, k TI (by simp) _ hTI, ⟨a1, a2, k TO (by simp) _ hTO⟩, ⟨o1, k i1 (by simp) _ e1, r1⟩, D.keep i h h' h2 fun o q => k i2 (by simp) o q⟩
  item := by
    intro X hP hw hK hc i pins s σ H E I hf st hg
    subst hP hw hK
    obtain ⟨ys, hy, hlt⟩ := hg
    obtain ⟨hz, hTI, hTO, h1, h2⟩ := st
    obtain ⟨fp2, P2, St2, hfp, hm2, D2, to2, of2, rel2⟩ := D.draws X rfl rfl rfl (I.ok.hd hc) pins s σ H ys I (hf i2 (by simp)).1 hy
    have D1 := Draws.text (prog := X.prog) (w := X.w) (A := X.A.in1) (I.ok.hd hc) i1 (S x) t
    rw [S_size] at D1
    simp only [List.nodup_cons, List.mem_cons, List.not_mem_nil, or_false, not_or, List.nodup_nil, and_true] at hd
    obtain ⟨⟨n1, n2, n3, n4⟩, ⟨n5, n6, n7⟩, ⟨n8, n9⟩, n10, _⟩ := hd
    have nin : ∀ c, c ∈ [z, TI, TO, i1, i2] → c ≠ i2 → c ∉ fp2 := fun c hcm hne hin => by
      rcases hfp c hin with e | e
      · exact hne e
      · exact e (hf c hcm).1
    have Sp : ZipSep2 z TI TO i1 i2 [i1] fp2 := { TIz := Ne.symm n1, TOz := Ne.symm n2, TITO := n5, TIi1 := n6, mem1 := by simp, zf1 := by simpa using n3, Tf1 := by simpa using n8, TIi2 := n7, mem2 := hm2, zf2 := nin z (by simp) n4, Tf2 := nin TO (by simp) n9, sep1_2 := nin i1 (by simp) n10, sep2_1 := by simpa using Ne.symm n10 }
    have W := GoesN.zip2 (elts := elts) (x1 := kk) (pos := tpos) Sp D1 D2
    refine W.goes i s _ E hlt ⟨hz, hTI, hTO, h1, to2 i h2⟩ fun v h' tk hY st' hk htk => ?_
    obtain ⟨T, u1, u2, rfl, hT, ⟨c, u, hc1, rfl⟩, hp2, htup⟩ := hY
    obtain ⟨y, hy1, ry⟩ := rel2 i u2 hp2
    rw [S_get] at hc1
    have new : ObjOk X.prog X.w (upd H T (.tup [sv [c], y])) h' T (.tup [sv [c], y]) := by
      obtain ⟨o, ho, hcl, n, hdt⟩ := htup
      exact ⟨by show 2 ≤ sizeLine; decide, [_, u2], .cons ⟨u, rfl⟩ (.cons ry .nil), ⟨o, ho, hcl, n, hdt⟩⟩
    have I1 : Inv X pins σ (upd H T (.tup [sv [c], y])) { s with heap := h', toks := tk } :=
      I.turnedNew (t' := tk) (ch := [z, TI, TO, i1, i2]) (fun b o hb q => hk b o (fun hm => hb (by simp at hm ⊢; rcases hm with e | e | e | e <;> simp [e])) q) hf hT new
    obtain ⟨z1, z2, z3, z4, z5⟩ := st'
    refine ⟨.ref T, _, I1, rfl, ⟨T, c, y, rfl, I.hok.fresh hT, rfl, hc1, fun zs hzs => ?_⟩, ⟨z1, z2, z3, z4, of2 _ _ z5⟩, fun b hb => ?_⟩
    · rw [D.inj H zs ys hzs hy ⟨X, pins, σ, s, rfl, I⟩]
      exact hy1
    · obtain ⟨o, ho, _⟩ := (show ∃ o, s.heap.get? b = some o ∧ True from by
        have e' : b = z ∨ b = TI ∨ b = TO ∨ b = i1 ∨ b = i2 := by simpa using hb
        rcases e' with q | q | q | q | q
        · rw [q]; exact ⟨_, hz, trivial⟩
        · rw [q]; exact ⟨_, hTI, trivial⟩
        · obtain ⟨a1, a2, hTO⟩ := hTO; rw [q]; exact ⟨_, hTO, trivial⟩
        · obtain ⟨o1, e1, _⟩ := h1; rw [q]; exact ⟨o1, e1, trivial⟩
        · obtain ⟨o2, e2, _⟩ := D.obj i _ h2; rw [q]; exact ⟨o2, e2, trivial⟩)
      rw [upd_ne (Nat.ne_of_lt (Nat.lt_of_lt_of_le (Heap.lt_size ho) hT))]
      exact (hf b hb).1
  done := by
    intro X hP hw hK hc i pins s σ H E I hf st hg
    subst hP hw hK
    obtain ⟨ys, hy, rfl⟩ := hg
    obtain ⟨hz, hTI, hTO, h1, h2⟩ := st
    obtain ⟨fp2, P2, St2, hfp, hm2, D2, to2, of2, rel2⟩ := D.draws X rfl rfl rfl (I.ok.hd hc) pins s σ H ys I (hf i2 (by simp)).1 hy
    have D1 := Draws.text (prog := X.prog) (w := X.w) (A := X.A.in1) (I.ok.hd hc) i1 (S x) t
    rw [S_size] at D1
    simp only [List.nodup_cons, List.mem_cons, List.not_mem_nil, or_false, not_or, List.nodup_nil, and_true] at hd
    obtain ⟨⟨n1, n2, n3, n4⟩, ⟨n5, n6, n7⟩, ⟨n8, n9⟩, n10, _⟩ := hd
    have nin : ∀ c, c ∈ [z, TI, TO, i1, i2] → c ≠ i2 → c ∉ fp2 := fun c hcm hne hin => by
      rcases hfp c hin with e | e
      · exact hne e
      · exact e (hf c hcm).1
    have Sp : ZipSep2 z TI TO i1 i2 [i1] fp2 := { TIz := Ne.symm n1, TOz := Ne.symm n2, TITO := n5, TIi1 := n6, mem1 := by simp, zf1 := by simpa using n3, Tf1 := by simpa using n8, TIi2 := n7, mem2 := hm2, zf2 := nin z (by simp) n4, Tf2 := nin TO (by simp) n9, sep1_2 := nin i1 (by simp) n10, sep2_1 := by simpa using Ne.symm n10 }
    have W := GoesN.zip2 (elts := elts) (x1 := kk) (pos := tpos) Sp D1 D2
    refine W.stops s _ E ⟨hz, hTI, hTO, h1, to2 _ h2⟩ fun h' tk hk htk => ?_
    exact I.turnedL (t' := tk) (ch := [z, TI, TO, i1, i2]) (fun b o hb q => hk b o (fun hm => hb (by simp at hm ⊢; rcases hm with e | e | e | e <;> simp [e])) q) hf
  self := fun A i s Q E st h => wpAny_pyIter_zip st.1 h
/-- the second a text -/
theorem snd_str {P : Program} {w : World} {K : PySem.W.Frag} {y : List Nat} {t : Tok} {i2 : Addr} : Snd P w K (fun _ ys => ys = y.map fun c => sv [c]) i2 (fun i h => h.IsStrIter i2 (strIterType (S y)) (S y) t i) where
  obj := fun i h st => by obtain ⟨o, e, _, d⟩ := st; exact ⟨o, e, fun v q => by rw [d] at q; cases q⟩
  keep := fun i h h' st k => by obtain ⟨o, e, r⟩ := st; exact ⟨o, k o e, r⟩
  inj := fun H ys zs h1 h2 _ => h1.trans h2.symm
  draws := fun X hP hw hK hh pins s σ H ys I hn hy => by
    subst hP hw hy
    have D := Draws.text (prog := X.prog) (w := X.w) (A := X.A.in1) hh i2 (S y) t
    rw [S_size] at D
    refine ⟨[i2], _, _, fun b hb => .inl (by simpa using hb), by simp, by rw [List.length_map]; exact D, fun i st => st, fun i h st => st, fun i v hv => ?_⟩
    obtain ⟨c, u, hc, rfl⟩ := hv
    rw [S_get] at hc
    exact ⟨sv [c], by rw [List.getElem?_map, hc]; rfl, u, rfl⟩
/-- the second a list -/
theorem snd_list {P : Program} {w : World} {K : PySem.W.Frag} {b i2 : Addr} : Snd P w K (fun H ys => H b = some (.lst ys)) i2 (fun i h => h.IsListIter i2 b i) where
  obj := fun i h st => by obtain ⟨o, e, _, d⟩ := st; exact ⟨o, e, fun v q => by rw [d] at q; cases q⟩
  keep := fun i h h' st k => st.at fun o q => k o q
  inj := fun H ys zs h1 h2 _ => by rw [h1] at h2; cases h2; rfl
  draws := fun X hP hw hK hh pins s σ H ys I hn hy => by
    subst hP hw hK
    obtain ⟨its, rv, p, _⟩ := I.list (SqL.of hy)
    have nb : b ≠ i2 := fun e => by rw [e, hn] at hy; cases hy
    have D := Draws.list (prog := X.prog) (w := X.w) (A := X.A.in1) hh i2 b nb its.toArray
    rw [List.size_toArray, ← rv.length] at D
    refine ⟨[i2, b], _, _, fun c hc => ?_, by simp, D, fun i st => ⟨st, p.isList⟩, fun i h st => st.1, fun i v hv => ?_⟩
    · rcases List.mem_cons.mp hc with e | e
      · exact .inl e
      · rw [List.mem_singleton.mp e]
        exact .inr (by rw [hy]; simp)
    · have hv' : its[i]? = some v := by simpa using hv
      have hi : i < ys.length := by rw [rv.length]; exact (List.getElem?_eq_some_iff.mp hv').1
      obtain ⟨u, hu, ru⟩ := rv.get (List.getElem?_eq_getElem hi)
      rw [hv'] at hu
      cases hu
      exact ⟨_, List.getElem?_eq_getElem hi, ru⟩
theorem five (n : Nat) : [n + 4, n + 2, n + 3, n, n + 1].Nodup := by simp
def iZipS (ta : TA) : TI := fun σ H R => ta σ H fun vs H1 => ∃ x y : List Nat, vs = [sv x, sv y] ∧ R (Itzt x (fun _ ys => ys = y.map fun c => sv [c])) H1
def iZipSL (ta : TA) : TI := fun σ H R => ta σ H fun vs H1 => ∃ (x : List Nat) (b : Addr) (ys : List V), vs = [sv x, .ref b] ∧ H1 b = some (.lst ys) ∧ R (Itzt x (fun H ys => H b = some (.lst ys))) H1
section
variable {X : Cx} {e e2 : Expr} {ta : TA} {p pos tpos : Pos} {elts : List Expr} {kk : Nat}
theorem fresh5 {pins : List (Addr × Obj)} {σ : L2.St} {H : Hp} {s : Shared} (I : Inv X pins σ H s) : ∀ c, c ∈ [s.heap.objs.size + 4, s.heap.objs.size + 2, s.heap.objs.size + 3, s.heap.objs.size, s.heap.objs.size + 1] → FpOk X pins H c := fun c hcm => by
  have e' : c = s.heap.objs.size + 4 ∨ c = s.heap.objs.size + 2 ∨ c = s.heap.objs.size + 3 ∨ c = s.heap.objs.size ∨ c = s.heap.objs.size + 1 := by simpa using hcm
  have hle : s.heap.objs.size ≤ c := by
    rcases e' with z | z | z | z | z
    · rw [z]; exact Nat.le_add_right _ _
    · rw [z]; exact Nat.le_add_right _ _
    · rw [z]; exact Nat.le_add_right _ _
    · rw [z]; exact Nat.le_refl _
    · rw [z]; exact Nat.le_add_right _ _
  exact I.fpOk hle (I.hok.fresh hle)
theorem pi_zipS (hg : Gl X "zip") (hm : X.mg "zip" = none) (ha : PA X [e, e2] ta)
    (hs : starEach [e, e2] X.env = (false, eval e X.env) :: starEach [e2] X.env := by rfl) (hpl : (backTo pos (starEach [e2] X.env)).any (·.1) = false := by rfl) :
    PI X (.Tuple elts kk tpos) (.Call (.Name "zip" p) [e, e2] [] pos) (iZipS ta) := by
  refine ⟨fun pins s σ H R I h => ?_⟩
  refine Call_ (ld_blt I hg hm PyProof.Rows.boot_zip (PyProof.Rows.callWith_type1 (thn (ha.run pos pins s σ H _ I h) fun us s1 ⟨vs, H1, I1, r1, q1⟩ => ?_) hs hpl))
  obtain ⟨x, y, rfl, q⟩ := q1
  obtain ⟨u1, u2, rfl, ⟨t1, rfl⟩, ⟨t2, rfl⟩⟩ := vals2 r1
  refine zip_begins2 (begins_text (S x) t1) (begins_text (S y) t2) trivial trivial fun h' hz hTI hTO h1 h2 hsz hk => wpAny_pyIter_zip hz ?_
  have I2 : Inv X pins σ H1 { s1 with heap := h' } := I1.kept (t' := s1.toks) hk
  exact ⟨_, _, _, _, H1, rfl, I2, turn_zt (t := t1) (five _) (snd_str (t := t2)), ⟨hz, hTI, ⟨_, _, hTO⟩, ⟨_, h1, rfl, rfl⟩, ⟨_, h2, rfl, rfl⟩⟩, fresh5 I1, q⟩
theorem pi_zipSL (hg : Gl X "zip") (hm : X.mg "zip" = none) (ha : PA X [e, e2] ta)
    (hs : starEach [e, e2] X.env = (false, eval e X.env) :: starEach [e2] X.env := by rfl) (hpl : (backTo pos (starEach [e2] X.env)).any (·.1) = false := by rfl) :
    PI X (.Tuple elts kk tpos) (.Call (.Name "zip" p) [e, e2] [] pos) (iZipSL ta) := by
  refine ⟨fun pins s σ H R I h => ?_⟩
  refine Call_ (ld_blt I hg hm PyProof.Rows.boot_zip (PyProof.Rows.callWith_type1 (thn (ha.run pos pins s σ H _ I h) fun us s1 ⟨vs, H1, I1, r1, q1⟩ => ?_) hs hpl))
  obtain ⟨x, b, ys, rfl, hy, q⟩ := q1
  obtain ⟨u1, u2, rfl, ⟨t1, rfl⟩, r2⟩ := vals2 r1
  obtain rfl : u2 = Value.ref b := r2
  obtain ⟨its, rv, p2, _⟩ := I1.list (SqL.of hy)
  refine zip_begins2 (begins_text (S x) t1) (begins_list b its.toArray) trivial p2.isList fun h' hz hTI hTO h1 h2 hsz hk => wpAny_pyIter_zip hz ?_
  have I2 : Inv X pins σ H1 { s1 with heap := h' } := I1.kept (t' := s1.toks) hk
  exact ⟨_, _, _, _, H1, rfl, I2, turn_zt (t := t1) (five _) (snd_list (b := b)), ⟨hz, hTI, ⟨_, _, hTO⟩, ⟨_, h1, rfl, rfl⟩, ⟨_, h2, rfl, rfl⟩⟩, fresh5 I1, q⟩
end
/-! as walks -/
theorem walk_zt {x : List Nat} {yl : Hp → List V → Prop} {ys : List V} : Walk (Itzt x yl) (min x.length ys.length) (fun H => yl H ys ∧ ∀ zs, yl H zs → zs = ys) (YPair (fun i => (x[i]?).map fun c => sv [c]) (fun i => ys[i]?)) := by
  refine ⟨fun i H hi q => ⟨ys, q.1, hi⟩, fun H q => ⟨ys, q.1, rfl⟩, fun i H v H' _ q y => ?_⟩
  obtain ⟨T, c, y, h1, h2, h3, h4, h5⟩ := y
  exact ⟨T, sv [c], y, h1, h2, h3, by show (x[i]?).map (fun c => sv [c]) = _; rw [h4]; rfl, h5 ys q.1⟩
/-! ### comprehensions over zip -/
theorem zip_get {α β : Type} {xs : List α} {ys : List β} {i : Nat} {z : α × β} (h : (xs.zip ys)[i]? = some z) : xs[i]? = some z.1 ∧ ys[i]? = some z.2 := by
  rw [List.getElem?_zip_eq_some] at h
  exact h
/-- over zip(text, ..): the pairs of signs and what stands beside -/
theorem lc_zt {β : Type} {x : List Nat} {yl : Hp → List V → Prop} {g : TG} {tt : TT} {te : TE} {vs : List Nat} {σ : L2.St} {H : Hp} {D : Addr} {Qd : Hp → Prop} (hD : H D = none) (ys : List β) (c : β → V) (hy : ∀ H', Same H H' → yl H' (ys.map c) ∧ ∀ zs, yl H' zs → zs = ys.map c)
    (p : Nat × β → Bool) (f : Nat × β → V) (hn : x.length ≤ 16000000)
    (hs : ∀ z T H1, z ∈ x.zip ys → Same H H1 → H1 T = some (.tup [sv [z.1], c z.2]) → ∃ σ2, Gv g (.ref T) (wipe σ vs) H1 σ2 ∧ wipe σ2 vs = wipe σ vs ∧ EvT tt σ2 H1 (p z) ∧ ∀ H2, Same H1 H2 → p z = true → Ev te σ2 H2 (f z))
    (hd : ∀ H', Same H H' → H' D = some (.lst (((x.zip ys).filter p).map f)) → Qd H') :
    ∃ W : Nat → Nat → Hp → Prop, (∃ m, W 0 m (upd H D (.lst []))) ∧ ∀ i m H, W i m H →
      ((Itzt x yl).stop i H ∧ Qd H) ∨ ((Itzt x yl).go i H ∧ ∃ Nx : Hp → Prop, (∀ H', Nx H' → ∃ m', m' < m ∧ W (i + 1) m' H') ∧ ∀ x' H', (Itzt x yl).yld i H x' H' → g x' (wipe σ vs) H' fun σ2 H2 => wipe σ2 vs = wipe σ vs ∧ tt σ2 H2 fun b H3 =>
        if b = true then te σ2 H3 fun y H4 => ∃ acc, H4 D = some (.lst acc) ∧ acc.length < sizeLine ∧ Nx (upd H4 D (.lst (acc ++ [y]))) else Nx H3) := by
  have w := walk_zt (x := x) (yl := yl) (ys := ys.map c)
  rw [List.length_map, ← List.length_zip] at w
  refine lc_pure (x.zip ys) w hD p f hy (by rw [List.length_zip]; exact Nat.le_trans (Nat.min_le_left _ _) hn) (fun i z v H' H1 hz e yy => ?_) hd
  obtain ⟨T, a, b, rfl, hT, rfl, h1, h2⟩ := yy
  obtain ⟨q1, q2⟩ := zip_get hz
  have h1' : (x[i]?).map (fun c => sv [c]) = some a := h1
  have h2' : (ys.map c)[i]? = some b := h2
  rw [q1] at h1'
  rw [List.getElem?_map, q2] at h2'
  cases Option.some.inj h1'
  cases Option.some.inj h2'
  exact ⟨(Same.refl _).upd1 hT, hs z T _ (List.mem_of_getElem? hz) (e.upd1 hT) upd_same⟩
/-- a target of two names -/
theorem pg_pair {X : Cx} {a b : Str} {pa pb pos : Pos} {k i j : Nat} (hc : X.calm = true) (hN : X.N.Nodup) (hi : X.N[i]? = some a) (hj : X.N[j]? = some b) (ha : Loc X.env.scope a) (hb : Loc X.env.scope b)
    (fa : X.fn a = true ∨ X.env.scope.names.lookup a = some .local) (fb : X.fn b = true ∨ X.env.scope.names.lookup b = some .local) :
    PG X (.Tuple [.Name a pa, .Name b pb] k pos) (gTup X.K 2 (gCons (gName i) (gCons (gName j) gNil))) := pg_tup hc (pgs_cons (pg_name hN hi ha fa) (pgs_cons (pg_name hN hj hb fb) pgs_nil))
/-! ### sign * number -/
theorem fold_rep (c : Nat) : ∀ (k : Nat) (a : Array Nat), (List.replicate k #[c]).foldl (· ++ ·) a = a ++ (List.replicate k c).toArray
  | 0, a => by simp
  | k + 1, a => by
    rw [List.replicate_succ, List.foldl_cons, fold_rep c k (a ++ #[c])]
    rw [List.replicate_succ]
    apply Array.ext'
    simp
def rMulS : R2 := fun x y H Q => ∃ (c : Nat) (n : Int), x = .str ⟨#[c]⟩ ∧ y = .int n ∧ 0 ≤ n ∧ n ≤ 16000000 ∧ Q (sv (List.replicate n.toNat c)) H
theorem op_mulS {X : Cx} : OpR X (binaryOp .Mult) rMulS := by
  intro pins s σ H x y v u Q I rx ry h
  obtain ⟨c, n, rfl, rfl, h0, h1, q⟩ := h
  obtain ⟨t, rfl⟩ := rx
  obtain ⟨t', rfl⟩ := ry
  have l1 : (⟨#[c]⟩ : Str).length = 1 := rfl
  have hp : ¬ n < 1 → (1 : Int) ≤ (2 ^ 63 - 1) / n := fun h => by
    have : n ≤ 2 ^ 63 - 1 := by omega
    exact Int.le_ediv_of_mul_le (by omega) (by omega)
  refine PySem.P.mul_str (by rw [decide_eq_false (by omega), decide_eq_false (by omega)]; rfl) (fun h _ => by rw [l1]; have := hp h; omega) (fun h _ => ?_) ?_
  · rw [l1, Nat.one_mul]
    unfold Builtin.Str.tooLong
    exact decide_eq_false (by rw [sizeLine_eq]; omega)
  · have fin : ∀ (z : Str) (k : Nat), z = S (List.replicate n.toNat c) → EP X pins σ Q (.str z k) { s with toks := s.toks + 1 } := fun z k e => ⟨sv (List.replicate n.toNat c), H, I.tok _, ⟨k, by rw [e]⟩, q⟩
    by_cases h2 : n < 1
    · rw [if_pos h2]
      have e0 : n.toNat = 0 := by omega
      exact ⟨by decide, fin _ _ (by rw [e0]; rfl)⟩
    · rw [if_neg h2]
      by_cases h3 : n = 1
      · subst h3
        rw [if_pos (by rfl)]
        exact ⟨sv [c], H, I, ⟨t, rfl⟩, q⟩
      · have e1 : (n == 1 || (⟨#[c]⟩ : Str).length == 0) = false := by
          rw [l1]
          have : (n == 1) = false := by simpa using h3
          rw [this]; rfl
        rw [if_neg (by rw [e1]; decide)]
        have e2 : (⟨(List.replicate n.toNat (⟨#[c]⟩ : Str).cps).foldl (· ++ ·) #[]⟩ : Str) = S (List.replicate n.toNat c) := by
          show (⟨(List.replicate n.toNat #[c]).foldl (· ++ ·) #[]⟩ : Str) = _
          rw [fold_rep]
          show (⟨#[] ++ _⟩ : Str) = ⟨_⟩
          rw [Array.empty_append]
        exact ⟨by rw [e2, SX.S_len, List.length_replicate]; exact line_le (by omega), fin _ _ e2⟩
end NT
namespace NT
open PySem PySem.Spec PyProof.Rows L2
open SX (S)
/-! ### the rules, the part of the heap that stays named ahead -/
section
variable {X : Cx} {K : PySem.W.Frag} {tg : Expr}
theorem ix_listK (hK : X.K = K) : IxR X (rIxL K) := by subst hK; exact ix_list
theorem ix_tupK (hK : X.K = K) : IxR X (rIxT K) := by subst hK; exact ix_tup
theorem ix_seqK (hK : X.K = K) : IxR X (rIx K) := by subst hK; exact ix_seq
theorem op_in_seqK (hK : X.K = K) : OpR X (compareOp .In) (rIn K false) := by subst hK; exact op_in_seq
theorem op_notIn_seqK (hK : X.K = K) : OpR X (compareOp .NotIn) (rIn K true) := by subst hK; exact op_notIn_seq
theorem call_len_seqK (hK : X.K = K) : CallR X (.builtin "len") (fun xs H Q => ∃ p ys, xs = [.ref p] ∧ (SqL K H p ys ∨ SqT K H p ys) ∧ Q (.int ys.length) H) := by subst hK; exact call_len_seq
theorem call_list_ofK (hK : X.K = K) : CallR X (.type "list") (fun xs H Q => ∃ p ys, xs = [.ref p] ∧ (SqL K H p ys ∨ SqT K H p ys) ∧ ∀ l, H l = none → Q (.ref l) (upd H l (.lst ys))) := by subst hK; exact call_list_of
theorem pi_listK {l : Expr} {tl : TE} (hK : X.K = K) (hl : PE X l tl) : PI X tg l (iList K tl) := by subst hK; exact pi_list hl
theorem pi_tupK {l : Expr} {tl : TE} (hK : X.K = K) (hl : PE X l tl) : PI X tg l (iTup K tl) := by subst hK; exact pi_tup hl
theorem sl_listK (hK : X.K = K) : SlR X (rSlL K) := by subst hK; exact sl_list
theorem call_isiK' (hK : X.K = K) : CallR X (.builtin "isinstance") (rIsi K) := by subst hK; exact call_isi
theorem call_isiTK (hK : X.K = K) : CallR X (.builtin "isinstance") (rIsiT K) := by subst hK; exact call_isiT
theorem cr_allK (hK : X.K = K) (hc : X.calm = true) : CallR X (.builtin "all") (rAll K) := by subst hK; exact cr_all hc
theorem op_eqDK (hK : X.K = K) (hu : X.A.units + 64 < cLine) : OpR X (compareOp .Eq) (rEqD K) := by subst hK; exact op_eqD hu
theorem op_neDK (hK : X.K = K) (hu : X.A.units + 64 < cLine) : OpR X (compareOp .NotEq) (rNeD K) := by subst hK; exact op_neD hu
theorem pe_fldK {e : Expr} {f : Str} {pos : Pos} {ta : TE} (hK : X.K = K) (he : PE X e ta) (hb : attributeBase e f X.env (eval e X.env) = eval e X.env := by rfl) : PE X (.Attribute e f pos) (tFld K ta f) := by subst hK; exact pe_fld he hb
theorem pe_joinK {o e : Expr} {to te : TE} {apos pos : Pos} (hK : X.K = K) (ho : PE X o to) (he : PE X e te) (hs : starEach [e] X.env = [(false, eval e X.env)] := by rfl) (hbase : attributeBase o "join" X.env (eval o X.env) = eval o X.env := by rfl) (hline : (apos.endLine == pos.line) = true := by rfl) :
    PE X (.Call (.Attribute o "join" apos) [e] [] pos) (tM1 (fun x xs H Q => ∃ a p, ∃ ys : List Str, x = .str a ∧ xs = [.ref p] ∧ (SqL K H p (ys.map V.str) ∨ SqT K H p (ys.map V.str)) ∧
      (ys.map (·.length)).sum + ys.length * a.length ≤ 16777216 ∧ Q (.str (Txt.join a ys)) H) to te) := by subst hK; exact pe_join ho he hs hbase hline
theorem pe_appK {o e : Expr} {to : TE} {t : TA} {apos cpos : Pos} (hK : X.K = K) (ho : PE X o to) (ha : PA X [e] t)
    (hbase : attributeBase o "append" X.env (eval o X.env) = eval o X.env := by rfl)
    (hfew : ((backTo cpos (starEach [e] X.env)).all (fun x => !x.1) && (backToKw cpos (keywordEach [] X.env)).all (fun x => x.1.isSome)
      && decide ([e].length + ([] : List Keyword).length + (if ([] : List Keyword).isEmpty then 0 else 1) < 30)) = true := by rfl)
    (hline : (apos.endLine == cpos.line) = true := by rfl) (hs : starEach [e] X.env = (false, eval e X.env) :: starEach [] X.env := by rfl) (hplain : (backTo cpos (starEach [] X.env)).any (·.1) = false := by rfl) :
    PE X (.Call (.Attribute o "append" apos) [e] [] cpos) (tBM K "list" rAppend to t) := by subst hK; exact pe_bm PySem.F.plainAttrs_list PySem.F.slot_list_append PySem.F.type_list_append mt_append ho ha hbase hfew hline hs hplain
theorem pe_popK {o : Expr} {to : TE} {apos cpos : Pos} (hK : X.K = K) (ho : PE X o to)
    (hbase : attributeBase o "pop" X.env (eval o X.env) = eval o X.env := by rfl) (hline : (apos.endLine == cpos.line) = true := by rfl) : PE X (.Call (.Attribute o "pop" apos) [] [] cpos) (tBM0 K "list" rPop to) := by
  subst hK; exact pe_bm0 PySem.F.plainAttrs_list PySem.F.slot_list_pop PySem.F.type_list_pop mt_pop ho hbase hline
theorem pe_revLK {e : Expr} {te : TE} {k : Nat} {p1 p2 p3 pos : Pos} (hK : X.K = K) (he : PE X e te) : PE X (.Subscript e (.Slice none none (some (.UnaryOp .USub (.Constant (.int 1) k p1) p2)) p3) pos) (tRevL K te) := by subst hK; exact pe_revL he
theorem pi_enumK {e : Expr} {ta : TA} {p pos tpos : Pos} {elts : List Expr} {kk : Nat} (hK : X.K = K) (hg : Gl X "enumerate") (hm : X.mg "enumerate" = none) (ha : PA X [e] ta) (hs : starEach [e] X.env = [(false, eval e X.env)] := by rfl) :
    PI X (.Tuple elts kk tpos) (.Call (.Name "enumerate" p) [e] [] pos) (iEnum K ta) := by subst hK; exact pi_enum hg hm ha hs
theorem pg_pairK {a b : Str} {pa pb pos : Pos} {k i j : Nat} (hK : X.K = K) (hc : X.calm = true) (hN : X.N.Nodup) (hi : X.N[i]? = some a) (hj : X.N[j]? = some b) (ha : Loc X.env.scope a) (hb : Loc X.env.scope b)
    (fa : X.fn a = true ∨ X.env.scope.names.lookup a = some .local) (fb : X.fn b = true ∨ X.env.scope.names.lookup b = some .local) :
    PG X (.Tuple [.Name a pa, .Name b pb] k pos) (gTup K 2 (gCons (gName i) (gCons (gName j) gNil))) := by subst hK; exact pg_pair hc hN hi hj ha hb fa fb
/-- str(n) of a whole number, all([..]) and such stand as they are -/
theorem ps_fldK {o value : Expr} {f : Str} {pos' pos : Pos} {ta tv : TE} (hK : X.K = K) (ha : PE X o ta) (hv : PE X value tv) (hs : swapsWith value (some (.Attribute o f pos')) pos.line X.env = pure false) : PS X (.Assign [.Attribute o f pos'] value pos) (sFld K ta tv f) := by
  subst hK; exact ps_fld ha hv hs
end
/-! ### cuts: what an expression gives, told once -/
def tCutE (te : TE) : TE := fun σ H Q => ∃ Z : VK, (∀ v H', Z v H' → Q v H') ∧ ∀ Q' : VK, (∀ v H', Z v H' → Q' v H') → te σ H Q'
theorem pe_cut {X : Cx} {e : Expr} {te : TE} (h : PE X e te) : PE X e (tCutE te) := ⟨fun pins s σ H Q I ⟨_, q1, q2⟩ => h.run pins s σ H Q I (q2 Q q1)⟩
def tCutT (tt : TT) : TT := fun σ H Q => ∃ Z : Bool → Hp → Prop, (∀ v H', Z v H' → Q v H') ∧ ∀ Q' : Bool → Hp → Prop, (∀ v H', Z v H' → Q' v H') → tt σ H Q'
theorem pt_cut {X : Cx} {e : Expr} {tt : TT} (h : PT X e tt) : PT X e (tCutT tt) := ⟨fun pins s σ H Q I ⟨_, q1, q2⟩ => h.run pins s σ H Q I (q2 Q q1)⟩
def tCutS (ts : TS) : TS := fun D σ H => ∃ Z : L2.St → Hp → Prop, (∀ σ' H', Z σ' H' → D.nx σ' H') ∧ ∀ N : L2.St → Hp → Prop, (∀ σ' H', Z σ' H' → N σ' H') → ts { D with nx := N } σ H
theorem ps_cutS {X : Cx} {st : Stmt} {ts : TS} (h : PS X st ts) : PS X st (tCutS ts) := ⟨fun pins s σ H D I ⟨_, q1, q2⟩ => h.run pins s σ H D I (q2 D.nx q1)⟩
end NT
namespace NT
open PySem PySem.Spec PyProof.Rows L2
/-! ### split by one sign -/
theorem pre_one (c d : Nat) (r : List Nat) : TL.pre [c] (d :: r) = decide (d = c) := by
  unfold TL.pre
  show ((d :: r.take 0) == [c]) = _
  by_cases h : d = c
  · rw [h]; simp
  · simp [h]
theorem spl1_nil (c : Nat) (acc : List Nat) : TL.spl [c] 0 acc [] = [acc] := TL.spl_nil _ _ _
theorem spl1_hit (c : Nat) (acc r : List Nat) : TL.spl [c] 0 acc (c :: r) = acc :: TL.spl [c] 0 [] r := by
  have := TL.spl_hit (S := [c]) (acc := acc) (r := r) (c := c) (by rw [pre_one]; exact decide_eq_true rfl)
  exact this
theorem spl1_miss {c d : Nat} (acc r : List Nat) (h : d ≠ c) : TL.spl [c] 0 acc (d :: r) = TL.spl [c] 0 (acc ++ [d]) r :=
  TL.spl_miss (by rw [pre_one]; exact decide_eq_false h)
theorem spl1_ne (c : Nat) : ∀ (l acc : List Nat), TL.spl [c] 0 acc l ≠ []
  | [], acc => by rw [spl1_nil]; exact List.cons_ne_nil _ _
  | d :: r, acc => by
    by_cases h : d = c
    · rw [h, spl1_hit]; exact List.cons_ne_nil _ _
    · rw [spl1_miss _ _ h]; exact spl1_ne c r _
theorem joinL_cons {sep a : List Nat} {l : List (List Nat)} (h : l ≠ []) : TL.joinL sep (a :: l) = a ++ (sep ++ TL.joinL sep l) := by
  cases l with
  | nil => exact absurd rfl h
  | cons b l => rfl
theorem join_spl1 (c : Nat) : ∀ (l acc : List Nat), TL.joinL [c] (TL.spl [c] 0 acc l) = acc ++ l
  | [], acc => by rw [spl1_nil, List.append_nil]; rfl
  | d :: r, acc => by
    by_cases h : d = c
    · rw [h, spl1_hit, joinL_cons (spl1_ne c r []), join_spl1 c r []]; rfl
    · rw [spl1_miss _ _ h, join_spl1 c r _]; simp
theorem spl1_free (c : Nat) : ∀ (l acc : List Nat), c ∉ acc → ∀ p ∈ TL.spl [c] 0 acc l, c ∉ p
  | [], acc, h, p, hp => by rw [spl1_nil] at hp; rw [List.mem_singleton.mp hp]; exact h
  | d :: r, acc, h, p, hp => by
    by_cases e : d = c
    · rw [e, spl1_hit] at hp
      rcases List.mem_cons.mp hp with q | q
      · rw [q]; exact h
      · exact spl1_free c r [] (by simp) p q
    · rw [spl1_miss _ _ e] at hp
      exact spl1_free c r _ (by simp; exact ⟨h, fun q => e q.symm⟩) p hp
theorem joinL_part (sep : List Nat) : ∀ (ps : List (List Nat)), ∀ p ∈ ps, ∃ u v, TL.joinL sep ps = u ++ (p ++ v)
  | [], _, h => nomatch h
  | [a], p, h => by rw [List.mem_singleton.mp h]; exact ⟨[], [], by simp [TL.joinL]⟩
  | a :: b :: r, p, h => by
    rw [joinL_cons (List.cons_ne_nil b r)]
    rcases List.mem_cons.mp h with e | e
    · exact ⟨[], sep ++ TL.joinL sep (b :: r), by rw [e]; rfl⟩
    · obtain ⟨u, v, q⟩ := joinL_part sep (b :: r) p e
      exact ⟨a ++ (sep ++ u), v, by rw [q]; simp⟩
theorem spl1_len {c : Nat} {x p : List Nat} (h : p ∈ TL.spl [c] 0 [] x) : p.length ≤ x.length := by
  obtain ⟨u, v, q⟩ := joinL_part [c] _ p h
  rw [join_spl1, List.nil_append] at q
  rw [q, List.length_append, List.length_append]; omega
theorem spl1_mem {c : Nat} {x p : List Nat} (h : p ∈ TL.spl [c] 0 [] x) : ∀ d ∈ p, d ∈ x := by
  obtain ⟨u, v, q⟩ := joinL_part [c] _ p h
  rw [join_spl1, List.nil_append] at q
  intro d hd
  rw [q]; simp [hd]
theorem spl1_count (c : Nat) : ∀ (l acc : List Nat), (TL.spl [c] 0 acc l).length ≤ l.length + 1
  | [], acc => by rw [spl1_nil]; simp
  | d :: r, acc => by
    by_cases h : d = c
    · rw [h, spl1_hit, List.length_cons, List.length_cons]; have := spl1_count c r []; omega
    · rw [spl1_miss _ _ h, List.length_cons]; have := spl1_count c r (acc ++ [d]); omega
end NT
namespace NT
open PySem PySem.Spec PyProof.Rows L2 L2H HotX
/-! ### an own exception made where nothing is handled: its context is None -/
theorem pmkN_oex {X : Cx} {CX : CXT} {x : Str} {e : Expr} {es : List Expr} {ta : TA} {p pos : Pos} {C fI : Addr} {k : Nat} {fd : FuncData} {ps : List Str} {sp : Sp} (T : OexC X.K C) (iC : PySem.W.findIn X.K (.ref C) "__init__" = some (some (.ref fI))) (tI : PySem.W.typeIn X.K (.ref fI) = some (.type "function"))
    (F1 : FnOk X.prog X.w X.K X.mg X.base CX k fI fd ps sp) (hr : Room (k + 1) X.A) (hb : Binds X.K fd ps []) (hx : Passes CX X (fun _ _ _ => False)) (hg : Gl X x) (hm : X.mg x = some (.ref C)) (ha : PA X (e :: es) ta)
    (hdb : (x == ("__debug__" : Str)) = false := by decide) (he : starEach (e :: es) X.env = (false, eval e X.env) :: starEach es X.env := by rfl) (hpl : (backTo pos (starEach es X.env)).any (·.1) = false := by rfl) :
    L2N.PMk X (.Call (.Name x p) (e :: es) [] pos) (tMkO C sp [] ta) := by
  intro pins s σ H Q I h
  obtain ⟨nm, q, N, bs, bm, sn, sub, ab, col, dd, k0, k1, k2, k3, k5, hC, hbm⟩ := T.cls
  refine wpAny_Call_Name_kw (ld_glob I hg hm ?_ hdb)
  refine PySem.W.callWith_K (h₀ := X.base) I.ok.mod.kin T.kC (thn (ha.run pos pins s σ H _ I h) fun us s1 ⟨vs, H1, I1, r1, hz, q1⟩ => ⟨I1.kIn, ?_⟩) he hpl
  show wpAny _ _ (call (.ref C) us) _ _ _
  obtain ⟨hp, g, dr, tk, os⟩ := s1
  have hsz : hp.objs.size ≤ hp.objs.size + 1 := Nat.le_succ _
  have hn : H1 (hp.objs.size + 1) = none := I1.hok.fresh hsz
  have hq := q1 (hp.objs.size + 1) hn
  rw [List.append_nil] at hq
  have kk : ∀ b o, hp.get? b = some o → ((hp.push (PySem.W.kdv_tup us)).push (PySem.HandSPX.excO C hp.objs.size)).get? b = some o := fun b o e => Heap.get?_push_of_some _ (Heap.get?_push_of_some _ e)
  have hget : ((hp.push (PySem.W.kdv_tup us)).push (PySem.HandSPX.excO C hp.objs.size)).get? (hp.objs.size + 1) = some (PySem.HandSPX.excO C hp.objs.size) := by heap_get
  have I2 : Inv X pins σ (upd H1 (hp.objs.size + 1) (exo (hp.objs.size + 1) C none)) ⟨(hp.push (PySem.W.kdv_tup us)).push (PySem.HandSPX.excO C hp.objs.size), g, dr, tk, os⟩ :=
    I1.laid (t' := tk) (a := hp.objs.size + 1) (o := exo (hp.objs.size + 1) C none) (h' := (hp.push (PySem.W.kdv_tup us)).push (PySem.HandSPX.excO C hp.objs.size)) kk hsz (exo_ok hget)
  have r2 : Vals (V.ref (hp.objs.size + 1) :: vs) (Value.ref (hp.objs.size + 1) :: us) := .cons rfl r1
  have hl : (Value.ref (hp.objs.size + 1) :: us ++ []).length = ps.length := by
    have e := r2.length
    rw [F1.len _ _ _ _ hq] at e
    rw [List.append_nil]
    exact e.symm
  have hus : us.length ≤ sizeLine := by
    rw [← Paired.length r1, sizeLine_eq]
    omega
  have b2 := hb _ (Value.ref (hp.objs.size + 1) :: us) I2.kIn hl
  rw [List.append_nil] at b2
  refine wpAny_call (PySem.HandSPX.call_own F.excBase_ValueError (fun Y => PySem.HandSPX.refsVE_contains Y bm hbm) (I1.kIn _ _ hC) (PySem.W.looks_findIn I1.kIn iC) (fun self => PySem.W.bind_fn I1.kIn self tI) hus
    (codeAny_mono (F1.run _ X.stack _ _ ⟨Value.ref (hp.objs.size + 1) :: us, []⟩ (Value.ref (hp.objs.size + 1) :: us) _ _ (fun _ _ _ => False) (hr.make C us []) (I2.env0.make C us []) b2 r2 hq) fun r s' hq' => ?_))
  cases r with
  | error er => exact hx pins σ _ _ er s' I2 hq'
  | ok fl =>
    cases fl with
    | ret u =>
      obtain ⟨v, H2, os2, bare2, un2, hok2, rv, ev, d, fs, ea, ed, hd1, q2⟩ := hq'
      subst ev
      obtain ⟨h2, g2, d2, t2, os'⟩ := s'
      obtain ⟨t0, G, J, kG, ge, hoe, na⟩ := mk_end0 (d2 := d2) (t2 := t2) I1 hsz kk un2 hok2 os2 bare2 ea ed hd1
      refine ⟨rv, ⟨hp.objs.size + 1, _, _, ⟨G, g2, d2, t2, os'⟩, _, .ref C, some d, rfl, J, kG, ge, hoe, ⟨rfl, rfl, fun vs hv => ?_⟩, rfl, rfl, na, rfl, bare2, raises_own T.exC T.tyC, q2⟩⟩
      cases hv
      rfl
    | next => exact False.elim hq'
    | brk => exact False.elim hq'
    | cont => exact False.elim hq'
/-! ### except (x1, x2) as n -/
theorem flyZ_keeps {B h h' : Heap} {l : List Env} {e : Addr} {Z : Obj → Prop} (R : HandSPX.FlyingZ B l e Z h) (k : ∀ b o, h.get? b = some o → h'.get? b = some o) : HandSPX.FlyingZ B l e Z h' := by
  obtain ⟨f1, f2, f3, oe, ws, T, oT, ts, he, hz, hd, h1, hn, hne, hT, hdT, h3⟩ := R
  exact ⟨fun b o q => k b o (f1 b o q), f2, f3.of_keeps fun b o q _ => ⟨o, k b o q, rfl⟩, oe, ws, T, oT, ts, k _ _ he, hz, hd, h1, hn, hne, k _ _ hT, hdT, h3⟩
def wAs2 (K : PySem.W.Frag) (c1 c2 : Value) (i : Nat) (ts : Addr → Value → Option Addr → TS) (D : Ends) : WX := fun cls d σ H =>
  PySem.W.exmAny K cls [c1, c2] = some true ∧ ∀ a, H a = none → ts a cls d { nx := fun σ' H' => D.nx (σ'.set i none) H', rt := D.rt, bk := fun σ' H' => D.bk (σ'.set i none) H', ct := fun σ' H' => D.ct (σ'.set i none) H' } (σ.set i (some (.ref a))) H
section
variable {X : Cx} {x1 x2 n : Str} {c1 c2 : Value} {i kt : Nat} {body suite : List Stmt} {b₀ : Stmt} {np1 np2 tp pos pos' : Pos} {tb : WX → TS} {ts : Addr → Value → Option Addr → TS}
theorem ps_try_as2 (hs : X.stack = X.env :: X.outer) (hf : X.env.frame = some X.env.locals) (hN : X.N.Nodup) (hi : X.N[i]? = some n) (hln : X.env.kindOf n = some .local) (hc1 : Names X x1 c1) (hc2 : Names X x2 c2)
    (hb : ∀ (W : WX) (pn : List (Addr × Obj)) (xe : Value → Shared → Prop), Takes (X.tr pn xe) W → PassesOwn (model X.prog X.w) X.A X.env xe → PSs (X.tr pn xe) body (tb W))
    (hsu : ∀ (a : Addr) (oe : Obj) (cls : Value) (d : Option Addr) (pn : List (Addr × Obj)), Zc cls d oe → (∃ vs, oe.data = .fields vs) → PSs (X.suite a ((a, oe) :: pn)) (b₀ :: suite) (ts a cls d)) :
    PS X (.Try body [.ExceptHandler (some (.Tuple [.Name x1 np1, .Name x2 np2] kt tp)) (some n) (b₀ :: suite) pos'] [] [] pos) (fun D σ H => tb (wAs2 X.K c1 c2 i ts D) D σ H) := by
  refine ⟨fun pins s σ H D I h => ?_⟩
  have ok := I.ok
  have hfr : X.A.frames = some (X.env :: X.outer) := by rw [ok.frames, hs]
  have hloc : Loc X.env.scope n := .inl hln
  refine wpAny_Try_except ?_
  refine wpAny_mono ((hb (wAs2 X.K c1 c2 i ts D) (X.pn ++ pins) (fun e s₁ => wpAny (model X.prog X.w) X.A (noteFrame e X.env) (fun _ s₂ => wpAny (model X.prog X.w) X.A (setFlight e none) (fun _ s₃ =>
    wpAny (model X.prog X.w) X.A (handleBy e X.env [.ExceptHandler (some (.Tuple [.Name x1 np1, .Name x2 np2] kt tp)) (some n) (b₀ :: suite) pos']) (SP X pins D) X.xe s₃) X.xe s₂) X.xe s₁) (fun u s' xx => ?_) PassesOwn.looking).run [] s σ H D (I.toTry _) h) (fun f s1 hsp => ?_) (fun e s1 he => he)
  · -- the catch
    obtain ⟨a, B, sI, pins', σ', H', cls, d, rfl, J', nb, up, sky, na, os, ag, hb1, hyes⟩ := xx
    have J : Inv X pins σ' H' sI := J'.ofTry ok
    have sky' : Sky B (X.env :: X.outer) a (Zc cls d) X.env.locals s'.heap := by rw [← hs]; exact sky
    show wpAny (model X.prog X.w) X.A (noteFrame (.ref a) X.env) _ _ _
    refine Sky.land Zc.steady hfr hf sky' fun h3 fl3 up3 => ?_
    have J3 : Inv X pins σ' H' { s' with heap := h3 } := J.landed nb fl3.1 (up.trans up3) os ag
    obtain ⟨oe3, vs3, he3, hz3, hd3⟩ := fl3.there
    have notFr : ∀ {h : Heap} {o : Obj} {vs : Array Value}, h.FunFrames B (X.env :: X.outer) → h.get? a = some o → o.data = .fields vs → a ∉ frs (X.env :: X.outer) := fun {h o vs} ff e dd hm => by
      obtain ⟨_, o', e', hnf⟩ := ff.mem hm
      rw [e] at e'; cases e'
      exact hnf _ dd
    have nfr := notFr fl3.2.2.1 he3 hd3
    have nL : a ≠ X.env.locals := fun z => nfr (List.mem_filterMap.mpr ⟨X.env, List.mem_cons_self, by rw [hf, z]⟩)
    have nF : a ∉ X.fs := fun hm => by
      obtain ⟨e, he, q⟩ := List.mem_filterMap.mp hm
      exact nfr (List.mem_filterMap.mpr ⟨e, List.mem_cons_of_mem _ he, q⟩)
    have S3 := J3.suite he3 hd3 na nL nF
    refine wpAny_handleBy_cons (codeAny_handlers_test ?_) (by intro q; cases q)
    have LT : PySem.W.Looks (model X.prog X.w) h3 (typeOf (.ref a)) cls := fun A Q E s k q => wpAny_typeOf_ref (k _ _ he3) (by rw [hz3.1]; exact q)
    have test : ∀ {x : Str} {c : Value} {np : Pos}, Names X x c → ∀ {Q : Value → Shared → Prop} {E : Value → Shared → Prop}, Q c { s' with heap := h3 } → wpAny (model X.prog X.w) (X.A.mark (some (.ref a))) (eval (.Name x np) X.env) Q E { s' with heap := h3 } := fun {x c np} hc {Q E} q => by
      obtain ⟨hg, hdbg, hm | ⟨hm, hv, hnn⟩⟩ := hc
      · exact ld_glob (X := X.suite a ((a, oe3) :: (X.pn ++ pins))) S3 hg hm q hdbg
      · exact ld_blt (X := X.suite a ((a, oe3) :: (X.pn ++ pins))) S3 hg hm hv q hnn hdbg
    refine wpAny_Tuple (wpAny_items_cons (test hc1 (wpAny_items_cons (test hc2 (wpAny_items_nil ⟨by size_fits, ?_⟩)))))
    have kp : ∀ q o, h3.get? q = some o → (h3.push { cls := .type "tuple", data := .seq [c1, c2].toArray }).get? q = some o := fun _ _ z => Heap.get?_push_of_some _ z
    have fl4 := flyZ_keeps fl3 kp
    have up4 := up3.trans (Heap.UpToSlots.of_keeps kp)
    refine (PySem.W.exm_tup2 (J3.kIn.keeps kp) (LT.keeps kp) (Heap.get?_push_size h3 rfl) hb1).here ?_
    refine codeAny_handlers_suite_as ?_
    refine HandSPX.lands_againZ fl4 fun h5 fl5 up5 => ?_
    have J4 : Inv X pins σ' H' { s' with heap := h5 } := J.landed nb fl5.1 ((up.trans up4).trans up5) os ag
    obtain ⟨oe4, vs4, he4, hz4, hd4⟩ := fl5.there
    have S4 := J4.suite he4 hd4 na nL nF
    refine store_ok (X := X.suite a ((a, oe4) :: (X.pn ++ pins))) (v := .ref a) S4 hN hi hloc rfl (fun s5 S5 => ?_) (.inr hln)
    refine wpAny_mono ((hsu a oe4 cls d (X.pn ++ pins) hz4 ⟨_, hd4⟩).run [] s5 _ H' _ S5 (hyes a na)) (fun f s6 hsp => ?_) (fun _ _ z => False.elim z)
    have end_ : ∀ {σ6 : L2.St} {H6 : Hp} {Q : Shared → Prop}, Inv (X.suite a ((a, oe4) :: (X.pn ++ pins))) [] σ6 H6 s6 → (∀ s7, Inv X pins (σ6.set i none) H6 s7 → Q s7) →
        wpAny (model X.prog X.w) X.A (do bindName X.env n .none; unbindBehindTheSuite X.env n pos') (fun _ s7 => Q s7) X.xe s6 := fun {σ6 H6 Q} S6 hq => gone_ok (S6.unsuite ok) hN hi hln hq
    cases f with
    | next =>
      obtain ⟨σ6, H6, S6, q6⟩ := hsp
      exact end_ S6 fun s7 J7 => ⟨_, _, J7, q6⟩
    | brk =>
      obtain ⟨σ6, H6, S6, q6⟩ := hsp
      exact end_ S6 fun s7 J7 => ⟨_, _, J7, q6⟩
    | cont =>
      obtain ⟨σ6, H6, S6, q6⟩ := hsp
      exact end_ S6 fun s7 J7 => ⟨_, _, J7, q6⟩
    | ret u =>
      obtain ⟨v6, σ6, H6, S6, r6, q6⟩ := hsp
      exact end_ S6 fun s7 J7 => ⟨_, _, _, J7, r6, q6⟩
  · cases f with
    | next =>
      obtain ⟨σ', H', J', q⟩ := hsp
      exact wpAny_execs_nil ⟨σ', H', J'.ofTry ok, q⟩
    | brk =>
      obtain ⟨σ', H', J', q⟩ := hsp
      exact ⟨σ', H', J'.ofTry ok, q⟩
    | cont =>
      obtain ⟨σ', H', J', q⟩ := hsp
      exact ⟨σ', H', J'.ofTry ok, q⟩
    | ret u =>
      obtain ⟨v, σ', H', J', r, q⟩ := hsp
      exact ⟨v, σ', H', J'.ofTry ok, r, q⟩
end
/-! ### a def called in an except suite, nothing raised -/
abbrev SpX := Addr × Obj → Sp
structure FnS (P : Program) (w : World) (K : PySem.W.Frag) (mg : Str → Option Value) (base : Heap) (k : Nat) (f : Addr) (fd : FuncData) (ps : List Str) (sp : SpX) : Prop where
  len : ∀ p vs H Q E, sp p vs H Q E → vs.length = ps.length
  run : ∀ (A : Around) (outer : List Env) (s : Shared) (H : Hp) (args : Args) (us : List Value) (vs : List V) (Q : VK) (p : Addr × Obj), RoomH k A → PinOk outer H s p → Env0 P w K mg base A outer s H → BindsTo s fd args (ps.zip us) → Vals vs us → sp p vs H Q C8.E0 →
    codeAny (model P w) A (.call (.ref f) args) (CR C8.CX0 outer P w H s Q C8.E0) s
theorem fn_ofS {P : Program} {w : World} {K : PySem.W.Frag} {mg : Str → Option Value} {base : Heap} {k : Nat} {f : Addr} {name qual : Str} {params : Arguments} {body : List Stmt} {scope : Scope} {dV kV doc pm cdv ct oc : Value} {an od : Option Addr}
    {osl : Array (Option Value)} {N ps : List Str} {sp : SpX} (lk : K.lookup f = some ⟨oc, od, .func (PySem.W.fnOf name qual params body scope dV kV doc pm an cdv ct), osl⟩) (hcd : PySem.W.codeIn K cdv qual = true) (S : FnScope N ps scope)
    (len : ∀ p vs H Q E, sp p vs H Q E → vs.length = ps.length)
    (hbody : ∀ (A : Around) (outer : List Env) (s : Shared) (H : Hp) (vs : List V) (Q : VK) (p : Addr × Obj), RoomH k (A.deeper (envOfC qual scope s.heap.objs.size f cdv)) → sp p vs H Q C8.E0 →
      ∃ t, PSs (cxH C8.CX0 P w K mg base N qual scope f cdv A outer s H C8.E0 p) body t ∧ t { nx := fun _ H' => Q .non H', rt := Q } (L2.start N vs) H) :
    FnS P w K mg base (k + 1) f (PySem.W.fnOf name qual params body scope dV kV doc pm an cdv ct) ps sp := by
  refine ⟨len, fun A outer s H args us vs Q p hr hpin e0 hb r hsp => ?_⟩
  have hl := len _ _ _ _ _ hsp
  have KX : K.In s.heap := e0.mod.kin.keeps fun b o e => (e0.bs b o e).1
  have lim : s.heap.NoLimit := e0.mod.nolimit.keeps fun b o e => (e0.bs b o e).1
  have hkind : ∀ y ∈ ps.zip us, scope.names.lookup y.1 = some .local ∨ (scope.names.lookup y.1 = some .cell ∧ ((cellsFrom (s.heap.objs.size + 1) scope.names []).lookup y.1).isSome = true) := fun ⟨n, v⟩ hy => by
    rcases S.par n (List.of_mem_zip hy).1 with q | q
    · exact .inl q
    · exact .inr ⟨q, PySem.W.cellsFrom_some _ _ _ (.inl q)⟩
  refine codeAny_call_function hr.depth (KX _ _ lk) rfl S.co S.gen rfl (PySem.W.codeRec_of KX hcd) (hb _ _ _ _ ?_)
  refine wpAny_newFunctionEnv_cells S.kind hkind fun env he s1 x => ?_
  subst he
  refine ⟨lim.keeps x.toInCall.keep, codeAny_func ?_⟩
  obtain ⟨t, ht, hq⟩ := hbody A outer s H vs Q p (hr.deeper _) hsp
  have I : Inv (cxH C8.CX0 P w K mg base N qual scope f cdv A outer s H C8.E0 p) [] (L2.start N vs) H s1 := inv_startH S hpin e0 hl r x
  refine wpAny_mono (ht.run [] s1 (L2.start N vs) H _ I hq) (fun fl s' hs => ?_) fun e s' hs => hs
  have fin : ∀ {σ' : L2.St} {H' : Hp} {v : V} {u : Value}, Inv (cxH C8.CX0 P w K mg base N qual scope f cdv A outer s H C8.E0 p) [] σ' H' s' → RelV v u → Q v H' → CE outer P w H s Q u s' :=
    fun {σ' H' v u} J rv q => ⟨v, H', J.os, J.bare, J.base, J.hok, rv, q⟩
  cases fl with
  | ret u =>
    obtain ⟨v, σ', H', J, rv, q⟩ := hs
    exact fin J rv q
  | next =>
    obtain ⟨σ', H', J, q⟩ := hs
    exact fin (v := V.non) (u := Value.none) J rfl q
  | brk =>
    obtain ⟨_, _, _, q⟩ := hs
    exact False.elim q
  | cont =>
    obtain ⟨_, _, _, q⟩ := hs
    exact False.elim q
section
variable {X : Cx} {k : Nat} {f : Addr} {fd : FuncData} {ps : List Str} {sp : SpX} {x : Str} {q pos : Pos} {e : Expr} {es : List Expr} {t : TA} {pp : Addr × Obj}
theorem pe_callSu (F : FnS X.prog X.w X.K X.mg X.base k f fd ps sp) (hr : RoomH k X.A) (hp : pp ∈ X.pn) (hg : Gl X x) (hm : X.mg x = some (.ref f)) (hk : PySem.W.keepIn X.K (.ref f) = true) (hb : Binds X.K fd ps [])
    (ha : PA X (e :: es) t) (hdb : (x == ("__debug__" : Str)) = false := by decide) (he : starEach (e :: es) X.env = (false, eval e X.env) :: starEach es X.env := by rfl) (hpl : (backTo pos (starEach es X.env)).any (·.1) = false := by rfl) :
    PE X (.Call (.Name x q) (e :: es) [] pos) (tCall (sp pp) [] C8.E0 t) := by
  refine ⟨fun pins s σ H Q I h => ?_⟩
  refine wpAny_Call_Name_kw (ld_glob I hg hm ?_ hdb)
  refine PySem.W.callWith_K (h₀ := X.base) I.ok.mod.kin hk (thn (ha.run pos pins s σ H _ I h) fun us s1 ⟨vs, H1, I1, r, q⟩ => ⟨I1.kIn, ?_⟩) he hpl
  have q : sp pp (vs ++ []) H1 Q C8.E0 := q
  rw [List.append_nil] at q
  have hl : us.length = ps.length := by rw [← r.length]; exact F.len _ _ _ _ _ q
  have b := hb s1 us I1.kIn (by rw [List.append_nil]; exact hl)
  rw [List.append_nil] at b
  have P1 := I1.pin pp (List.mem_append_left _ hp)
  have hpin : PinOk X.stack H1 s1 pp := ⟨P1.1, P1.2.1, fun hm => (List.mem_cons.mp (I1.stkSub pp.1 hm)).elim P1.2.2.1 P1.2.2.2.1, P1.2.2.2.2⟩
  refine wpAny_call (codeAny_mono (F.run X.A X.stack s1 H1 ⟨us, []⟩ us vs Q pp hr hpin I1.env0 b r q) fun r s' hq => ?_)
  cases r with
  | error e => exact (show False from hq).elim
  | ok fl =>
    cases fl with
    | ret u => exact I1.after hq
    | next => exact False.elim hq
    | brk => exact False.elim hq
    | cont => exact False.elim hq
end
/-- e.f, e an exception that is pinned -/
theorem pe_xfP {X : Cx} {C : Addr} {pp : Addr × Obj} {e : Expr} {te : TE} {pos : Pos} {n : Str} (hp : pp ∈ X.pn) (T : XfC X.K C) (hno : PySem.W.findIn X.K (.ref C) n = some none)
    (he : PE X e te) (hb : attributeBase e n X.env (eval e X.env) = eval e X.env := by rfl) :
    PE X (.Attribute e n pos) (fun σ H Q => te σ H fun x H1 => x = .ref pp.1 ∧ (∃ vs, pp.2.data = .fields vs) ∧ ∃ (dd : Addr) (fs : List (Str × V)) (v : V), Zc (.ref C) (some dd) pp.2 ∧ H1 dd = some (.xd fs) ∧ fs.lookup n = some v ∧ Q v H1) := by
  refine ⟨fun pins s σ H Q I h => ?_⟩
  refine attr_of hb (thn (he.run pins s σ H _ I h) fun u s1 hh => ?_)
  obtain ⟨x, H1, I1, rx, ex, hf, dd, fs, v, hz, ea, l, q⟩ := hh
  subst ex
  obtain rfl : u = Value.ref pp.1 := rx
  obtain ⟨ha, _⟩ := I1.pin pp (List.mem_append_left _ hp)
  obtain ⟨vs, hd⟩ := hf
  have hx : ObjOk X.prog X.w H1 s1.heap dd (.xd fs) := I1.hok dd _ ea
  obtain ⟨mA, hns, hr⟩ := hx
  obtain ⟨od, ho, hl⟩ := lookIn_ns hns
  obtain ⟨u, hu, ru⟩ := RelO.some_of (v := v) (o := mA n) (by rw [← l]; exact hr n)
  have J : PySem.W.InstAt s1.heap pp.1 pp.2 C (some od) := ⟨ha, hz.1, by unfold PySem.W.notCls; rw [hd] <;> rfl, by rw [hz.2]; exact ho⟩
  exact HandSPX.exc_get I1.kIn J T.ga T.gg T.exC (PySem.W.findObj_own T.hdC hno rfl (by rw [hl, hu])) (handed_of ru) ⟨v, H1, I1.tok _, ru, q⟩
end NT
namespace NT
open PySem PySem.Spec PyProof.Rows L2
open SX (S)
section
variable {P : Program} {w : World} {K : PySem.W.Frag} {mg : Str → Option Value} {base : Heap}
/-! is_name -/
abbrev letters : List Nat := ("abcdefghijklmnopqrstuvwxyz" : Str).cps.toList
def nameB (x : List Nat) : Bool := decide (1 ≤ x.length) && (decide (x.length ≤ 6) && x.all fun c => decide (c ∈ letters))
def spIsName : Sp := fun vs H Q _ => ∃ x : List Nat, vs = [sv x] ∧ x.length ≤ 16000000 ∧ ∀ H', Same H H' → Q (.bl (nameB x)) H'
abbrev N_is_name : List Str := ["value", "sign"]
theorem sc_is_name : FnScope N_is_name ["value"] (defScope s_is_name) := ⟨rfl, rfl, rfl, by decide +kernel, rfl, by decide +kernel, by decide +kernel⟩
theorem isi_str {H : Hp} {Q : VK} {z : Str} (q : Q (.bl true) H) : rIsi K [.str z, .ty "str"] H Q := ⟨_, _, _, _, true, rfl, .ty _, .base (.str z), kit_ty (by decide +kernel), q⟩
theorem cl_is_name (T : Txt K mg) : Cl P w K mg base CX0 1 "is_name" spIsName [] := by
  refine cl0 T.d_is_name sc_is_name (fun _ _ _ _ _ _ us hl => match us, hl with | [_], _ => rfl) (fun vs H Q E h => by obtain ⟨_, rfl, _⟩ := h; rfl) fun f cdv A outer s H vs Q E hr h => ?_
  obtain ⟨x, rfl, hx, k⟩ := h
  refine ⟨_, (pss_cons (ps_if (PW.pt (pw_or (pt_not (pt_val (pe_callB call_isi (by rfl) T.f_isinstance (by decide +kernel) (pa_cons (pv 0) (pa_cons (pe_bltn (v := .ty "str") (u := .type "str") (by rfl) T.f_str (by decide +kernel) rfl) pa_nil))))) (pw_or1 (pt_not (pt_chain op_le op_le pe_int (pe_callB call_len_str (by rfl) T.f_len PySem.boot_len (pa_cons (pv 0) pa_nil)) pe_int)))))
    (pss_one (ps_ret pe_bl))
    pss_nil)
    (pss_one (ps_ret (pe_callB (cr_all rfl) (by rfl) T.f_all (by decide +kernel) (pa_cons (pe_lc (own := [("sign", 1)]) rfl sc_is_name.nd (pi_str (pv 0)) (blkOk_by (N := N_is_name) (sc := defScope s_is_name) (by decide +kernel)) (fun _ _ _ _ _ => pg_name (i := 1) sc_is_name.nd rfl (by first | exact Or.inl rfl | exact Or.inr rfl)) (fun _ _ _ _ _ => pts_nil) (fun _ _ _ _ _ => (pe_cmpR op_in_sign (pv 1) (C8.pe_gc (by rfl) T.v_LETTERS) (by rfl)))) pa_nil))))), ?_⟩
  refine ⟨_, rfl, _, _, _, _, true, rfl, .ty _, .base (.str _), kit_ty (by decide +kernel), _, rfl, iteF ?_⟩
  refine ⟨_, rfl, _, rfl, line_le (by rw [SX.S_len]; exact hx), _, _, rfl, rfl, _, rfl, ?_⟩
  by_cases h1 : (1 : Int) ≤ ((S x).length : Int)
  · rw [decide_eq_true h1]
    refine iteT ⟨_, _, rfl, rfl, _, rfl, ?_⟩
    by_cases h2 : ((S x).length : Int) ≤ 6
    · rw [decide_eq_true h2]
      refine iteF ?_
      refine ⟨_, rfl, _, rfl, fun D hD => ?_⟩
      refine lc_signs hD x (fun _ => true) (fun c => .bl (decide (c ∈ letters))) hx ?_ ?_
      · intro c H1 hc e
        refine ⟨_, gv_name, rfl, evT_yes, fun H2 e2 _ Q q => ?_⟩
        exact ⟨_, rfl, c, _, rfl, rfl, q _ (Same.refl _)⟩
      · intro H' e hl
        rw [filter_all] at hl
        have hl' : H' D = some (.lst ((x.map fun c => decide (c ∈ letters)).map V.bl)) := by rw [hl, List.map_map] <;> rfl
        refine ⟨D, _, rfl, SqL.of hl', ?_⟩
        rw [all_map]
        have ek : nameB x = x.all fun c => decide (c ∈ letters) := by
          rw [SX.S_len] at h1 h2
          unfold nameB
          rw [decide_eq_true (by omega : 1 ≤ x.length), decide_eq_true (by omega : x.length ≤ 6)] <;> rfl
        rw [← ek]
        exact k _ e
    · rw [decide_eq_false h2]
      refine iteT ?_
      have ek : nameB x = false := by
        rw [SX.S_len] at h2
        unfold nameB
        rw [decide_eq_false (by omega : ¬ x.length ≤ 6), Bool.false_and, Bool.and_false]
      rw [ek] at k
      exact k _ (Same.refl _)
  · rw [decide_eq_false h1]
    refine iteF ⟨_, rfl, iteT ?_⟩
    have ek : nameB x = false := by
      rw [SX.S_len] at h1
      unfold nameB
      rw [decide_eq_false (by omega : ¬ 1 ≤ x.length), Bool.false_and]
    rw [ek] at k
    exact k _ (Same.refl _)
end
end NT
namespace NT
open PySem PySem.Spec PyProof.Rows L2
open SX (S)
/-! ### cells, lists of texts in the heap -/
abbrev Cell := List Nat × Int
def CellsAt (H : Hp) (a : Addr) (cs : List Cell) : Prop := ∃ ps : List (Addr × Cell), ps.map (·.2) = cs ∧ H a = some (.lst (ps.map fun z => .ref z.1)) ∧ ∀ z ∈ ps, H z.1 = some (.tup [sv z.2.1, .int z.2.2])
def StrsAt (H : Hp) (a : Addr) (ys : List (List Nat)) : Prop := H a = some (.lst (ys.map sv))
theorem CellsAt.same {H H' : Hp} {a : Addr} {cs : List Cell} (h : CellsAt H a cs) (e : Same H H') : CellsAt H' a cs := by
  obtain ⟨ps, h1, h2, h3⟩ := h
  exact ⟨ps, h1, e _ _ h2, fun z hz => e _ _ (h3 z hz)⟩
theorem StrsAt.same {H H' : Hp} {a : Addr} {ys : List (List Nat)} (h : StrsAt H a ys) (e : Same H H') : StrsAt H' a ys := e _ _ h
section
variable {P : Program} {w : World} {K : PySem.W.Frag} {mg : Str → Option Value} {base : Heap}
/-! is_number -/
def spIsNumber : Sp := fun vs H Q _ => ∃ v a b : Int, vs = [.int v, .int a, .int b] ∧ Q (.bl (decide (a ≤ v) && decide (v ≤ b))) H
abbrev N_is_number : List Str := ["value", "least", "most"]
theorem sc_is_number : FnScope N_is_number ["value", "least", "most"] (defScope s_is_number) := ⟨rfl, rfl, rfl, by decide +kernel, rfl, by decide +kernel, by decide +kernel⟩
theorem cl_is_number (T : Txt K mg) : Cl P w K mg base CX0 1 "is_number" spIsNumber [] := by
  refine cl0 T.d_is_number sc_is_number (fun _ _ _ _ _ _ us hl => match us, hl with | [_, _, _], _ => rfl) (fun vs H Q E h => by obtain ⟨_, _, _, rfl, _⟩ := h; rfl) fun f cdv A outer s H vs Q E hr h => ?_
  obtain ⟨v, a, b, rfl, k⟩ := h
  refine ⟨_, (pss_one (ps_ret (pe_and (pe_callB (call_isiK' (K := K) rfl) (by rfl) T.f_isinstance (by decide +kernel) (pa_cons (pv 0) (pa_cons (pe_bltn (v := .ty "int") (u := .type "int") (by rfl) T.f_int (by decide +kernel) rfl) pa_nil))) (pe_and (pe_not (pe_callB (call_isiK' (K := K) rfl) (by rfl) T.f_isinstance (by decide +kernel) (pa_cons (pv 0) (pa_cons (pe_bltn (v := .ty "bool") (u := .type "bool") (by rfl) T.f_bool (by decide +kernel) rfl) pa_nil)))) (pe_one (pe_chain op_le op_le (pv 1) (pv 0) (pv 2))))))), ?_⟩
  refine ⟨_, rfl, _, _, _, _, true, rfl, .ty _, .base (.int _), kit_ty (by decide +kernel), _, rfl, iteT ?_⟩
  refine ⟨_, rfl, _, _, _, _, false, rfl, .ty _, .base (.int _), kit_ty (by decide +kernel), _, rfl, _, rfl, iteT ?_⟩
  refine ⟨_, rfl, _, rfl, _, _, rfl, rfl, _, rfl, ?_⟩
  by_cases h1 : a ≤ v
  · rw [decide_eq_true h1] at k ⊢
    refine iteT ⟨_, rfl, _, _, rfl, rfl, ?_⟩
    exact k
  · rw [decide_eq_false h1] at k ⊢
    exact iteF k
/-! over, lay -/
def overL (x y : List Nat) : List Nat := (x.zip y).map fun q => if q.1 = 46 then q.2 else q.1
def lotL (x : List Nat) : List Nat := x.map fun c => if c = 46 then 46 else 43
def spOver : Sp := fun vs H Q _ => ∃ x y : List Nat, vs = [sv x, sv y] ∧ x.length ≤ 1000000 ∧ ∀ H', Same H H' → Q (sv (overL x y)) H'
theorem S_inj {x y : List Nat} (h : S x = S y) : x = y := by
  have e2 : (S x).cps.toList = (S y).cps.toList := by rw [h]
  simpa using e2
theorem sv_inj {x y : List Nat} (h : (sv x : V) = sv y) : x = y := S_inj (by injection h)
theorem txt_dec {x y : List Nat} {t : Str} (h : t = S y) : decide ((sv x : V) = .str t) = decide (x = y) := by
  subst h
  by_cases e : x = y
  · rw [decide_eq_true e, e]; exact decide_eq_true rfl
  · rw [decide_eq_false e]; exact decide_eq_false fun q => e (sv_inj q)
theorem one_dec {c d : Nat} {t : Str} (h : t = S [d]) : decide ((sv [c] : V) = .str t) = decide (c = d) := by
  rw [txt_dec h]
  by_cases e : c = d
  · rw [decide_eq_true e, e]; exact decide_eq_true rfl
  · rw [decide_eq_false e]; exact decide_eq_false fun q => e (by injection q)
theorem if_dec {p : Prop} [Decidable p] {b : Bool} {A B : Prop} (h : b = decide p) (hT : p → A) (hF : ¬ p → B) : if b = true then A else B := by
  by_cases e : p
  · rw [decide_eq_true e] at h; rw [if_pos h]; exact hT e
  · rw [decide_eq_false e] at h; rw [if_neg (by rw [h]; decide)]; exact hF e
theorem if_decN {p : Prop} [Decidable p] {b : Bool} {A B : Prop} (h : b = !decide p) (hT : ¬ p → A) (hF : p → B) : if b = true then A else B := by
  by_cases e : p
  · rw [decide_eq_true e] at h; rw [if_neg (by rw [h]; decide)]; exact hF e
  · rw [decide_eq_false e] at h; rw [if_pos (by rw [h]; rfl)]; exact hT e
theorem lens_sum1 {α : Type} (l : List α) (f : α → Nat) : (((l.map fun z => ([f z] : List Nat)).map S).map (·.length)).sum = l.length := by
  induction l with
  | nil => rfl
  | cons a l ih =>
    simp only [List.map_cons, List.sum_cons, List.length_cons]
    rw [ih, SX.S_len]
    simp only [List.length_cons, List.length_nil]
    omega
theorem joinNil1 {α : Type} (l : List α) (f : α → Nat) : Txt.join (S []) ((l.map fun z => ([f z] : List Nat)).map S) = S (l.map f) := by
  rw [SX.join_S]
  have h : ∀ ps : List Nat, TL.joinL [] (ps.map fun c => [c]) = ps := by
    intro ps
    induction ps with
    | nil => rfl
    | cons a l ih =>
      cases l with
      | nil => rfl
      | cons b l => 
        show [a] ++ [] ++ TL.joinL [] ((b :: l).map fun c => [c]) = _
        rw [ih]; rfl
  have := h (l.map f)
  rw [List.map_map] at this
  exact congrArg S this
abbrev N_over : List Str := ["newer", "older", "sign", "below"]
theorem sc_over : FnScope N_over ["newer", "older"] (defScope s_over) := ⟨rfl, rfl, rfl, by decide +kernel, rfl, by decide +kernel, by decide +kernel⟩
theorem cl_over (T : Txt K mg) : Cl P w K mg base CX0 1 "over" spOver [] := by
  refine cl0 T.d_over sc_over (fun _ _ _ _ _ _ us hl => match us, hl with | [_, _], _ => rfl) (fun vs H Q E h => by obtain ⟨_, _, rfl, _⟩ := h; rfl) fun f cdv A outer s H vs Q E hr h => ?_
  obtain ⟨x, y, rfl, hx, k⟩ := h
  refine ⟨_, (pss_one (ps_ret (pe_joinK (K := K) rfl pe_str (pe_lc (own := [("sign", 2), ("below", 3)]) rfl sc_over.nd (pi_zipS (by rfl) T.f_zip (pa_cons (pv 0) (pa_cons (pv 1) pa_nil))) (blkOk_by (N := N_over) (sc := defScope s_over) (by decide +kernel)) (fun _ _ _ _ _ => pg_pairK (K := K) (i := 2) (j := 3) rfl rfl sc_over.nd rfl rfl (Or.inl rfl) (Or.inl rfl) (Or.inr rfl) (Or.inr rfl)) (fun _ _ _ _ _ => pts_nil) (fun _ _ _ _ _ => (pe_ifExp (pt_cmpR op_eq (pv 2) pe_str (nomark _)) (pv 3) (pv 2))))))), ?_⟩
  refine ⟨⟨_, rfl⟩, ?_⟩
  refine ⟨_, rfl, _, rfl, x, y, rfl, fun D hD => ?_⟩
  refine lc_zt hD y (fun c => sv [c]) (fun _ _ => ⟨rfl, fun _ h => h⟩) (fun _ => true) (fun q => sv [if q.1 = 46 then q.2 else q.1]) (by omega) ?_ ?_
  · intro z T' H1 hz e hT
    refine ⟨_, gv_pair hT, rfl, evT_yes, fun H2 e2 _ Q q => ?_⟩
    refine ⟨_, rfl, rfl, _, rfl, ?_⟩
    refine if_dec (one_dec (d := 46) (by rfl)) (fun hc => ?_) (fun hc => ?_)
    · rw [if_pos hc] at q
      exact ⟨_, rfl, q _ (Same.refl _)⟩
    · rw [if_neg hc] at q
      exact ⟨_, rfl, q _ (Same.refl _)⟩
  · intro H' e hl
    rw [filter_all] at hl
    have hl' : H' D = some (.lst ((((x.zip y).map fun q => [if q.1 = 46 then q.2 else q.1]).map S).map V.str)) := by rw [hl, List.map_map, List.map_map] <;> rfl
    refine ⟨_, D, _, rfl, rfl, .inl (SqL.of hl'), ?_, ?_⟩
    · rw [lens_sum1]
      show (x.zip y).length + _ * 0 ≤ _
      rw [List.length_zip]
      omega
    · have ej := joinNil1 (x.zip y) (fun q => if q.1 = 46 then q.2 else q.1)
      show Q (.str (Txt.join (S []) _)) H'
      rw [ej]
      exact k _ e
end
end NT
namespace NT
open PySem PySem.Spec PyProof.Rows L2 L2H HotX
/-! ### the exceptions' own __init__ -/
def spX1 (C : Addr) (f code : Str) : Sp := fun vs H Q _ => ∃ (a : Addr) (v : V), vs = [.ref a, v] ∧ H a = some (exo a C none) ∧ ∀ dx, H dx = none → dx ≠ a → Q .non (upd (upd (upd H dx (exd dx [(f, v)])) a (exo a C (some dx))) dx (exd dx [("code", .str code), (f, v)]))
def spX2 (C : Addr) (f g code : Str) : Sp := fun vs H Q _ => ∃ (a : Addr) (v u : V), vs = [.ref a, v, u] ∧ H a = some (exo a C none) ∧ ∀ dx, H dx = none → dx ≠ a → Q .non (upd (upd (upd (upd H dx (exd dx [(f, v)])) a (exo a C (some dx))) dx (exd dx [(g, u), (f, v)])) dx (exd dx [("code", .str code), (g, u), (f, v)]))
section
variable {P : Program} {w : World} {K : PySem.W.Frag} {mg : Str → Option Value} {base : Heap}
abbrev N_BadCells : List Str := ["self", "at"]
theorem sc_BadCells : FnScope N_BadCells ["self", "at"] (defScope s_BadCells) := ⟨rfl, rfl, rfl, by decide +kernel, rfl, by decide +kernel, by decide +kernel⟩
theorem fi_BadCells (T : Txt K mg) : ∃ fd, FnOk P w K mg base C8.CX0 1 (He.ma K (He.ga K "BadCells") "__init__") fd ["self", "at"] (spX1 (He.ga K "BadCells") "at" "BadCells") ∧ Binds K fd ["self", "at"] [] := by
  obtain ⟨fd, F⟩ := T.x_BadCells.fd
  refine ⟨fd, FunD.ok0 F sc_BadCells (fun vs H Q E h => by obtain ⟨_, _, rfl, _⟩ := h; rfl) fun cdv A outer s H vs Q E hr h => ?_, F.bindsN (fun _ _ _ _ _ _ us hl => match us, hl with | [_, _], _ => rfl)⟩
  obtain ⟨a, v, rfl, ha, k⟩ := h
  refine ⟨_, pss_cons (ps_ost (pv 0) (pv 1)) (pss_one (ps_ost (pv 0) pe_str)), ?_⟩
  refine ⟨_, rfl, _, rfl, a, _, rfl, T.x_BadCells.oex, T.n_BadCells_at, .inl ⟨ha, fun dx hd hne => ?_⟩⟩
  refine ⟨_, rfl, a, _, rfl, T.x_BadCells.oex, T.x_BadCells.nc, .inr ⟨dx, _, upd_same, by rw [upd_ne hne]; exact upd_same, Nat.le_of_ble_eq_true rfl, ?_⟩⟩
  exact k dx hd hne
abbrev N_BadSeed : List Str := ["self", "at"]
theorem sc_BadSeed : FnScope N_BadSeed ["self", "at"] (defScope s_BadSeed) := ⟨rfl, rfl, rfl, by decide +kernel, rfl, by decide +kernel, by decide +kernel⟩
theorem fi_BadSeed (T : Txt K mg) : ∃ fd, FnOk P w K mg base C8.CX0 1 (He.ma K (He.ga K "BadSeed") "__init__") fd ["self", "at"] (spX1 (He.ga K "BadSeed") "at" "BadSeed") ∧ Binds K fd ["self", "at"] [] := by
  obtain ⟨fd, F⟩ := T.x_BadSeed.fd
  refine ⟨fd, FunD.ok0 F sc_BadSeed (fun vs H Q E h => by obtain ⟨_, _, rfl, _⟩ := h; rfl) fun cdv A outer s H vs Q E hr h => ?_, F.bindsN (fun _ _ _ _ _ _ us hl => match us, hl with | [_, _], _ => rfl)⟩
  obtain ⟨a, v, rfl, ha, k⟩ := h
  refine ⟨_, pss_cons (ps_ost (pv 0) (pv 1)) (pss_one (ps_ost (pv 0) pe_str)), ?_⟩
  refine ⟨_, rfl, _, rfl, a, _, rfl, T.x_BadSeed.oex, T.n_BadSeed_at, .inl ⟨ha, fun dx hd hne => ?_⟩⟩
  refine ⟨_, rfl, a, _, rfl, T.x_BadSeed.oex, T.x_BadSeed.nc, .inr ⟨dx, _, upd_same, by rw [upd_ne hne]; exact upd_same, Nat.le_of_ble_eq_true rfl, ?_⟩⟩
  exact k dx hd hne
abbrev N_TooMany : List Str := ["self", "most"]
theorem sc_TooMany : FnScope N_TooMany ["self", "most"] (defScope s_TooMany) := ⟨rfl, rfl, rfl, by decide +kernel, rfl, by decide +kernel, by decide +kernel⟩
theorem fi_TooMany (T : Txt K mg) : ∃ fd, FnOk P w K mg base C8.CX0 1 (He.ma K (He.ga K "TooMany") "__init__") fd ["self", "most"] (spX1 (He.ga K "TooMany") "most" "TooMany") ∧ Binds K fd ["self", "most"] [] := by
  obtain ⟨fd, F⟩ := T.x_TooMany.fd
  refine ⟨fd, FunD.ok0 F sc_TooMany (fun vs H Q E h => by obtain ⟨_, _, rfl, _⟩ := h; rfl) fun cdv A outer s H vs Q E hr h => ?_, F.bindsN (fun _ _ _ _ _ _ us hl => match us, hl with | [_, _], _ => rfl)⟩
  obtain ⟨a, v, rfl, ha, k⟩ := h
  refine ⟨_, pss_cons (ps_ost (pv 0) (pv 1)) (pss_one (ps_ost (pv 0) pe_str)), ?_⟩
  refine ⟨_, rfl, _, rfl, a, _, rfl, T.x_TooMany.oex, T.n_TooMany_most, .inl ⟨ha, fun dx hd hne => ?_⟩⟩
  refine ⟨_, rfl, a, _, rfl, T.x_TooMany.oex, T.x_TooMany.nc, .inr ⟨dx, _, upd_same, by rw [upd_ne hne]; exact upd_same, Nat.le_of_ble_eq_true rfl, ?_⟩⟩
  exact k dx hd hne
abbrev N_Untold : List Str := ["self", "cell"]
theorem sc_Untold : FnScope N_Untold ["self", "cell"] (defScope s_Untold) := ⟨rfl, rfl, rfl, by decide +kernel, rfl, by decide +kernel, by decide +kernel⟩
theorem fi_Untold (T : Txt K mg) : ∃ fd, FnOk P w K mg base C8.CX0 1 (He.ma K (He.ga K "Untold") "__init__") fd ["self", "cell"] (spX1 (He.ga K "Untold") "cell" "Untold") ∧ Binds K fd ["self", "cell"] [] := by
  obtain ⟨fd, F⟩ := T.x_Untold.fd
  refine ⟨fd, FunD.ok0 F sc_Untold (fun vs H Q E h => by obtain ⟨_, _, rfl, _⟩ := h; rfl) fun cdv A outer s H vs Q E hr h => ?_, F.bindsN (fun _ _ _ _ _ _ us hl => match us, hl with | [_, _], _ => rfl)⟩
  obtain ⟨a, v, rfl, ha, k⟩ := h
  refine ⟨_, pss_cons (ps_ost (pv 0) (pv 1)) (pss_one (ps_ost (pv 0) pe_str)), ?_⟩
  refine ⟨_, rfl, _, rfl, a, _, rfl, T.x_Untold.oex, T.n_Untold_cell, .inl ⟨ha, fun dx hd hne => ?_⟩⟩
  refine ⟨_, rfl, a, _, rfl, T.x_Untold.oex, T.x_Untold.nc, .inr ⟨dx, _, upd_same, by rw [upd_ne hne]; exact upd_same, Nat.le_of_ble_eq_true rfl, ?_⟩⟩
  exact k dx hd hne
abbrev N_InvalidText : List Str := ["self", "line", "why"]
theorem sc_InvalidText : FnScope N_InvalidText ["self", "line", "why"] (defScope s_InvalidText) := ⟨rfl, rfl, rfl, by decide +kernel, rfl, by decide +kernel, by decide +kernel⟩
theorem fi_InvalidText (T : Txt K mg) : ∃ fd, FnOk P w K mg base C8.CX0 1 (He.ma K (He.ga K "InvalidText") "__init__") fd ["self", "line", "why"] (spX2 (He.ga K "InvalidText") "line" "why" "InvalidText") ∧ Binds K fd ["self", "line", "why"] [] := by
  obtain ⟨fd, F⟩ := T.x_InvalidText.fd
  refine ⟨fd, FunD.ok0 F sc_InvalidText (fun vs H Q E h => by obtain ⟨_, _, _, rfl, _⟩ := h; rfl) fun cdv A outer s H vs Q E hr h => ?_, F.bindsN (fun _ _ _ _ _ _ us hl => match us, hl with | [_, _, _], _ => rfl)⟩
  obtain ⟨a, v, u, rfl, ha, k⟩ := h
  refine ⟨_, pss_cons (ps_ost (pv 0) (pv 1)) (pss_cons (ps_ost (pv 0) (pv 2)) (pss_one (ps_ost (pv 0) pe_str))), ?_⟩
  refine ⟨_, rfl, _, rfl, a, _, rfl, T.x_InvalidText.oex, T.n_InvalidText_line, .inl ⟨ha, fun dx hd hne => ?_⟩⟩
  refine ⟨_, rfl, _, rfl, a, _, rfl, T.x_InvalidText.oex, T.n_InvalidText_why, .inr ⟨dx, _, upd_same, by rw [upd_ne hne]; exact upd_same, Nat.le_of_ble_eq_true rfl, ?_⟩⟩
  refine ⟨_, rfl, a, _, rfl, T.x_InvalidText.oex, T.x_InvalidText.nc, .inr ⟨dx, _, by rw [upd_ne (Ne.symm hne)]; exact upd_same, upd_same, Nat.le_of_ble_eq_true rfl, ?_⟩⟩
  exact k dx hd hne
theorem fih_InvalidText (T : Txt K mg) : ∃ fd, FnH P w K mg base C8.CX0 1 (He.ma K (He.ga K "InvalidText") "__init__") fd ["self", "line", "why"] (spX2 (He.ga K "InvalidText") "line" "why" "InvalidText") ∧ Binds K fd ["self", "line", "why"] [] := by
  obtain ⟨fd, F⟩ := T.x_InvalidText.fd
  have hB : Binds K fd ["self", "line", "why"] [] := F.bindsN (fun _ _ _ _ _ _ us hl => match us, hl with | [_, _, _], _ => rfl)
  obtain ⟨oc, od, dV, kV, doc, pm, an, cdv, ct, osl, rfl, lk, hcd, _, _⟩ := F.ex
  refine ⟨_, fn_ofH lk hcd sc_InvalidText (fun vs H Q E h => by obtain ⟨_, _, _, rfl, _⟩ := h; rfl) fun A outer s H vs Q E p hot hr h => ?_, hB⟩
  obtain ⟨a, v, u, rfl, ha, k⟩ := h
  refine ⟨_, pss_cons (ps_ost (pv 0) (pv 1)) (pss_cons (ps_ost (pv 0) (pv 2)) (pss_one (ps_ost (pv 0) pe_str))), ?_⟩
  refine ⟨_, rfl, _, rfl, a, _, rfl, T.x_InvalidText.oex, T.n_InvalidText_line, .inl ⟨ha, fun dx hd hne => ?_⟩⟩
  refine ⟨_, rfl, _, rfl, a, _, rfl, T.x_InvalidText.oex, T.n_InvalidText_why, .inr ⟨dx, _, upd_same, by rw [upd_ne hne]; exact upd_same, Nat.le_of_ble_eq_true rfl, ?_⟩⟩
  refine ⟨_, rfl, a, _, rfl, T.x_InvalidText.oex, T.x_InvalidText.nc, .inr ⟨dx, _, by rw [upd_ne (Ne.symm hne)]; exact upd_same, upd_same, Nat.le_of_ble_eq_true rfl, ?_⟩⟩
  exact k dx hd hne
/-! ### raising them -/
theorem upd_twice {H : Hp} {a : Addr} {o1 o2 : HO} : upd (upd H a o1) a o2 = upd H a o2 := by
  funext b
  by_cases h : b = a
  · rw [h, upd_same, upd_same]
  · rw [upd_ne h, upd_ne h, upd_ne h]
theorem mkO_end {H1 : Hp} {a C dx : Addr} {o1 o2 : HO} {fs : List (Str × V)} (ha : H1 a = none) (hd : H1 dx = none) (hne : dx ≠ a) : upd (del (upd (upd (upd (upd H1 a o1) dx o2) a (exo a C (some dx))) dx (exd dx fs)) a) dx (.xd fs) = upd H1 dx (.xd fs) := by
  funext b
  by_cases h1 : b = dx
  · rw [h1, upd_same, upd_same]
  · rw [upd_ne h1, upd_ne h1]
    by_cases h2 : b = a
    · rw [h2, del_same, ha]
    · rw [del_ne h2, upd_ne h1, upd_ne h2, upd_ne h1, upd_ne h2]
theorem mkX1 {C : Addr} {f code : Str} {v : V} {H1 : Hp} {Q : XK} (q : ∀ d, H1 d = none → Q (.ref C) (some d) (upd H1 d (.xd [("code", .str code), (f, v)]))) :
    [v].length ≤ 1000 ∧ ∀ a, H1 a = none → spX1 C f code (.ref a :: ([v] ++ [])) (upd H1 a (exo a C none)) (fun v H2 => v = .non ∧ ∃ (d : Addr) (fs : List (Str × V)), H2 a = some (exo a C (some d)) ∧ H2 d = some (exd d fs) ∧ H1 d = none ∧ Q (.ref C) (some d) (upd (del H2 a) d (.xd fs))) (fun _ _ _ => False) := by
  refine ⟨Nat.le_of_ble_eq_true rfl, fun a ha => ⟨a, v, rfl, upd_same, fun dx hd hne => ⟨rfl, dx, _, ?_, upd_same, ?_, ?_⟩⟩⟩
  · rw [upd_ne (Ne.symm hne)]
    exact upd_same
  · rwa [upd_ne hne] at hd
  · have hd' : H1 dx = none := by rwa [upd_ne hne] at hd
    rw [mkO_end ha hd' hne]
    exact q dx hd'
theorem mkX2 {C : Addr} {f g code : Str} {v u : V} {H1 : Hp} {Q : XK} (q : ∀ d, H1 d = none → Q (.ref C) (some d) (upd H1 d (.xd [("code", .str code), (g, u), (f, v)]))) :
    [v, u].length ≤ 1000 ∧ ∀ a, H1 a = none → spX2 C f g code (.ref a :: ([v, u] ++ [])) (upd H1 a (exo a C none)) (fun v H2 => v = .non ∧ ∃ (d : Addr) (fs : List (Str × V)), H2 a = some (exo a C (some d)) ∧ H2 d = some (exd d fs) ∧ H1 d = none ∧ Q (.ref C) (some d) (upd (del H2 a) d (.xd fs))) (fun _ _ _ => False) := by
  refine ⟨Nat.le_of_ble_eq_true rfl, fun a ha => ⟨a, v, u, rfl, upd_same, fun dx hd hne => ⟨rfl, dx, _, ?_, upd_same, ?_, ?_⟩⟩⟩
  · rw [upd_ne (Ne.symm hne), upd_ne (Ne.symm hne)]
    exact upd_same
  · rwa [upd_ne hne] at hd
  · have hd' : H1 dx = none := by rwa [upd_ne hne] at hd
    rw [upd_twice, mkO_end ha hd' hne]
    exact q dx hd'
theorem pmkN_BadCells {X : Cx} {e : Expr} {ta : TA} {p pos : Pos} (T : Txt X.K X.mg) (hr : Room 2 X.A) (hg : Gl X "BadCells") (ha : PA X [e] ta) (he : starEach [e] X.env = (false, eval e X.env) :: starEach [] X.env := by rfl) (hpl : (backTo pos (starEach [] X.env)).any (·.1) = false := by rfl) :
    L2N.PMk X (.Call (.Name "BadCells" p) [e] [] pos) (tMkO (He.ga X.K "BadCells") (spX1 (He.ga X.K "BadCells") "at" "BadCells") [] ta) := by
  obtain ⟨fd, F, B⟩ := fi_BadCells (P := X.prog) (w := X.w) (base := X.base) T
  exact pmkN_oex T.x_BadCells.oex T.x_BadCells.iC T.x_BadCells.tI F hr B C8.pass0 hg T.x_BadCells.gC ha (by decide) he hpl
theorem pmkN_BadSeed {X : Cx} {e : Expr} {ta : TA} {p pos : Pos} (T : Txt X.K X.mg) (hr : Room 2 X.A) (hg : Gl X "BadSeed") (ha : PA X [e] ta) (he : starEach [e] X.env = (false, eval e X.env) :: starEach [] X.env := by rfl) (hpl : (backTo pos (starEach [] X.env)).any (·.1) = false := by rfl) :
    L2N.PMk X (.Call (.Name "BadSeed" p) [e] [] pos) (tMkO (He.ga X.K "BadSeed") (spX1 (He.ga X.K "BadSeed") "at" "BadSeed") [] ta) := by
  obtain ⟨fd, F, B⟩ := fi_BadSeed (P := X.prog) (w := X.w) (base := X.base) T
  exact pmkN_oex T.x_BadSeed.oex T.x_BadSeed.iC T.x_BadSeed.tI F hr B C8.pass0 hg T.x_BadSeed.gC ha (by decide) he hpl
theorem pmkN_TooMany {X : Cx} {e : Expr} {ta : TA} {p pos : Pos} (T : Txt X.K X.mg) (hr : Room 2 X.A) (hg : Gl X "TooMany") (ha : PA X [e] ta) (he : starEach [e] X.env = (false, eval e X.env) :: starEach [] X.env := by rfl) (hpl : (backTo pos (starEach [] X.env)).any (·.1) = false := by rfl) :
    L2N.PMk X (.Call (.Name "TooMany" p) [e] [] pos) (tMkO (He.ga X.K "TooMany") (spX1 (He.ga X.K "TooMany") "most" "TooMany") [] ta) := by
  obtain ⟨fd, F, B⟩ := fi_TooMany (P := X.prog) (w := X.w) (base := X.base) T
  exact pmkN_oex T.x_TooMany.oex T.x_TooMany.iC T.x_TooMany.tI F hr B C8.pass0 hg T.x_TooMany.gC ha (by decide) he hpl
theorem pmkN_Untold {X : Cx} {e : Expr} {ta : TA} {p pos : Pos} (T : Txt X.K X.mg) (hr : Room 2 X.A) (hg : Gl X "Untold") (ha : PA X [e] ta) (he : starEach [e] X.env = (false, eval e X.env) :: starEach [] X.env := by rfl) (hpl : (backTo pos (starEach [] X.env)).any (·.1) = false := by rfl) :
    L2N.PMk X (.Call (.Name "Untold" p) [e] [] pos) (tMkO (He.ga X.K "Untold") (spX1 (He.ga X.K "Untold") "cell" "Untold") [] ta) := by
  obtain ⟨fd, F, B⟩ := fi_Untold (P := X.prog) (w := X.w) (base := X.base) T
  exact pmkN_oex T.x_Untold.oex T.x_Untold.iC T.x_Untold.tI F hr B C8.pass0 hg T.x_Untold.gC ha (by decide) he hpl
theorem pmk_InvalidText {X : Cx} {e e2 : Expr} {ta : TA} {p pos : Pos} (T : Txt X.K X.mg) (hr : Room 2 X.A) (hg : Gl X "InvalidText") (ha : PA X [e, e2] ta) (he : starEach [e, e2] X.env = (false, eval e X.env) :: starEach [e2] X.env := by rfl) (hpl : (backTo pos (starEach [e2] X.env)).any (·.1) = false := by rfl) :
    L2.PMk X (.Call (.Name "InvalidText" p) [e, e2] [] pos) (tMkO (He.ga X.K "InvalidText") (spX2 (He.ga X.K "InvalidText") "line" "why" "InvalidText") [] ta) := by
  obtain ⟨fd, F, B⟩ := fi_InvalidText (P := X.prog) (w := X.w) (base := X.base) T
  exact pmk_oex (dvs := []) T.x_InvalidText.oex T.x_InvalidText.iC T.x_InvalidText.tI F hr B .nil C8.pass0 hg T.x_InvalidText.gC ha (by decide) he hpl
theorem pmkH_InvalidText {X : Cx} {e e2 : Expr} {ta : TA} {p pos : Pos} (T : Txt X.K X.mg) (hr : RoomH 2 X.A) (hc : HotC X) (hg : Gl X "InvalidText") (ha : PA X [e, e2] ta) (he : starEach [e, e2] X.env = (false, eval e X.env) :: starEach [e2] X.env := by rfl) (hpl : (backTo pos (starEach [e2] X.env)).any (·.1) = false := by rfl) :
    PMk5 X (.Call (.Name "InvalidText" p) [e, e2] [] pos) (tMkO (He.ga X.K "InvalidText") (spX2 (He.ga X.K "InvalidText") "line" "why" "InvalidText") [] ta) := by
  obtain ⟨fd, F, B⟩ := fih_InvalidText (P := X.prog) (w := X.w) (base := X.base) T
  exact pmk5_oexH T.x_InvalidText.oex T.x_InvalidText.iC T.x_InvalidText.tI F hr hc B C8.pass0 hg T.x_InvalidText.gC ha (by decide) he hpl
end
end NT
namespace NT
open PySem PySem.Spec PyProof.Rows L2
/-! ### the set of texts at a: its members, its table rises and can be walked -/
def keyS (e : Int × Value) : Str := match e.2 with | .str k _ => k | _ => Str.empty
def GoodS (w : World) (e : Int × Value) : Prop := ∃ k tk, e.2 = Value.str k tk ∧ e.1 = hashStr w k

/-- the set of ints at a: S its members, n their number; its table rises and can be walked -/
def SetS (w : World) (h : Heap) (a : Addr) (S : Str → Bool) (n : Nat) : Prop :=
  ∃ o es ep t, h.get? a = some o ∧ o.ExactSet ∧ o.data = .set es ep t ∧ (∀ e ∈ es.toList, GoodS w e) ∧ (es.toList.map keyS).Nodup ∧ (∀ k, S k = true ↔ k ∈ es.toList.map keyS) ∧
    es.size < scanBound ∧ t.fits es.size = true ∧ es.size = n ∧ Ris t.place.toList ∧ (w.params.followText "set-order" = true ∨ t.led = true)

section
variable {P : Program} {w : World} {h h' : Heap} {a : Addr} {S : Str → Bool} {n : Nat}

theorem SetS.at (R : SetS w h a S n) (k : ∀ o, h.get? a = some o → h'.get? a = some o) : SetS w h' a S n := by
  obtain ⟨o, es, ep, t, ho, r⟩ := R
  exact ⟨o, es, ep, t, k o ho, r⟩
theorem SetS.lt (R : SetS w h a S n) : a < h.objs.size := by
  obtain ⟨o, es, ep, t, ho, r⟩ := R
  exact Heap.lt_size ho
theorem SetS.congr {S' : Str → Bool} (R : SetS w h a S n) (e : ∀ k, S' k = S k) : SetS w h a S' n := by
  have q : S' = S := funext e
  rw [q]; exact R
theorem goodS_elems {l : List (Int × Value)} (g : ∀ e ∈ l, GoodS w e) : ElemsOf (PySem.strKind P w) l := fun e he => by
  obtain ⟨k, tk, h1, h2⟩ := g e he
  exact ⟨⟨k, by rw [h1]; exact strKind_is P w k tk, h2⟩, by rw [h1] <;> rfl⟩
theorem goodS_is {e : Int × Value} (g : GoodS w e) (k : Str) : (PySem.strKind P w).is k e.2 = true ↔ keyS e = k := by
  obtain ⟨k0, tk, h1, _⟩ := g
  unfold keyS
  rw [h1]
  show ((k0 == k) = true) ↔ k0 = k
  exact beq_iff_eq
theorem goodS_mem {l : List (Int × Value)} (g : ∀ e ∈ l, GoodS w e) (k : Str) : k ∈ l.map keyS ↔ ∃ e ∈ l, (PySem.strKind P w).is k e.2 = true := by
  rw [List.mem_map]
  constructor
  · rintro ⟨e, he, q⟩
    exact ⟨e, he, (goodS_is (g e he) k).2 q⟩
  · rintro ⟨e, he, q⟩
    exact ⟨e, he, (goodS_is (g e he) k).1 q⟩
theorem SetS.setOf (R : SetS w h a S n) : h.SetOf (PySem.strKind P w) a S n := by
  obtain ⟨o, es, ep, t, ho, hx, hd, g, nd, hm, hb, hf, hn, _⟩ := R
  exact ⟨o, es, ep, t, ho, hx, hd, goodS_elems g, fun k => (hm k).trans (goodS_mem g k), hb, hf, hn⟩
end

section
variable {P : Program} {w : World} {A : Around} {E : Value → Shared → Prop} {s : Shared} {a : Addr} {S : Str → Bool} {n : Nat}

/-! ### add -/
theorem setS_add_tail {g : Bool → Sem Unit} (hg : ∀ (b : Bool) (s₁ : Shared) (Q' : Unit → Shared → Prop), Q' () s₁ → wpAny (model P w) A (g b) Q' E s₁)
    {o : Obj} {es : Array (Int × Value)} {ep : Nat} {t : SetTable} (ho : s.heap.get? a = some o) (hex : o.ExactSet) (hd : o.data = .set es ep t)
    {es1 : Array (Int × Value)} {t2 : SetTable} {S' : Str → Bool} (g1 : ∀ e ∈ es1.toList, GoodS w e) (nd1 : (es1.toList.map keyS).Nodup) (m1 : ∀ k, S' k = true ↔ k ∈ es1.toList.map keyS)
    (hb1 : es1.size < scanBound) (hf2 : t2.fits es1.size = true) (hr : Ris t2.place.toList) (hl : w.params.followText "set-order" = true ∨ t2.led = true) {wasDummy : Bool} {R : Option Bool → Shared → Prop}
    (hR : ∀ h', Heap.SameBut a s.heap h' → SetS w h' a S' es1.size → R (some true) { s with heap := h' }) :
    wpAny (model P w) A (do
        storeSet a es1 t2
        if (!wasDummy && t2.tooFull) = true then do
            g (relayAll t2 es1 (SetTable.grown es1.size)).2.2
            storeSet a (relayAll t2 es1 (SetTable.grown es1.size)).1 (relayAll t2 es1 (SetTable.grown es1.size)).2.1
            pure (some true)
          else pure (some true)) R E s := by
  refine wpAny_bind (wpAny_storeSet_of ho hd ?_ (fits_of_scanBound hb1))
  have ho1 := store_at (es' := es1) (t' := t2) ho hd
  have sb1 := Heap.SameBut.update s.heap a (Obj.putSet es1 t2)
  split
  · have pm := relayAll_perm t2 es1 (SetTable.grown es1.size)
    have hf3 := relayAll_fits t2 es1 (SetTable.grown es1.size)
    have hr3 := relayAll_ris t2 es1 (SetTable.grown es1.size)
    have hl3 := relayAll_led t2 es1 (SetTable.grown es1.size)
    generalize relayAll t2 es1 (SetTable.grown es1.size) = Z at pm hf3 hr3 hl3 ⊢
    obtain ⟨es2, t3, gave⟩ := Z
    dsimp only at pm hf3 hr3 hl3 ⊢
    have hsz : es2.size = es1.size := by rw [← Array.length_toList, pm.length_eq, Array.length_toList]
    have hb2 : es2.size < scanBound := by rw [hsz]; exact hb1
    refine wpAny_bind (hg _ _ _ ?_)
    refine wpAny_bind (wpAny_storeSet_of ho1 rfl ?_ (fits_of_scanBound hb2))
    have ho2 := store_at (es' := es2) (t' := t3) ho1 rfl
    refine wpAny_pure (hR _ (sb1.trans (Heap.SameBut.update _ a _)) ?_)
    exact ⟨_, es2, _, t3, ho2, hex, rfl, fun e he => g1 e (pm.mem_iff.mp he), (pm.map keyS).nodup_iff.mpr nd1, fun k => (m1 k).trans (pm.map keyS).mem_iff.symm, hb2, hf3, hsz, hr3,
      hl.imp id fun z => by rw [hl3]; exact z⟩
  · exact wpAny_pure (hR _ sb1 ⟨_, es1, _, t2, ho1, hex, rfl, g1, nd1, m1, hb1, hf2, rfl, hr, hl⟩)

theorem setS_add {k : Str} {tk : Tok} {Q : Bool → Shared → Prop} (R : SetS w s.heap a S n) (room : n + 1 < scanBound)
    (hQ : ∀ h', Heap.SameBut a s.heap h' → SetS w h' a (fun j => S j || decide (j = k)) (if S k = true then n else n + 1) → Q (!S k) { s with heap := h' }) :
    wpAny (model P w) A (setAddHashed a (.str k tk) ((PySem.strKind P w).hash k)) Q E s := by
  obtain ⟨o, es, ep, t, ho, hex, hd, g, nd, hm, hb, hf, hn, hr, hl⟩ := R
  have hkey : (PySem.strKind P w).is k (.str k tk) = true := strKind_is P w k tk
  have hsc : (Value.str k tk).scannable = true := rfl
  have hel : ElemsOf (PySem.strKind P w) es.toList := goodS_elems g
  unfold setAddHashed setAddHashedIn
  refine wpAny_holding (wpAny_bind (wpAny_setState_of ho hd hf ?_))
  dsimp only
  rw [byScan_of hsc hb hel]
  simp only [↓reduceIte]
  unfold setAddByScan
  refine wpAny_bind ?_
  refine wpAny_bind (wpAny_rule ?_)
  refine wpAny_bind (wpAny_setScan_of hkey ho hd hf hel ?_)
  cases hfi : List.findIdx? (fun e => (PySem.strKind P w).is k e.2) es.toList with
  | some j =>
    dsimp only
    obtain ⟨hj, pj, _⟩ := List.findIdx?_eq_some_iff_getElem.mp hfi
    have hSk : S k = true := (hm k).2 ((goodS_mem (P := P) (w := w) g k).2 ⟨es.toList[j], List.getElem_mem hj, pj⟩)
    refine wpAny_pure (wpAny_pure ?_)
    have q := hQ s.heap (Heap.SameBut.refl a s.heap) ⟨o, es, ep, t, ho, hex, hd, g, nd, fun i => by
      rw [Bool.or_eq_true, decide_eq_true_eq, ← hm i]
      exact ⟨fun z => z.elim id (fun e => e ▸ hSk), .inl⟩, hb, hf, by rw [if_pos hSk]; exact hn, hr, hl⟩
    rw [hSk] at q
    exact q
  | none =>
    dsimp only
    have hnk : k ∉ es.toList.map keyS := fun z => by
      obtain ⟨e, he, q⟩ := (goodS_mem (P := P) (w := w) g k).1 z
      have c := List.findIdx?_eq_none_iff.mp hfi e he
      rw [q] at c
      cases c
    have hSk : S k = false := by
      cases q : S k with
      | false => rfl
      | true => exact absurd ((hm k).1 q) hnk
    have hgw : ∀ (b : Bool) {s₁ : Shared} {Q' : Unit → Shared → Prop}, Q' () s₁ → wpAny (model P w) A (match b with | true => rule "set.scan.the-table-gave-way" | false => pure ()) Q' E s₁ :=
      fun b s₁ Q' q => by cases b <;> first | exact wpAny_pure q | exact wpAny_rule q
    have pm := layNew_perm t es ((PySem.strKind P w).hash k) (.str k tk)
    have hf1 := layNew_fits t es ((PySem.strKind P w).hash k) (.str k tk)
    have hr1 := layNew_ris t es ((PySem.strKind P w).hash k) (.str k tk) hr
    have hl1 := layNew_led t es ((PySem.strKind P w).hash k) (.str k tk)
    generalize layNew t es ((PySem.strKind P w).hash k) (.str k tk) = Z at pm hf1 hr1 hl1 ⊢
    obtain ⟨es1, t1, wasDummy, gave⟩ := Z
    dsimp only at pm hf1 hr1 hl1 ⊢
    rw [Array.toList_push] at pm
    have pc : es1.toList.Perm (((PySem.strKind P w).hash k, Value.str k tk) :: es.toList) := pm.trans (List.perm_append_singleton _ _)
    have pk : (es1.toList.map keyS).Perm (k :: es.toList.map keyS) := pc.map keyS
    have g1 : ∀ e ∈ es1.toList, GoodS w e := fun e he => by
      rcases List.mem_cons.mp (pc.mem_iff.mp he) with z | z
      · rw [z]; exact ⟨k, tk, rfl, rfl⟩
      · exact g e z
    have nd1 : (es1.toList.map keyS).Nodup := pk.nodup_iff.mpr (List.nodup_cons.mpr ⟨hnk, nd⟩)
    have m1 : ∀ i, (S i || decide (i = k)) = true ↔ i ∈ es1.toList.map keyS := fun i => by
      rw [Bool.or_eq_true, decide_eq_true_eq, hm i, pk.mem_iff, List.mem_cons]
      exact Or.comm
    have hsz : es1.size = n + 1 := by rw [← Array.length_toList, pc.length_eq, List.length_cons, Array.length_toList, hn]
    have hb1 : es1.size < scanBound := by rw [hsz]; exact room
    have hled : w.params.followText "set-order" = true ∨ t1.led = true := hl.imp id fun z => by rw [hl1]; exact z
    have fin : ∀ h', Heap.SameBut a s.heap h' → SetS w h' a (fun j => S j || decide (j = k)) es1.size → Q true { s with heap := h' } := fun h' sb r => by
      have q := hQ h' sb
      rw [hSk] at q
      rw [hsz] at r
      exact q r
    refine wpAny_bind (hgw _ ?_)
    split
    · refine wpAny_bind ?_
      rw [hashByValue_scannable 8 hsc]
      refine wpAny_pure ?_
      refine setS_add_tail ?_ ho hex hd g1 nd1 m1 hb1 ?_ ?_ ?_ ?_
      · intro b s₁ Q' q; cases b <;> first | exact wpAny_pure q | exact wpAny_rule q
      · first | (split <;> first | exact hf1 | exact SetTable.fits_plain_off hf1) | exact hf1
      · first | (split <;> exact hr1) | exact hr1
      · first | (split <;> exact hled) | exact hled
      · intro h' sb r; dsimp only; exact wpAny_pure (fin h' sb r)
    · refine wpAny_bind (wpAny_pure ?_)
      simp only [↓reduceIte]
      refine setS_add_tail ?_ ho hex hd g1 nd1 m1 hb1 hf1 hr1 hled ?_
      · intro b s₁ Q' q; cases b <;> first | exact wpAny_pure q | exact wpAny_rule q
      · intro h' sb r; dsimp only; exact wpAny_pure (fin h' sb r)


theorem setS_new_at {w : World} {h : Heap} {a : Addr} {ns : List Str} (ho : h.get? a = some { cls := .type "set", dict := none, data := .set #[] 0 (.fresh 0 0 (!w.params.followText "set-order")) }) : SetS w h a (fun j => decide (j ∈ ns.take 0)) 0 :=
  ⟨_, #[], 0, _, ho, ⟨rfl, rfl, rfl⟩, rfl, (fun e he => by simp at he), (by simp), (fun k => by simp), (by decide), (by rfl), rfl, List.Pairwise.nil, by
    show _ ∨ (!w.params.followText "set-order") = true
    cases w.params.followText "set-order"
    · exact .inr rfl
    · exact .inl rfl⟩
section
variable {P : Program} {w : World} {A : Around} {E : Value → Shared → Prop} {s : Shared}
theorem set_update_strs {I : Addr} {fp wr : List Addr} {G : Array GenState → Array GenState → Prop} {n : Nat} {Pv : Nat → Value → Prop} {St : Nat → Shared → Prop} {R : Result → Shared → Prop}
    (W : WalksS P w A.in1 I fp wr G n Pv St) (S : Addr) (hSf : S ∉ fp) (ns : List Str) (hn : n = ns.length) (hb : ns.length + 1 < scanBound) (hval : ∀ i v, Pv i v → ∃ k t, ns[i]? = some k ∧ v = .str k t) :
    ∀ (k i : Nat) (s : Shared), n - i = k → i ≤ n → St i s → (∃ c, c ≤ i ∧ SetS w s.heap S (fun j => decide (j ∈ ns.take i)) c) →
      (∀ s' c, Moved (S :: wr) G s s' → c ≤ n → SetS w s'.heap S (fun j => decide (j ∈ ns)) c → R (.ok (.ret .none)) s') →
      codeAny (model P w) A (.builtin "set.update.loop" ⟨[.ref S, .ref I], []⟩) R s := by
  have hSw : S ∉ wr := fun h => hSf (W.sub _ h)
  have hsub : ∀ b ∈ wr, b ∈ S :: wr := fun b hb => List.mem_cons_of_mem _ hb
  intro k
  induction k with
  | zero =>
    intro i s hk' hi hst ⟨c, hc, hS⟩ hR
    have hin : i = n := by omega
    subst hin
    refine codeAny_builtin F.entry_set_update_loop ?_
    rw [Around.under_plainId F.plain_set_update_loop _]
    show wpAny _ A.in1 (pyNext (.ref I) >>= _) _ _ s
    refine wpAny_bind (W.done s _ _ hst fun s' hm => ?_)
    show wpAny _ A.in1 (ret Value.none) _ _ s'
    have e : ns.take i = ns := List.take_of_length_le (by omega)
    rw [e] at hS
    exact wpAny_pure (hR s' c (hm.mono hsub) hc (hS.at fun o e => hm.heap S o hSw e))
  | succ k ih =>
    intro i s hk' hi hst ⟨c, hc, hS⟩ hR
    have hlt : i < n := by omega
    refine codeAny_builtin F.entry_set_update_loop ?_
    rw [Around.under_plainId F.plain_set_update_loop _]
    show wpAny _ A.in1 (pyNext (.ref I) >>= _) _ _ s
    refine wpAny_bind (W.item i s _ _ hlt hst fun v s' hP hst' hm => ?_)
    obtain ⟨z, t, hz, rfl⟩ := hval i v hP
    have hS' : SetS w s'.heap S (fun j => decide (j ∈ ns.take i)) c := hS.at fun o e => hm.heap S o hSw e
    show wpAny _ A.in1 (holding [Value.str z t] (setAdd S (.str z t)) >>= _) _ _ s'
    refine wpAny_bind (wpAny_holding ?_)
    unfold setAdd
    refine wpAny_holding ?_
    refine wpAny_bind ((PySem.strKind P w).pyHash (k := z) (strKind_is _ _ _ _) ?_)
    refine setS_add (s := { s' with toks := s'.toks + 1 }) hS' (by omega) fun h' hsb hS2 => ?_
    have hS3 : SetS w h' S (fun j => decide (j ∈ ns.take (i + 1))) (if decide (z ∈ ns.take i) = true then c else c + 1) := hS2.congr fun j => by
      rw [List.take_add_one, hz]
      simp [List.mem_append]
    have hc3 : (if decide (z ∈ ns.take i) = true then c else c + 1) ≤ i + 1 := by
      split <;> omega
    refine wpAny_pure ⟨plainId_quiet F.plain_set_update_loop _, ih (i + 1) _ (by omega) hlt (W.frame _ s' _ _ hst' (Nat.le_succ _) fun b hb o e => ?_) ⟨_, hc3, hS3⟩ fun s'' c2 hm'' hc'' hS'' => ?_⟩
    · rw [hsb.2 b (fun h : b = S => hSf (by rw [← h]; exact hb))]; exact e
    · refine hR s'' c2 (Moved.trans W.gtrans ((hm.mono hsub).then_heap (Nat.le_succ _) fun b o hb e => ?_) hm'') hc'' hS''
      rw [hsb.2 b (fun h : b = S => hb (by rw [h]; exact List.mem_cons_self))]; exact e

theorem call_set_strs {l : Addr} {items : Array Value} (ns : List Str) {Q : Value → Shared → Prop} (hh : A.handled = none) (hl : s.heap.IsList l items) (hit : StrsAre items.toList ns) (hb : ns.length + 1 < scanBound)
    (h : ∀ (h' : Heap) (tk c : Nat), SetS w h' s.heap.objs.size (fun j => decide (j ∈ ns)) c → c ≤ ns.length → (∀ b o, s.heap.get? b = some o → h'.get? b = some o) → Q (.ref s.heap.objs.size) { s with heap := h', toks := tk }) :
    wpAny (model P w) A (call (.type "set") [.ref l]) Q E s := by
  have hisz : items.size = ns.length := by
    have q := StrsAre.length hit
    rw [Array.length_toList] at q
    exact q
  obtain ⟨c, tl, hmro⟩ := F.called_set.mro
  have hmade := F.called_set.made
  have hsub := F.called_set.sub
  refine wpAny_call (codeAny_of_tree ?_)
  show wpAny _ _ (callAny (.type "set") _) _ _ _
  refine wpAny_pure ⟨Code.quiet_builtin _ (by decide +kernel), codeAny_builtin F.entry_type_call ?_⟩
  rw [Around.under_plain (weight_type_call_type "set" [.ref l] []) rfl]
  have h1 := F.called_set.notType
  have h2 := F.called_set.canCreate
  have hct := F.typeCall_set_1 (.ref l)
  repeat (any_goals (first | assumption | wp_step))

  refine codeAny_mono (code_set_led1 (.ref l) (E := E) (Q₁ := fun obj s₁ => obj = .ref s.heap.objs.size ∧ s₁ = { s with heap := s.heap.push { cls := .type "set", dict := none, data := .set #[] 0 (.fresh 0 0 (!w.params.followText "set-order")) } }) ⟨rfl, rfl⟩) fun r s₁ hr => ?_
  cases r with
  | error e => exact hr
  | ok fl =>
    cases fl with
    | ret obj =>
      obtain ⟨rfl, rfl⟩ := hr
      have hS : (s.heap.push { cls := .type "set", dict := none, data := .set #[] 0 (.fresh 0 0 (!w.params.followText "set-order")) }).get? s.heap.objs.size = some { cls := .type "set", dict := none, data := .set #[] 0 (.fresh 0 0 (!w.params.followText "set-order")) } := Heap.get?_push_size _ rfl
      have hT : Shared.TypeIs { s with heap := s.heap.push { cls := .type "set", dict := none, data := .set #[] 0 (.fresh 0 0 (!w.params.followText "set-order")) } } (.ref s.heap.objs.size) "set" := ⟨_, hS, rfl⟩
      have hli := F.called_set.init.lookup
      have hbi := F.called_set.init.bind (.ref s.heap.objs.size)
      repeat (any_goals (first | assumption | wp_step))

      refine codeAny_mono (codeAny_call_builtin (R := wants (fun r s₂ => r = .none ∧ ∃ h' tk c, s₂ = { s with heap := h', toks := tk } ∧ SetS w h' s.heap.objs.size (fun j => decide (j ∈ ns)) c ∧ c ≤ ns.length ∧
          (∀ b o, s.heap.get? b = some o → h'.get? b = some o)) E) F.called_set.init.plain F.entry_set_init (check_set_init_1 hT ?_)) fun r₂ s₂ hr₂ => ?_
      · obtain ⟨ol, hol, hcl, nl, hdl⟩ := hl
        obtain ⟨ocls, odict, odata, oslots⟩ := ol
        simp only at hcl hdl
        subst hcl; subst hdl
        have hol' : (s.heap.push { cls := .type "set", dict := none, data := .set #[] 0 (.fresh 0 0 (!w.params.followText "set-order")) }).get? l = some { cls := .type "list", dict := odict, data := .seq items nl, slots := oslots } := Heap.get?_push_of_some _ hol
        have hsls := F.sub_list_set
        have hslf := F.sub_list_frozenset
        have hne : (Value.type "list" == Value.type "dict") = false := by decide
        have hl1 : (s.heap.push { cls := .type "set", dict := none, data := .set #[] 0 (.fresh 0 0 (!w.params.followText "set-order")) }).IsList l items := ⟨_, hol', rfl, nl, rfl⟩
        unfold Builtin.«set.__init__» noKeywords Builtin.Frozenset.updateFrom
        generalize hPI : pyIter = PI
        wp_walk
        subst hPI

        refine wpAny_pyIter_list hl1 ?_
        refine wpAny_bind (wpAny_runValue ?_)
        have hlS : l < s.heap.objs.size := Heap.lt_size hol
        have hh3 : A.in1.in1.in1.handled = none := by simp [hh]
        have hz1 : (s.heap.push { cls := .type "set", dict := none, data := .set #[] 0 (.fresh 0 0 (!w.params.followText "set-order")) }).objs.size = s.heap.objs.size + 1 := Heap.size_push ..
        have hneI : l ≠ (s.heap.push { cls := .type "set", dict := none, data := .set #[] 0 (.fresh 0 0 (!w.params.followText "set-order")) }).objs.size := by
          rw [Heap.size_push]; exact Nat.ne_of_lt (Nat.lt_succ_of_lt hlS)
        have hSf : s.heap.objs.size ∉ [(s.heap.push { cls := .type "set", dict := none, data := .set #[] 0 (.fresh 0 0 (!w.params.followText "set-order")) }).objs.size, l] := by
          rw [Heap.size_push]; simp only [List.mem_cons, List.mem_singleton, List.not_mem_nil, or_false, not_or]
          exact ⟨Nat.ne_of_lt (Nat.lt_succ_self _), Nat.ne_of_gt hlS⟩
        have hval : ∀ (i : Nat) (v : Value), items[i]? = some v → ∃ k t, ns[i]? = some k ∧ v = .str k t := fun i v hv => by
          have hi : i < ns.length := by rw [← hisz]; exact (Array.getElem?_eq_some_iff.mp hv).1
          obtain ⟨t, e⟩ := SS.strs_at hit i v (by rw [Array.getElem?_toList]; exact hv)
          refine ⟨ns[i], t, List.getElem?_eq_getElem hi, ?_⟩
          rw [e, List.getD_eq_getElem?_getD, List.getElem?_eq_getElem hi] <;> rfl
        refine set_update_strs ((Walks.list hh3 _ l hneI items).toS) s.heap.objs.size
          hSf ns hisz hb hval (items.size - 0) 0 _ (by omega) (Nat.zero_le _)
          ⟨⟨_, Heap.get?_push_size _ rfl, rfl, rfl⟩, (hl1.push _)⟩ ?hS0 ?hR
        case hS0 =>
          have hget : ((s.heap.push { cls := .type "set", dict := none, data := .set #[] 0 (.fresh 0 0 (!w.params.followText "set-order")) }).push { cls := .type "list_iterator", data := .fields #[.ref l, .int 0 0] }).get? s.heap.objs.size
              = some { cls := .type "set", dict := none, data := .set #[] 0 (.fresh 0 0 (!w.params.followText "set-order")) } := Heap.get?_push_of_some _ hS
          exact ⟨0, Nat.le_refl 0, setS_new_at hget⟩
        case hR =>
          intro s' c' hm hc' hS'
          obtain ⟨h', g2, d', tk', os'⟩ := s'
          have eg : g2 = s.gens := hm.gens
          have ed : d' = s.drawn := hm.drawn
          have eo : os' = s.os := hm.os
          subst eg; subst ed; subst eo
          show wpAny _ _ _ _ _ _
          refine wpAny_pure ?_
          show wpAny _ _ (ret Value.none) _ _ _
          rw [hisz] at hc'
          refine wpAny_pure ⟨rfl, h', tk', c', rfl, hS', hc', fun b o e => ?_⟩
          have hb0 : b < s.heap.objs.size := Heap.lt_size e
          have hb1 : b ≠ s.heap.objs.size := Nat.ne_of_lt hb0
          have hb2 : b ≠ (s.heap.push { cls := .type "set", dict := none, data := .set #[] 0 (.fresh 0 0 (!w.params.followText "set-order")) }).objs.size := by
            rw [Heap.size_push]; exact Nat.ne_of_lt (Nat.lt_succ_of_lt hb0)
          exact hm.heap b o (by simp only [List.mem_cons, List.mem_singleton, List.not_mem_nil, or_false, not_or]; exact ⟨hb1, hb2⟩) (Heap.get?_push_of_some _ (Heap.get?_push_of_some _ e))

      · cases r₂ with
        | error e => exact hr₂
        | ok fl₂ =>
          cases fl₂ with
          | ret r =>
            obtain ⟨rfl, h', tk, c', rfl, hS', hc', hk'⟩ := hr₂
            repeat (any_goals (first | assumption | wp_step))
            exact h _ _ _ hS' hc' hk'
          | _ => exact hr₂.elim
    | _ => exact hr.elim

end
end
end NT
namespace NT
open PySem PySem.Spec PyProof.Rows L2
open SX (S)
/-! ### lists of texts as data -/
def IsTx (v : Value) (y : Str) : Prop := ∃ t, v = Value.str y t
theorem tx_reads {h : Heap} : ∀ {vs : List Value} {ys : List Str}, PySem.W.EachIs IsTx vs ys → PySem.W.EachIs (fun v y => ∃ as, Reads h v (PyData.str y) as) vs ys
  | _, _, .nil => .nil
  | _, _, .cons ⟨t, e⟩ r => .cons ⟨[], by rw [e]; exact Reads.str _ _⟩ (tx_reads r)
theorem tx_alike (ys : List Str) : PySem.W.AllAlike (ys.map PyData.str) := PySem.W.AllAlike.of fun _ _ => rfl
theorem tx_sortable (ys : List Str) : PySem.W.Sortable (ys.map PyData.str) := PySem.W.Sortable.others fun b => ⟨(fun z => by cases z), (fun xs z => by cases z)⟩
theorem vals_tx : ∀ {ys : List Str} {vs : List Value}, Vals (ys.map V.str) vs → PySem.W.EachIs IsTx vs ys
  | [], _, .nil => .nil
  | y :: ys, _, .cons r t => .cons (show ∃ t, _ = Value.str y t from r) (vals_tx t)
theorem tx_vals : ∀ {ys : List Str} {vs : List Value}, PySem.W.EachIs IsTx vs ys → Vals (ys.map V.str) vs
  | _, _, .nil => .nil
  | _, _, .cons r t => .cons r (tx_vals t)
/-- sorted(a list of texts) -/
def rSortTx (K : PySem.W.Frag) : List V → Hp → VK → Prop := fun vs H Q => ∃ (a : Addr) (ys : List Str), vs = [.ref a] ∧ SqL K H a (ys.map V.str) ∧ ∀ (zs : List Str) (p : Addr), zs.Perm ys → H p = none → Q (.ref p) (upd H p (.lst (zs.map V.str)))
theorem cr_sortTx {X : Cx} {K : PySem.W.Frag} (hK : X.K = K) (hu : X.A.units + 64 < cLine) : CallR X (.builtin "sorted") (rSortTx K) := by
  subst hK
  intro pins s σ H vs us Q I r h
  obtain ⟨a, ys, rfl, hs, q⟩ := h
  obtain ⟨its, rv, hl, hz⟩ := I.list hs
  rw [Vals.ref1 r]
  have hL : ys.length ≤ sizeLine := by rw [← List.length_map (f := V.str)]; exact hz
  refine PySem.W.sorted_data (enc := PyData.str) (R := IsTx) (bs := ys) (vs := its) (by simpa using hl.isList) (vals_tx rv) (tx_reads (vals_tx rv)) (tx_alike ys) (tx_sortable ys) hL (fun b _ => by show X.A.units + 2 + 0 < cLine; omega) fun out ho e => ?_
  have hperm : (ys.mergeSort (PySem.W.dataLe false PyData.str)).Perm ys := List.mergeSort_perm _ _
  obtain ⟨ep, he'⟩ := PyProof.Rows.sortedAll_at s.heap its (List.toArray out)
  have rv2 := tx_vals e
  exact ⟨.ref _, upd H (s.heap.objs.size + 1) (.lst ((ys.mergeSort (PySem.W.dataLe false PyData.str)).map V.str)), I.laid (t' := s.toks) (fun _ _ => PyProof.Rows.sortedAll_old) (Nat.le_succ _) ⟨by rw [List.length_map, hperm.length_eq]; exact hL, _, ep, rv2, he'⟩, rfl, q _ _ hperm (I.hok.fresh (Nat.le_succ _))⟩
/-! ### set(a list of texts), sorted of it -/
def SetO' (w : World) (a : Addr) (S : Str → Bool) (n : Nat) : HO := .ext fun h => SetS w h a S n
theorem vals_strsAre : ∀ {ys : List Str} {vs : List Value}, Vals (ys.map V.str) vs → StrsAre vs ys
  | [], _, .nil => .nil
  | y :: ys, _, .cons ⟨t, e⟩ r => by subst e; exact .cons y t (vals_strsAre r)
def rSetTx (K : PySem.W.Frag) (w : World) : List V → Hp → VK → Prop := fun vs H Q => ∃ (a : Addr) (ys : List Str), vs = [.ref a] ∧ SqL K H a (ys.map V.str) ∧ ys.length ≤ 4000 ∧ ∀ (p : Addr) (n : Nat), n ≤ ys.length → H p = none → Q (.ref p) (upd H p (SetO' w p (fun j => decide (j ∈ ys)) n))
theorem cr_setTx {X : Cx} {K : PySem.W.Frag} {w : World} (hK : X.K = K) (hw : X.w = w) (hc : X.calm = true) : CallR X (.type "set") (rSetTx K w) := by
  subst hK hw
  intro pins s σ H vs us Q I r h
  obtain ⟨a, ys, rfl, hs, hn, q⟩ := h
  obtain ⟨its, rv, hl, hz⟩ := I.list hs
  rw [Vals.ref1 r]
  refine call_set_strs (P := X.prog) (w := X.w) ys (I.ok.hd hc) hl.isList (by simpa using vals_strsAre rv) (by unfold scanBound; omega) fun h' tk c hS hcn k => ?_
  exact ⟨.ref _, upd H s.heap.objs.size (SetO' X.w s.heap.objs.size (fun j => decide (j ∈ ys)) c), I.laid (t' := tk) k (Nat.le_refl _) ⟨hS, by obtain ⟨o, _, _, _, ho, _⟩ := hS; exact ⟨o, ho⟩, fun h1 h2 p k => SetS.at p k⟩, rfl, q _ _ hcn (I.hok.fresh (Nat.le_refl _))⟩
theorem each_tx {w : World} : ∀ {vs : List Value}, (∀ v ∈ vs, ∃ y t, v = Value.str y t) → ∃ ys : List Str, PySem.W.EachIs IsTx vs ys
  | [], _ => ⟨[], .nil⟩
  | v :: vs, h => by
    obtain ⟨y, t, e⟩ := h v List.mem_cons_self
    obtain ⟨ys, r⟩ := each_tx (w := w) fun u hu => h u (List.mem_cons_of_mem _ hu)
    exact ⟨y :: ys, .cons ⟨t, e⟩ r⟩
theorem sorted_setS {P : Program} {w : World} {A : Around} {E : Value → Shared → Prop} {s : Shared} {a : Addr} {S : Str → Bool} {n : Nat} {Q : Value → Shared → Prop} (R : SetS w s.heap a S n) (hh : A.handled = none) (hu : A.units + 64 < cLine)
    (hQ : ∀ s' p (out : Array Value) (c : Nat) (ys : List Str), (∀ b o, s.heap.get? b = some o → s'.heap.get? b = some o) → s'.gens = s.gens → s'.os = s.os → s.heap.objs.size ≤ p →
      s'.heap.get? p = some (seqObj "list" out c) → PySem.W.EachIs IsTx out.toList ys → (∀ y ∈ ys, S y = true) → ys.length = n → Q (.ref p) s') :
    wpAny (model P w) A (call (.builtin "sorted") [.ref a]) Q E s := by
  obtain ⟨o, es, ep, t, ho, hex, hd, g, nd, hm, hb, hf, hn, hr, hl⟩ := R
  refine Calls.call_function_entry kind_sorted plain_sorted entry_sorted (args_sorted1 _) ?_
  unfold Builtin.«sorted»
  refine wpAny_bind (m := checkCount "sorted" 1 1 _) (wpAny_pure ?_)
  refine wpAny_bind (collect_set (A := A.in1) hh ⟨o, ho, hex.1, hd⟩ hf hb hr hl fun s1 vs k1 hz g1 o1 pm => ?_)
  have hvl : vs.length = n := by rw [pm.length_eq, List.length_map, Array.length_toList]; exact hn
  have mem : ∀ v ∈ vs, ∃ y t, v = Value.str y t ∧ S y = true := fun v hv => by
    obtain ⟨e, he, q⟩ := List.mem_map.mp (pm.mem_iff.mp hv)
    obtain ⟨k, tk, h1, _⟩ := g e he
    exact ⟨k, tk, by rw [← q]; exact h1, (hm k).2 (List.mem_map.mpr ⟨e, he, by unfold keyS; rw [h1]⟩)⟩
  obtain ⟨ys, hys⟩ := each_tx (w := w) fun v hv => by obtain ⟨y, t, e, _⟩ := mem v hv; exact ⟨y, t, e⟩
  have hS : ∀ y ∈ ys, S y = true := by
    have gen : ∀ {vs : List Value} {ys : List Str}, PySem.W.EachIs IsTx vs ys → (∀ v ∈ vs, ∃ y t, v = Value.str y t ∧ S y = true) → ∀ y ∈ ys, S y = true := by
      intro vs ys e
      induction e with
      | nil => intro _ y hy; cases hy
      | cons r t ih =>
        intro h y hy
        rcases List.mem_cons.mp hy with q | q
        · obtain ⟨y', t', e', hs⟩ := h _ List.mem_cons_self
          obtain ⟨t'', e''⟩ := r
          rw [e''] at e'
          cases e'
          rw [q]; exact hs
        · exact ih (fun v hv => h v (List.mem_cons_of_mem _ hv)) y q
    exact gen hys mem
  have hlen : ys.length = vs.length := hys.length.symm
  have fits : vs.length ≤ sizeLine := by rw [hvl, ← hn]; exact fits_of_scanBound hb
  refine wpAny_bind (wpAny_newList ?_ fits)
  have hoL : (s1.heap.push (seqObj "list" vs.toArray 0)).get? s1.heap.objs.size = some (seqObj "list" vs.toArray 0) := Heap.get?_push_size _ rfl
  refine wpAny_bind (wpAny_holding (PySem.W.list_sort_data (enc := PyData.str) (R := IsTx) (bs := ys) (s := { s1 with heap := s1.heap.push (seqObj "list" vs.toArray 0) }) hoL hys ?_ (tx_alike ys) (tx_sortable ys) (by rw [hlen]; exact fits) (fun b _ => by show A.in1.units + 1 + 0 < cLine; rw [show A.in1.units = A.units + 1 from rfl]; omega) fun out ho2 e => ?_))
  · exact hys.mono fun v y ⟨t, e⟩ => ⟨[], by rw [e]; exact Reads.str _ _, by simp⟩
  · obtain ⟨c, hc⟩ := sortedHeap_at (vs := vs) (out := out.toArray) hoL
    have hp : (ys.mergeSort (PySem.W.dataLe false PyData.str)).Perm ys := List.mergeSort_perm _ _
    refine wpAny_pure ⟨_, rfl, hQ _ s1.heap.objs.size out.toArray c _ (fun b u e => ?_) g1 o1 hz hc (by simpa using e) (fun y hy => hS y (hp.mem_iff.mp hy)) (by rw [hp.length_eq, hlen, hvl])⟩
    have q := k1 b u e
    have hlt := Heap.lt_size q
    show (sortedHeap (s1.heap.push (seqObj "list" vs.toArray 0)) s1.heap.objs.size vs out.toArray).get? b = some u
    rw [sortedHeap_old (Nat.ne_of_lt hlt) (by rw [size_push']; exact Nat.lt_succ_of_lt hlt)]
    exact Heap.get?_push_of_some _ q
def rSortSetTx (w : World) : List V → Hp → VK → Prop := fun vs H Q => ∃ (a : Addr) (S : Str → Bool) (n : Nat), vs = [.ref a] ∧ H a = some (SetO' w a S n) ∧ n ≤ 4000 ∧ ∀ (ys : List Str) (p : Addr), ys.length = n → (∀ y ∈ ys, S y = true) → H p = none → Q (.ref p) (upd H p (.lst (ys.map V.str)))
theorem cr_sortSetTx {X : Cx} {w : World} (hw : X.w = w) (hc : X.calm = true) (hu : X.A.units + 64 < cLine) : CallR X (.builtin "sorted") (rSortSetTx w) := by
  subst hw
  intro pins s σ H vs us Q I r h
  obtain ⟨a, S, n, rfl, ha, hn4, q⟩ := h
  have R : SetS X.w s.heap a S n := (I.hok a _ ha).1
  rw [Vals.ref1 r]
  refine sorted_setS R (I.ok.hd hc) hu fun s' p out c ys k g o hp hg hi hm hl => ?_
  have hlen : (ys.map V.str).length ≤ sizeLine := by rw [List.length_map, hl]; exact line_le (by omega)
  have hn : H p = none := I.hok.fresh hp
  have J : Inv X pins σ (upd H p (.lst (ys.map V.str))) { s with heap := s'.heap, gens := s'.gens, drawn := s'.drawn, toks := s'.toks } :=
    I.call (ch := []) (Un.laid k hp hn) (I.hok.laid k hp ⟨hlen, out.toList, c, tx_vals hi, hg⟩) (by rw [g]; exact I.bare) (fun _ z => nomatch z)
  have e : s' = { s with heap := s'.heap, gens := s'.gens, drawn := s'.drawn, toks := s'.toks } := by
    cases s'
    cases s
    cases o
    rfl
  rw [e]
  exact ⟨.ref p, _, J, rfl, q ys p hl hm hn⟩
/-! ### sorted(texts, key=lot_size) -/
abbrev N_lot_size : List Str := ["lot"]
theorem sc_lot_size : FnScope N_lot_size ["lot"] (defScope s_lot_size) := ⟨rfl, rfl, rfl, by decide +kernel, rfl, by decide +kernel, by decide +kernel⟩
theorem call_lot_size {P : Program} {w : World} {K : PySem.W.Frag} {mg : Str → Option Value} {A : Around} {s : Shared} {y : Str} {t : Tok} {E : Value → Shared → Prop} (T : Txt K mg) (KX : K.In s.heap) (lim : s.heap.NoLimit) (hd : A.depth < recursionLimit) :
    wpAny (model P w) A (call (.ref (He.ga K "lot_size")) [.str y t]) (PySem.W.KeyPure (.int (Txt.count y "+")) s) E s := by
  obtain ⟨fd, F⟩ := T.d_lot_size.fd
  have hB : Binds K fd ["lot"] [] := F.bindsN (fun _ _ _ _ _ _ us hl => match us, hl with | [_], _ => rfl)
  obtain ⟨oc, od, dV, kV, doc, pm, an, cdv, ct, osl, rfl, lk, hcd, _, _⟩ := F.ex
  have S := sc_lot_size
  have b := hB s [.str y t] KX rfl
  rw [List.append_nil] at b
  have hkind : ∀ z ∈ (["lot"] : List Str).zip [Value.str y t], (defScope s_lot_size).names.lookup z.1 = some .local ∨ ((defScope s_lot_size).names.lookup z.1 = some .cell ∧ ((cellsFrom (s.heap.objs.size + 1) (defScope s_lot_size).names []).lookup z.1).isSome = true) := fun ⟨n, v⟩ hy => by
    rcases S.par n (List.of_mem_zip hy).1 with q | q
    · exact .inl q
    · exact .inr ⟨q, PySem.W.cellsFrom_some _ _ _ (.inl q)⟩
  refine wpAny_call (codeAny_call_function hd (KX _ _ lk) rfl S.co S.gen rfl (PySem.W.codeRec_of KX hcd) (b _ _ _ _ ?_))
  refine wpAny_newFunctionEnv_cells S.kind hkind fun env he s1 x => ?_
  subst he
  refine ⟨lim.keeps x.toInCall.keep, codeAny_func ?_⟩
  have hk : (envOfC "lot_size" (defScope s_lot_size) s.heap.objs.size (He.ga K "lot_size") cdv).kindOf "lot" = some .local := by rfl
  obtain ⟨h1, tk1, e1, keep1⟩ := x.done
  refine wpAny_execs_cons (wpAny_Return_some (PySem.Call_method1 (by rfl) (by rfl) (by rfl) (wpAny_Name (wpAny_loadName_local S.kind hk x.toInCall.ns (by rfl) ?_) (by decide))))
  refine ⟨"str", _, PySem.F.plainAttrs_str, PySem.F.slot_str_count, PySem.F.type_str_count, typeIs_str _ _ _, (fun _ e => nomatch e), Calls.callWith_builtin rfl (Calls.evalArgs_plain (Calls.spliced_cons (Calls.Constant_str (Calls.spliced_nil ?_))))⟩
  refine PySem.SC.count ?_
  subst e1
  exact ⟨h1, _, rfl, keep1, Reads.int _ _⟩
/-- sorted(texts, key=lot_size): the same texts in some order -/
def rSortLot (K : PySem.W.Frag) : List V → List V → Hp → VK → Prop := fun vs zs H Q => ∃ (a : Addr) (ys : List Str), vs = [.ref a] ∧ zs = [.ref (He.ga K "lot_size")] ∧ SqL K H a (ys.map V.str) ∧ ∀ (zs : List Str) (p : Addr), zs.Perm ys → H p = none → Q (.ref p) (upd H p (.lst (zs.map V.str)))
theorem cr_sortLot {X : Cx} {K : PySem.W.Frag} {mg : Str → Option Value} (T : Txt K mg) (hK : X.K = K) (hu : X.A.units + 64 < cLine) (hd : X.A.depth < recursionLimit) : CallRK X (.builtin "sorted") [Str.ofString "key"] (rSortLot K) := by
  subst hK
  intro pins s σ H vs zs us ws Q I r rz h
  obtain ⟨a, ys, rfl, rfl, hs, q⟩ := h
  obtain ⟨its, rv, hl, hz⟩ := I.list hs
  rw [Vals.ref1 r]
  obtain ⟨w1, rfl, e1⟩ := vals1 rz
  obtain rfl : w1 = Value.ref _ := e1
  have hL : ys.length ≤ sizeLine := by rw [← List.length_map (f := V.str)]; exact hz
  refine PySem.W.sorted_key_data (k := fun y : Str => PyData.int (Txt.count y "+")) (R := IsTx) (bs := ys) (vs := its) (b := false) (f := .ref (He.ga X.K "lot_size")) (by simpa using hl.isList) (vals_tx rv) (PySem.W.AllAlike.of fun _ _ => rfl) (PySem.W.Sortable.others fun b => ⟨(fun z => by cases z), (fun xs z => by cases z)⟩) hL (fun b _ => by show X.A.units + 2 + 0 < cLine; omega) (PyProof.Rows.ksk_s1 _ _) (fun x => PyProof.Rows.ksk_l1 _ _) (fun x => PyProof.Rows.ksk_t1 _ _) (fun v y hv hy h tk k => ?_) fun out c h' tk k hf hp ho e => ?_
  · obtain ⟨t, rfl⟩ := hv
    exact call_lot_size T (I.kIn.keeps k) (I.nolimit.keeps k) hd
  · have hperm : (ys.mergeSort (PySem.W.dataLe false fun y : Str => PyData.int (Txt.count y "+"))).Perm ys := List.mergeSort_perm _ _
    have rv2 := tx_vals e
    exact ⟨.ref _, upd H (s.heap.objs.size + 1) (.lst ((ys.mergeSort (PySem.W.dataLe false fun y : Str => PyData.int (Txt.count y "+"))).map V.str)), I.laid (t' := tk) k (Nat.le_succ _) ⟨by rw [List.length_map, hperm.length_eq]; exact hL, out, c, rv2, hp⟩, rfl, q _ _ hperm (I.hok.fresh (Nat.le_succ _))⟩
end NT
namespace NT
open PySem PySem.Spec PyProof.Rows L2
section
variable {X : Cx} {C f : Addr} {n : Nat} {fd : FuncData} {ps : List Str} {sp : Sp}
theorem run_own {pins : List (Addr × Obj)} {σ : L2.St} {H : Hp} {s : Shared} {A : Around} {Q : VK} {us : List Value} {ws : List V} (F : FnOk X.prog X.w X.K X.mg X.base C8.CX0 n f fd ps sp) (hB : Binds X.K fd ps []) (hr : Room n A) (e0 : Env0 X.prog X.w X.K X.mg X.base A X.stack s H) (I : Inv X pins σ H s) (r : Vals ws us) (h : sp ws H Q C8.E0) {E : Value → Shared → Prop} :
    wpAny (model X.prog X.w) A (call (.ref f) us) (EP X pins σ Q) E s := by
  have hl : us.length = ps.length := by rw [← r.length]; exact F.len _ _ _ _ h
  have b := hB s us I.kIn (by rw [List.append_nil]; exact hl)
  rw [List.append_nil] at b
  refine wpAny_call (codeAny_mono (F.run A X.stack s H ⟨us, []⟩ us ws Q C8.E0 hr e0 b r h) fun r s' hq => ?_)
  cases r with
  | error e => exact (show False from hq).elim
  | ok fl =>
    cases fl with
    | ret u => exact I.after hq
    | next => exact False.elim hq
    | brk => exact False.elim hq
    | cont => exact False.elim hq
/-- str(x), x an instance whose class has a __str__ of its own -/
def rStrOwn (C : Addr) (sp : Sp) : List V → Hp → VK → Prop := fun xs H Q => ∃ a dx fs, xs = [.ref a] ∧ H a = some (.ins C dx fs) ∧ sp [.ref a] H (fun z H' => ∃ y, z = .str y ∧ Q z H') C8.E0
theorem call_strOwn (m : Meth X.K C "__str__" f) (F : FnOk X.prog X.w X.K X.mg X.base C8.CX0 n f fd ps sp) (hB : Binds X.K fd ps []) (hr : Room (n + 2) X.A) : CallR X (.type "str") (rStrOwn C sp) := by
  intro pins s σ H xs us Q I r h
  obtain ⟨a, dx, fs, rfl, ha, q⟩ := h
  obtain ⟨u, rfl, ru⟩ := r.one
  cases (show u = Value.ref a from ru)
  obtain ⟨mA, J, _⟩ := ins_get I.hok ha
  obtain ⟨od, J, _⟩ := J.look
  have hr2 : Room n X.A.in1.in1 := (show Room (n + 1) X.A.in1 from Room.in1 hr).in1
  refine PySem.W.kso_call hr2.units0 I.kIn J m.at_ m.fn (wpAny_mono (run_own (us := [.ref a]) (ws := [.ref a]) F hB hr2 I.env0.in1.in1 I (.cons rfl .nil) q) (fun w s' z => ?_) fun _ _ x => x)
  obtain ⟨z', H', I', rz, y, ey, qz⟩ := z
  subst ey
  obtain ⟨t, e⟩ := (show ∃ t, w = Value.str y t from rz)
  subst e
  exact ⟨.str y, H', I', ⟨t, rfl⟩, qz⟩
/-- len(x), x an instance whose class has a __len__ of its own -/
def rLenOwn (C : Addr) (sp : Sp) : List V → Hp → VK → Prop := fun xs H Q => ∃ a dx fs, xs = [.ref a] ∧ H a = some (.ins C dx fs) ∧ sp [.ref a] H (fun z H' => ∃ i : Int, z = .int i ∧ 0 ≤ i ∧ i < 2 ^ 63 ∧ Q z H') C8.E0
theorem call_lenOwn (m : Meth X.K C "__len__" f) (F : FnOk X.prog X.w X.K X.mg X.base C8.CX0 n f fd ps sp) (hB : Binds X.K fd ps []) (hr : Room (n + 2) X.A) : CallR X (.builtin "len") (rLenOwn C sp) := by
  intro pins s σ H xs us Q I r h
  obtain ⟨a, dx, fs, rfl, ha, q⟩ := h
  obtain ⟨u, rfl, ru⟩ := r.one
  cases (show u = Value.ref a from ru)
  obtain ⟨mA, J, _⟩ := ins_get I.hok ha
  obtain ⟨od, J, _⟩ := J.look
  have hr2 : Room (n + 1) X.A.in1 := Room.in1 hr
  obtain ⟨m', fr⟩ := I.fr
  refine PySem.W.len_K fr I.ok.mod.kin J m.at_ m.fn (wpAny_mono (run_own (us := [.ref a]) (ws := [.ref a]) F hB (hr2.mono (Nat.le_succ _)) I.env0.in1 I (.cons rfl .nil) q) (fun w s' z => ?_) fun _ _ x => x)
  obtain ⟨z', H', I', rz, i, ei, h0, h1, qz⟩ := z
  subst ei
  obtain ⟨t, e⟩ := (show ∃ t, w = Value.int i t from rz)
  subst e
  exact ⟨⟨h0, h1⟩, .int i, H', I'.tok _, ⟨_, rfl⟩, qz⟩
end
end NT
namespace NT
open PySem PySem.Spec PyProof.Rows L2
open SX (S)
section
variable {P : Program} {w : World} {K : PySem.W.Frag} {mg : Str → Option Value} {base : Heap}
abbrev N__law_lay : List Str := ["_law_newer_row", "_law_older_row", "_law_x", "_law_y"]
theorem sc__law_lay : FnScope N__law_lay ["_law_newer_row", "_law_older_row"] (defScope s__law_lay) := ⟨rfl, rfl, rfl, by decide +kernel, rfl, by decide +kernel, by decide +kernel⟩
theorem cl__law_lay (T : Txt K mg) : Cl P w K mg base CX0 1 "_law_lay" spOver [] := by
  refine cl0 T.d__law_lay sc__law_lay (fun _ _ _ _ _ _ us hl => match us, hl with | [_, _], _ => rfl) (fun vs H Q E h => by obtain ⟨_, _, rfl, _⟩ := h; rfl) fun f cdv A outer s H vs Q E hr h => ?_
  obtain ⟨x, y, rfl, hx, k⟩ := h
  refine ⟨_, (pss_one (ps_ret (pe_joinK (K := K) rfl pe_str (pe_lc (own := [("_law_x", 2), ("_law_y", 3)]) rfl sc__law_lay.nd (pi_zipS (by rfl) T.f_zip (pa_cons (pv 0) (pa_cons (pv 1) pa_nil))) (blkOk_by (N := N__law_lay) (sc := defScope s__law_lay) (by decide +kernel)) (fun _ _ _ _ _ => pg_pairK (K := K) (i := 2) (j := 3) rfl rfl sc__law_lay.nd rfl rfl (Or.inl rfl) (Or.inl rfl) (Or.inr rfl) (Or.inr rfl)) (fun _ _ _ _ _ => pts_nil) (fun _ _ _ _ _ => (pe_ifExp (pt_cmpR op_eq (pv 2) pe_str (nomark _)) (pv 3) (pv 2))))))), ?_⟩
  refine ⟨⟨_, rfl⟩, ?_⟩
  refine ⟨_, rfl, _, rfl, x, y, rfl, fun D hD => ?_⟩
  refine lc_zt hD y (fun c => sv [c]) (fun _ _ => ⟨rfl, fun _ h => h⟩) (fun _ => true) (fun q => sv [if q.1 = 46 then q.2 else q.1]) (by omega) ?_ ?_
  · intro z T' H1 hz e hT
    refine ⟨_, gv_pair hT, rfl, evT_yes, fun H2 e2 _ Q q => ?_⟩
    refine ⟨_, rfl, rfl, ?_⟩
    refine ⟨_, rfl, ?_⟩
    refine if_dec (one_dec (d := 46) (by rfl)) (fun hc => ?_) (fun hc => ?_)
    · rw [if_pos hc] at q
      exact ⟨_, rfl, q _ (Same.refl _)⟩
    · rw [if_neg hc] at q
      exact ⟨_, rfl, q _ (Same.refl _)⟩
  · intro H' e hl
    rw [filter_all] at hl
    have hl' : H' D = some (.lst ((((x.zip y).map fun q => [if q.1 = 46 then q.2 else q.1]).map S).map V.str)) := by rw [hl, List.map_map, List.map_map] <;> rfl
    refine ⟨_, D, _, rfl, rfl, .inl (SqL.of hl'), ?_, ?_⟩
    · rw [lens_sum1]
      show (x.zip y).length + _ * 0 ≤ _
      rw [List.length_zip]
      omega
    · have ej := joinNil1 (x.zip y) (fun q => if q.1 = 46 then q.2 else q.1)
      show Q (.str (Txt.join (S []) _)) H'
      rw [ej]
      exact k _ e
def spLot : Sp := fun vs H Q _ => ∃ x : List Nat, vs = [sv x] ∧ x.length ≤ 1000000 ∧ ∀ H', Same H H' → Q (sv (lotL x)) H'
abbrev N_lot_of : List Str := ["row", "sign"]
theorem sc_lot_of : FnScope N_lot_of ["row"] (defScope s_lot_of) := ⟨rfl, rfl, rfl, by decide +kernel, rfl, by decide +kernel, by decide +kernel⟩
theorem cl_lot_of (T : Txt K mg) : Cl P w K mg base CX0 1 "lot_of" spLot [] := by
  refine cl0 T.d_lot_of sc_lot_of (fun _ _ _ _ _ _ us hl => match us, hl with | [_], _ => rfl) (fun vs H Q E h => by obtain ⟨_, rfl, _⟩ := h; rfl) fun f cdv A outer s H vs Q E hr h => ?_
  obtain ⟨x, rfl, hx, k⟩ := h
  refine ⟨_, (pss_one (ps_ret (pe_joinK (K := K) rfl pe_str (pe_lc (own := [("sign", 1)]) rfl sc_lot_of.nd (pi_str (pv 0)) (blkOk_by (N := N_lot_of) (sc := defScope s_lot_of) (by decide +kernel)) (fun _ _ _ _ _ => pg_name (i := 1) sc_lot_of.nd rfl (Or.inl rfl)) (fun _ _ _ _ _ => pts_nil) (fun _ _ _ _ _ => (pe_ifExp (pt_cmpR op_eq (pv 1) pe_str (nomark _)) pe_str pe_str)))))), ?_⟩
  refine ⟨⟨_, rfl⟩, ?_⟩
  refine ⟨_, rfl, _, rfl, fun D hD => ?_⟩
  refine lc_signs hD x (fun _ => true) (fun c => sv [if c = 46 then 46 else 43]) (by omega) ?_ ?_
  · intro c H1 hc e
    refine ⟨_, gv_name, rfl, evT_yes, fun H2 e2 _ Q q => ?_⟩
    refine ⟨_, rfl, rfl, _, rfl, ?_⟩
    refine if_dec (one_dec (d := 46) (by rfl)) (fun hc => ?_) (fun hc => ?_)
    · rw [if_pos hc] at q
      exact q _ (Same.refl _)
    · rw [if_neg hc] at q
      exact q _ (Same.refl _)
  · intro H' e hl
    rw [filter_all] at hl
    have hl' : H' D = some (.lst (((x.map fun c => [if c = 46 then 46 else 43]).map S).map V.str)) := by rw [hl, List.map_map, List.map_map] <;> rfl
    refine ⟨_, D, _, rfl, rfl, .inl (SqL.of hl'), ?_, ?_⟩
    · rw [lens_sum1]
      show x.length + _ * 0 ≤ _
      omega
    · have ej := joinNil1 x (fun c => if c = 46 then 46 else 43)
      show Q (.str (Txt.join (S []) _)) H'
      rw [ej]
      exact k _ e
abbrev N__law_lot : List Str := ["_law_r", "_law_sign"]
theorem sc__law_lot : FnScope N__law_lot ["_law_r"] (defScope s__law_lot) := ⟨rfl, rfl, rfl, by decide +kernel, rfl, by decide +kernel, by decide +kernel⟩
theorem cl__law_lot (T : Txt K mg) : Cl P w K mg base CX0 1 "_law_lot" spLot [] := by
  refine cl0 T.d__law_lot sc__law_lot (fun _ _ _ _ _ _ us hl => match us, hl with | [_], _ => rfl) (fun vs H Q E h => by obtain ⟨_, rfl, _⟩ := h; rfl) fun f cdv A outer s H vs Q E hr h => ?_
  obtain ⟨x, rfl, hx, k⟩ := h
  refine ⟨_, (pss_one (ps_ret (pe_joinK (K := K) rfl pe_str (pe_lc (own := [("_law_sign", 1)]) rfl sc__law_lot.nd (pi_str (pv 0)) (blkOk_by (N := N__law_lot) (sc := defScope s__law_lot) (by decide +kernel)) (fun _ _ _ _ _ => pg_name (i := 1) sc__law_lot.nd rfl (Or.inl rfl)) (fun _ _ _ _ _ => pts_nil) (fun _ _ _ _ _ => (pe_ifExp (pt_cmpR op_eq (pv 1) pe_str (nomark _)) pe_str pe_str)))))), ?_⟩
  refine ⟨⟨_, rfl⟩, ?_⟩
  refine ⟨_, rfl, _, rfl, fun D hD => ?_⟩
  refine lc_signs hD x (fun _ => true) (fun c => sv [if c = 46 then 46 else 43]) (by omega) ?_ ?_
  · intro c H1 hc e
    refine ⟨_, gv_name, rfl, evT_yes, fun H2 e2 _ Q q => ?_⟩
    refine ⟨_, rfl, rfl, _, rfl, ?_⟩
    refine if_dec (one_dec (d := 46) (by rfl)) (fun hc => ?_) (fun hc => ?_)
    · rw [if_pos hc] at q
      exact q _ (Same.refl _)
    · rw [if_neg hc] at q
      exact q _ (Same.refl _)
  · intro H' e hl
    rw [filter_all] at hl
    have hl' : H' D = some (.lst (((x.map fun c => [if c = 46 then 46 else 43]).map S).map V.str)) := by rw [hl, List.map_map, List.map_map] <;> rfl
    refine ⟨_, D, _, rfl, rfl, .inl (SqL.of hl'), ?_, ?_⟩
    · rw [lens_sum1]
      show x.length + _ * 0 ≤ _
      omega
    · have ej := joinNil1 x (fun c => if c = 46 then 46 else 43)
      show Q (.str (Txt.join (S []) _)) H'
      rw [ej]
      exact k _ e
/-! blank -/
def spBlank : Sp := fun vs H Q _ => ∃ n : Nat, vs = [.int n] ∧ n ≤ 1000000 ∧ Q (sv (List.replicate n 46)) H
abbrev N_blank : List Str := ["many"]
theorem sc_blank : FnScope N_blank ["many"] (defScope s_blank) := ⟨rfl, rfl, rfl, by decide +kernel, rfl, by decide +kernel, by decide +kernel⟩
theorem cl_blank (T : Txt K mg) : Cl P w K mg base CX0 1 "blank" spBlank [] := by
  refine cl0 T.d_blank sc_blank (fun _ _ _ _ _ _ us hl => match us, hl with | [_], _ => rfl) (fun vs H Q E h => by obtain ⟨_, rfl, _⟩ := h; rfl) fun f cdv A outer s H vs Q E hr h => ?_
  obtain ⟨n, rfl, hn, k⟩ := h
  refine ⟨_, (pss_one (ps_ret (pe_op op_mulS pe_str (pv 0)))), ?_⟩
  exact ⟨_, rfl, 46, n, rfl, rfl, by omega, by omega, k⟩
def spLBlank (K : PySem.W.Frag) : Sp := fun vs H Q _ => ∃ (a : Addr) (ys : List V), vs = [.ref a] ∧ SqL K H a ys ∧ ys.length ≤ 1000000 ∧ Q (sv (List.replicate ys.length 46)) H
abbrev N__law_blank : List Str := ["_law_frame_here"]
theorem sc__law_blank : FnScope N__law_blank ["_law_frame_here"] (defScope s__law_blank) := ⟨rfl, rfl, rfl, by decide +kernel, rfl, by decide +kernel, by decide +kernel⟩
theorem cl__law_blank (T : Txt K mg) : Cl P w K mg base CX0 1 "_law_blank" (spLBlank K) [] := by
  refine cl0 T.d__law_blank sc__law_blank (fun _ _ _ _ _ _ us hl => match us, hl with | [_], _ => rfl) (fun vs H Q E h => by obtain ⟨_, _, rfl, _⟩ := h; rfl) fun f cdv A outer s H vs Q E hr h => ?_
  obtain ⟨a, ys, rfl, ha, hn, k⟩ := h
  refine ⟨_, (pss_one (ps_ret (pe_op op_mulS pe_str (pe_callB (call_len_seqK (K := K) rfl) (by rfl) T.f_len PySem.boot_len (pa_cons (pv 0) pa_nil))))), ?_⟩
  exact ⟨_, rfl, a, ys, rfl, .inl ha, 46, ys.length, rfl, rfl, by omega, by omega, k⟩
/-! is_row -/
abbrev marks : List Nat := [46, 48, 49, 50, 51]
def rowB (cs : List Cell) (x : List Nat) : Bool := decide (x.length = cs.length) && (x.zip cs).all fun z => decide (z.1 ∈ marks.take (z.2.2 + 1).toNat)
def okCounts (cs : List Cell) : Prop := ∀ z ∈ cs, 1 ≤ z.2 ∧ z.2 ≤ 4
def spIsRow : Sp := fun vs H Q _ => ∃ (a : Addr) (cs : List Cell) (x : List Nat), vs = [.ref a, sv x] ∧ CellsAt H a cs ∧ okCounts cs ∧ x.length ≤ 1000000 ∧ ∀ H', Same H H' → Q (.bl (rowB cs x)) H'
theorem SqT.pair {K : PySem.W.Frag} {H : Hp} {a : Addr} {xs : List V} (h : H a = some (.tup xs)) : SqT K H a xs := SqT.of h
abbrev N_is_row : List Str := ["cells", "value", "sign", "cell"]
theorem sc_is_row : FnScope N_is_row ["cells", "value"] (defScope s_is_row) := ⟨rfl, rfl, rfl, by decide +kernel, rfl, by decide +kernel, by decide +kernel⟩
theorem cl_is_row (T : Txt K mg) : Cl P w K mg base CX0 1 "is_row" spIsRow [] := by
  refine cl0 T.d_is_row sc_is_row (fun _ _ _ _ _ _ us hl => match us, hl with | [_, _], _ => rfl) (fun vs H Q E h => by obtain ⟨_, _, _, rfl, _⟩ := h; rfl) fun f cdv A outer s H vs Q E hr h => ?_
  obtain ⟨a, cs, x, rfl, hc, ok, hx, k⟩ := h
  obtain ⟨ps, rfl, ha, hps⟩ := hc
  refine ⟨_, (pss_cons (ps_if (PW.pt (pw_or (pt_not (pt_val (pe_callB (call_isiK' (K := K) rfl) (by rfl) T.f_isinstance (by decide +kernel) (pa_cons (pv 1) (pa_cons (pe_bltn (v := .ty "str") (u := .type "str") (by rfl) T.f_str (by decide +kernel) rfl) pa_nil))))) (pw_or1 (pt_cmpR op_ne (pe_callB call_len_str (by rfl) T.f_len PySem.boot_len (pa_cons (pv 1) pa_nil)) (pe_callB (call_len_seqK (K := K) rfl) (by rfl) T.f_len PySem.boot_len (pa_cons (pv 0) pa_nil)) (nomark _)))))
    (pss_one (ps_ret pe_bl))
    pss_nil)
    (pss_one (ps_ret (pe_callB (cr_allK (K := K) rfl rfl) (by rfl) T.f_all (by decide +kernel) (pa_cons (pe_lc (own := [("sign", 2), ("cell", 3)]) rfl sc_is_row.nd (pi_zipSL (by rfl) T.f_zip (pa_cons (pv 1) (pa_cons (pv 0) pa_nil))) (blkOk_by (N := N_is_row) (sc := defScope s_is_row) (by decide +kernel)) (fun _ _ _ _ _ => pg_pairK (K := K) (i := 2) (j := 3) rfl rfl sc_is_row.nd rfl rfl (Or.inl rfl) (Or.inl rfl) (Or.inr rfl) (Or.inr rfl)) (fun _ _ _ _ _ => pts_nil) (fun _ _ _ _ _ => (pe_cmpR op_in_sign (pv 2) (pe_slice C8.sl_txt pe_str po_none (po_some (pe_op op_add (pe_ix (ix_tupK (K := K) rfl) (pv 3) pe_int (fun _ _ => rfl)) pe_int))) (by rfl)))) pa_nil))))), ?_⟩
  refine ⟨_, rfl, _, _, _, _, true, rfl, .ty _, .base (.str _), kit_ty (by decide +kernel), _, rfl, iteF ?_⟩
  refine ⟨_, rfl, _, rfl, line_le (by rw [SX.S_len]; omega), _, rfl, a, _, rfl, .inl (SqL.of ha), rfl, _, rfl, ?_⟩
  rw [SX.S_len, List.length_map]
  by_cases h1 : x.length = ps.length
  · rw [decide_eq_true (by rw [h1])]
    refine iteF ⟨_, rfl, _, rfl, x, a, _, rfl, ha, fun D hD => ?_⟩
    refine lc_zt hD ps (fun z => .ref z.1) (fun H' e => ⟨e _ _ ha, fun zs h => by have := (e _ _ ha).symm.trans h; cases this; rfl⟩) (fun _ => true) (fun z => .bl (decide (z.1 ∈ marks.take (z.2.2.2 + 1).toNat))) (by omega) ?_ ?_
    · intro z T' H1 hz e hT
      refine ⟨_, gv_pair hT, rfl, evT_yes, fun H2 e2 _ Q q => ?_⟩
      obtain ⟨c, p, m, n⟩ := z
      have hm : (p, m, n) ∈ ps := (List.of_mem_zip hz).2
      obtain ⟨k1, k2⟩ : 1 ≤ n ∧ n ≤ 4 := ok _ (List.mem_map.mpr ⟨_, hm, rfl⟩)
      have ht := e2 _ _ (e _ _ (hps _ hm))
      refine ⟨_, rfl, _, rfl, p, _, 1, _, rfl, rfl, SqT.of ht, rfl, _, _, rfl, rfl, _, rfl, _, rfl, line_le (by decide), c, _, rfl, rfl, ?_⟩
      have e1 : Txt.slice (S marks) none (some (n + 1)) = S (marks.take (n + 1).toNat) := SX.slice_to (by omega)
      rw [show ((".0123" : Str)) = S marks by rfl, e1]
      exact q _ (Same.refl _)
    · intro H' e hl
      rw [filter_all] at hl
      have hl' : H' D = some (.lst (((x.zip ps).map fun z => decide (z.1 ∈ marks.take (z.2.2.2 + 1).toNat)).map V.bl)) := by rw [hl, List.map_map] <;> rfl
      refine ⟨D, _, rfl, SqL.of hl', ?_⟩
      rw [all_map]
      have ek : rowB (ps.map (·.2)) x = (x.zip ps).all fun z => decide (z.1 ∈ marks.take (z.2.2.2 + 1).toNat) := by
        unfold rowB
        rw [List.length_map, decide_eq_true h1, Bool.true_and, List.zip_map_right, List.all_map]
        rfl
      rw [← ek]
      exact k _ e
  · rw [decide_eq_false (by intro q; apply h1; injection q with q; omega)]
    refine iteT ?_
    have ek : rowB (ps.map (·.2)) x = false := by
      unfold rowB
      rw [List.length_map, decide_eq_false h1, Bool.false_and]
    rw [ek] at k
    exact k _ (Same.refl _)
abbrev N__law_is_row : List Str := ["_law_frame_here", "_law_thing", "_law_sign", "_law_pair"]
theorem sc__law_is_row : FnScope N__law_is_row ["_law_frame_here", "_law_thing"] (defScope s__law_is_row) := ⟨rfl, rfl, rfl, by decide +kernel, rfl, by decide +kernel, by decide +kernel⟩
theorem cl__law_is_row (T : Txt K mg) : Cl P w K mg base CX0 1 "_law_is_row" spIsRow [] := by
  refine cl0 T.d__law_is_row sc__law_is_row (fun _ _ _ _ _ _ us hl => match us, hl with | [_, _], _ => rfl) (fun vs H Q E h => by obtain ⟨_, _, _, rfl, _⟩ := h; rfl) fun f cdv A outer s H vs Q E hr h => ?_
  obtain ⟨a, cs, x, rfl, hc, ok, hx, k⟩ := h
  obtain ⟨ps, rfl, ha, hps⟩ := hc
  refine ⟨_, (pss_cons (ps_if (PW.pt (pw_or (pt_not (pt_val (pe_callB (call_isiK' (K := K) rfl) (by rfl) T.f_isinstance (by decide +kernel) (pa_cons (pv 1) (pa_cons (pe_bltn (v := .ty "str") (u := .type "str") (by rfl) T.f_str (by decide +kernel) rfl) pa_nil))))) (pw_or1 (pt_cmpR op_ne (pe_callB call_len_str (by rfl) T.f_len PySem.boot_len (pa_cons (pv 1) pa_nil)) (pe_callB (call_len_seqK (K := K) rfl) (by rfl) T.f_len PySem.boot_len (pa_cons (pv 0) pa_nil)) (nomark _)))))
    (pss_one (ps_ret pe_bl))
    pss_nil)
    (pss_one (ps_ret (pe_callB (cr_allK (K := K) rfl rfl) (by rfl) T.f_all (by decide +kernel) (pa_cons (pe_lc (own := [("_law_sign", 2), ("_law_pair", 3)]) rfl sc__law_is_row.nd (pi_zipSL (by rfl) T.f_zip (pa_cons (pv 1) (pa_cons (pv 0) pa_nil))) (blkOk_by (N := N__law_is_row) (sc := defScope s__law_is_row) (by decide +kernel)) (fun _ _ _ _ _ => pg_pairK (K := K) (i := 2) (j := 3) rfl rfl sc__law_is_row.nd rfl rfl (Or.inl rfl) (Or.inl rfl) (Or.inr rfl) (Or.inr rfl)) (fun _ _ _ _ _ => pts_nil) (fun _ _ _ _ _ => (pe_cmpR op_in_sign (pv 2) (pe_op op_add_str pe_str (pe_slice C8.sl_txt pe_str po_none (po_some (pe_ix (ix_tupK (K := K) rfl) (pv 3) pe_int (fun _ _ => rfl))))) (by rfl)))) pa_nil))))), ?_⟩
  refine ⟨_, rfl, _, _, _, _, true, rfl, .ty _, .base (.str _), kit_ty (by decide +kernel), _, rfl, iteF ?_⟩
  refine ⟨_, rfl, _, rfl, line_le (by rw [SX.S_len]; omega), _, rfl, a, _, rfl, .inl (SqL.of ha), rfl, _, rfl, ?_⟩
  rw [SX.S_len, List.length_map]
  by_cases h1 : x.length = ps.length
  · rw [decide_eq_true (by rw [h1])]
    refine iteF ⟨_, rfl, _, rfl, x, a, _, rfl, ha, fun D hD => ?_⟩
    refine lc_zt hD ps (fun z => .ref z.1) (fun H' e => ⟨e _ _ ha, fun zs h => by have := (e _ _ ha).symm.trans h; cases this; rfl⟩) (fun _ => true) (fun z => .bl (decide (z.1 ∈ marks.take (z.2.2.2 + 1).toNat))) (by omega) ?_ ?_
    · intro z T' H1 hz e hT
      refine ⟨_, gv_pair hT, rfl, evT_yes, fun H2 e2 _ Q q => ?_⟩
      obtain ⟨c, p, m, n⟩ := z
      have hm : (p, m, n) ∈ ps := (List.of_mem_zip hz).2
      obtain ⟨k1, k2⟩ : 1 ≤ n ∧ n ≤ 4 := ok _ (List.mem_map.mpr ⟨_, hm, rfl⟩)
      have ht := e2 _ _ (e _ _ (hps _ hm))
      refine ⟨_, rfl, _, rfl, p, _, 1, _, rfl, rfl, SqT.of ht, rfl, _, rfl, _, rfl, line_le (by decide), _, _, rfl, rfl, ?_, c, _, rfl, rfl, ?_⟩
      · rw [show (("0123" : Str)) = S [48, 49, 50, 51] by rfl, SX.slice_to (a := [48, 49, 50, 51]) (i := n) (by omega), SX.S_len]
        refine line_le ?_
        show 1 + (List.take n.toNat [48, 49, 50, 51]).length ≤ _
        have := List.length_take_le n.toNat [48, 49, 50, 51]
        rw [List.length_take]
        show 1 + min n.toNat 4 ≤ _
        omega
      have e1 : Txt.slice (S [48, 49, 50, 51]) none (some n) = S (List.take n.toNat [48, 49, 50, 51]) := SX.slice_to (by omega)
      have e2 : (n + 1).toNat = n.toNat + 1 := by omega
      rw [show (("0123" : Str)) = S [48, 49, 50, 51] by rfl, e1, show (("." : Str)) = S [46] by rfl, SX.S_cat]
      rw [e2] at q
      exact q _ (Same.refl _)
    · intro H' e hl
      rw [filter_all] at hl
      have hl' : H' D = some (.lst (((x.zip ps).map fun z => decide (z.1 ∈ marks.take (z.2.2.2 + 1).toNat)).map V.bl)) := by rw [hl, List.map_map] <;> rfl
      refine ⟨D, _, rfl, SqL.of hl', ?_⟩
      rw [all_map]
      have ek : rowB (ps.map (·.2)) x = (x.zip ps).all fun z => decide (z.1 ∈ marks.take (z.2.2.2 + 1).toNat) := by
        unfold rowB
        rw [List.length_map, decide_eq_true h1, Bool.true_and, List.zip_map_right, List.all_map]
        rfl
      rw [← ek]
      exact k _ e
  · rw [decide_eq_false (by intro q; apply h1; injection q with q; omega)]
    refine iteT ?_
    have ek : rowB (ps.map (·.2)) x = false := by
      unfold rowB
      rw [List.length_map, decide_eq_false h1, Bool.false_and]
    rw [ek] at k
    exact k _ (Same.refl _)
end
end NT
namespace NT
open PySem PySem.Spec PyProof.Rows L2
open SX (S)
/-! ### texts and cells as data -/
def asc (x : List Nat) : Prop := ∀ c ∈ x, c < 128
theorem asc.ok {x : List Nat} (h : asc x) : PyData.strOk (S x) = true := by
  unfold PyData.strOk
  rw [← Array.all_toList]
  show x.all _ = true
  rw [List.all_eq_true]
  intro c hc
  have := h c hc
  exact decide_eq_true (by omega)
abbrev txD (x : List Nat) : PyData := .str (S x)
def ceD (c : Cell) : PyData := .tuple [.str (S c.1), .int c.2]
section
variable {K : PySem.W.Frag} {H : Hp}
theorem dpAll_map {α : Type} {g : α → V} {f : α → PyData} : ∀ (l : List α), (∀ z ∈ l, Dp K H (g z) (f z)) → DpAll K H (l.map g) (l.map f)
  | [], _ => .nil
  | a :: l, h => .cons (h a (List.mem_cons_self ..)) (dpAll_map l fun z hz => h z (List.mem_cons_of_mem _ hz))
theorem dp_strs {a : Addr} {ys : List (List Nat)} (h : SqL K H a (ys.map sv)) : Dp K H (.ref a) (.list (ys.map txD)) := .lst h (dpAll_map _ fun _ _ => .str _)
theorem CellsAt.dp {a : Addr} {cs : List Cell} (h : CellsAt H a cs) : Dp K H (.ref a) (.list (cs.map ceD)) := by
  obtain ⟨ps, rfl, ha, hp⟩ := h
  rw [List.map_map]
  exact .lst (SqL.of ha) (dpAll_map _ fun z hz => .tup (SqT.of (hp z hz)) (.cons (.str _) (.cons (.int _) .nil)))
end
theorem canAll {α : Type} {f : α → PyData} : ∀ (l : List α), (∀ z ∈ l, PyData.canLay0 (f z) = true) → PyData.canLayAll0 (l.map f) = true
  | [], _ => rfl
  | a :: l, h => by
    show (PyData.canLay0 (f a) && PyData.canLayAll0 (l.map f)) = true
    rw [h a (List.mem_cons_self ..), canAll l fun z hz => h z (List.mem_cons_of_mem _ hz)] <;> rfl
theorem depAll {α : Type} {f : α → PyData} {n : Nat} : ∀ (l : List α), (∀ z ∈ l, PyData.depth (f z) ≤ n) → PyData.depthAll (l.map f) ≤ n
  | [], _ => Nat.zero_le _
  | a :: l, h => by
    show max (PyData.depth (f a)) (PyData.depthAll (l.map f)) ≤ n
    exact Nat.max_le.mpr ⟨h a (List.mem_cons_self ..), depAll l fun z hz => h z (List.mem_cons_of_mem _ hz)⟩
theorem shaped_strs {ys : List (List Nat)} (h : ∀ y ∈ ys, asc y) : SeqAt.shaped (.list (ys.map txD)) = true := by
  unfold SeqAt.shaped
  rw [Bool.and_eq_true]
  refine ⟨?_, decide_eq_true ?_⟩
  · show PyData.canLayAll0 _ = true
    exact canAll _ fun z hz => (h z hz).ok
  · show PyData.depthAll _ + 1 ≤ 64
    have := depAll (f := txD) (n := 0) ys fun z _ => Nat.le_refl _
    omega
theorem shaped_cells {cs : List Cell} (h : ∀ c ∈ cs, asc c.1) : SeqAt.shaped (.list (cs.map ceD)) = true := by
  unfold SeqAt.shaped
  rw [Bool.and_eq_true]
  refine ⟨?_, decide_eq_true ?_⟩
  · show PyData.canLayAll0 _ = true
    refine canAll _ fun z hz => ?_
    show (PyData.strOk _ && (true && true)) = true
    rw [(h z hz).ok] <;> rfl
  · show PyData.depthAll _ + 1 ≤ 64
    have := depAll (f := ceD) (n := 1) cs fun z _ => Nat.le_refl 1
    omega
theorem eqvAll_inj {α : Type} [DecidableEq α] {f : α → PyData} (hf : ∀ a b, PyData.eqv (f a) (f b) = decide (a = b)) : ∀ xs ys : List α, PyData.eqvAll (xs.map f) (ys.map f) = decide (xs = ys)
  | [], [] => rfl
  | [], _ :: _ => rfl
  | _ :: _, [] => rfl
  | a :: xs, b :: ys => by
    show PyData.eqvAll (f a :: xs.map f) (f b :: ys.map f) = _
    rw [PyData.eqvAll, hf, eqvAll_inj hf xs ys]
    by_cases h1 : a = b
    · by_cases h2 : xs = ys
      · rw [h1, h2]; simp
      · rw [h1]; simp [h2]
    · simp [h1]
theorem eqv_tx (a b : List Nat) : PyData.eqv (txD a) (txD b) = decide (a = b) := by
  show PyData.eqv (.str _) (.str _) = _
  rw [PyData.eqv, SX.S_beq_eq]
theorem eqv_ce (a b : Cell) : PyData.eqv (ceD a) (ceD b) = decide (a = b) := by
  show PyData.eqv (.tuple [.str _, .int _]) (.tuple [.str _, .int _]) = _
  rw [PyData.eqv, PyData.eqvAll, PyData.eqvAll, PyData.eqvAll, PyData.eqv, PyData.eqv, SX.S_beq_eq]
  obtain ⟨a1, a2⟩ := a
  obtain ⟨b1, b2⟩ := b
  by_cases h1 : a1 = b1
  · by_cases h2 : a2 = b2
    · simp [h1, h2]
    · simp [h2]
  · simp [h1]
theorem eqv_strs (xs ys : List (List Nat)) : PyData.eqv (.list (xs.map txD)) (.list (ys.map txD)) = decide (xs = ys) := by
  rw [PyData.eqv]; exact eqvAll_inj eqv_tx xs ys
theorem eqv_cells (xs ys : List Cell) : PyData.eqv (.list (xs.map ceD)) (.list (ys.map ceD)) = decide (xs = ys) := by
  rw [PyData.eqv]; exact eqvAll_inj eqv_ce xs ys
/-- flat texts -/
theorem flat_svs (ys : List (List Nat)) : (ys.map sv).all flatV = true := by rw [List.all_map, List.all_eq_true]; intro _ _; rfl
theorem inV_sv (x : List Nat) (ys : List (List Nat)) : inV (sv x) (ys.map sv) = decide (x ∈ ys) := by
  unfold inV
  induction ys with
  | nil => rfl
  | cons y ys ih =>
    rw [List.map_cons, List.any_cons, ih]
    show ((S y == S x) || _) = _
    rw [SX.S_beq_eq]
    by_cases h1 : y = x
    · simp [h1]
    · have : ¬ x = y := fun e => h1 e.symm
      simp [h1, this]
/-! ### the words of a line -/
def words (x : List Nat) : List (List Nat) := TL.spl [32] 0 [] x
abbrev wCell : List Nat := [99, 101, 108, 108]
abbrev wSeed : List Nat := [115, 101, 101, 100]
def cntW (c : List Nat) : Prop := c ∈ [[49], [50], [51], [52]]
instance (c : List Nat) : Decidable (cntW c) := inferInstanceAs (Decidable (c ∈ _))
def cellP (x : List Nat) : Option Cell :=
  match words x with
  | [a, b, c] => if a = wCell ∧ nameB b = true ∧ cntW c then some (b, (c.headD 48 : Int) - 48) else none
  | _ => none
def seedP (x : List Nat) : Option (List Nat) :=
  match words x with
  | [a, b] => if a = wSeed ∧ b ≠ [] ∧ (b.all fun c => decide (c ∈ marks)) = true then some b else none
  | _ => none
def spCellOf : Sp := fun vs H Q _ => ∃ x : List Nat, vs = [sv x] ∧ x.length ≤ 1000000 ∧ asc x ∧ (cellP x = none → ∀ H', Same H H' → Q .non H') ∧ ∀ c, cellP x = some c → ∀ H' p, Same H H' → H' p = some (.tup [sv c.1, .int c.2]) → Q (.ref p) H'
def spSeedOf : Sp := fun vs H Q _ => ∃ x : List Nat, vs = [sv x] ∧ x.length ≤ 1000000 ∧ asc x ∧ (seedP x = none → ∀ H', Same H H' → Q .non H') ∧ ∀ c, seedP x = some c → ∀ H', Same H H' → Q (sv c) H'
theorem split_words {x : List Nat} : Txt.split (S x) (S [32]) = (words x).map S := SX.split_S (by decide) (by decide)
theorem map_S_V (ys : List (List Nat)) : (ys.map S).map V.str = ys.map sv := by rw [List.map_map]; rfl
theorem words_dec {ys : List (List Nat)} (n : Nat) : (!decide ((V.int (ys.map sv).length) = .int n)) = !decide (ys.length = n) := by
  rw [List.length_map]
  by_cases h : ys.length = n
  · rw [decide_eq_true h, h]; simp
  · rw [decide_eq_false h, decide_eq_false (by intro q; apply h; injection q with q; omega)]
theorem len2 {α : Type} {l : List α} (h : l.length = 2) : ∃ a b, l = [a, b] := by
  match l, h with | [a, b], _ => exact ⟨a, b, rfl⟩
theorem len3 {α : Type} {l : List α} (h : l.length = 3) : ∃ a b c, l = [a, b, c] := by
  match l, h with | [a, b, c], _ => exact ⟨a, b, c, rfl⟩
theorem cellP_len {x : List Nat} (h : ¬ (words x).length = 3) : cellP x = none := by
  unfold cellP
  split
  · rename_i h2; rw [h2] at h; exact absurd rfl h
  · rfl
theorem cellP_no {x a b c : List Nat} (hw : words x = [a, b, c]) (h : ¬ (a = wCell ∧ nameB b = true ∧ cntW c)) : cellP x = none := by
  unfold cellP; rw [hw]; exact if_neg h
theorem cellP_yes {x a b : List Nat} {c : Nat} (hw : words x = [a, b, [c]]) (h1 : a = wCell) (h2 : nameB b = true) (h3 : 49 ≤ c ∧ c ≤ 52) : cellP x = some (b, (c : Int) - 48) := by
  unfold cellP; rw [hw]; exact if_pos ⟨h1, h2, by unfold cntW; simp; omega⟩
theorem seedP_no {x a b : List Nat} (hw : words x = [a, b]) (h : ¬ (a = wSeed ∧ b ≠ [] ∧ (b.all fun c => decide (c ∈ marks)) = true)) : seedP x = none := by
  unfold seedP; rw [hw]; exact if_neg h
theorem seedP_yes {x a b : List Nat} (hw : words x = [a, b]) (h : a = wSeed ∧ b ≠ [] ∧ (b.all fun c => decide (c ∈ marks)) = true) : seedP x = some b := by
  unfold seedP; rw [hw]; exact if_pos h
theorem seedP_len {x : List Nat} (h : ¬ (words x).length = 2) : seedP x = none := by
  unfold seedP
  split
  · rename_i h2; rw [h2] at h; exact absurd rfl h
  · rfl
theorem nameB_len {b : List Nat} (h : nameB b = true) : 1 ≤ b.length ∧ b.length ≤ 6 := by
  unfold nameB at h
  rw [Bool.and_eq_true, Bool.and_eq_true, decide_eq_true_eq, decide_eq_true_eq] at h
  exact ⟨h.1, h.2.1⟩
theorem nameB_all {b : List Nat} (h : nameB b = true) : (b.all fun c => decide (c ∈ letters)) = true := by
  unfold nameB at h
  rw [Bool.and_eq_true, Bool.and_eq_true] at h
  exact h.2.2
theorem all_none {b : List Nat} {p : Nat → Bool} (h : b.all p = true) : b.filter (fun c => !p c) = [] := by
  rw [List.filter_eq_nil_iff]
  intro c hc
  rw [List.all_eq_true.mp h c hc]
  decide
theorem none_all {b : List Nat} {p : Nat → Bool} (h : b.filter (fun c => !p c) = []) : b.all p = true := by
  rw [List.all_eq_true]
  intro c hc
  have := List.filter_eq_nil_iff.mp h c hc
  simpa using this
theorem if_int {p : Prop} [Decidable p] {A B : Prop} (hT : p → A) (hF : ¬ p → B) : if decide p = true then A else B := if_dec rfl hT hF
theorem cntW_one {c : List Nat} (h : cntW c) : ∃ d, c = [d] ∧ 49 ≤ d ∧ d ≤ 52 := by
  unfold cntW at h
  simp at h
  rcases h with h | h | h | h <;> exact ⟨_, h, by decide, by decide⟩
theorem intOne {d : Nat} (h : 49 ≤ d ∧ d ≤ 52) : intText? (S [d]) = some ((d : Int) - 48) := by
  have : d = 49 ∨ d = 50 ∨ d = 51 ∨ d = 52 := by omega
  rcases this with e | e | e | e <;> subst e <;> exact (SX.int_S (by decide) (by decide) (by decide)).trans (by decide)
theorem inC (c : List Nat) : (!inV (sv c) [.str "1", .str "2", .str "3", .str "4"]) = !decide (cntW c) := congrArg _ (inV_sv c [[49], [50], [51], [52]])
theorem if_notB {b : Bool} {A B : Prop} (hT : b = false → A) (hF : b = true → B) : if (!b) = true then A else B := by
  cases b with
  | false => exact hT rfl
  | true => exact hF rfl
section
variable {P : Program} {w : World} {K : PySem.W.Frag} {mg : Str → Option Value} {base : Heap}
abbrev N_cell_of : List Str := ["line", "words"]
theorem sc_cell_of : FnScope N_cell_of ["line"] (defScope s_cell_of) := ⟨rfl, rfl, rfl, by decide +kernel, rfl, by decide +kernel, by decide +kernel⟩
theorem cl_cell_of (T : Txt K mg) : Cl P w K mg base CX0 2 "cell_of" spCellOf [] := by
  refine cl0 T.d_cell_of sc_cell_of (fun _ _ _ _ _ _ us hl => match us, hl with | [_], _ => rfl) (fun vs H Q E h => by obtain ⟨_, rfl, _⟩ := h; rfl) fun f cdv A outer s H vs Q E hr h => ?_
  obtain ⟨x, rfl, hx, ha, k0, k1⟩ := h
  refine ⟨_, (pss_cons (ps_set (i := 1) sc_cell_of.nd rfl (Or.inl rfl) (pe_split (pv 0) pe_str))
    (pss_cons (ps_if (PW.pt (pw_or (pt_cmpR op_ne (pe_callB (call_len_seqK (K := K) rfl) (by rfl) T.f_len PySem.boot_len (pa_cons (pv 1) pa_nil)) pe_int (nomark _)) (pw_or (pt_cmpR op_ne (pe_ix (ix_listK (K := K) rfl) (pv 1) pe_int (fun _ _ => rfl)) pe_str (nomark _)) (pw_or (pt_not (pt_val (pe_cl (cl_is_name T) hr (by decide) (by rfl) (pa_cons (pe_ix (ix_listK (K := K) rfl) (pv 1) pe_int (fun _ _ => rfl)) pa_nil)))) (pw_or1 (pt_cmpR (op_notIn_seqK (K := K) rfl) (pe_ix (ix_listK (K := K) rfl) (pv 1) pe_int (fun _ _ => rfl)) (C8.pe_gc (by rfl) T.v_COUNTS) (by rfl)))))))
    (pss_one (ps_ret pe_non))
    pss_nil)
    (pss_one (ps_ret (pe_tup (pa_cons (pe_ix (ix_listK (K := K) rfl) (pv 1) pe_int (fun _ _ => rfl)) (pa_cons (pe_callTy call_int_str (by rfl) T.f_int (by decide +kernel) (pa_cons (pe_ix (ix_listK (K := K) rfl) (pv 1) pe_int (fun _ _ => rfl)) pa_nil)) pa_nil))))))), ?_⟩
  refine ⟨_, rfl, ⟨_, rfl⟩, _, _, rfl, rfl, rfl, line_le (by rw [SX.S_len]; omega), fun p hp => ?_⟩
  rw [show ((" " : Str)) = S [32] by rfl, split_words, map_S_V]
  have e0 : Same H (upd H p (.lst ((words x).map sv))) := (Same.refl H).upd1 hp
  have hl : SqL K (upd H p (.lst ((words x).map sv))) p ((words x).map sv) := SqL.of upd_same
  generalize upd H p (.lst ((words x).map sv)) = H1 at e0 hl ⊢
  refine ⟨_, rfl, p, _, rfl, .inl hl, rfl, _, rfl, ?_⟩
  refine if_decN (words_dec 3) (fun h3 => ?_) (fun h3 => ?_)
  · refine iteT ?_
    exact k0 (cellP_len h3) _ e0
  obtain ⟨a, b, c, hw⟩ := len3 h3
  rw [hw] at hl
  refine ⟨_, rfl, p, _, 0, _, rfl, rfl, hl, rfl, rfl, _, rfl, ?_⟩
  have wl : ∀ p ∈ words x, p.length ≤ 1000000 := fun p hp => Nat.le_trans (spl1_len hp) hx
  refine if_decN (congrArg not (txt_dec (x := a) (y := wCell) (by rfl))) (fun h => ?_) (fun h1 => ?_)
  · refine iteT ?_
    exact k0 (cellP_no hw fun q => h q.1) _ e0
  refine ⟨_, rfl, p, _, 1, _, rfl, rfl, hl, rfl, b, rfl, ?_, fun H' e => ⟨_, rfl, ?_⟩⟩
  · have := wl b (by rw [hw]; simp); omega
  have hl' := e.seq hl
  refine if_notB (fun h2 => ?_) (fun h2 => ?_)
  · refine iteT ?_
    exact k0 (cellP_no hw fun q => by rw [h2] at q; exact nomatch q.2.1) _ (e0.trans e)
  refine ⟨_, rfl, p, _, 2, _, rfl, rfl, hl', rfl, He.ga K "COUNTS", _, rfl, .inr (T.t_COUNTS _), rfl, by decide, _, rfl, ?_⟩
  refine if_decN (inC c) (fun h => ?_) (fun h3 => ?_)
  · exact k0 (cellP_no hw fun q => h q.2.2) _ (e0.trans e)
  obtain ⟨d, rfl, hd⟩ := cntW_one h3
  refine ⟨_, rfl, p, _, 1, _, rfl, rfl, hl', rfl, _, rfl, p, _, 2, _, rfl, rfl, hl', rfl, _, (d : Int) - 48, rfl, ?_, by rw [SX.S_len]; exact (by decide : 1 ≤ 640), line_le (by show 2 ≤ _; omega), fun q hq => ?_⟩
  · exact intOne hd
  exact k1 _ (cellP_yes hw h1 h2 hd) _ _ ((e0.trans e).upd1 hq) upd_same
abbrev N__law_cell_of : List Str := ["_law_line_here", "_law_words", "_law_sign"]
theorem sc__law_cell_of : FnScope N__law_cell_of ["_law_line_here"] (defScope s__law_cell_of) := ⟨rfl, rfl, rfl, by decide +kernel, rfl, by decide +kernel, by decide +kernel⟩
theorem cl__law_cell_of (T : Txt K mg) : Cl P w K mg base CX0 2 "_law_cell_of" spCellOf [] := by
  refine cl0 T.d__law_cell_of sc__law_cell_of (fun _ _ _ _ _ _ us hl => match us, hl with | [_], _ => rfl) (fun vs H Q E h => by obtain ⟨_, rfl, _⟩ := h; rfl) fun f cdv A outer s H vs Q E hr h => ?_
  obtain ⟨x, rfl, hx, ha, k0, k1⟩ := h
  refine ⟨_, (pss_cons (ps_set (i := 1) sc__law_cell_of.nd rfl (Or.inl rfl) (pe_split (pv 0) pe_str))
    (pss_cons (ps_if (PW.pt (pw_or (pt_cmpR op_ne (pe_callB (call_len_seqK (K := K) rfl) (by rfl) T.f_len PySem.boot_len (pa_cons (pv 1) pa_nil)) pe_int (nomark _)) (pw_or (pt_cmpR op_ne (pe_ix (ix_listK (K := K) rfl) (pv 1) pe_int (fun _ _ => rfl)) pe_str (nomark _)) (pw_or (pt_cmpR op_lt (pe_callB call_len_str (by rfl) T.f_len PySem.boot_len (pa_cons (pe_ix (ix_listK (K := K) rfl) (pv 1) pe_int (fun _ _ => rfl)) pa_nil)) pe_int (nomark _)) (pw_or (pt_cmpR op_gt (pe_callB call_len_str (by rfl) T.f_len PySem.boot_len (pa_cons (pe_ix (ix_listK (K := K) rfl) (pv 1) pe_int (fun _ _ => rfl)) pa_nil)) pe_int (nomark _)) (pw_or1 (pt_cmpR (op_notIn_seqK (K := K) rfl) (pe_ix (ix_listK (K := K) rfl) (pv 1) pe_int (fun _ _ => rfl)) (pe_lst (pa_cons pe_str (pa_cons pe_str (pa_cons pe_str (pa_cons pe_str pa_nil))))) (by rfl))))))))
    (pss_one (ps_ret pe_non))
    pss_nil)
    (pss_cons (ps_if (pt_cmpR (op_neDK (K := K) rfl hr.units) (pe_lc (own := [("_law_sign", 2)]) rfl sc__law_cell_of.nd (pi_str (pe_ix (ix_listK (K := K) rfl) (pv 1) pe_int (fun _ _ => rfl))) (blkOk_by (N := N__law_cell_of) (sc := defScope s__law_cell_of) (by decide +kernel)) (fun _ _ _ _ _ => pg_name (i := 2) sc__law_cell_of.nd rfl (Or.inl rfl)) (fun _ _ _ _ _ => pts_one (pt_cmpR op_notIn_sign (pv 2) pe_str (by rfl))) (fun _ _ _ _ _ => (pv 2))) (pe_lst pa_nil) (nomark _))
    (pss_one (ps_ret pe_non))
    pss_nil)
    (pss_one (ps_ret (pe_tup (pa_cons (pe_ix (ix_listK (K := K) rfl) (pv 1) pe_int (fun _ _ => rfl)) (pa_cons (pe_callTy call_int_str (by rfl) T.f_int (by decide +kernel) (pa_cons (pe_ix (ix_listK (K := K) rfl) (pv 1) pe_int (fun _ _ => rfl)) pa_nil)) pa_nil)))))))), ?_⟩
  refine ⟨_, rfl, ⟨_, rfl⟩, _, _, rfl, rfl, rfl, line_le (by rw [SX.S_len]; omega), fun p hp => ?_⟩
  rw [show ((" " : Str)) = S [32] by rfl, split_words, map_S_V]
  have e0 : Same H (upd H p (.lst ((words x).map sv))) := (Same.refl H).upd1 hp
  have hl : SqL K (upd H p (.lst ((words x).map sv))) p ((words x).map sv) := SqL.of upd_same
  generalize upd H p (.lst ((words x).map sv)) = H1 at e0 hl ⊢
  refine ⟨_, rfl, p, _, rfl, .inl hl, rfl, _, rfl, ?_⟩
  refine if_decN (words_dec 3) (fun h3 => ?_) (fun h3 => ?_)
  · refine iteT ?_
    exact k0 (cellP_len h3) _ e0
  obtain ⟨a, b, c, hw⟩ := len3 h3
  rw [hw] at hl
  refine ⟨_, rfl, p, _, 0, _, rfl, rfl, hl, rfl, rfl, _, rfl, ?_⟩
  have wl : ∀ p ∈ words x, p.length ≤ 1000000 := fun p hp => Nat.le_trans (spl1_len hp) hx
  refine if_decN (congrArg not (txt_dec (x := a) (y := wCell) (by rfl))) (fun h => ?_) (fun h1 => ?_)
  · refine iteT ?_
    exact k0 (cellP_no hw fun q => h q.1) _ e0
  have hb := wl b (by rw [hw]; simp)
  refine ⟨_, rfl, p, _, 1, _, rfl, rfl, hl, rfl, _, rfl, line_le (by rw [SX.S_len]; omega), _, _, rfl, rfl, _, rfl, ?_⟩
  rw [SX.S_len]
  refine if_int (fun h => ?_) (fun h2 => ?_)
  · refine iteT ?_
    exact k0 (cellP_no hw fun q => by have := nameB_len q.2.1; omega) _ e0
  refine ⟨_, rfl, p, _, 1, _, rfl, rfl, hl, rfl, _, rfl, line_le (by rw [SX.S_len]; omega), _, _, rfl, rfl, _, rfl, ?_⟩
  rw [SX.S_len]
  refine if_int (fun h => ?_) (fun h3 => ?_)
  · refine iteT ?_
    exact k0 (cellP_no hw fun q => by have := nameB_len q.2.1; omega) _ e0
  refine ⟨_, rfl, p, _, 2, _, rfl, rfl, hl, rfl, ?_⟩
  refine ⟨by decide, fun p2 hp2 => ⟨p2, _, rfl, .inl (SqL.of upd_same), rfl, by decide, _, rfl, ?_⟩⟩
  have e1 := e0.upd1 (o := .lst [.str "1", .str "2", .str "3", .str "4"]) hp2
  have hl1 := ((Same.refl H1).upd1 (o := .lst [.str "1", .str "2", .str "3", .str "4"]) hp2).seq hl
  generalize upd H1 p2 (.lst [.str "1", .str "2", .str "3", .str "4"]) = H2 at e1 hl1 ⊢
  refine if_decN (inC c) (fun h => ?_) (fun h4 => ?_)
  · exact k0 (cellP_no hw fun q => h q.2.2) _ e1
  obtain ⟨d, rfl, hd⟩ := cntW_one h4
  refine ⟨_, rfl, p, _, 1, _, rfl, rfl, hl1, rfl, _, rfl, fun D hD => ?_⟩
  refine lc_signs hD b (fun c => !decide (c ∈ letters)) (fun c => sv [c]) (by omega) ?_ ?_
  · intro c H2 hc e
    refine ⟨_, gv_name, rfl, ?_, fun H3 e3 _ Q q => ?_⟩
    · intro Q q
      exact ⟨_, rfl, c, _, rfl, rfl, _, rfl, q _ (Same.refl _)⟩
    · exact ⟨_, rfl, q _ (Same.refl _)⟩
  intro H' e hD'
  have hD2 : H' D = some (.lst ((((b.filter fun c => !decide (c ∈ letters))).map fun c => [c]).map sv)) := by rw [hD', List.map_map] <;> rfl
  have hbx : ∀ c ∈ b, c ∈ x := spl1_mem (c := 32) (x := x) (by show b ∈ words x; rw [hw]; simp)
  refine ⟨by decide, fun p3 hp3 => ⟨_, _, dp_strs (((Same.refl H').upd1 hp3).seq (SqL.of hD2)), dp_strs (ys := []) (SqL.of upd_same), shaped_strs ?_, shaped_strs (fun _ h => nomatch h), _, rfl, ?_⟩⟩
  · intro y hy d hd
    obtain ⟨c, hc, rfl⟩ := List.mem_map.mp hy
    rw [List.mem_singleton.mp hd]
    exact ha c (hbx c (List.mem_filter.mp hc).1)
  have e2 := (e1.trans e).upd1 (o := .lst []) hp3
  have hl2 := ((Same.refl H').upd1 (o := .lst []) hp3).seq (e.seq hl1)
  generalize upd H' p3 (.lst []) = H3 at e2 hl2 ⊢
  refine if_decN (congrArg not (eqv_strs ((b.filter fun c => !decide (c ∈ letters)).map fun c => [c]) [])) (fun h => ?_) (fun h5 => ?_)
  · exact k0 (cellP_no hw fun q => h (by rw [all_none (nameB_all q.2.1)]; rfl)) _ e2
  have hn : nameB b = true := by
    unfold nameB
    rw [decide_eq_true (by omega : 1 ≤ b.length), decide_eq_true (by omega : b.length ≤ 6), none_all (List.map_eq_nil_iff.mp h5)] <;> rfl
  refine ⟨_, rfl, p, _, 1, _, rfl, rfl, hl2, rfl, _, rfl, p, _, 2, _, rfl, rfl, hl2, rfl, _, (d : Int) - 48, rfl, ?_, by rw [SX.S_len]; exact (by decide : 1 ≤ 640), line_le (by show 2 ≤ _; omega), fun q hq => ?_⟩
  · exact intOne hd
  exact k1 _ (cellP_yes hw h1 hn hd) _ _ (e2.upd1 hq) upd_same
abbrev N_seed_of : List Str := ["line", "words", "sign"]
theorem sc_seed_of : FnScope N_seed_of ["line"] (defScope s_seed_of) := ⟨rfl, rfl, rfl, by decide +kernel, rfl, by decide +kernel, by decide +kernel⟩
theorem cl_seed_of (T : Txt K mg) : Cl P w K mg base CX0 2 "seed_of" spSeedOf [] := by
  refine cl0 T.d_seed_of sc_seed_of (fun _ _ _ _ _ _ us hl => match us, hl with | [_], _ => rfl) (fun vs H Q E h => by obtain ⟨_, rfl, _⟩ := h; rfl) fun f cdv A outer s H vs Q E hr h => ?_
  obtain ⟨x, rfl, hx, ha, k0, k1⟩ := h
  refine ⟨_, (pss_cons (ps_set (i := 1) sc_seed_of.nd rfl (Or.inl rfl) (pe_split (pv 0) pe_str))
    (pss_cons (ps_if (PW.pt (pw_or (pt_cmpR op_ne (pe_callB (call_len_seqK (K := K) rfl) (by rfl) T.f_len PySem.boot_len (pa_cons (pv 1) pa_nil)) pe_int (nomark _)) (pw_or (pt_cmpR op_ne (pe_ix (ix_listK (K := K) rfl) (pv 1) pe_int (fun _ _ => rfl)) pe_str (nomark _)) (pw_or1 (pt_cmpR op_eq (pe_ix (ix_listK (K := K) rfl) (pv 1) pe_int (fun _ _ => rfl)) pe_str (nomark _))))))
    (pss_one (ps_ret pe_non))
    pss_nil)
    (pss_cons (ps_if (pt_not (pt_val (pe_callB (cr_allK (K := K) rfl rfl) (by rfl) T.f_all (by decide +kernel) (pa_cons (pe_lc (own := [("sign", 2)]) rfl sc_seed_of.nd (pi_str (pe_ix (ix_listK (K := K) rfl) (pv 1) pe_int (fun _ _ => rfl))) (blkOk_by (N := N_seed_of) (sc := defScope s_seed_of) (by decide +kernel)) (fun _ _ _ _ _ => pg_name (i := 2) sc_seed_of.nd rfl (Or.inl rfl)) (fun _ _ _ _ _ => pts_nil) (fun _ _ _ _ _ => (pe_cmpR op_in_sign (pv 2) pe_str (by rfl)))) pa_nil))))
    (pss_one (ps_ret pe_non))
    pss_nil)
    (pss_one (ps_ret (pe_ix (ix_listK (K := K) rfl) (pv 1) pe_int (fun _ _ => rfl))))))), ?_⟩
  refine ⟨_, rfl, ⟨_, rfl⟩, _, _, rfl, rfl, rfl, line_le (by rw [SX.S_len]; omega), fun p hp => ?_⟩
  rw [show ((" " : Str)) = S [32] by rfl, split_words, map_S_V]
  have e0 : Same H (upd H p (.lst ((words x).map sv))) := (Same.refl H).upd1 hp
  have hl : SqL K (upd H p (.lst ((words x).map sv))) p ((words x).map sv) := SqL.of upd_same
  generalize upd H p (.lst ((words x).map sv)) = H1 at e0 hl ⊢
  refine ⟨_, rfl, p, _, rfl, .inl hl, rfl, _, rfl, ?_⟩
  refine if_decN (words_dec 2) (fun h3 => ?_) (fun h3 => ?_)
  · refine iteT ?_
    exact k0 (seedP_len h3) _ e0
  obtain ⟨a, b, hw⟩ := len2 h3
  rw [hw] at hl
  have hb : b.length ≤ 1000000 := Nat.le_trans (spl1_len (x := x) (by show b ∈ words x; rw [hw]; simp)) hx
  refine ⟨_, rfl, p, _, 0, _, rfl, rfl, hl, rfl, rfl, _, rfl, ?_⟩
  refine if_decN (congrArg not (txt_dec (x := a) (y := wSeed) (by rfl))) (fun h => ?_) (fun h1 => ?_)
  · refine iteT ?_
    exact k0 (seedP_no hw fun q => h q.1) _ e0
  refine ⟨_, rfl, p, _, 1, _, rfl, rfl, hl, rfl, rfl, _, rfl, ?_⟩
  refine if_dec (txt_dec (x := b) (y := []) (by rfl)) (fun h => ?_) (fun h2 => ?_)
  · exact k0 (seedP_no hw fun q => q.2.1 h) _ e0
  refine ⟨_, rfl, p, _, 1, _, rfl, rfl, hl, rfl, _, rfl, fun D hD => ?_⟩
  refine lc_signs hD b (fun _ => true) (fun c => .bl (decide (c ∈ marks))) (by omega) ?_ ?_
  · intro c H2 hc e
    refine ⟨_, gv_name, rfl, evT_yes, fun H3 e3 _ Q q => ?_⟩
    exact ⟨_, rfl, c, _, rfl, rfl, q _ (Same.refl _)⟩
  · intro H' e hD'
    rw [filter_all] at hD'
    have hl' : H' D = some (.lst ((b.map fun c => decide (c ∈ marks)).map V.bl)) := by rw [hD', List.map_map] <;> rfl
    refine ⟨D, _, rfl, SqL.of hl', _, rfl, ?_⟩
    rw [all_map]
    refine if_notB (fun h3 => ?_) (fun h3 => ?_)
    · exact k0 (seedP_no hw fun q => by rw [h3] at q; exact nomatch q.2.2) _ (e0.trans e)
    · exact ⟨_, rfl, p, _, 1, _, rfl, rfl, e.seq hl, rfl, k1 _ (seedP_yes hw ⟨h1, h2, h3⟩) _ (e0.trans e)⟩
abbrev N__law_seed_of : List Str := ["_law_line_here", "_law_words", "_law_sign"]
theorem sc__law_seed_of : FnScope N__law_seed_of ["_law_line_here"] (defScope s__law_seed_of) := ⟨rfl, rfl, rfl, by decide +kernel, rfl, by decide +kernel, by decide +kernel⟩
theorem cl__law_seed_of (T : Txt K mg) : Cl P w K mg base CX0 2 "_law_seed_of" spSeedOf [] := by
  refine cl0 T.d__law_seed_of sc__law_seed_of (fun _ _ _ _ _ _ us hl => match us, hl with | [_], _ => rfl) (fun vs H Q E h => by obtain ⟨_, rfl, _⟩ := h; rfl) fun f cdv A outer s H vs Q E hr h => ?_
  obtain ⟨x, rfl, hx, ha, k0, k1⟩ := h
  refine ⟨_, (pss_cons (ps_set (i := 1) sc__law_seed_of.nd rfl (Or.inl rfl) (pe_split (pv 0) pe_str))
    (pss_cons (ps_if (PW.pt (pw_or (pt_cmpR op_ne (pe_callB (call_len_seqK (K := K) rfl) (by rfl) T.f_len PySem.boot_len (pa_cons (pv 1) pa_nil)) pe_int (nomark _)) (pw_or (pt_cmpR op_ne (pe_ix (ix_listK (K := K) rfl) (pv 1) pe_int (fun _ _ => rfl)) pe_str (nomark _)) (pw_or (pt_cmpR op_eq (pe_ix (ix_listK (K := K) rfl) (pv 1) pe_int (fun _ _ => rfl)) pe_str (nomark _)) (pw_or1 (pt_cmpR (op_neDK (K := K) rfl hr.units) (pe_lc (own := [("_law_sign", 2)]) rfl sc__law_seed_of.nd (pi_str (pe_ix (ix_listK (K := K) rfl) (pv 1) pe_int (fun _ _ => rfl))) (blkOk_by (N := N__law_seed_of) (sc := defScope s__law_seed_of) (by decide +kernel)) (fun _ _ _ _ _ => pg_name (i := 2) sc__law_seed_of.nd rfl (Or.inl rfl)) (fun _ _ _ _ _ => pts_one (pt_cmpR op_notIn_sign (pv 2) pe_str (by rfl))) (fun _ _ _ _ _ => (pv 2))) (pe_lst pa_nil) (nomark _)))))))
    (pss_one (ps_ret pe_non))
    pss_nil)
    (pss_one (ps_ret (pe_ix (ix_listK (K := K) rfl) (pv 1) pe_int (fun _ _ => rfl)))))), ?_⟩
  refine ⟨_, rfl, ⟨_, rfl⟩, _, _, rfl, rfl, rfl, line_le (by rw [SX.S_len]; omega), fun p hp => ?_⟩
  rw [show ((" " : Str)) = S [32] by rfl, split_words, map_S_V]
  have e0 : Same H (upd H p (.lst ((words x).map sv))) := (Same.refl H).upd1 hp
  have hl : SqL K (upd H p (.lst ((words x).map sv))) p ((words x).map sv) := SqL.of upd_same
  generalize upd H p (.lst ((words x).map sv)) = H1 at e0 hl ⊢
  refine ⟨_, rfl, p, _, rfl, .inl hl, rfl, _, rfl, ?_⟩
  refine if_decN (words_dec 2) (fun h3 => ?_) (fun h3 => ?_)
  · refine iteT ?_
    exact k0 (seedP_len h3) _ e0
  obtain ⟨a, b, hw⟩ := len2 h3
  rw [hw] at hl
  have hb : b.length ≤ 1000000 := Nat.le_trans (spl1_len (x := x) (by show b ∈ words x; rw [hw]; simp)) hx
  refine ⟨_, rfl, p, _, 0, _, rfl, rfl, hl, rfl, rfl, _, rfl, ?_⟩
  refine if_decN (congrArg not (txt_dec (x := a) (y := wSeed) (by rfl))) (fun h => ?_) (fun h1 => ?_)
  · refine iteT ?_
    exact k0 (seedP_no hw fun q => h q.1) _ e0
  refine ⟨_, rfl, p, _, 1, _, rfl, rfl, hl, rfl, rfl, _, rfl, ?_⟩
  refine if_dec (txt_dec (x := b) (y := []) (by rfl)) (fun h => ?_) (fun h2 => ?_)
  · refine iteT ?_
    exact k0 (seedP_no hw fun q => q.2.1 h) _ e0
  refine ⟨_, rfl, p, _, 1, _, rfl, rfl, hl, rfl, _, rfl, fun D hD => ?_⟩
  refine lc_signs hD b (fun c => !decide (c ∈ marks)) (fun c => sv [c]) (by omega) ?_ ?_
  · intro c H2 hc e
    refine ⟨_, gv_name, rfl, ?_, fun H3 e3 _ Q q => ?_⟩
    · intro Q q
      exact ⟨_, rfl, c, _, rfl, rfl, _, rfl, q _ (Same.refl _)⟩
    · exact ⟨_, rfl, q _ (Same.refl _)⟩
  · intro H' e hD'
    have hD2 : H' D = some (.lst ((((b.filter fun c => !decide (c ∈ marks))).map fun c => [c]).map sv)) := by rw [hD', List.map_map] <;> rfl
    have hbx : ∀ c ∈ b, c ∈ x := spl1_mem (c := 32) (x := x) (by show b ∈ words x; rw [hw]; simp)
    refine ⟨by decide, fun p3 hp3 => ⟨_, _, dp_strs (((Same.refl H').upd1 hp3).seq (SqL.of hD2)), dp_strs (ys := []) (SqL.of upd_same), shaped_strs ?_, shaped_strs (fun _ h => nomatch h), _, rfl, ?_⟩⟩
    · intro y hy d hd
      obtain ⟨c, hc, rfl⟩ := List.mem_map.mp hy
      rw [List.mem_singleton.mp hd]
      exact ha c (hbx c (List.mem_filter.mp hc).1)
    have e2 := (e0.trans e).upd1 (o := .lst []) hp3
    have hl2 := ((Same.refl H').upd1 (o := .lst []) hp3).seq (e.seq hl)
    generalize upd H' p3 (.lst []) = H3 at e2 hl2 ⊢
    refine if_decN (congrArg not (eqv_strs ((b.filter fun c => !decide (c ∈ marks)).map fun c => [c]) [])) (fun h => ?_) (fun h5 => ?_)
    · exact k0 (seedP_no hw fun q => h (by rw [all_none q.2.2]; rfl)) _ e2
    · exact ⟨_, rfl, p, _, 1, _, rfl, rfl, hl2, rfl, k1 _ (seedP_yes hw ⟨h1, h2, none_all (List.map_eq_nil_iff.mp h5)⟩) _ e2⟩
end
end NT
namespace NT
open PySem PySem.Spec PyProof.Rows L2
open SX (S)
def lead {α : Type} (p : List Nat → Option α) : List (List Nat) → List α
  | [] => []
  | y :: ys => match p y with
    | none => []
    | some c => c :: lead p ys
theorem lead_take {α : Type} {p : List Nat → Option α} : ∀ (i : Nat) (ys : List (List Nat)) (cs : List α), (ys.take i).map p = cs.map some → lead p ys = cs ++ lead p (ys.drop i)
  | 0, ys, cs, h => by
    rw [List.take_zero] at h
    have : cs = [] := List.map_eq_nil_iff.mp h.symm
    rw [this]; rfl
  | i + 1, [], cs, h => by
    have : cs = [] := List.map_eq_nil_iff.mp h.symm
    rw [this]; rfl
  | i + 1, y :: ys, [], h => by cases h
  | i + 1, y :: ys, c :: cs, h => by
    rw [List.take_succ_cons, List.map_cons, List.map_cons] at h
    injection h with h1 h2
    show (match p y with | none => [] | some c => c :: lead p ys) = _
    rw [h1]
    show c :: lead p ys = c :: (cs ++ lead p (ys.drop i))
    rw [lead_take i ys cs h2]
theorem lead_stop {α : Type} {p : List Nat → Option α} {i : Nat} {ys : List (List Nat)} {cs : List α} {y : List Nat} (h : (ys.take i).map p = cs.map some) (hi : ys[i]? = some y) (hp : p y = none) : lead p ys = cs := by
  rw [lead_take i ys cs h]
  obtain ⟨hl, e⟩ := List.getElem?_eq_some_iff.mp hi
  rw [List.drop_eq_getElem_cons hl, e]
  show cs ++ (match p y with | none => [] | some c => c :: lead p _) = cs
  rw [hp, List.append_nil]
theorem lead_end {α : Type} {p : List Nat → Option α} {ys : List (List Nat)} {cs : List α} (h : (ys.take ys.length).map p = cs.map some) : lead p ys = cs := by
  rw [lead_take ys.length ys cs h, List.drop_length]
  exact List.append_nil _
theorem lead_more {α : Type} {p : List Nat → Option α} {i : Nat} {ys : List (List Nat)} {cs : List α} {y : List Nat} {c : α} (h : (ys.take i).map p = cs.map some) (hi : ys[i]? = some y) (hp : p y = some c) : (ys.take (i + 1)).map p = (cs ++ [c]).map some := by
  rw [take_snoc hi, List.map_append, h, List.map_append]
  show _ ++ [p y] = _
  rw [hp]; rfl
theorem CellsAt.snoc {H : Hp} {a p : Addr} {cs : List Cell} {c : Cell} (h : CellsAt H a cs) (hp : H p = some (.tup [sv c.1, .int c.2])) : ∃ xs, H a = some (.lst xs) ∧ xs.length = cs.length ∧ CellsAt (upd H a (.lst (xs ++ [.ref p]))) a (cs ++ [c]) := by
  obtain ⟨ps, rfl, ha, hps⟩ := h
  have ne : ∀ q t, H q = some (.tup t) → q ≠ a := fun q t hq e => by rw [e, ha] at hq; cases hq
  refine ⟨_, ha, by simp, ps ++ [(p, c)], by simp, by rw [upd_same]; simp, fun z hz => ?_⟩
  rcases List.mem_append.mp hz with hz | hz
  · rw [upd_ne (ne _ _ (hps z hz))]; exact hps z hz
  · rw [List.mem_singleton.mp hz]
    show upd H a _ p = _
    rw [upd_ne (ne _ _ hp)]; exact hp
theorem tyL {K : PySem.W.Frag} {H : Hp} {a : Addr} {xs : List V} (h : H a = some (.lst xs)) : tyV K "list" (.ref a) H := .inl ⟨rfl, _, SqL.of h⟩
def okLines (ys : List (List Nat)) : Prop := ys.length ≤ 1000000 ∧ ∀ y ∈ ys, y.length ≤ 1000000 ∧ asc y
def spLeadC (K : PySem.W.Frag) : Sp := fun vs H Q _ => ∃ (a : Addr) (ys : List (List Nat)), vs = [.ref a] ∧ SqL K H a (ys.map sv) ∧ okLines ys ∧ ∀ H' b, Same H H' → H b = none → CellsAt H' b (lead cellP ys) → Q (.ref b) H'
def spLeadS (K : PySem.W.Frag) : Sp := fun vs H Q _ => ∃ (a : Addr) (ys : List (List Nat)), vs = [.ref a] ∧ SqL K H a (ys.map sv) ∧ okLines ys ∧ ∀ H' b, Same H H' → H b = none → StrsAt H' b (lead seedP ys) → Q (.ref b) H'
section
variable {P : Program} {w : World} {K : PySem.W.Frag} {mg : Str → Option Value} {base : Heap}
abbrev N_leading_cells : List Str := ["lines", "found", "line", "cell"]
theorem sc_leading_cells : FnScope N_leading_cells ["lines"] (defScope s_leading_cells) := ⟨rfl, rfl, rfl, by decide +kernel, rfl, by decide +kernel, by decide +kernel⟩
theorem cl_leading_cells (T : Txt K mg) : Cl P w K mg base CX0 3 "leading_cells" (spLeadC K) [] := by
  refine cl0 T.d_leading_cells sc_leading_cells (fun _ _ _ _ _ _ us hl => match us, hl with | [_], _ => rfl) (fun vs H Q E h => by obtain ⟨_, _, rfl, _⟩ := h; rfl) fun f cdv A outer s H vs Q E hr h => ?_
  obtain ⟨a, ys, rfl, ha, ⟨hn, hy⟩, k⟩ := h
  refine ⟨_, (pss_cons (ps_set (i := 1) sc_leading_cells.nd rfl (Or.inl rfl) (pe_lst pa_nil))
    (pss_cons (ps_for PassesOwn.never rfl (pi_listK (K := K) rfl (pv 0)) (pg_name (i := 2) sc_leading_cells.nd rfl (Or.inl rfl))
    (pss_cons (ps_set (i := 3) sc_leading_cells.nd rfl (Or.inl rfl) (pe_cl (cl_cell_of T) hr (by decide) (by rfl) (pa_cons (pv 2) pa_nil)))
    (pss_cons (ps_if (pt_cmpR op_isN (pv 3) pe_non (nomark _))
    (pss_one (ps_ret (pv 1)))
    pss_nil)
    (pss_one (ps_expr (pe_appK (K := K) rfl (pv 1) (pa_cons (pv 3) pa_nil)))))))
    (pss_one (ps_ret (pv 1))))), ?_⟩
  refine ⟨by decide, fun b hb => ?_⟩
  refine ⟨_, rfl, a, rfl, ⟨_, ((Same.refl H).upd1 hb).seq ha⟩, ?_⟩
  refine for_it (walk_list (xs := ys.map sv)) (fun i σ H' => ∃ o1 o2 cs, σ = [some (.ref a), some (.ref b), o1, o2] ∧ Same H H' ∧ CellsAt H' b cs ∧ (ys.take i).map cellP = cs.map some) ?_ ?_ ?_ ?_
  · exact ⟨none, none, [], rfl, (Same.refl H).upd1 hb, ⟨[], rfl, upd_same, fun z hz => nomatch hz⟩, rfl⟩
  · rintro i σ H' hi ⟨o1, o2, cs, rfl, e, hc, hcs⟩
    exact e.seq ha
  · rintro i x σ H' H1 hi ⟨o1, o2, cs, rfl, e, hc, hcs⟩ ⟨rfl, hx⟩
    rw [List.getElem?_map] at hx
    obtain ⟨y, hyi, rfl⟩ := Option.map_eq_some_iff.mp hx
    obtain ⟨hy1, hy2⟩ := hy y (List.mem_of_getElem? hyi)
    refine ⟨_, rfl, y, rfl, hy1, hy2, fun hn1 H2 e2 => ?_, fun c hc1 H2 p e2 hp => ?_⟩
    · refine ⟨_, rfl, rfl, _, rfl, if_dec rfl (fun _ => ⟨_, rfl, ?_⟩) (fun h => absurd rfl h)⟩
      refine k _ _ (e.trans e2) hb ?_
      rw [lead_stop hcs hyi hn1]
      exact hc.same e2
    · refine ⟨_, rfl, rfl, _, rfl, if_dec rfl (fun h => nomatch h) (fun _ => ?_)⟩
      obtain ⟨xs, hb2, hlen, hc2⟩ := (hc.same e2).snoc hp
      refine ⟨_, rfl, tyL hb2, _, rfl, b, xs, _, rfl, rfl, hb2, line_lt ?_, _, _, _, rfl, ((e.trans e2).mut1 hb), hc2, lead_more hcs hyi hc1⟩
      have := congrArg List.length hcs
      rw [List.length_map, List.length_map, List.length_take] at this
      omega
  · rintro σ H' ⟨o1, o2, cs, rfl, e, hc, hcs⟩
    rw [List.length_map] at hcs
    refine ⟨_, rfl, ?_⟩
    refine k _ _ e hb ?_
    rw [lead_end hcs]; exact hc
abbrev N_leading_seeds : List Str := ["lines", "found", "line", "seed"]
theorem sc_leading_seeds : FnScope N_leading_seeds ["lines"] (defScope s_leading_seeds) := ⟨rfl, rfl, rfl, by decide +kernel, rfl, by decide +kernel, by decide +kernel⟩
theorem cl_leading_seeds (T : Txt K mg) : Cl P w K mg base CX0 3 "leading_seeds" (spLeadS K) [] := by
  refine cl0 T.d_leading_seeds sc_leading_seeds (fun _ _ _ _ _ _ us hl => match us, hl with | [_], _ => rfl) (fun vs H Q E h => by obtain ⟨_, _, rfl, _⟩ := h; rfl) fun f cdv A outer s H vs Q E hr h => ?_
  obtain ⟨a, ys, rfl, ha, ⟨hn, hy⟩, k⟩ := h
  refine ⟨_, (pss_cons (ps_set (i := 1) sc_leading_seeds.nd rfl (Or.inl rfl) (pe_lst pa_nil))
    (pss_cons (ps_for PassesOwn.never rfl (pi_listK (K := K) rfl (pv 0)) (pg_name (i := 2) sc_leading_seeds.nd rfl (Or.inl rfl))
    (pss_cons (ps_set (i := 3) sc_leading_seeds.nd rfl (Or.inl rfl) (pe_cl (cl_seed_of T) hr (by decide) (by rfl) (pa_cons (pv 2) pa_nil)))
    (pss_cons (ps_if (pt_cmpR op_isN (pv 3) pe_non (nomark _))
    (pss_one (ps_ret (pv 1)))
    pss_nil)
    (pss_one (ps_expr (pe_appK (K := K) rfl (pv 1) (pa_cons (pv 3) pa_nil)))))))
    (pss_one (ps_ret (pv 1))))), ?_⟩
  refine ⟨by decide, fun b hb => ?_⟩
  refine ⟨_, rfl, a, rfl, ⟨_, ((Same.refl H).upd1 hb).seq ha⟩, ?_⟩
  refine for_it (walk_list (xs := ys.map sv)) (fun i σ H' => ∃ o1 o2 cs, σ = [some (.ref a), some (.ref b), o1, o2] ∧ Same H H' ∧ StrsAt H' b cs ∧ (ys.take i).map seedP = cs.map some) ?_ ?_ ?_ ?_
  · exact ⟨none, none, [], rfl, (Same.refl H).upd1 hb, upd_same, rfl⟩
  · rintro i σ H' hi ⟨o1, o2, cs, rfl, e, hc, hcs⟩
    exact e.seq ha
  · rintro i x σ H' H1 hi ⟨o1, o2, cs, rfl, e, hc, hcs⟩ ⟨rfl, hx⟩
    rw [List.getElem?_map] at hx
    obtain ⟨y, hyi, rfl⟩ := Option.map_eq_some_iff.mp hx
    obtain ⟨hy1, hy2⟩ := hy y (List.mem_of_getElem? hyi)
    refine ⟨_, rfl, y, rfl, hy1, hy2, fun hn1 H2 e2 => ?_, fun c hc1 H2 e2 => ?_⟩
    · refine ⟨_, rfl, rfl, _, rfl, if_dec rfl (fun _ => ⟨_, rfl, ?_⟩) (fun h => absurd rfl h)⟩
      refine k _ _ (e.trans e2) hb ?_
      rw [lead_stop hcs hyi hn1]
      exact hc.same e2
    · refine ⟨_, rfl, rfl, _, rfl, if_dec rfl (fun h => nomatch h) (fun _ => ?_)⟩
      have hb2 := hc.same e2
      refine ⟨_, rfl, tyL hb2, _, rfl, b, _, _, rfl, rfl, hb2, line_lt ?_, _, _, cs ++ [c], rfl, ((e.trans e2).mut1 hb), ?_, lead_more hcs hyi hc1⟩
      · have := congrArg List.length hcs
        rw [List.length_map, List.length_map, List.length_take] at this
        rw [List.length_map]
        omega
      · show upd _ _ _ _ = _
        rw [upd_same, List.map_append]; rfl
  · rintro σ H' ⟨o1, o2, cs, rfl, e, hc, hcs⟩
    rw [List.length_map] at hcs
    refine ⟨_, rfl, ?_⟩
    refine k _ _ e hb ?_
    rw [lead_end hcs]; exact hc
end
end NT
namespace NT
open PySem PySem.Spec PyProof.Rows L2 L2H HotX LamX
open SX (S)
theorem _root_.L2.PE.imp {X : Cx} {e : Expr} {t t' : TE} (h : PE X e t) (i : ∀ σ H Q, t' σ H Q → t σ H Q) : PE X e t' := ⟨fun pins s σ H Q I q => h.run pins s σ H Q I (i σ H Q q)⟩
/-! ### a static method called through its class -/
def tSM (C : Addr) (sp : Sp) (E : XK) (ta : TE) (t : TA) : TE := fun σ H Q => ta σ H fun x H1 => x = .ref C ∧ t σ H1 fun vs H2 => sp vs H2 Q E
theorem pe_smeth {X : Cx} {CX : CXT} {k : Nat} {C p g : Addr} {mc : Value} {sp : Sp} {E : XK} {o e : Expr} {es : List Expr} {m : Str} {pos apos : Pos} {ta : TE} {t : TA} {fd : FuncData} {ps : List Str} {pl : Sem Bool}
    (he : PE X o ta) (r : ClX.CRead X.K C mc) (c : PySem.W.findCls X.K (.ref C) mc m = some (.get (.builtin "staticmethod.__get__") (.ref p) .none (.ref C))) (rc : ∃ rest, PySem.W.recIn X.K p "staticmethod" = some (.ref g :: rest))
    (F : FnOk X.prog X.w X.K X.mg X.base CX k g fd ps sp) (hB : Binds X.K fd ps []) (hk : PySem.W.keepIn X.K (.ref g) = true) (hr : Room k X.A) (hx : Passes CX X E) (ha : PA X (e :: es) t)
    (hst : starEach (e :: es) X.env = (false, eval e X.env) :: starEach es X.env := by rfl) (hpl : (backTo pos (starEach es X.env)).any (·.1) = false := by rfl)
    (ht : eval (.Call (.Attribute o m apos) (e :: es) [] pos) X.env = (do
      let ov ← eval o X.env
      standAt apos.atName
      let (f, first) ← holding [ov] (getMethod ov m pl)
      callWith pos f first (backTo pos (starEach (e :: es) X.env)) (backToKw pos (keywordEach [] X.env))) := by rfl) :
    PE X (.Call (.Attribute o m apos) (e :: es) [] pos) (tSM C sp E ta t) := by
  refine ⟨fun pins s σ H Q I h => ?_⟩
  refine PySem.W.methodCall_KW (pl := pl) (thn (he.run pins s σ H _ I h) fun u s1 ⟨x, H1, I1, rx, ex, q⟩ => ?_) ht
  subst ex
  obtain rfl : u = Value.ref C := rx
  obtain ⟨rest, hp⟩ := rc
  refine PySem.W.method_cls I1.kIn r.ga (PySem.W.cls_bind I1.kIn r.rd c (wpAny_call (PySem.W.sm_get (s := { s1 with toks := s1.toks + 1 }) I1.kIn hp (PySem.W.handed_on rfl ?_))))
  refine PySem.W.callWith_K (h₀ := X.base) I.ok.mod.kin hk (thn (ha.run pos pins _ σ H1 _ (I1.tok _) q) fun us s2 ⟨vs, H2, I2, rv, q2⟩ => ⟨I2.kIn, ?_⟩) hst hpl
  have q2 : sp (vs ++ []) H2 Q E := by rw [List.append_nil]; exact q2
  exact run_fn F hr hB .nil hx I2 rv q2
/-! ### the fields of the error -/
abbrev cIT (K : PySem.W.Frag) : Addr := He.ga K "InvalidText"
abbrev itF (y l : V) : List (Str × V) := [("code", .str "InvalidText"), ("why", y), ("line", l)]
def spField (K : PySem.W.Frag) : SpX := fun p vs H Q _ => ∃ (dd : Addr) (y l : V), vs = [.ref p.1] ∧ Zc (.ref (cIT K)) (some dd) p.2 ∧ (∃ vs, p.2.data = .fields vs) ∧ H dd = some (.xd (itF y l)) ∧ ∀ H' q, Same H H' → H' q = some (.tup [l, y]) → Q (.ref q) H'
section
variable {P : Program} {w : World} {K : PySem.W.Frag} {mg : Str → Option Value} {base : Heap}
abbrev N__law_field : List Str := ["_law_e"]
theorem sc__law_field : FnScope N__law_field ["_law_e"] (defScope s__law_field) := ⟨rfl, rfl, rfl, by decide +kernel, rfl, by decide +kernel, by decide +kernel⟩
theorem fs__law_field (T : Txt K mg) : ∃ fd, FnS P w K mg base 1 (He.ga K "_law_field") fd ["_law_e"] (spField K) ∧ Binds K fd ["_law_e"] [] ∧ PySem.W.keepIn K (.ref (He.ga K "_law_field")) = true := by
  obtain ⟨fd, F⟩ := T.d__law_field.fd
  have hB : Binds K fd ["_law_e"] [] := F.bindsN (fun _ _ _ _ _ _ us hl => match us, hl with | [_], _ => rfl)
  have kp := F.kp
  obtain ⟨oc, od, dV, kV, doc, pm, an, cdv, ct, osl, rfl, lk, hcd, _, _⟩ := F.ex
  refine ⟨_, fn_ofS lk hcd sc__law_field (fun p vs H Q E h => by obtain ⟨_, _, _, rfl, _⟩ := h; rfl) fun A outer s H vs Q pp hr h => ?_, hB, kp⟩
  obtain ⟨dd, y, l, rfl, hz, hf, hd, k⟩ := h
  refine ⟨_, (pss_cons (ps_if (pt_cmpR (op_in_seqK (K := K) rfl) (pe_xfP (pp := pp) (List.mem_singleton.mpr rfl) T.x_InvalidText.xf T.x_InvalidText.nc (pv 0)) (pe_lst (pa_cons pe_str (pa_cons pe_str pa_nil))) (by rfl))
    (pss_one ps_never)
    pss_nil)
    (pss_cons (ps_if (pt_cmpR (op_in_seqK (K := K) rfl) (pe_xfP (pp := pp) (List.mem_singleton.mpr rfl) T.x_InvalidText.xf T.x_InvalidText.nc (pv 0)) (pe_lst (pa_cons pe_str (pa_cons pe_str (pa_cons pe_str (pa_cons pe_str pa_nil))))) (by rfl))
    (pss_one ps_never)
    pss_nil)
    (pss_cons (ps_if (pt_cmpR (op_in_seqK (K := K) rfl) (pe_xfP (pp := pp) (List.mem_singleton.mpr rfl) T.x_InvalidText.xf T.x_InvalidText.nc (pv 0)) (pe_lst (pa_cons pe_str (pa_cons pe_str pa_nil))) (by rfl))
    (pss_one ps_never)
    pss_nil)
    (pss_cons (ps_if (pt_cmpR op_eq (pe_xfP (pp := pp) (List.mem_singleton.mpr rfl) T.x_InvalidText.xf T.x_InvalidText.nc (pv 0)) pe_str (nomark _))
    (pss_one ps_never)
    pss_nil)
    (pss_cons (ps_if (pt_cmpR op_eq (pe_xfP (pp := pp) (List.mem_singleton.mpr rfl) T.x_InvalidText.xf T.x_InvalidText.nc (pv 0)) pe_str (nomark _))
    (pss_one ps_never)
    pss_nil)
    (pss_cons (ps_if (pt_cmpR op_eq (pe_xfP (pp := pp) (List.mem_singleton.mpr rfl) T.x_InvalidText.xf T.x_InvalidText.nc (pv 0)) pe_str (nomark _))
    (pss_one ps_never)
    pss_nil)
    (pss_cons (ps_if (pt_cmpR op_eq (pe_xfP (pp := pp) (List.mem_singleton.mpr rfl) T.x_InvalidText.xf T.x_InvalidText.nc (pv 0)) pe_str (nomark _))
    (pss_one ps_never)
    pss_nil)
    (pss_cons (ps_if (pt_cmpR op_eq (pe_xfP (pp := pp) (List.mem_singleton.mpr rfl) T.x_InvalidText.xf T.x_InvalidText.nc (pv 0)) pe_str (nomark _))
    (pss_one ps_never)
    pss_nil)
    (pss_one (ps_ret (pe_ifExp (pt_cmpR op_eq (pe_xfP (pp := pp) (List.mem_singleton.mpr rfl) T.x_InvalidText.xf T.x_InvalidText.nc (pv 0)) pe_str (nomark _)) (pe_tup (pa_cons (pe_xfP (pp := pp) (List.mem_singleton.mpr rfl) T.x_InvalidText.xf T.n_InvalidText_line (pv 0)) (pa_cons (pe_xfP (pp := pp) (List.mem_singleton.mpr rfl) T.x_InvalidText.xf T.n_InvalidText_why (pv 0)) pa_nil))) (pe_tup pa_nil)))))))))))), ?_⟩
  refine ⟨_, rfl, rfl, hf, dd, _, _, hz, hd, rfl, line_le (by decide), fun p1 hp1 => ⟨p1, _, rfl, .inl (SqL.of upd_same), rfl, by decide, _, rfl, iteF ?_⟩⟩
  have e1 := (Same.refl H).upd1 (o := .lst [.str "BadCells", .str "BadSeed"]) hp1
  generalize upd H p1 (.lst [.str "BadCells", .str "BadSeed"]) = H1 at e1 ⊢
  refine ⟨_, rfl, rfl, hf, dd, _, _, hz, e1 _ _ hd, rfl, line_le (by decide), fun p2 hp2 => ⟨p2, _, rfl, .inl (SqL.of upd_same), rfl, by decide, _, rfl, iteF ?_⟩⟩
  have e2 := e1.upd1 (o := .lst [.str "BadRow", .str "NotInBand", .str "NotFull", .str "IsFull"]) hp2
  generalize upd H1 p2 (.lst [.str "BadRow", .str "NotInBand", .str "NotFull", .str "IsFull"]) = H2 at e2 ⊢
  refine ⟨_, rfl, rfl, hf, dd, _, _, hz, e2 _ _ hd, rfl, line_le (by decide), fun p3 hp3 => ⟨p3, _, rfl, .inl (SqL.of upd_same), rfl, by decide, _, rfl, iteF ?_⟩⟩
  have e3 := e2.upd1 (o := .lst [.str "BadNumber", .str "BadRatio"]) hp3
  generalize upd H2 p3 (.lst [.str "BadNumber", .str "BadRatio"]) = H3 at e3 ⊢
  refine ⟨_, rfl, rfl, hf, dd, _, _, hz, e3 _ _ hd, rfl, rfl, _, rfl, if_dec (p := False) (by decide) (fun h => h.elim) (fun _ => ?_)⟩
  refine ⟨_, rfl, rfl, hf, dd, _, _, hz, e3 _ _ hd, rfl, rfl, _, rfl, if_dec (p := False) (by decide) (fun h => h.elim) (fun _ => ?_)⟩
  refine ⟨_, rfl, rfl, hf, dd, _, _, hz, e3 _ _ hd, rfl, rfl, _, rfl, if_dec (p := False) (by decide) (fun h => h.elim) (fun _ => ?_)⟩
  refine ⟨_, rfl, rfl, hf, dd, _, _, hz, e3 _ _ hd, rfl, rfl, _, rfl, if_dec (p := False) (by decide) (fun h => h.elim) (fun _ => ?_)⟩
  refine ⟨_, rfl, rfl, hf, dd, _, _, hz, e3 _ _ hd, rfl, rfl, _, rfl, if_dec (p := False) (by decide) (fun h => h.elim) (fun _ => ?_)⟩
  refine ⟨_, rfl, rfl, hf, dd, _, _, hz, e3 _ _ hd, rfl, rfl, _, rfl, if_dec (p := True) (by decide) (fun _ => ?_) (fun h => (h trivial).elim)⟩
  refine ⟨_, rfl, rfl, hf, dd, _, _, hz, e3 _ _ hd, rfl, _, rfl, rfl, hf, dd, _, _, hz, e3 _ _ hd, rfl, line_le (by show 2 ≤ _; omega), fun q hq => ?_⟩
  exact k _ _ (e3.upd1 hq) upd_same
end
end NT
namespace NT
open PySem PySem.Spec PyProof.Rows L2 L2H HotX LamX
open SX (S)
theorem _root_.L2.PSs.imp {X : Cx} {b : List Stmt} {t t' : TS} (h : PSs X b t) (i : ∀ D σ H, t' D σ H → t D σ H) : PSs X b t' := ⟨fun pins s σ H D I q => h.run pins s σ H D I (i D σ H q)⟩
theorem _root_.L2.PSs.impI {X : Cx} {b : List Stmt} {t t' : TS} (h : PSs X b t) (i : ∀ D σ H, σ.length = X.N.length → t' D σ H → t D σ H) : PSs X b t' := ⟨fun pins s σ H D I q => h.run pins s σ H D I (i D σ H I.len q)⟩
theorem _root_.L2.PSs.exi {X : Cx} {b : List Stmt} {ι : Type} {C : ι → Prop} {t : ι → TS} (h : ∀ i, C i → PSs X b (t i)) : PSs X b (fun D σ H => ∃ i, C i ∧ t i D σ H) := ⟨fun pins s σ H D I q => by
  obtain ⟨i, c, q⟩ := q
  exact (h i c).run pins s σ H D I q⟩
section
variable {P : Program} {w : World} {K : PySem.W.Frag} {mg : Str → Option Value} {base : Heap}
abbrev N__law_try : List Str := ["_law_ask", "_law_e"]
theorem sc__law_try : FnScope N__law_try ["_law_ask"] (defScope s__law_try) := ⟨rfl, rfl, rfl, by decide +kernel, rfl, by decide +kernel, by decide +kernel⟩
/-- the error that is caught: told by code and fields -/
def ETry (K : PySem.W.Frag) (Q : VK) : XK := fun cls d H' => ∃ (dd : Addr) (y l : V), cls = .ref (cIT K) ∧ d = some dd ∧ H' dd = some (.xd (itF y l)) ∧ ∀ H'' p q, Same H' H'' → H'' q = some (.tup [l, y]) → H'' p = some (.tup [.str "InvalidText", .ref q]) → Q (.ref p) H''
def TTry (K : PySem.W.Frag) : (XK → Hp → VK → Prop) → Hp → VK → Prop := fun tl H Q => tl (ETry K Q) H fun v H' => [V.str "", v].length ≤ sizeLine ∧ ∀ p, H' p = none → Q (.ref p) (upd H' p (.tup [.str "", v]))
theorem try_gives {X : Cx} {g : Addr} {cdg : Value} {q : Str} (T : Txt X.K X.mg) (hr : Room 4 X.A) :
    GivesTo X N__law_try "_law_try" (defScope s__law_try) g cdg (defBody s__law_try) "_law_ask" q (TTry X.K) := by
  intro f c' s H Q tl act hc h
  obtain ⟨fd, F, hB, kp⟩ := fs__law_field (P := X.prog) (w := X.w) (base := X.base) T
  have hr' : Room 3 (X.A.deeper (envOfC "_law_try" (defScope s__law_try) s.heap.objs.size g cdg)) := hr.deeper _
  refine ⟨_, pss_one (ps_try_as2 (X := (cxOf C8.CX0 X.prog X.w X.K X.mg X.base N__law_try "_law_try" (defScope s__law_try) g cdg X.A X.stack s H C8.E0).nox) (c1 := .ref (He.ga X.K "TellsError")) (c2 := .ref (He.ga X.K "Missing")) (i := 1)
      (tb := fun W D σ H => ∃ Ech : XK, (∀ cls d σ' H', Ech cls d H' → W cls d σ' H') ∧ σ[0]? = some (some (.ref f)) ∧ H c' = some (CodeO c' q) ∧ tl Ech H fun v H' => [V.str "", v].length ≤ sizeLine ∧ ∀ p, H' p = none → D.rt (.ref p) (upd H' p (.tup [.str "", v])))
      (ts := fun a cls d D σ H => (σ.length = 2 → σ[1]? = some (some (.ref a))) ∧ ∃ (dd : Addr) (y l : V), cls = .ref (cIT X.K) ∧ d = some dd ∧ H dd = some (.xd (itF y l)) ∧ ∀ H'' p q, Same H H'' → H'' q = some (.tup [l, y]) → H'' p = some (.tup [.str "InvalidText", .ref q]) → D.rt (.ref p) H'')
      rfl rfl sc__law_try.nd rfl (by rfl) ⟨by rfl, by decide, .inl T.g_TellsError⟩ ⟨by rfl, by decide, .inl T.g_Missing⟩ (fun W pn xe tk _ => ?_) (fun a oe cls d pn hz hf => ?_)), ?_⟩
  · refine PSs.exi fun Ech hW => PSs.imp (pss_one (ps_ret (pe_tup (pa_cons pe_str (pa_cons (act W pn xe Ech _ _ tk hW) pa_nil))))) fun D σ H' h' => ?_
    obtain ⟨h1, h2, h3⟩ := h'
    exact ⟨h1, h2, h3⟩
  · refine PSs.impI (pss_one (ps_ret (pe_tup (pa_cons (pe_xf (C := cIT X.K) T.x_InvalidText.xf T.x_InvalidText.nc hz hf (pv 1)) (pa_cons (pe_callSu F (roomH_mark (hr'.mono (by decide)) _) List.mem_cons_self (by rfl) T.d__law_field.gm kp hB (pa_cons (pv 1) pa_nil)) pa_nil))))) fun D σ H' hl h' => ?_
    obtain ⟨h1, dd, y, l, rfl, rfl, h2, h3⟩ := h'
    have h1 := h1 hl
    refine ⟨_, h1, rfl, rfl, dd, _, _, rfl, h2, rfl, _, h1, dd, y, l, rfl, hz, hf, h2, fun H'' q e hq => ⟨line_le (by show 2 ≤ _; omega), fun p hp => ?_⟩⟩
    exact h3 _ p q (e.upd1 hp) (by rw [upd_ne (ne_of_none hq hp)]; exact hq) upd_same
  · refine ⟨ETry X.K Q, ?_, rfl, hc, h⟩
    rintro cls d σ' H' ⟨dd, y, l, rfl, rfl, h2, h3⟩
    refine ⟨T.xa_InvalidText, fun a ha => ⟨fun hl => ?_, dd, y, l, rfl, rfl, h2, h3⟩⟩
    rw [List.length_set] at hl
    rw [List.getElem?_set_self (by omega)]
end
end NT
namespace NT
open PySem PySem.Spec PyProof.Rows L2
/-! ### rows grown from the blank one -/
abbrev Row := List Nat
def ext1 (x : Row) (l : List Row) (s : Row) : List Row := if overL s x ∈ l then l else l ++ [overL s x]
def ext (ss : List Row) (x : Row) (l : List Row) : List Row := ss.foldl (ext1 x) l
def lv (ss : List Row) (n : Nat) : Nat → List Row
  | 0 => [List.replicate n 46]
  | i + 1 => match (lv ss n i)[i]? with
    | none => lv ss n i
    | some x => ext ss x (lv ss n i)
def TooBig (ss : List Row) (n cap : Nat) : Prop := ∃ i, i ≤ cap ∧ cap < (lv ss n i).length
theorem ext1_app (x : Row) (l : List Row) (s : Row) : ∃ t, ext1 x l s = l ++ t := by
  unfold ext1
  by_cases h : overL s x ∈ l
  · rw [if_pos h]; exact ⟨[], (List.append_nil _).symm⟩
  · rw [if_neg h]; exact ⟨_, rfl⟩
theorem ext_app (x : Row) : ∀ (ss : List Row) (l : List Row), ∃ t, ext ss x l = l ++ t
  | [], l => ⟨[], (List.append_nil _).symm⟩
  | s :: ss, l => by
    obtain ⟨t, h⟩ := ext1_app x l s
    obtain ⟨u, k⟩ := ext_app x ss (ext1 x l s)
    exact ⟨t ++ u, by show ext ss x (ext1 x l s) = _; rw [k, h, List.append_assoc]⟩
theorem ext1_nodup {x : Row} {l : List Row} (s : Row) (h : l.Nodup) : (ext1 x l s).Nodup := by
  unfold ext1
  by_cases e : overL s x ∈ l
  · rw [if_pos e]; exact h
  · rw [if_neg e, List.nodup_append]
    refine ⟨h, by simp, fun a ha b hb q => ?_⟩
    rw [List.mem_singleton.mp hb] at q
    exact e (q ▸ ha)
theorem ext_nodup {x : Row} : ∀ (ss : List Row) {l : List Row}, l.Nodup → (ext ss x l).Nodup
  | [], _, h => h
  | s :: ss, _, h => ext_nodup ss (ext1_nodup s h)
theorem ext1_len (x : Row) (l : List Row) (s : Row) : (ext1 x l s).length ≤ l.length + 1 := by
  unfold ext1
  by_cases e : overL s x ∈ l
  · rw [if_pos e]; omega
  · rw [if_neg e, List.length_append]; exact Nat.le_refl _
theorem ext_len (x : Row) : ∀ (ss l : List Row), (ext ss x l).length ≤ l.length + ss.length
  | [], l => Nat.le_refl _
  | s :: ss, l => by
    have h1 := ext_len x ss (ext1 x l s)
    have h2 := ext1_len x l s
    show (ext ss x (ext1 x l s)).length ≤ _
    rw [List.length_cons]; omega
theorem overL_len {s x : Row} {n : Nat} (h1 : s.length = n) (h2 : x.length = n) : (overL s x).length = n := by
  unfold overL
  rw [List.length_map, List.length_zip, h1, h2, Nat.min_self]
theorem ext1_rows {n : Nat} {x : Row} {l : List Row} {s : Row} (hs : s.length = n) (hx : x.length = n) (hl : ∀ r ∈ l, r.length = n) : ∀ r ∈ ext1 x l s, r.length = n := by
  unfold ext1
  by_cases e : overL s x ∈ l
  · rw [if_pos e]; exact hl
  · rw [if_neg e]
    intro r hr
    rcases List.mem_append.mp hr with q | q
    · exact hl r q
    · rw [List.mem_singleton.mp q]; exact overL_len hs hx
theorem ext_rows {n : Nat} {x : Row} (hx : x.length = n) : ∀ {ss : List Row} {l : List Row}, (∀ s ∈ ss, s.length = n) → (∀ r ∈ l, r.length = n) → ∀ r ∈ ext ss x l, r.length = n
  | [], _, _, hl => hl
  | s :: ss, l, hs, hl => ext_rows hx (ss := ss) (l := ext1 x l s) (fun z hz => hs z (List.mem_cons_of_mem _ hz)) (ext1_rows (hs s List.mem_cons_self) hx hl)
theorem ext_snoc (x : Row) (ss : List Row) (s : Row) (l : List Row) : ext (ss ++ [s]) x l = ext1 x (ext ss x l) s := by
  unfold ext; rw [List.foldl_append]; rfl
section
variable {ss : List Row} {n : Nat}
theorem lv_app (i : Nat) : ∃ t, lv ss n (i + 1) = lv ss n i ++ t := by
  show ∃ t, (match (lv ss n i)[i]? with | none => lv ss n i | some x => ext ss x (lv ss n i)) = _
  cases (lv ss n i)[i]? with
  | none => exact ⟨[], (List.append_nil _).symm⟩
  | some x => exact ext_app x ss _
theorem lv_le {i j : Nat} (h : i ≤ j) : (lv ss n i).length ≤ (lv ss n j).length := by
  induction h with
  | refl => exact Nat.le_refl _
  | @step m _ ih =>
    obtain ⟨t, e⟩ := lv_app (ss := ss) (n := n) m
    rw [e, List.length_append]; omega
theorem lv_next {i : Nat} {x : Row} (h : (lv ss n i)[i]? = some x) : lv ss n (i + 1) = ext ss x (lv ss n i) := by
  show (match (lv ss n i)[i]? with | none => lv ss n i | some x => ext ss x (lv ss n i)) = _
  rw [h]
theorem lv_stay {i : Nat} (h : (lv ss n i).length ≤ i) : lv ss n (i + 1) = lv ss n i := by
  show (match (lv ss n i)[i]? with | none => lv ss n i | some x => ext ss x (lv ss n i)) = _
  rw [List.getElem?_eq_none h]
theorem lv_closed {i : Nat} (h : (lv ss n i).length ≤ i) : ∀ j, i ≤ j → lv ss n j = lv ss n i := by
  intro j hj
  induction hj with
  | refl => rfl
  | @step m hm ih =>
    rw [lv_stay (by rw [ih]; have : i ≤ m := hm; omega), ih]
theorem lv_nodup (i : Nat) : (lv ss n i).Nodup := by
  induction i with
  | zero => exact List.nodup_cons.mpr ⟨by simp, List.nodup_nil⟩
  | succ i ih =>
    show (match (lv ss n i)[i]? with | none => lv ss n i | some x => ext ss x (lv ss n i)).Nodup
    cases (lv ss n i)[i]? with
    | none => exact ih
    | some x => exact ext_nodup ss ih
theorem lv_rows (hs : ∀ s ∈ ss, s.length = n) (i : Nat) : ∀ r ∈ lv ss n i, r.length = n := by
  induction i with
  | zero => intro r hr; rw [List.mem_singleton.mp hr]; exact List.length_replicate
  | succ i ih =>
    intro r hr
    have hr : r ∈ (match (lv ss n i)[i]? with | none => lv ss n i | some x => ext ss x (lv ss n i)) := hr
    cases q : (lv ss n i)[i]? with
    | none => rw [q] at hr; exact ih r hr
    | some x =>
      rw [q] at hr
      exact ext_rows (ih x (List.mem_of_getElem? q)) hs ih r hr
theorem not_big {cap j : Nat} (h1 : (lv ss n j).length ≤ j) (h2 : (lv ss n j).length ≤ cap) : ¬ TooBig ss n cap := by
  rintro ⟨i, hi, h⟩
  by_cases e : j ≤ i
  · rw [lv_closed h1 i e] at h; omega
  · have := lv_le (ss := ss) (n := n) (show i ≤ j by omega); omega
/-- never more than the cap through turn cap: closed -/
theorem not_big_cap {cap : Nat} (h : (lv ss n cap).length ≤ cap) : ¬ TooBig ss n cap := not_big h h
/-- where the growing stops: the first turn at which the list is closed or above the cap -/
def Stop (ss : List Row) (n cap j : Nat) : Prop := (¬ (j < (lv ss n j).length ∧ (lv ss n j).length ≤ cap)) ∧ ∀ i, i < j → i < (lv ss n i).length ∧ (lv ss n i).length ≤ cap
theorem stop_uniq {cap i j : Nat} (h1 : Stop ss n cap i) (h2 : Stop ss n cap j) : i = j := by
  rcases Nat.lt_trichotomy i j with h | h | h
  · exact absurd (h2.2 i h) h1.1
  · exact h
  · exact absurd (h1.2 j h) h2.1
theorem stop_big {cap j : Nat} (hc : 1 ≤ cap) (h : Stop ss n cap j) : cap < (lv ss n j).length ↔ TooBig ss n cap := by
  constructor
  · intro q
    refine ⟨j, ?_, q⟩
    cases j with
    | zero => have : (lv ss n 0).length = 1 := rfl; omega
    | succ i => have := h.2 i (Nat.lt_succ_self i); omega
  · intro q
    by_cases e : cap < (lv ss n j).length
    · exact e
    · exfalso
      have h1 := h.1
      exact not_big (j := j) (by omega) (by omega) q
end
end NT
namespace NT
open PySem PySem.Spec PyProof.Rows L2
open SX (S)
def OkC (cs : List Cell) : Prop := 1 ≤ cs.length ∧ cs.length ≤ 12 ∧ (cs.map (·.1)).Nodup
def goodCells (cs : List Cell) : Prop := ∀ c ∈ cs, nameB c.1 = true ∧ 1 ≤ c.2 ∧ c.2 ≤ 4
/-- whatever TellsError is let out, the old objects as they were -/
def RaisesT (K : PySem.W.Frag) (H : Hp) (E : XK) : Prop := ∀ cls d H', PySem.W.exmOne K cls (.ref (He.ga K "TellsError")) = some true → Same H H' → E cls d H'
def spCheckC (K : PySem.W.Frag) : Sp := fun vs H Q E => ∃ (a : Addr) (cs : List Cell), vs = [.ref a] ∧ CellsAt H a cs ∧ goodCells cs ∧ cs.length ≤ 1000000 ∧ (OkC cs → ∀ H', Same H H' → Q .non H') ∧ (¬ OkC cs → RaisesT K H E)
theorem take_mem_of_not_nodup {α β : Type} {f : α → β} {l : List α} {i : Nat} {x : α} (h : (l.map f).Nodup) (hi : l[i]? = some x) : f x ∉ (l.take i).map f := by
  intro hm
  obtain ⟨y, hy, e⟩ := List.mem_map.mp hm
  obtain ⟨j, hj, ej⟩ := List.mem_iff_getElem.mp hy
  rw [List.length_take] at hj
  obtain ⟨hl, ei⟩ := List.getElem?_eq_some_iff.mp hi
  rw [List.getElem_take] at ej
  have := (List.getElem_inj (xs := l.map f) (h₀ := by rw [List.length_map]; omega) (h₁ := by rw [List.length_map]; omega) h).mp (by rw [List.getElem_map, List.getElem_map, ej, ei, e] : (l.map f)[j]'(by rw [List.length_map]; omega) = (l.map f)[i]'(by rw [List.length_map]; omega))
  omega
theorem snoc_nodup {α : Type} {l : List α} {x : α} (h : l.Nodup) (hx : x ∉ l) : (l ++ [x]).Nodup := by
  rw [List.nodup_append]
  refine ⟨h, by simp, fun a ha b hb e => ?_⟩
  rw [List.mem_singleton.mp hb] at e
  exact hx (e ▸ ha)
theorem kitAny_hit {K : PySem.W.Frag} {t c : Value} {r : List Value} (h : PySem.W.kitOne K t c = some true) : PySem.W.kitAny K t (c :: r) = some true := by
  unfold PySem.W.kitAny; rw [h]
theorem kitAny_miss {K : PySem.W.Frag} {t c : Value} {r : List Value} (h : PySem.W.kitOne K t c = some false) : PySem.W.kitAny K t (c :: r) = PySem.W.kitAny K t r := by
  rw [PySem.W.kitAny, h]
section
variable {P : Program} {w : World} {K : PySem.W.Frag} {mg : Str → Option Value} {base : Heap}
abbrev N_check_cells : List Str := ["cells", "names", "at", "cell", "name", "many"]
theorem sc_check_cells : FnScope N_check_cells ["cells"] (defScope s_check_cells) := ⟨rfl, rfl, rfl, by decide +kernel, rfl, by decide +kernel, by decide +kernel⟩
theorem cl_check_cells (T : Txt K mg) : Cl P w K mg base (L2N.CX P w) 4 "check_cells" (spCheckC K) [] := by
  refine clX T.d_check_cells sc_check_cells (fun _ _ _ _ _ _ us hl => match us, hl with | [_], _ => rfl) (fun vs H Q E h => by obtain ⟨_, _, rfl, _⟩ := h; rfl) fun f cdv A outer s H vs Q E hr h => ?_
  obtain ⟨a, cs, rfl, hc, hg, hn, k0, k1⟩ := h
  refine ⟨_, (pss_cons (ps_if (PW.pt (pw_or (pt_not (pt_val (pe_callB (call_isiTK (K := K) rfl) (by rfl) T.f_isinstance (by decide +kernel) (pa_cons (pv 0) (pa_cons (pe_tup (pa_cons (pe_bltn (v := .ty "list") (u := .type "list") (by rfl) T.f_list (by decide +kernel) rfl) (pa_cons (pe_bltn (v := .ty "tuple") (u := .type "tuple") (by rfl) T.f_tuple (by decide +kernel) rfl) pa_nil))) pa_nil))))) (pw_or1 (pt_not (pt_chain op_le op_le pe_int (pe_callB (call_len_seqK (K := K) rfl) (by rfl) T.f_len PySem.boot_len (pa_cons (pv 0) pa_nil)) (C8.pe_gc (by rfl) T.v_MOST_CELLS))))))
    (pss_one (L2N.ps_raise rfl (L2N.takes_of rfl rfl rfl rfl) (pmkN_BadCells T (hr.mono (by decide)) (by rfl) (pa_cons (pe_un un_neg pe_int) pa_nil))))
    pss_nil)
    (pss_cons (ps_set (i := 1) sc_check_cells.nd rfl (Or.inl rfl) (pe_lst pa_nil))
    (pss_one (ps_for (passes_of rfl) rfl (pi_enumK (K := K) rfl (by rfl) T.f_enumerate (pa_cons (pv 0) pa_nil)) (pg_pairK (K := K) (i := 2) (j := 3) rfl rfl sc_check_cells.nd rfl rfl (Or.inl rfl) (Or.inl rfl) (Or.inl rfl) (Or.inl rfl))
    (pss_cons (ps_if (PW.pt (pw_or (pt_not (pt_val (pe_callB (call_isiK' (K := K) rfl) (by rfl) T.f_isinstance (by decide +kernel) (pa_cons (pv 3) (pa_cons (pe_bltn (v := .ty "tuple") (u := .type "tuple") (by rfl) T.f_tuple (by decide +kernel) rfl) pa_nil))))) (pw_or1 (pt_cmpR op_ne (pe_callB (call_len_seqK (K := K) rfl) (by rfl) T.f_len PySem.boot_len (pa_cons (pv 3) pa_nil)) pe_int (nomark _)))))
    (pss_one (L2N.ps_raise rfl (L2N.takes_of rfl rfl rfl rfl) (pmkN_BadCells T (hr.mono (by decide)) (by rfl) (pa_cons (pv 2) pa_nil))))
    pss_nil)
    (pss_cons (ps_asg (pv 3) (pg_pairK (K := K) (i := 4) (j := 5) rfl rfl sc_check_cells.nd rfl rfl (Or.inl rfl) (Or.inl rfl) (Or.inl rfl) (Or.inl rfl)))
    (pss_cons (ps_if (PW.pt (pw_or (pt_not (pt_val (pe_cl (cl_is_name T) hr (by decide) (by rfl) (pa_cons (pv 4) pa_nil)))) (pw_or (pt_not (pt_val (pe_cl (cl_is_number T) hr (by decide) (by rfl) (pa_cons (pv 5) (pa_cons pe_int (pa_cons (C8.pe_gc (by rfl) T.v_MOST_VALUES) pa_nil)))))) (pw_or1 (pt_cmpR (op_in_seqK (K := K) rfl) (pv 4) (pv 1) (by rfl))))))
    (pss_one (L2N.ps_raise rfl (L2N.takes_of rfl rfl rfl rfl) (pmkN_BadCells T (hr.mono (by decide)) (by rfl) (pa_cons (pv 2) pa_nil))))
    pss_nil)
    (pss_one (ps_expr (pe_appK (K := K) rfl (pv 1) (pa_cons (pv 4) pa_nil))))))))))), ?_⟩
  have hc' := hc
  obtain ⟨ps, rfl, ha, hps⟩ := hc
  rw [List.length_map] at hn
  have rz : ∀ {H2 : Hp} {i : Int}, Same H H2 → ¬ OkC (ps.map (·.2)) → ∀ d, H2 d = none → E (.ref (He.ga K "BadCells")) (some d) (upd H2 d (.xd [("code", .str "BadCells"), ("at", .int i)])) := fun e no d hd => k1 no _ _ _ T.x_BadCells.te (e.upd1 hd)
  refine ⟨_, rfl, by decide, fun t1 ht1 => ⟨_, t1, _, _, _, true, rfl, upd_same, .cons (.ty _) (.cons (.ty _) .nil), .base (.lst (by rw [upd_ne (ne_of_none ha ht1)]; exact ha)), kitAny_hit (kit_ty (by decide +kernel)), _, rfl, iteF ?_⟩⟩
  have e1 := (Same.refl H).upd1 (o := .tup [.ty "list", .ty "tuple"]) ht1
  generalize upd H t1 (.tup [.ty "list", .ty "tuple"]) = H1 at e1 ⊢
  refine ⟨_, rfl, a, _, rfl, .inl (SqL.of (e1 _ _ ha)), _, _, rfl, rfl, _, rfl, ?_⟩
  rw [List.length_map]
  refine if_dec (p := 1 ≤ ps.length) (decide_eq_decide.mpr (by omega)) (fun h1 => ⟨_, _, rfl, rfl, _, rfl, ?_⟩) (fun h1 => ?_)
  rotate_left
  · refine ⟨_, rfl, iteT ⟨_, rfl, ?_⟩⟩
    exact mkX1 (rz e1 fun q => h1 (by have := q.1; rwa [List.length_map] at this))
  refine if_notB (fun h2 => ?_) (fun h2 => ?_)
  · refine ⟨_, rfl, ?_⟩
    exact mkX1 (rz e1 fun q => of_decide_eq_false h2 (by have := q.2.1; rw [List.length_map] at this; omega))
  have h2 : (ps.length : Int) ≤ 12 := of_decide_eq_true h2
  refine ⟨by decide, fun b hb => ?_⟩
  have hb0 : H b = none := by
    cases hq : H b with
    | none => rfl
    | some u => rw [e1 _ _ hq] at hb; cases hb
  refine ⟨_, rfl, a, _, rfl, SqL.of ((e1.upd1 hb) _ _ ha), ?_⟩
  refine for_it (walk_enum (xs := ps.map fun z => .ref z.1)) (fun i σ H' => ∃ o1 o2 o3 o4, σ = [some (.ref a), some (.ref b), o1, o2, o3, o4] ∧ Same H H' ∧ H' b = some (.lst (((ps.take i).map (·.2.1)).map sv)) ∧ ((ps.take i).map (·.2.1)).Nodup) ?_ ?_ ?_ ?_
  · exact ⟨none, none, none, none, rfl, e1.upd1 hb, upd_same, List.nodup_nil⟩
  · rintro i σ H' hi ⟨o1, o2, o3, o4, rfl, e, hl, hd⟩
    exact e.seq (SqL.of ha)
  · rintro i x σ H' H2 hi ⟨o1, o2, o3, o4, rfl, e, hl, hd⟩ ⟨t, y1, y2, rfl, ht, rfl, hy1, hy2⟩
    have hy2 : (ps.map fun z => V.ref z.1)[i]? = some y2 := hy2
    rw [List.getElem?_map] at hy2
    obtain ⟨⟨q, nm, k⟩, hz, rfl⟩ := Option.map_eq_some_iff.mp hy2
    cases Option.some.inj hy1
    have hm : (q, nm, k) ∈ ps := List.mem_of_getElem? hz
    obtain ⟨g1, g2, g3⟩ : nameB nm = true ∧ 1 ≤ k ∧ k ≤ 4 := hg _ (List.mem_map.mpr ⟨_, hm, rfl⟩)
    have e2 := e.upd1 (o := .tup [.int (i : Nat), .ref q]) ht
    have hl2 : upd H' t (.tup [.int (i : Nat), .ref q]) b = _ := ((Same.refl H').upd1 (o := .tup [.int (i : Nat), .ref q]) ht) _ _ hl
    have hq2 := e2 _ _ (hps _ hm)
    refine ⟨t, _, rfl, SqT.of upd_same, rfl, _, _, rfl, _, _, rfl, rfl, ?_⟩
    generalize upd H' t (.tup [.int (i : Nat), .ref q]) = H2 at e2 hl2 hq2 ⊢
    refine ⟨_, rfl, _, _, _, _, true, rfl, .ty _, .base (.tup hq2), kit_ty (by decide +kernel), _, rfl, iteF ?_⟩
    refine ⟨_, rfl, q, _, rfl, .inr (SqT.of hq2), rfl, _, rfl, if_decN (p := (2 : Int) = 2) (by rfl) (fun h => absurd rfl h) (fun _ => ?_)⟩
    refine ⟨_, rfl, q, _, rfl, SqT.of hq2, rfl, _, _, rfl, _, _, rfl, rfl, ?_⟩
    refine ⟨_, rfl, nm, rfl, by have := nameB_len g1; omega, fun H3 e3 => ⟨_, rfl, ?_⟩⟩
    refine if_notB (fun h => absurd (h.symm.trans g1) (by decide)) (fun _ => ?_)
    refine ⟨_, rfl, k, 1, 4, rfl, _, rfl, ?_⟩
    rw [decide_eq_true g2, decide_eq_true g3]
    refine iteF ?_
    refine ⟨_, rfl, _, rfl, b, _, rfl, .inl (e3.seq (SqL.of hl2)), rfl, flat_svs _, _, rfl, if_dec (inV_sv nm _) (fun h => ?_) (fun h => ?_)⟩
    · refine ⟨_, rfl, mkX1 (rz (e2.trans e3) fun ok => take_mem_of_not_nodup (f := fun z : Addr × Cell => z.2.1) (by have := ok.2.2; rwa [List.map_map] at this) hz h)⟩
    · refine ⟨_, rfl, tyL (e3 _ _ hl2), _, rfl, b, _, _, rfl, rfl, e3 _ _ hl2, line_lt ?_, _, _, _, _, rfl, (e2.trans e3).mut1 hb0, ?_, ?_⟩
      · rw [List.length_map, List.length_map, List.length_take]; omega
      · rw [upd_same, take_snoc hz, List.map_append, List.map_append]; rfl
      · rw [take_snoc hz, List.map_append]; exact snoc_nodup hd h
  · rintro σ H' ⟨o1, o2, o3, o4, rfl, e, hl, hd⟩
    refine k0 ⟨by rw [List.length_map]; exact h1, by rw [List.length_map]; omega, ?_⟩ _ e
    rw [List.length_map, List.take_length] at hd
    rw [List.map_map]; exact hd
end
end NT
namespace NT
open PySem PySem.Spec PyProof.Rows L2
open SX (S)
theorem cut_to {xs : List V} {i : Nat} (h : i ≤ xs.length) : cutV xs none (some (i : Int)) = xs.take i := by
  unfold cutV
  have e1 : HT.sIx xs.length 0 none = 0 := rfl
  have e2 : HT.sIx xs.length xs.length (some (i : Int)) = i := by
    rw [HT.sIx_nat]; omega
  rw [e1, e2, List.drop_zero, Nat.sub_zero]
theorem cut_from {xs : List V} {i : Nat} (h : i ≤ xs.length) : cutV xs (some (i : Int)) none = xs.drop i := by
  unfold cutV
  have e1 : HT.sIx xs.length 0 (some (i : Int)) = i := by
    rw [HT.sIx_nat]; omega
  have e2 : HT.sIx xs.length xs.length none = xs.length := rfl
  rw [e1, e2]
  exact List.take_of_length_le (by rw [List.length_drop] <;> omega)
def OkS (cs : List Cell) (ss : List (List Nat)) : Prop := ss.length ≤ 30 ∧ (∀ s ∈ ss, rowB cs s = true ∧ s ≠ List.replicate cs.length 46) ∧ ss.Nodup ∧ ∀ i, i < cs.length → ∃ s ∈ ss, s[i]? ≠ some 46
theorem rowB_len {cs : List Cell} {x : List Nat} (h : rowB cs x = true) : x.length = cs.length := by
  unfold rowB at h
  rw [Bool.and_eq_true, decide_eq_true_eq] at h
  exact h.1
def spCheckS (K : PySem.W.Frag) : Sp := fun vs H Q E => ∃ (a b : Addr) (cs : List Cell) (ss : List (List Nat)), vs = [.ref a, .ref b] ∧ CellsAt H a cs ∧ okCounts cs ∧ cs.length ≤ 1000000 ∧ StrsAt H b ss ∧ ss.length ≤ 1000000 ∧ (∀ s ∈ ss, s.length ≤ 1000000) ∧ (OkS cs ss → ∀ H', Same H H' → Q .non H') ∧ (¬ OkS cs ss → RaisesT K H E)
section
variable {P : Program} {w : World} {K : PySem.W.Frag} {mg : Str → Option Value} {base : Heap}
abbrev N_check_seeds : List Str := ["cells", "seeds", "at", "seed", "cell"]
theorem sc_check_seeds : FnScope N_check_seeds ["cells", "seeds"] (defScope s_check_seeds) := ⟨rfl, rfl, rfl, by decide +kernel, rfl, by decide +kernel, by decide +kernel⟩
theorem cl_check_seeds (T : Txt K mg) : Cl P w K mg base (L2N.CX P w) 4 "check_seeds" (spCheckS K) [] := by
  refine clX T.d_check_seeds sc_check_seeds (fun _ _ _ _ _ _ us hl => match us, hl with | [_, _], _ => rfl) (fun vs H Q E h => by obtain ⟨_, _, _, _, rfl, _⟩ := h; rfl) fun f cdv A outer s H vs Q E hr h => ?_
  obtain ⟨a, b, cs, ss, rfl, hc, hg, hn, hs, hn2, hsl, k0, k1⟩ := h
  refine ⟨_, (pss_cons (ps_if (pt_not (pt_val (pe_callB (call_isiTK (K := K) rfl) (by rfl) T.f_isinstance (by decide +kernel) (pa_cons (pv 1) (pa_cons (pe_tup (pa_cons (pe_bltn (v := .ty "list") (u := .type "list") (by rfl) T.f_list (by decide +kernel) rfl) (pa_cons (pe_bltn (v := .ty "tuple") (u := .type "tuple") (by rfl) T.f_tuple (by decide +kernel) rfl) pa_nil))) pa_nil)))))
    (pss_one (L2N.ps_raise rfl (L2N.takes_of rfl rfl rfl rfl) (pmkN_BadSeed T (hr.mono (by decide)) (by rfl) (pa_cons (pe_un un_neg pe_int) pa_nil))))
    pss_nil)
    (pss_cons (ps_if (pt_cmpR op_gt (pe_callB (call_len_seqK (K := K) rfl) (by rfl) T.f_len PySem.boot_len (pa_cons (pv 1) pa_nil)) (C8.pe_gc (by rfl) T.v_MOST_SEEDS) (nomark _))
    (pss_one (L2N.ps_raise rfl (L2N.takes_of rfl rfl rfl rfl) (pmkN_TooMany T (hr.mono (by decide)) (by rfl) (pa_cons (C8.pe_gc (by rfl) T.v_MOST_SEEDS) pa_nil))))
    pss_nil)
    (pss_cons (ps_for (passes_of rfl) rfl (pi_enumK (K := K) rfl (by rfl) T.f_enumerate (pa_cons (pv 1) pa_nil)) (pg_pairK (K := K) (i := 2) (j := 3) rfl rfl sc_check_seeds.nd rfl rfl (Or.inr rfl) (Or.inl rfl) (Or.inl rfl) (Or.inl rfl))
    (pss_one (ps_if (PW.pt (pw_or (pt_not (pt_val (pe_cl (cl_is_row T) hr (by decide) (by rfl) (pa_cons (pv 0) (pa_cons (pv 3) pa_nil))))) (pw_or (pt_cmpR op_eq (pv 3) (pe_cl (cl_blank T) hr (by decide) (by rfl) (pa_cons (pe_callB (call_len_seqK (K := K) rfl) (by rfl) T.f_len PySem.boot_len (pa_cons (pv 0) pa_nil)) pa_nil)) (nomark _)) (pw_or1 (pt_cmpR (op_in_seqK (K := K) rfl) (pv 3) (pe_slice (sl_listK (K := K) rfl) (pv 1) po_none (po_some (pv 2))) (by rfl))))))
    (pss_one (L2N.ps_raise rfl (L2N.takes_of rfl rfl rfl rfl) (pmkN_BadSeed T (hr.mono (by decide)) (by rfl) (pa_cons (pv 2) pa_nil))))
    pss_nil)))
    (pss_one (ps_for (passes_of rfl) rfl (pi_enumK (K := K) rfl (by rfl) T.f_enumerate (pa_cons (pv 0) pa_nil)) (pg_pairK (K := K) (i := 2) (j := 4) rfl rfl sc_check_seeds.nd rfl rfl (Or.inr rfl) (Or.inl rfl) (Or.inl rfl) (Or.inl rfl))
    (pss_one (ps_if (pt_val (pe_callB (cr_allK (K := K) rfl rfl) (by rfl) T.f_all (by decide +kernel) (pa_cons (pe_lc (own := [("seed", 3)]) rfl sc_check_seeds.nd (pi_listK (K := K) rfl (pv 1)) (blkOk_by (N := N_check_seeds) (sc := defScope s_check_seeds) (by decide +kernel)) (fun _ _ _ _ _ => pg_name (i := 3) sc_check_seeds.nd rfl (Or.inl rfl)) (fun _ _ _ _ _ => pts_nil) (fun _ _ _ _ _ => (pe_cmpR op_eq (pe_ix ix_str (pv 3) (pv 2) (fun _ _ => rfl)) pe_str (nomark _)))) pa_nil)))
    (pss_one (L2N.ps_raise rfl (L2N.takes_of rfl rfl rfl rfl) (pmkN_Untold T (hr.mono (by decide)) (by rfl) (pa_cons (pe_ix (ix_tupK (K := K) rfl) (pv 4) pe_int (fun _ _ => rfl)) pa_nil))))
    pss_nil))))))), ?_⟩
  have hc' := hc
  obtain ⟨ps, rfl, ha, hps⟩ := hc
  rw [List.length_map] at hn
  have hsb : SqL K H b (ss.map sv) := SqL.of hs
  have rz : ∀ {H2 : Hp} {i : Int}, Same H H2 → ¬ OkS (ps.map (·.2)) ss → ∀ d, H2 d = none → E (.ref (He.ga K "BadSeed")) (some d) (upd H2 d (.xd [("code", .str "BadSeed"), ("at", .int i)])) := fun e no d hd => k1 no _ _ _ T.x_BadSeed.te (e.upd1 hd)
  refine ⟨_, rfl, by decide, fun t1 ht1 => ⟨_, t1, _, _, _, true, rfl, upd_same, .cons (.ty _) (.cons (.ty _) .nil), .base (.lst (by rw [upd_ne (ne_of_none hs ht1)]; exact hs)), kitAny_hit (kit_ty (by decide +kernel)), _, rfl, iteF ?_⟩⟩
  have e1 := (Same.refl H).upd1 (o := .tup [.ty "list", .ty "tuple"]) ht1
  generalize upd H t1 (.tup [.ty "list", .ty "tuple"]) = H1 at e1 ⊢
  refine ⟨_, rfl, b, _, rfl, .inl (e1.seq hsb), _, _, rfl, rfl, _, rfl, ?_⟩
  rw [List.length_map]
  refine if_dec (p := 30 < ss.length) (decide_eq_decide.mpr (by omega)) (fun h1 => ?_) (fun h1 => ?_)
  · exact mkX1 fun d hd => k1 (fun q => by have := q.1; omega) _ _ _ T.x_TooMany.te (e1.upd1 hd)
  refine ⟨_, rfl, b, _, rfl, e1.seq hsb, ?_⟩
  refine for_it (walk_enum (xs := ss.map sv)) (fun i σ H' => ∃ o1 o2 o3, σ = [some (.ref a), some (.ref b), o1, o2, o3] ∧ Same H H' ∧ (∀ s ∈ ss.take i, rowB (ps.map (·.2)) s = true ∧ s ≠ List.replicate ps.length 46) ∧ (ss.take i).Nodup) ?_ ?_ ?_ ?_
  · exact ⟨none, none, none, rfl, e1, (fun _ h => nomatch h), List.nodup_nil⟩
  · rintro i σ H' hi ⟨o1, o2, o3, rfl, e, hl, hd⟩
    exact e.seq hsb
  · rintro i x σ H' H2 hi ⟨o1, o2, o3, rfl, e, hl, hd⟩ ⟨t, y1, y2, rfl, ht, rfl, hy1, hy2⟩
    have hy2 : (ss.map sv)[i]? = some y2 := hy2
    rw [List.getElem?_map] at hy2
    obtain ⟨x, hx, rfl⟩ := Option.map_eq_some_iff.mp hy2
    cases Option.some.inj hy1
    have hm : x ∈ ss := List.mem_of_getElem? hx
    have e2 := e.upd1 (o := .tup [.int (i : Nat), sv x]) ht
    refine ⟨t, _, rfl, SqT.of upd_same, rfl, _, _, rfl, _, _, rfl, rfl, ?_⟩
    generalize upd H' t (.tup [.int (i : Nat), sv x]) = H2 at e2 ⊢
    refine ⟨_, rfl, _, rfl, a, _, x, rfl, hc'.same e2, hg, hsl x hm, fun H3 e3 => ⟨_, rfl, ?_⟩⟩
    refine if_notB (fun h => ?_) (fun hrow => ?_)
    · refine iteT ⟨_, rfl, mkX1 (rz (e2.trans e3) fun ok => ?_)⟩
      rw [(ok.2.1 x hm).1] at h; cases h
    refine ⟨_, rfl, _, rfl, a, _, rfl, .inl ((e2.trans e3).seq (SqL.of ha)), ps.length, by rw [List.length_map]; rfl, hn, rfl, _, rfl, ?_⟩
    refine if_dec (txt_dec (x := x) (y := List.replicate ps.length 46) rfl) (fun h => ?_) (fun hbl => ?_)
    · refine iteT ⟨_, rfl, mkX1 (rz (e2.trans e3) fun ok => ?_)⟩
      exact (ok.2.1 x hm).2 (by rw [List.length_map]; exact h)
    refine ⟨_, rfl, _, rfl, _, rfl, _, rfl, b, _, rfl, (e2.trans e3).seq hsb, fun p hp => ?_⟩
    have hil : i ≤ (ss.map sv).length := Nat.le_of_lt hi
    rw [cut_to hil, ← List.map_take]
    refine ⟨p, _, rfl, .inl (SqL.of upd_same), rfl, flat_svs _, _, rfl, if_dec (inV_sv x _) (fun h => ?_) (fun h => ?_)⟩
    · refine ⟨_, rfl, mkX1 (rz ((e2.trans e3).upd1 hp) fun ok => ?_)⟩
      exact take_mem_of_not_nodup (f := fun z : List Nat => z) (by rw [List.map_id']; exact ok.2.2.1) hx (by rw [List.map_id']; exact h)
    · refine ⟨_, _, _, rfl, (e2.trans e3).upd1 hp, ?_, ?_⟩
      · intro s hs'
        rw [take_snoc hx] at hs'
        rcases List.mem_append.mp hs' with q | q
        · exact hl s q
        · rw [List.mem_singleton.mp q]; exact ⟨hrow, hbl⟩
      · rw [take_snoc hx]; exact snoc_nodup hd h
  · rintro σ H' ⟨o1, o2, o3, rfl, e, hl, hd⟩
    rw [List.length_map, List.take_length] at hl hd
    refine ⟨_, rfl, a, _, rfl, e.seq (SqL.of ha), ?_⟩
    refine for_it (walk_enum (xs := ps.map fun z => .ref z.1)) (fun i σ H' => ∃ o1 o2 o3, σ = [some (.ref a), some (.ref b), o1, o2, o3] ∧ Same H H' ∧ ∀ j, j < i → ∃ s ∈ ss, s[j]? ≠ some 46) ?_ ?_ ?_ ?_
    · exact ⟨_, _, _, rfl, e, fun j hj => absurd hj (Nat.not_lt_zero j)⟩
    · rintro i σ H' hi ⟨o1, o2, o3, rfl, e, hto⟩
      exact e.seq (SqL.of ha)
    · rintro i x σ H' H2 hi ⟨o1, o2, o3, rfl, e, hto⟩ ⟨t, y1, y2, rfl, ht, rfl, hy1, hy2⟩
      have hy2 : (ps.map fun z => V.ref z.1)[i]? = some y2 := hy2
      rw [List.getElem?_map] at hy2
      obtain ⟨⟨q, nm, k⟩, hz, rfl⟩ := Option.map_eq_some_iff.mp hy2
      cases Option.some.inj hy1
      have hm : (q, nm, k) ∈ ps := List.mem_of_getElem? hz
      rw [List.length_map] at hi
      have e2 := e.upd1 (o := .tup [.int (i : Nat), .ref q]) ht
      refine ⟨t, _, rfl, SqT.of upd_same, rfl, _, _, rfl, _, _, rfl, rfl, ?_⟩
      generalize upd H' t (.tup [.int (i : Nat), .ref q]) = H2 at e2 ⊢
      refine ⟨_, rfl, b, rfl, ⟨_, e2.seq hsb⟩, fun D hD => ?_⟩
      refine lc_lst hD ss sv (e2.seq hsb) (fun _ => true) (fun x => .bl (decide (x[i]? = some 46))) (by omega) ?_ ?_
      · intro x H3 hx e3
        refine ⟨_, gv_name, rfl, evT_yes, fun H4 e4 _ Q q => ?_⟩
        have hxl : i < x.length := by rw [rowB_len (hl x hx).1, List.length_map]; exact hi
        refine ⟨_, rfl, _, rfl, _, _, _, rfl, rfl, line_le (by rw [SX.S_len]; have := hsl x hx; omega), atI_nat (by show x[i]? = _; exact List.getElem?_eq_getElem hxl), rfl, ?_⟩
        have q' := q _ (Same.refl _)
        rw [List.getElem?_eq_getElem hxl] at q'
        have e9 : decide (V.str ⟨#[x[i]]⟩ = .str ".") = decide (some x[i] = some 46) := by
          rw [show (V.str ⟨#[x[i]]⟩ : V) = sv [x[i]] from rfl, one_dec (d := 46) (by rfl)]
          simp
        rw [e9]; exact q'
      · intro H' e' hD'
        rw [filter_all] at hD'
        have hl' : H' D = some (.lst ((ss.map fun x => decide (x[i]? = some 46)).map V.bl)) := by rw [hD', List.map_map] <;> rfl
        refine ⟨D, _, rfl, SqL.of hl', _, rfl, ?_⟩
        rw [all_map]
        refine if_dec (p := ∀ x ∈ ss, x[i]? = some 46) ?_ (fun h => ?_) (fun h => ?_)
        · rw [Bool.eq_iff_iff]; simp
        · refine ⟨_, rfl, _, _, 0, _, rfl, rfl, SqT.of ((e2.trans e') _ _ (hps _ hm)), rfl, mkX1 fun d hd => k1 (fun ok => ?_) _ _ _ T.x_Untold.te ((e2.trans e').upd1 hd)⟩
          obtain ⟨s, hs1, hs2⟩ := ok.2.2.2 i (by rw [List.length_map]; exact hi)
          exact hs2 (h s hs1)
        · refine ⟨_, _, _, rfl, e2.trans e', fun j hj => ?_⟩
          by_cases hji : j = i
          · rw [hji]
            apply Classical.byContradiction
            intro hno
            apply h
            intro x hx
            apply Classical.byContradiction
            intro hne
            exact hno ⟨x, hx, hne⟩
          · exact hto j (by omega)
    · rintro σ H' ⟨o1, o2, o3, rfl, e, hto⟩
      rw [List.length_map] at hto
      exact k0 ⟨by omega, by rw [List.length_map]; exact hl, hd, by rw [List.length_map]; exact hto⟩ _ e
end
end NT
namespace NT
open PySem PySem.Spec PyProof.Rows L2
open SX (S)
/-! ### dicts of texts, all True -/
def kvT (l : List Row) : List (Key × V) := l.map fun r => (.inr (S r), .bl true)
theorem kvT_val (l : List Row) (r : Row) : (valV (kvT l) (.inr (S r))).isSome = decide (r ∈ l) := by
  rw [← valV_any]
  induction l with
  | nil => rfl
  | cons a l ih =>
    show (decide ((Sum.inr (S a) : Key) = .inr (S r)) || (kvT l).any _) = _
    rw [ih]
    by_cases h : a = r
    · subst h; simp
    · have : ¬ r = a := fun e => h e.symm
      have h2 : ¬ (Sum.inr (S a) : Key) = .inr (S r) := fun e => h (S_inj (by injection e))
      simp [this, h2]
theorem kvT_put {l : List Row} {r : Row} (h : r ∉ l) : putK (kvT l) (.inr (S r)) (.bl true) = kvT (l ++ [r]) := by
  have hn : valV (kvT l) (.inr (S r)) = none := by
    have := kvT_val l r
    rw [decide_eq_false h] at this
    cases q : valV (kvT l) (.inr (S r)) with
    | none => rfl
    | some v => rw [q] at this; cases this
  rw [putK_new _ hn]
  unfold kvT
  rw [List.map_append]; rfl
def spGrown (K : PySem.W.Frag) : Sp := fun vs H Q _ => ∃ (a : Addr) (ss : List Row) (n cap : Nat), vs = [.ref a, sv (List.replicate n 46), .int cap] ∧ StrsAt H a ss ∧ (∀ s ∈ ss, s.length = n) ∧ n ≤ 1000 ∧ ss.length ≤ 1000 ∧ 1 ≤ cap ∧ cap ≤ 1000 ∧ ∀ H' b j, Same H H' → H b = none → Stop ss n cap j → StrsAt H' b (lv ss n j) → Q (.ref b) H'
theorem int_dec_lt {a b : Nat} : decide ((a : Int) < (b : Int)) = decide (a < b) := decide_eq_decide.mpr (by omega)
theorem int_dec_le {a b : Nat} : decide ((a : Int) ≤ (b : Int)) = decide (a ≤ b) := decide_eq_decide.mpr (by omega)
section
variable {P : Program} {w : World} {K : PySem.W.Frag} {mg : Str → Option Value} {base : Heap}
abbrev N_grown_rows : List Str := ["seeds", "first", "most", "rows", "known", "at", "seed", "row"]
theorem sc_grown_rows : FnScope N_grown_rows ["seeds", "first", "most"] (defScope s_grown_rows) := ⟨rfl, rfl, rfl, by decide +kernel, rfl, by decide +kernel, by decide +kernel⟩
theorem cl_grown_rows (T : Txt K mg) : Cl P w K mg base CX0 3 "grown_rows" (spGrown K) [] := by
  refine cl0 T.d_grown_rows sc_grown_rows (fun _ _ _ _ _ _ us hl => match us, hl with | [_, _, _], _ => rfl) (fun vs H Q E h => by obtain ⟨_, _, _, _, rfl, _⟩ := h; rfl) fun f cdv A outer s H vs Q E hr h => ?_
  obtain ⟨a, ss, n, cap, rfl, ha, hs, hn, hsn, hc1, hc2, k⟩ := h
  refine ⟨_, (pss_cons (ps_set (i := 3) sc_grown_rows.nd rfl (Or.inl rfl) (pe_lst (pa_cons (pv 1) pa_nil)))
    (pss_cons (ps_set (i := 4) sc_grown_rows.nd rfl (Or.inl rfl) (pe_disp (pps_cons (pv 1) pe_bl pps_nil) (by rfl) (by rfl) (fun z => by cases z) (by decide)))
    (pss_cons (ps_set (i := 5) sc_grown_rows.nd rfl (Or.inl rfl) pe_int)
    (pss_cons (ps_while PassesOwn.never (PW.pt (pw_and (pt_cmpR op_lt (pv 5) (pe_callB (call_len_seqK (K := K) rfl) (by rfl) T.f_len PySem.boot_len (pa_cons (pv 3) pa_nil)) (nomark _)) (pw_and1 (pt_cmpR op_le (pe_callB (call_len_seqK (K := K) rfl) (by rfl) T.f_len PySem.boot_len (pa_cons (pv 3) pa_nil)) (pv 2) (nomark _)))))
    (pss_cons (ps_for PassesOwn.never rfl (pi_listK (K := K) rfl (pv 0)) (pg_name (i := 6) sc_grown_rows.nd rfl (Or.inl rfl))
    (pss_cons (ps_set (i := 7) sc_grown_rows.nd rfl (Or.inl rfl) (pe_cl (cl_over T) hr (by decide) (by rfl) (pa_cons (pv 6) (pa_cons (pe_ix (ix_listK (K := K) rfl) (pv 3) (pv 5) (fun _ _ => rfl)) pa_nil))))
    (pss_one (ps_if (pt_cmp (pc_dnotin (hu_of hr) (pv 7) (pv 4)))
    (pss_cons (ps_dput (hu_of hr) (pv 4) (pv 7) pe_bl rfl)
    (pss_one (ps_expr (pe_appK (K := K) rfl (pv 3) (pa_cons (pv 7) pa_nil)))))
    pss_nil))))
    (pss_one (ps_set (i := 5) sc_grown_rows.nd rfl (Or.inl rfl) (pe_op op_add (pv 5) pe_int)))))
    (pss_one (ps_ret (pv 3))))))), ?_⟩
  refine ⟨_, rfl, line_le (by show 1 ≤ _; omega), fun b hb => ?_⟩
  have e0 : Same H (upd H b (.lst [sv (List.replicate n 46)])) := (Same.refl H).upd1 hb
  have hb0 : upd H b (.lst [sv (List.replicate n 46)]) b = some (.lst ((lv ss n 0).map sv)) := upd_same
  generalize upd H b (.lst [sv (List.replicate n 46)]) = H0 at e0 hb0 ⊢
  intro d hd
  have hdH : H d = none := by
    cases q : H d with
    | none => rfl
    | some u => rw [e0 _ _ q] at hd; cases hd
  have hbd : b ≠ d := fun e => by rw [e, hd] at hb0; cases hb0
  refine ⟨_, rfl, upd_same, [(.inr (S (List.replicate n 46)), .bl true)], rfl, Nat.le_of_ble_eq_true rfl, ?_⟩
  have e1 : Same H (upd (upd H0 d (.dK [])) d (.dK (mergeK [] [(.inr (S (List.replicate n 46)), .bl true)]))) := by
    rw [upd_upd]; exact e0.upd1 hd
  have hd1 : upd (upd H0 d (.dK [])) d (.dK (mergeK [] [(.inr (S (List.replicate n 46)), .bl true)])) d = some (.dK (kvT (lv ss n 0))) := upd_same
  have hb1 : upd (upd H0 d (.dK [])) d (.dK (mergeK [] [(.inr (S (List.replicate n 46)), .bl true)])) b = some (.lst ((lv ss n 0).map sv)) := by
    rw [upd_ne hbd, upd_ne hbd]; exact hb0
  generalize upd (upd H0 d (.dK [])) d (.dK (mergeK [] [(.inr (S (List.replicate n 46)), .bl true)])) = H1 at e1 hd1 hb1 ⊢
  have small : ∀ {j}, (∀ i, i < j → i < (lv ss n i).length ∧ (lv ss n i).length ≤ cap) → (lv ss n j).length ≤ 2000 ∧ j ≤ cap := by
    intro j h
    cases j with
    | zero => exact ⟨by show 1 ≤ _; omega, by omega⟩
    | succ i =>
      obtain ⟨h1, h2⟩ := h i (Nat.lt_succ_self i)
      refine ⟨?_, by omega⟩
      rw [lv_next (List.getElem?_eq_getElem h1)]
      have := ext_len (lv ss n i)[i] ss (lv ss n i)
      omega
  refine ⟨fun m σ H' => ∃ j o6 o7, m = cap + 1 - j ∧ σ = [some (.ref a), some (sv (List.replicate n 46)), some (.int cap), some (.ref b), some (.ref d), some (.int (j : Nat)), o6, o7] ∧ Same H H' ∧ H' b = some (.lst ((lv ss n j).map sv)) ∧ H' d = some (.dK (kvT (lv ss n j))) ∧ ∀ i, i < j → i < (lv ss n i).length ∧ (lv ss n i).length ≤ cap, ⟨cap + 1, 0, none, none, rfl, rfl, e1, hb1, hd1, fun i hi => absurd hi (Nat.not_lt_zero i)⟩, ?_⟩
  rintro m σ H' ⟨j, o6, o7, rfl, rfl, e, hb2, hd2, hj⟩
  obtain ⟨sm1, sm2⟩ := small hj
  refine ⟨_, rfl, _, rfl, b, _, rfl, .inl (SqL.of hb2), _, _, rfl, rfl, _, rfl, ?_⟩
  rw [List.length_map, int_dec_lt]
  refine if_int (fun h1 => ?_) (fun h1 => ?_)
  rotate_left
  · refine ⟨_, rfl, k _ _ j e hb ⟨fun q => h1 q.1, hj⟩ hb2⟩
  refine ⟨_, rfl, b, _, rfl, .inl (SqL.of hb2), _, rfl, _, _, rfl, rfl, _, rfl, ?_⟩
  rw [List.length_map, int_dec_le]
  refine if_int (fun h2 => ?_) (fun h2 => ?_)
  rotate_left
  · refine ⟨_, rfl, k _ _ j e hb ⟨fun q => h2 q.2, hj⟩ hb2⟩
  refine ⟨fun σ H' => ∃ o6 o7, σ = [some (.ref a), some (sv (List.replicate n 46)), some (.int cap), some (.ref b), some (.ref d), some (.int ((j + 1 : Nat) : Int)), o6, o7] ∧ Same H H' ∧ H' b = some (.lst ((lv ss n (j + 1)).map sv)) ∧ H' d = some (.dK (kvT (lv ss n (j + 1)))), ?_, ?_⟩
  · rintro σ2 H2 ⟨o6, o7, rfl, e2, hb3, hd3⟩
    refine ⟨cap + 1 - (j + 1), by omega, j + 1, o6, o7, rfl, rfl, e2, hb3, hd3, fun i hi => ?_⟩
    by_cases q : i = j
    · rw [q]; exact ⟨h1, h2⟩
    · exact hj i (by omega)
  have hx := List.getElem?_eq_getElem h1
  generalize (lv ss n j)[j] = x at hx
  have hxn : x.length = n := lv_rows hs j x (List.mem_of_getElem? hx)
  refine ⟨_, rfl, a, rfl, ⟨_, e.seq (SqL.of ha)⟩, ?_⟩
  refine for_it (walk_list (xs := ss.map sv)) (fun i σ H' => ∃ o6 o7, σ = [some (.ref a), some (sv (List.replicate n 46)), some (.int cap), some (.ref b), some (.ref d), some (.int (j : Nat)), o6, o7] ∧ Same H H' ∧ H' b = some (.lst ((ext (ss.take i) x (lv ss n j)).map sv)) ∧ H' d = some (.dK (kvT (ext (ss.take i) x (lv ss n j))))) ?_ ?_ ?_ ?_
  · exact ⟨o6, o7, rfl, e, hb2, hd2⟩
  · rintro i σ H2 hi ⟨o6, o7, rfl, e2, hb3, hd3⟩
    exact e2.seq (SqL.of ha)
  · rintro i y σ H2 H3 hi ⟨o6, o7, rfl, e2, hb3, hd3⟩ ⟨rfl, hy⟩
    rw [List.getElem?_map] at hy
    obtain ⟨s1, hs1, rfl⟩ := Option.map_eq_some_iff.mp hy
    have hsm : s1 ∈ ss := List.mem_of_getElem? hs1
    obtain ⟨t, ht⟩ := ext_app x (ss.take i) (lv ss n j)
    have hlen : (ext (ss.take i) x (lv ss n j)).length ≤ 4000 := by
      have := ext_len x (ss.take i) (lv ss n j)
      rw [List.length_take] at this
      omega
    have hxi : ((ext (ss.take i) x (lv ss n j)).map sv)[j]? = some (sv x) := by
      rw [ht, List.getElem?_map, List.getElem?_append_left h1, hx]; rfl
    refine ⟨_, rfl, _, rfl, _, rfl, b, _, _, _, rfl, rfl, SqL.of hb3, atI_nat hxi, s1, x, rfl, by rw [hs s1 hsm]; omega, fun H4 e4 => ?_⟩
    refine ⟨_, rfl, _, rfl, d, _, rfl, DGet.k (k := .inr (S (overL s1 x))) (e4 _ _ hd3), _, rfl, ?_⟩
    rw [kvT_val]
    refine if_decN rfl (fun h => ?_) (fun h => ?_)
    · refine ⟨_, rfl, _, rfl, d, _, rfl, DPut.k (k := .inr (S (overL s1 x))) (e4 _ _ hd3) (line_lt (by unfold kvT; rw [List.length_map]; omega)), ?_⟩
      rw [kvT_put h]
      have hb4 : upd H4 d (.dK (kvT (ext (ss.take i) x (lv ss n j) ++ [overL s1 x]))) b = some (.lst ((ext (ss.take i) x (lv ss n j)).map sv)) := by rw [upd_ne hbd]; exact e4 _ _ hb3
      refine ⟨_, rfl, tyL hb4, _, rfl, b, _, _, rfl, rfl, hb4, line_lt (by rw [List.length_map]; omega), _, _, rfl, ((e2.trans e4).mut1 hdH).mut1 hb, ?_, ?_⟩
      · rw [upd_same, take_snoc hs1, ext_snoc]; unfold ext1; rw [if_neg h, List.map_append]; rfl
      · rw [upd_ne (Ne.symm hbd), upd_same, take_snoc hs1, ext_snoc]; unfold ext1; rw [if_neg h]
    · refine ⟨_, _, rfl, e2.trans e4, ?_, ?_⟩
      · rw [take_snoc hs1, ext_snoc]; unfold ext1; rw [if_pos h]; exact e4 _ _ hb3
      · rw [take_snoc hs1, ext_snoc]; unfold ext1; rw [if_pos h]; exact e4 _ _ hd3
  · rintro σ H2 ⟨o6, o7, rfl, e2, hb3, hd3⟩
    rw [List.length_map, List.take_length] at hb3 hd3
    rw [← lv_next hx] at hb3 hd3
    exact ⟨_, rfl, _, _, rfl, rfl, _, _, rfl, e2, hb3, hd3⟩
end
end NT
namespace NT
open PySem PySem.Spec PyProof.Rows L2
open SX (S)
def spLots (K : PySem.W.Frag) : Sp := fun vs H Q _ => ∃ (a : Addr) (ys : List Str), vs = [.ref a] ∧ SqL K H a (ys.map V.str) ∧ ys.length ≤ 4000 ∧ ∀ H' p, Same H H' → H p = none → Q (.ref p) H'
section
variable {P : Program} {w : World} {K : PySem.W.Frag} {mg : Str → Option Value} {base : Heap}
abbrev N_ordered_lots : List Str := ["lots"]
theorem sc_ordered_lots : FnScope N_ordered_lots ["lots"] (defScope s_ordered_lots) := ⟨rfl, rfl, rfl, by decide +kernel, rfl, by decide +kernel, by decide +kernel⟩
theorem cl_ordered_lots (T : Txt K mg) : Cl P w K mg base CX0 3 "ordered_lots" (spLots K) [] := by
  refine cl0 T.d_ordered_lots sc_ordered_lots (fun _ _ _ _ _ _ us hl => match us, hl with | [_], _ => rfl) (fun vs H Q E h => by obtain ⟨_, _, rfl, _⟩ := h; rfl) fun f cdv A outer s H vs Q E hr h => ?_
  obtain ⟨a, ys, rfl, ha, hn, k⟩ := h
  refine ⟨_, (pss_one (ps_ret (pe_callBK (cr_sortLot T rfl hr.units hr.depth) (by rfl) T.f_sorted (by decide +kernel) (pa_cons (pe_callB (cr_sortSetTx (w := w) rfl rfl hr.units) (by rfl) T.f_sorted (by decide +kernel) (pa_cons (pe_callTy (cr_setTx (K := K) (w := w) rfl rfl rfl) (by rfl) T.f_set (by decide +kernel) (pa_cons (pv 0) pa_nil)) pa_nil)) pa_nil) (pk_cons (C8.pe_gc (v := .ref (He.ga K "lot_size")) (by rfl) ⟨_, T.d_lot_size.gm, rfl⟩) pk_nil)))), ?_⟩
  refine ⟨_, rfl, a, ys, rfl, ha, hn, fun p n hnl hp => ?_⟩
  refine ⟨p, _, n, rfl, upd_same, by omega, fun zs q hzl _ hq => ?_⟩
  refine ⟨q, zs, rfl, rfl, SqL.of upd_same, fun ws r _ hr => ?_⟩
  have e2 := ((Same.refl H).upd1 (o := SetO' w p (fun j => decide (j ∈ ys)) n) hp).upd1 (o := .lst (zs.map V.str)) hq
  refine k _ _ (e2.upd1 hr) ?_
  cases hh : H r with
  | none => rfl
  | some u => rw [e2 _ _ hh] at hr; cases hr
end
/-! ### a dict display over a list -/
theorem dc_lst {α : Type} {K : PySem.W.Frag} {a : Addr} {g : TG} {tt : TT} {tk tv : TE} {vs : List Nat} {σ : L2.St} {H : Hp} {D : Addr} {Qd : Hp → Prop} (hD : H D = none) (ys : List α) (c : α → V) (ha : SqL K H a (ys.map c)) (key : α → Key) (val : α → V) (hn : ys.length ≤ 16000000)
    (hs : ∀ y H1, y ∈ ys → Same H H1 → ∃ σ2, Gv g (c y) (wipe σ vs) H1 σ2 ∧ wipe σ2 vs = wipe σ vs ∧ EvT tt σ2 H1 true ∧ ∀ H2, Same H1 H2 → Ev tk σ2 H2 (kV (key y)) ∧ ∀ H3, Same H2 H3 → Ev tv σ2 H3 (val y))
    (hd : ∀ H' kvs, Same H H' → H' D = some (.dK kvs) → Qd H') :
    ∃ W : Nat → Nat → Hp → Prop, (∃ m, W 0 m (upd H D (.dK []))) ∧ ∀ i m H, W i m H →
      ((Itl K a).stop i H ∧ Qd H) ∨ ((Itl K a).go i H ∧ ∃ Nx : Hp → Prop, (∀ H', Nx H' → ∃ m', m' < m ∧ W (i + 1) m' H') ∧ ∀ x H', (Itl K a).yld i H x H' → g x (wipe σ vs) H' fun σ2 H2 => wipe σ2 vs = wipe σ vs ∧ tt σ2 H2 fun b H3 =>
        if b = true then tk σ2 H3 fun y H4 => tv σ2 H4 fun z H5 => ∃ kvs k, y = kV k ∧ H5 D = some (.dK kvs) ∧ kvs.length < sizeLine ∧ Nx (upd H5 D (.dK (putK kvs k z))) else Nx H3) := by
  have w := walk_list (K := K) (a := a) (xs := ys.map c)
  rw [List.length_map] at w
  refine ⟨fun i m H' => m = ys.length - i ∧ i ≤ ys.length ∧ Same H H' ∧ ∃ kvs, H' D = some (.dK kvs) ∧ kvs.length ≤ i, ⟨_, rfl, Nat.zero_le _, (Same.refl H).upd1 hD, _, upd_same, Nat.le_refl _⟩, ?_⟩
  rintro i m H' ⟨rfl, hi, e, kvs, hk, hkl⟩
  by_cases hlt : i < ys.length
  · refine .inr ⟨w.goes i H' hlt (e.seq ha), fun H'' => i + 1 ≤ ys.length ∧ Same H H'' ∧ ∃ kvs, H'' D = some (.dK kvs) ∧ kvs.length ≤ i + 1, fun H'' q => ⟨ys.length - (i + 1), by omega, rfl, q.1, q.2.1, q.2.2⟩, fun x H'' y => ?_⟩
    obtain ⟨rfl, hx⟩ := w.yields i H' x H'' hlt (e.seq ha) y
    rw [List.getElem?_map] at hx
    obtain ⟨z, hz, rfl⟩ := Option.map_eq_some_iff.mp hx
    obtain ⟨σ2, h1, h2, h3, h4⟩ := hs z H'' (List.mem_of_getElem? hz) e
    refine h1 _ ⟨h2, h3 _ fun H3 e3 => ?_⟩
    rw [if_pos rfl]
    refine (h4 H3 e3).1 _ fun H4 e4 => (h4 H3 e3).2 H4 e4 _ fun H5 e5 => ?_
    have eh := (e3.trans e4).trans e5
    refine ⟨kvs, key z, rfl, eh _ _ hk, line_lt (by omega), hlt, (e.trans eh).mut1 hD, _, upd_same, ?_⟩
    have := length_putK kvs (key z) (val z)
    omega
  · have : i = ys.length := by omega
    subst this
    exact .inl ⟨w.stops H' (e.seq ha), hd H' kvs e hk⟩
/-! ### a Band -/
abbrev cB (K : PySem.W.Frag) : Addr := He.ga K "Band"
def SameX (x : Addr) (H H' : Hp) : Prop := ∀ b u, b ≠ x → H b = some u → H' b = some u
def OkBand (cs : List Cell) (ss : List Row) : Prop := OkC cs ∧ OkS cs ss ∧ ¬ TooBig ss cs.length 800
/-- its cells and seeds in lists of its own, its rows by their number -/
def BandAt (K : PySem.W.Frag) (H : Hp) (x : Addr) (cs : List Cell) (ss : List Row) : Prop := ∃ (dx p q r d l : Addr) (rows : List V) (j : Nat),
  H x = some (.ins (cB K) dx [("cell_list", .ref p), ("seed_list", .ref q), ("row_list", .ref r), ("known_rows", .ref d), ("lot_list", .ref l)]) ∧ CellsAt H p cs ∧ StrsAt H q ss ∧ H r = some (.lst rows) ∧ Stop ss cs.length 800 j ∧ rows.length = (lv ss cs.length j).length
theorem BandAt.same {K : PySem.W.Frag} {H H' : Hp} {x : Addr} {cs : List Cell} {ss : List Row} (h : BandAt K H x cs ss) (e : Same H H') : BandAt K H' x cs ss := by
  obtain ⟨dx, p, q, r, d, l, rows, j, h1, h2, h3, h4, h5⟩ := h
  exact ⟨dx, p, q, r, d, l, rows, j, e _ _ h1, h2.same e, h3.same e, e _ _ h4, h5⟩
def spInit (K : PySem.W.Frag) : Sp := fun vs H Q E => ∃ (x dx a b : Addr) (cs : List Cell) (ss : List Row), vs = [.ref x, .ref a, .ref b, .int 800] ∧ H x = some (.ins (cB K) dx []) ∧ CellsAt H a cs ∧ goodCells cs ∧ StrsAt H b ss ∧ cs.length ≤ 1000000 ∧ ss.length ≤ 1000000 ∧ (∀ s ∈ ss, s.length ≤ 1000000) ∧
  (OkBand cs ss → ∀ H', SameX x H H' → BandAt K H' x cs ss → Q .non H') ∧ (¬ OkBand cs ss → ∀ cls d H', PySem.W.exmOne K cls (.ref (He.ga K "TellsError")) = some true → SameX x H H' → E cls d H')
theorem SameX.of {x : Addr} {H H' : Hp} (e : Same H H') : SameX x H H' := fun b u _ h => e b u h
theorem SameX.trans {x : Addr} {H H1 H2 : Hp} (a : SameX x H H1) (b : SameX x H1 H2) : SameX x H H2 := fun c u n h => b c u n (a c u n h)
theorem SameX.put {x : Addr} {H H1 : Hp} {o : HO} (a : SameX x H H1) : SameX x H (upd H1 x o) := fun c u n h => by rw [upd_ne n]; exact a c u n h
theorem SameX.lst {x a : Addr} {H H' : Hp} {xs : List V} {C dx : Addr} {fs : List (Str × V)} (e : SameX x H H') (hx : H x = some (.ins C dx fs)) (h : H a = some (.lst xs)) : H' a = some (.lst xs) :=
  e a _ (fun q => by rw [q, hx] at h; cases h) h
theorem CellsAt.sameX {x a : Addr} {H H' : Hp} {cs : List Cell} {C dx : Addr} {fs : List (Str × V)} (h : CellsAt H a cs) (e : SameX x H H') (hx : H x = some (.ins C dx fs)) : CellsAt H' a cs := by
  obtain ⟨ps, h1, h2, h3⟩ := h
  exact ⟨ps, h1, e _ _ (fun q => by rw [q, hx] at h2; cases h2) h2, fun z hz => e _ _ (fun q => by have := h3 z hz; rw [q, hx] at this; cases this) (h3 z hz)⟩
section
variable {P : Program} {w : World} {K : PySem.W.Frag} {mg : Str → Option Value} {base : Heap}
abbrev N_Band___init__ : List Str := ["self", "cells", "seeds", "most", "rows", "row"]
theorem sc_Band___init__ : FnScope N_Band___init__ ["self", "cells", "seeds", "most"] (defScope s_Band___init__) := ⟨rfl, rfl, rfl, by decide +kernel, rfl, by decide +kernel, by decide +kernel⟩
theorem fn_init (T : Txt K mg) : ∃ fd ds, FnOk P w K mg base (L2N.CX P w) 5 (He.ma K (cB K) "__init__") fd ["self", "cells", "seeds", "most"] (spInit K) ∧ Vals [.int 800] ds ∧ Binds K fd ["self", "cells", "seeds", "most"] ds := by
  obtain ⟨fd, F⟩ := T.d_Band___init__
  obtain ⟨ds, hds, hB⟩ := FunD.binds0 (ps := ["self", "cells", "seeds", "most"]) F 3 (by simp) rfl (fun D doc pm an cdv ct us ks h1 h2 => match us, ks, h1, h2 with | [_, _, _], [_], _, _ => ⟨_, _, _, _, _, _, rfl, rfl, rfl⟩)
  refine ⟨fd, ds, F.ok sc_Band___init__ (fun vs H Q E h => by obtain ⟨_, _, _, _, _, _, rfl, _⟩ := h; rfl) fun cdv A outer s H vs Q E hr h => ?_, hds, hB⟩
  obtain ⟨x, dx, a, b, cs, ss, rfl, hx, hc, hg, hs, hcl, hsl, hss, k0, k1⟩ := h
  refine ⟨_, (pss_cons (ps_expr (pe_clx (cl_check_cells T) hr (by decide) (by rfl) (L2N.passes_call (L2N.takes_of rfl rfl rfl rfl) (fun _ _ _ _ h => h)) (pa_cons (pv 1) pa_nil)))
    (pss_cons (ps_expr (pe_clx (cl_check_seeds T) hr (by decide) (by rfl) (L2N.passes_call (L2N.takes_of rfl rfl rfl rfl) (fun _ _ _ _ h => h)) (pa_cons (pv 1) (pa_cons (pv 2) pa_nil))))
    (pss_cons (ps_if (pt_not (pt_val (pe_cl (cl_is_number T) hr (by decide) (by rfl) (pa_cons (pv 3) (pa_cons pe_int (pa_cons (C8.pe_gc (by rfl) T.v_MOST_ROWS) pa_nil))))))
    (pss_one ps_never)
    pss_nil)
    (pss_cons (ps_set (i := 4) sc_Band___init__.nd rfl (Or.inl rfl) (pe_cl (cl_grown_rows T) hr (by decide) (by rfl) (pa_cons (pv 2) (pa_cons (pe_cl (cl_blank T) hr (by decide) (by rfl) (pa_cons (pe_callB (call_len_seqK (K := K) rfl) (by rfl) T.f_len PySem.boot_len (pa_cons (pv 1) pa_nil)) pa_nil)) (pa_cons (pv 3) pa_nil)))))
    (pss_cons (ps_if (pt_cmpR op_gt (pe_callB (call_len_seqK (K := K) rfl) (by rfl) T.f_len PySem.boot_len (pa_cons (pv 4) pa_nil)) (pv 3) (nomark _))
    (pss_one (L2N.ps_raise rfl (L2N.takes_of rfl rfl rfl rfl) (pmkN_TooMany T (hr.mono (by decide)) (by rfl) (pa_cons (pv 3) pa_nil))))
    pss_nil)
    (pss_cons (ps_fldK (K := K) rfl (pv 0) (pe_callTy (call_list_ofK (K := K) rfl) (by rfl) T.f_list (by decide +kernel) (pa_cons (pv 1) pa_nil)) rfl)
    (pss_cons (ps_fldK (K := K) rfl (pv 0) (pe_callTy (call_list_ofK (K := K) rfl) (by rfl) T.f_list (by decide +kernel) (pa_cons (pv 2) pa_nil)) rfl)
    (pss_cons (ps_fldK (K := K) rfl (pv 0) (pe_callB (cr_sortTx (K := K) rfl hr.units) (by rfl) T.f_sorted (by decide +kernel) (pa_cons (pv 4) pa_nil)) rfl)
    (pss_cons (ps_fldK (K := K) rfl (pv 0) (pe_dc (own := [("row", 5)]) rfl sc_Band___init__.nd (pi_listK (K := K) rfl (pv 4)) (blkOk_by (N := N_Band___init__) (sc := defScope s_Band___init__) (by decide +kernel)) (fun _ _ _ _ _ => pg_name (i := 5) sc_Band___init__.nd rfl (Or.inl rfl)) (fun _ _ _ _ _ => pts_nil) (fun _ _ _ _ _ => (pv 5)) (fun _ _ _ _ _ => pe_bl)) rfl)
    (pss_one (ps_fldK (K := K) rfl (pv 0) (pe_cl (cl_ordered_lots T) hr (by decide) (by rfl) (pa_cons (pe_lc (own := [("row", 5)]) rfl sc_Band___init__.nd (pi_listK (K := K) rfl (pv 4)) (blkOk_by (N := N_Band___init__) (sc := defScope s_Band___init__) (by decide +kernel)) (fun _ _ _ _ _ => pg_name (i := 5) sc_Band___init__.nd rfl (Or.inl rfl)) (fun _ _ _ _ _ => pts_nil) (fun _ _ _ _ _ => (pe_cl (cl_lot_of T) hr (by decide) (by rfl) (pa_cons (pv 5) pa_nil)))) pa_nil)) rfl))))))))))), ?_⟩
  have rz : ∀ {H1 : Hp}, Same H H1 → ¬ OkBand cs ss → RaisesT K H1 E := fun e1 no cls d H' te e => k1 no cls d H' te (SameX.of (e1.trans e))
  have okc : okCounts cs := fun c hc => (hg c hc).2
  refine ⟨_, rfl, a, cs, rfl, hc, hg, hcl, fun ok1 H1 e1 => ?_, fun no => rz (Same.refl H) fun q => no q.1⟩
  refine ⟨_, rfl, _, rfl, a, b, cs, ss, rfl, hc.same e1, okc, hcl, hs.same e1, hsl, hss, fun ok2 H2 e2 => ?_, fun no => rz e1 fun q => no q.2.1⟩
  have e12 := e1.trans e2
  refine ⟨_, rfl, 800, 1, 800, rfl, _, rfl, iteF ?_⟩
  have hc2 := hc.same e12
  obtain ⟨ps, hps, ha2, hpt⟩ := hc2
  have hlen : ps.length = cs.length := by rw [← hps, List.length_map]
  have hcn := ok1.2.1
  refine ⟨_, rfl, _, rfl, a, _, rfl, .inl (SqL.of ha2), cs.length, by rw [List.length_map, hlen]; rfl, hcl, _, rfl, b, ss, cs.length, 800, rfl, hs.same e12, fun s1 h1 => ?_, by omega, by have := ok2.1; omega, by omega, by omega, fun H3 rb j e3 hrb hst hrows => ?_⟩
  · exact rowB_len (ok2.2.1 s1 h1).1
  have e13 := e12.trans e3
  have hsl2 : ∀ s1 ∈ ss, s1.length = cs.length := fun s1 h1 => rowB_len (ok2.2.1 s1 h1).1
  refine ⟨_, rfl, rb, _, rfl, .inl (SqL.of hrows), _, rfl, _, _, rfl, rfl, _, rfl, ?_⟩
  rw [List.length_map]
  refine if_dec (p := 800 < (lv ss cs.length j).length) (decide_eq_decide.mpr (by omega)) (fun h1 => ?_) (fun h1 => ?_)
  · exact ⟨_, rfl, mkX1 fun d hd => rz e13 (fun q => q.2.2 ((stop_big (by omega) hst).mp h1)) _ _ _ T.x_TooMany.te ((Same.refl _).upd1 hd)⟩
  have okb : OkBand cs ss := ⟨ok1, ok2, fun q => h1 ((stop_big (by omega) hst).mpr q)⟩
  have hx3 := e13 _ _ hx
  have hc3 := hc.same e13
  have hs3 := hs.same e13
  generalize hL : lv ss cs.length j = L at *
  have hLr : ∀ r ∈ L, r.length = cs.length := by rw [← hL]; exact lv_rows hsl2 j
  -- the five fields
  obtain ⟨ps3, hps3, ha3, hpt3⟩ := hc3
  refine ⟨_, rfl, a, _, rfl, .inl (SqL.of ha3), fun p hp => ⟨_, rfl, x, cB K, dx, [], rfl, (by rw [upd_ne (ne_of_none hx3 hp)]; exact hx3), T.c_Band, T.n_cell_list, by decide, ?_⟩⟩
  have X4 : SameX x H3 (upd (upd H3 p (.lst (ps3.map fun z => V.ref z.1))) x (.ins (cB K) dx [("cell_list", .ref p)])) := (SameX.of ((Same.refl H3).upd1 hp)).put
  have hx4 : upd (upd H3 p (.lst (ps3.map fun z => V.ref z.1))) x (.ins (cB K) dx [("cell_list", .ref p)]) x = some (.ins (cB K) dx [("cell_list", .ref p)]) := upd_same
  have hp4 : upd (upd H3 p (.lst (ps3.map fun z => V.ref z.1))) x (.ins (cB K) dx [("cell_list", .ref p)]) p = some (.lst (ps3.map fun z => V.ref z.1)) := by rw [upd_ne (fun q => by rw [q, hx3] at hp; cases hp), upd_same]
  show Ends.nx _ _ (upd (upd H3 p (.lst (ps3.map fun z => V.ref z.1))) x (.ins (cB K) dx [("cell_list", .ref p)]))
  generalize upd (upd H3 p (.lst (ps3.map fun z => V.ref z.1))) x (.ins (cB K) dx [("cell_list", .ref p)]) = H4 at X4 hx4 hp4 ⊢
  have hs4 := X4.lst hx3 hs3
  refine ⟨_, rfl, b, _, rfl, .inl (SqL.of hs4), fun q hq => ⟨_, rfl, x, cB K, dx, [("cell_list", .ref p)], rfl, (by rw [upd_ne (ne_of_none hx4 hq)]; exact hx4), T.c_Band, T.n_seed_list, Nat.le_of_ble_eq_true rfl, ?_⟩⟩
  have X5 : SameX x H4 (upd (upd H4 q (.lst (ss.map sv))) x (.ins (cB K) dx [("cell_list", .ref p), ("seed_list", .ref q)])) := (SameX.of ((Same.refl H4).upd1 hq)).put
  have hx5 : upd (upd H4 q (.lst (ss.map sv))) x (.ins (cB K) dx [("cell_list", .ref p), ("seed_list", .ref q)]) x = some (.ins (cB K) dx [("cell_list", .ref p), ("seed_list", .ref q)]) := upd_same
  have hq5 : upd (upd H4 q (.lst (ss.map sv))) x (.ins (cB K) dx [("cell_list", .ref p), ("seed_list", .ref q)]) q = some (.lst (ss.map sv)) := by rw [upd_ne (fun e => by rw [e, hx4] at hq; cases hq), upd_same]
  show Ends.nx _ _ (upd (upd H4 q (.lst (ss.map sv))) x (.ins (cB K) dx [("cell_list", .ref p), ("seed_list", .ref q)]))
  generalize upd (upd H4 q (.lst (ss.map sv))) x (.ins (cB K) dx [("cell_list", .ref p), ("seed_list", .ref q)]) = H5 at X5 hx5 hq5 ⊢
  have X35 := X4.trans X5
  have hr5 : H5 rb = some (.lst ((L.map S).map V.str)) := by rw [map_S_V]; exact X35.lst hx3 hrows
  refine ⟨_, rfl, rb, L.map S, rfl, SqL.of hr5, fun zs r hzs hr => ⟨_, rfl, x, cB K, dx, [("cell_list", .ref p), ("seed_list", .ref q)], rfl, (by rw [upd_ne (ne_of_none hx5 hr)]; exact hx5), T.c_Band, T.n_row_list, Nat.le_of_ble_eq_true rfl, ?_⟩⟩
  have X6 : SameX x H5 (upd (upd H5 r (.lst (zs.map V.str))) x (.ins (cB K) dx [("cell_list", .ref p), ("seed_list", .ref q), ("row_list", .ref r)])) := (SameX.of ((Same.refl H5).upd1 hr)).put
  have hx6 : upd (upd H5 r (.lst (zs.map V.str))) x (.ins (cB K) dx [("cell_list", .ref p), ("seed_list", .ref q), ("row_list", .ref r)]) x = some (.ins (cB K) dx [("cell_list", .ref p), ("seed_list", .ref q), ("row_list", .ref r)]) := upd_same
  have hr6 : upd (upd H5 r (.lst (zs.map V.str))) x (.ins (cB K) dx [("cell_list", .ref p), ("seed_list", .ref q), ("row_list", .ref r)]) r = some (.lst (zs.map V.str)) := by rw [upd_ne (fun e => by rw [e, hx5] at hr; cases hr), upd_same]
  show Ends.nx _ _ (upd (upd H5 r (.lst (zs.map V.str))) x (.ins (cB K) dx [("cell_list", .ref p), ("seed_list", .ref q), ("row_list", .ref r)]))
  generalize upd (upd H5 r (.lst (zs.map V.str))) x (.ins (cB K) dx [("cell_list", .ref p), ("seed_list", .ref q), ("row_list", .ref r)]) = H6 at X6 hx6 hr6 ⊢
  have X36 := X35.trans X6
  have hrb6 : H6 rb = some (.lst (L.map sv)) := X36.lst hx3 hrows
  have hL4 : L.length ≤ 800 := by omega
  refine ⟨_, rfl, rb, rfl, ⟨_, SqL.of hrb6⟩, fun d hd => ?_⟩
  refine dc_lst hd L sv (SqL.of hrb6) (fun r => .inr (S r)) (fun _ => .bl true) (by omega) ?_ ?_
  · intro y H7 hy e7
    exact ⟨_, gv_name, rfl, evT_yes, fun H8 e8 => ⟨fun Q q => ⟨_, rfl, q _ (Same.refl _)⟩, fun H9 e9 Q q => q _ (Same.refl _)⟩⟩
  intro H7 kvs e7 hd7
  have hx7 := e7 _ _ hx6
  refine ⟨_, rfl, x, cB K, dx, [("cell_list", .ref p), ("seed_list", .ref q), ("row_list", .ref r)], rfl, hx7, T.c_Band, T.n_known_rows, Nat.le_of_ble_eq_true rfl, ?_⟩
  have X8 : SameX x H6 (upd H7 x (.ins (cB K) dx [("cell_list", .ref p), ("seed_list", .ref q), ("row_list", .ref r), ("known_rows", .ref d)])) := (SameX.of e7).put
  have hx8 : upd H7 x (.ins (cB K) dx [("cell_list", .ref p), ("seed_list", .ref q), ("row_list", .ref r), ("known_rows", .ref d)]) x = some (.ins (cB K) dx [("cell_list", .ref p), ("seed_list", .ref q), ("row_list", .ref r), ("known_rows", .ref d)]) := upd_same
  show Ends.nx _ _ (upd H7 x (.ins (cB K) dx [("cell_list", .ref p), ("seed_list", .ref q), ("row_list", .ref r), ("known_rows", .ref d)]))
  generalize upd H7 x (.ins (cB K) dx [("cell_list", .ref p), ("seed_list", .ref q), ("row_list", .ref r), ("known_rows", .ref d)]) = H8 at X8 hx8 ⊢
  have X38 := X36.trans X8
  have hrb8 : H8 rb = some (.lst (L.map sv)) := X38.lst hx3 hrows
  refine ⟨_, rfl, rb, rfl, ⟨_, SqL.of hrb8⟩, fun D hD => ?_⟩
  refine lc_lst hD L sv (SqL.of hrb8) (fun _ => true) (fun r => sv (lotL r)) (by omega) ?_ ?_
  · intro y H9 hy e9
    exact ⟨_, gv_name, rfl, evT_yes, fun H10 e10 _ Q q => ⟨_, rfl, y, rfl, by rw [hLr y hy]; omega, fun H11 e11 => q _ e11⟩⟩
  intro H9 e9 hD9
  rw [filter_all] at hD9
  have hD9' : H9 D = some (.lst (((L.map lotL).map S).map V.str)) := by rw [hD9, map_S_V, List.map_map]; rfl
  refine ⟨D, _, rfl, SqL.of hD9', by rw [List.length_map, List.length_map]; omega, fun H10 l e10 hl => ?_⟩
  have hx10 := e10 _ _ (e9 _ _ hx8)
  refine ⟨_, rfl, x, cB K, dx, _, rfl, hx10, T.c_Band, T.n_lot_list, Nat.le_of_ble_eq_true rfl, ?_⟩
  have X810 : SameX x H8 (upd H10 x (.ins (cB K) dx [("cell_list", .ref p), ("seed_list", .ref q), ("row_list", .ref r), ("known_rows", .ref d), ("lot_list", .ref l)])) := (SameX.of (e9.trans e10)).put
  have hxF : upd H10 x (.ins (cB K) dx [("cell_list", .ref p), ("seed_list", .ref q), ("row_list", .ref r), ("known_rows", .ref d), ("lot_list", .ref l)]) x = some (.ins (cB K) dx [("cell_list", .ref p), ("seed_list", .ref q), ("row_list", .ref r), ("known_rows", .ref d), ("lot_list", .ref l)]) := upd_same
  show Q .non (upd H10 x (.ins (cB K) dx [("cell_list", .ref p), ("seed_list", .ref q), ("row_list", .ref r), ("known_rows", .ref d), ("lot_list", .ref l)]))
  generalize upd H10 x (.ins (cB K) dx [("cell_list", .ref p), ("seed_list", .ref q), ("row_list", .ref r), ("known_rows", .ref d), ("lot_list", .ref l)]) = HF at X810 hxF ⊢
  have XF := X38.trans X810
  refine k0 okb _ ((SameX.of e13).trans XF) ⟨dx, p, q, r, d, l, zs.map V.str, j, hxF, ⟨ps3, hps3, ?_, fun z hz => ?_⟩, ?_, ?_, hst, ?_⟩
  · exact X810.lst hx8 (X8.lst hx6 (X6.lst hx5 (X5.lst hx4 hp4)))
  · exact XF _ _ (fun e => by have := hpt3 z hz; rw [e, hx3] at this; cases this) (hpt3 z hz)
  · exact X810.lst hx8 (X8.lst hx6 (X6.lst hx5 hq5))
  · exact X810.lst hx8 (X8.lst hx6 hr6)
  · rw [List.length_map, hzs.length_eq, List.length_map, hL]
end
end NT
namespace NT
open PySem PySem.Spec PyProof.Rows L2
open SX (S)
/-- f'..' with its parts -/
def tJoined (ts : List TE) : TE := fun σ H Q => tJs ts Str.empty σ H fun out H1 => Q (.str out) H1
theorem pe_joinedT {X : Cx} {v1 v2 : Expr} {rest : List Expr} {ts : List TE} {pos : Pos} (h : PJ X (v1 :: v2 :: rest) ts) : PE X (.JoinedStr (v1 :: v2 :: rest) pos) (tJoined ts) := pe_joined h
/-! ### the text of a Band -/
def cellLn (c : Cell) : List Nat := wCell ++ ([32] ++ (c.1 ++ ([32] ++ ([48 + c.2.toNat] ++ [10]))))
def seedLn (s : Row) : List Nat := wSeed ++ ([32] ++ (s ++ [10]))
def textL (cs : List Cell) (ss : List Row) : List Nat := (cs.map cellLn).flatten ++ (ss.map seedLn).flatten
theorem joinL_nil : ∀ ps : List (List Nat), TL.joinL [] ps = ps.flatten
  | [] => rfl
  | [a] => by rw [List.flatten_cons]; exact (List.append_nil a).symm
  | a :: b :: r => by rw [joinL_cons (List.cons_ne_nil b r), joinL_nil (b :: r)]; rfl
theorem join_nil (ps : List (List Nat)) : Txt.join (S []) (ps.map S) = S ps.flatten := by rw [SX.join_S, joinL_nil]
theorem lens_sum (ps : List (List Nat)) : ((ps.map S).map (·.length)).sum = ps.flatten.length := by
  rw [SX.lens, List.length_flatten]
theorem num_one {i : Int} (h1 : 1 ≤ i) (h2 : i ≤ 4) : (Str.ofString (toString i) : Str) = S [48 + i.toNat] := by
  have : i = 1 ∨ i = 2 ∨ i = 3 ∨ i = 4 := by omega
  rcases this with e | e | e | e <;> subst e <;> decide +kernel
theorem log_small {i : Int} (h1 : 0 ≤ i) (h2 : i ≤ 4) : i.natAbs.log2 < 1920 := by
  have : i = 0 ∨ i = 1 ∨ i = 2 ∨ i = 3 ∨ i = 4 := by omega
  rcases this with e | e | e | e | e <;> subst e <;> decide
theorem cellLn_len (c : Cell) : (cellLn c).length = 8 + c.1.length := by unfold cellLn; simp; omega
theorem seedLn_len (s : Row) : (seedLn s).length = 6 + s.length := by unfold seedLn; simp; omega
theorem flat_len {α : Type} {f : α → List Nat} {n : Nat} : ∀ (l : List α), (∀ z ∈ l, (f z).length ≤ n) → ((l.map f).flatten).length ≤ n * l.length
  | [], _ => Nat.zero_le _
  | a :: l, h => by
    rw [List.map_cons, List.flatten_cons, List.length_append, List.length_cons, Nat.mul_succ]
    have h1 := h a List.mem_cons_self
    have h2 := flat_len l fun z hz => h z (List.mem_cons_of_mem _ hz)
    omega
/-- small enough -/
def smallB (cs : List Cell) (ss : List Row) : Prop := cs.length ≤ 13 ∧ ss.length ≤ 31 ∧ (∀ c ∈ cs, c.1.length ≤ 6) ∧ ∀ s ∈ ss, s.length ≤ 13
theorem textL_len {cs : List Cell} {ss : List Row} (h : smallB cs ss) : (textL cs ss).length ≤ 1000 := by
  obtain ⟨h1, h2, h3, h4⟩ := h
  unfold textL
  rw [List.length_append]
  have a := flat_len (f := cellLn) (n := 14) cs fun z hz => by rw [cellLn_len]; have := h3 z hz; omega
  have b := flat_len (f := seedLn) (n := 19) ss fun z hz => by rw [seedLn_len]; have := h4 z hz; omega
  have a2 : 14 * cs.length ≤ 14 * 13 := Nat.mul_le_mul_left _ h1
  have b2 : 19 * ss.length ≤ 19 * 31 := Nat.mul_le_mul_left _ h2
  omega
def spBCells (K : PySem.W.Frag) : Sp := fun vs H Q _ => ∃ (x : Addr) (cs : List Cell) (ss : List Row), vs = [.ref x] ∧ BandAt K H x cs ss ∧ ∀ H' p, Same H H' → CellsAt H' p cs → Q (.ref p) H'
def spBSeeds (K : PySem.W.Frag) : Sp := fun vs H Q _ => ∃ (x : Addr) (cs : List Cell) (ss : List Row), vs = [.ref x] ∧ BandAt K H x cs ss ∧ ∀ H' p, Same H H' → StrsAt H' p ss → Q (.ref p) H'
def spBText (K : PySem.W.Frag) : Sp := fun vs H Q _ => ∃ (x : Addr) (cs : List Cell) (ss : List Row), vs = [.ref x] ∧ BandAt K H x cs ss ∧ okCounts cs ∧ smallB cs ss ∧ ∀ H', Same H H' → Q (sv (textL cs ss)) H'
def spBLen (K : PySem.W.Frag) : Sp := fun vs H Q _ => ∃ (x : Addr) (cs : List Cell) (ss : List Row), vs = [.ref x] ∧ BandAt K H x cs ss ∧ ∀ j, Stop ss cs.length 800 j → Q (.int (lv ss cs.length j).length) H
/-- two Bands of the same cells and seeds -/
def sameBand (K : PySem.W.Frag) (x y : Addr) (H : Hp) : Prop := ∃ (cs : List Cell) (ss : List Row), BandAt K H x cs ss ∧ BandAt K H y cs ss ∧ (∀ c ∈ cs, asc c.1) ∧ ∀ s ∈ ss, asc s
section
variable {P : Program} {w : World} {K : PySem.W.Frag} {mg : Str → Option Value} {base : Heap}
theorem met0 {m qual : Str} {st : Stmt} {N ps : List Str} {k : Nat} {sp : Sp} {f : Addr} (T : Txt K mg) (me : Meth K (cB K) m f) (F : ∃ fd, FunD K m qual (defArgs st) (defBody st) (defScope st) [] [] f fd) (S : FnScope N ps (defScope st))
    (hb : ∀ (kV doc pm : Value) (an : Option Addr) (cdv ct : Value) (us : List Value), us.length = ps.length → bindArgs (PySem.W.fnOf m qual (defArgs st) (defBody st) (defScope st) .none kV doc pm an cdv ct) ⟨us, []⟩ = pure (ps.zip us))
    (len : ∀ vs H Q E, sp vs H Q E → vs.length = ps.length)
    (hbody : ∀ (cdv : Value) (A : Around) (outer : List Env) (s : Shared) (H : Hp) (vs : List V) (Q : VK) (E : XK), Room k (A.deeper (envOfC qual (defScope st) s.heap.objs.size f cdv)) → sp vs H Q E →
      ∃ t, PSs (cxOf CX0 P w K mg base N qual (defScope st) f cdv A outer s H E).nox (defBody st) t ∧ t { nx := fun _ H' => Q .non H', rt := Q } (L2.start N vs) H) : C8.Met P w K mg base (k + 1) (cB K) m sp [] := by
  obtain ⟨fd, F⟩ := F
  exact ⟨f, fd, ps, [], T.c_Band, me, FunD.ok0 F S len hbody, F.bindsN hb, .nil⟩
abbrev N_Band_cells : List Str := ["self"]
theorem sc_Band_cells : FnScope N_Band_cells ["self"] (defScope s_Band_cells) := ⟨rfl, rfl, rfl, by decide +kernel, rfl, by decide +kernel, by decide +kernel⟩
theorem cm_Band_cells (T : Txt K mg) : C8.Met P w K mg base 1 (cB K) "cells" (spBCells K) [] := by
  refine met0 T T.m_Band_cells T.d_Band_cells sc_Band_cells (fun _ _ _ _ _ _ us hl => match us, hl with | [_], _ => rfl) (fun vs H Q E h => by obtain ⟨_, _, _, rfl, _⟩ := h; rfl) fun cdv A outer s H vs Q E hr h => ?_
  obtain ⟨x, cs, ss, rfl, hB, k⟩ := h
  obtain ⟨dx, p, q, r, d, l, rows, j, hx, hc, hs, hr2, hst, hrl⟩ := hB
  obtain ⟨ps, hps, hp, hpt⟩ := hc
  refine ⟨_, (pss_one (ps_ret (pe_callTy (call_list_ofK (K := K) rfl) (by rfl) T.f_list (by decide +kernel) (pa_cons (pe_fldK (K := K) rfl (pv 0)) pa_nil)))), ?_⟩
  refine ⟨_, rfl, x, cB K, dx, _, _, rfl, hx, T.c_Band, T.n_cell_list, rfl, p, _, rfl, .inl (SqL.of hp), fun u hu => ?_⟩
  exact k _ _ ((Same.refl H).upd1 hu) ⟨ps, hps, upd_same, fun z hz => by rw [upd_ne (ne_of_none (hpt z hz) hu)]; exact hpt z hz⟩
abbrev N_Band_seeds : List Str := ["self"]
theorem sc_Band_seeds : FnScope N_Band_seeds ["self"] (defScope s_Band_seeds) := ⟨rfl, rfl, rfl, by decide +kernel, rfl, by decide +kernel, by decide +kernel⟩
theorem cm_Band_seeds (T : Txt K mg) : C8.Met P w K mg base 1 (cB K) "seeds" (spBSeeds K) [] := by
  refine met0 T T.m_Band_seeds T.d_Band_seeds sc_Band_seeds (fun _ _ _ _ _ _ us hl => match us, hl with | [_], _ => rfl) (fun vs H Q E h => by obtain ⟨_, _, _, rfl, _⟩ := h; rfl) fun cdv A outer s H vs Q E hr h => ?_
  obtain ⟨x, cs, ss, rfl, hB, k⟩ := h
  obtain ⟨dx, p, q, r, d, l, rows, j, hx, hc, hs, hr2, hst, hrl⟩ := hB
  refine ⟨_, (pss_one (ps_ret (pe_callTy (call_list_ofK (K := K) rfl) (by rfl) T.f_list (by decide +kernel) (pa_cons (pe_fldK (K := K) rfl (pv 0)) pa_nil)))), ?_⟩
  refine ⟨_, rfl, x, cB K, dx, _, _, rfl, hx, T.c_Band, T.n_seed_list, rfl, q, _, rfl, .inl (SqL.of hs), fun u hu => ?_⟩
  exact k _ _ ((Same.refl H).upd1 hu) upd_same
abbrev N_Band_text : List Str := ["self", "cells", "seeds", "cell", "seed"]
theorem sc_Band_text : FnScope N_Band_text ["self"] (defScope s_Band_text) := ⟨rfl, rfl, rfl, by decide +kernel, rfl, by decide +kernel, by decide +kernel⟩
theorem cm_Band_text (T : Txt K mg) : C8.Met P w K mg base 1 (cB K) "text" (spBText K) [] := by
  refine met0 T T.m_Band_text T.d_Band_text sc_Band_text (fun _ _ _ _ _ _ us hl => match us, hl with | [_], _ => rfl) (fun vs H Q E h => by obtain ⟨_, _, _, rfl, _⟩ := h; rfl) fun cdv A outer s H vs Q E hr h => ?_
  obtain ⟨x, cs, ss, rfl, hB, ok, sm, k⟩ := h
  obtain ⟨dx, p, q, r, d, l, rows, j, hx, hc, hs, hr2, hst, hrl⟩ := hB
  obtain ⟨ps, rfl, hp, hpt⟩ := hc
  have hb := textL_len sm
  obtain ⟨m1, m2, m3, m4⟩ := sm
  rw [List.length_map] at m1
  refine ⟨_, (pss_cons (ps_setLc (i := 1) (own := [("cell", 3)]) rfl sc_Band_text.nd rfl rfl (sw_true rfl rfl rfl (by decide +kernel)) (pi_listK (K := K) rfl (pe_fldK (K := K) rfl (pv 0))) (blkOk_by (N := N_Band_text) (sc := defScope s_Band_text) (by decide +kernel)) (fun _ _ _ _ _ => pg_name (i := 3) sc_Band_text.nd rfl (Or.inl rfl)) (fun _ _ _ _ _ => pts_nil) (fun _ _ _ _ _ => (pe_joinedT (PJ.cons pe_str (PJ.cons (pe_fmt (pe_ix (ix_tupK (K := K) rfl) (pv 3) pe_int (fun _ _ => rfl))) (PJ.cons pe_str (PJ.cons (pe_fmt (pe_ix (ix_tupK (K := K) rfl) (pv 3) pe_int (fun _ _ => rfl))) (PJ.cons pe_str PJ.nil))))))))
    (pss_cons (ps_setLc (i := 2) (own := [("seed", 4)]) rfl sc_Band_text.nd rfl rfl (sw_true rfl rfl rfl (by decide +kernel)) (pi_listK (K := K) rfl (pe_fldK (K := K) rfl (pv 0))) (blkOk_by (N := N_Band_text) (sc := defScope s_Band_text) (by decide +kernel)) (fun _ _ _ _ _ => pg_name (i := 4) sc_Band_text.nd rfl (Or.inl rfl)) (fun _ _ _ _ _ => pts_nil) (fun _ _ _ _ _ => (pe_joinedT (PJ.cons pe_str (PJ.cons (pe_fmt (pv 4)) (PJ.cons pe_str PJ.nil))))))
    (pss_one (ps_ret (pe_joinK (K := K) rfl pe_str (pe_op op_cat (pv 1) (pv 2))))))), ?_⟩
  refine ⟨_, rfl, x, cB K, dx, _, _, rfl, hx, T.c_Band, T.n_cell_list, rfl, p, rfl, ⟨_, SqL.of hp⟩, fun D hD => ?_⟩
  refine lc_lst hD ps (fun z => .ref z.1) (SqL.of hp) (fun _ => true) (fun z => sv (cellLn z.2)) (by omega) ?_ ?_
  · intro z H1 hz e
    obtain ⟨t, nm, i⟩ := z
    obtain ⟨k1, k2⟩ : 1 ≤ i ∧ i ≤ 4 := ok _ (List.mem_map.mpr ⟨_, hz, rfl⟩)
    have hnm : nm.length ≤ 6 := m3 _ (List.mem_map.mpr ⟨_, hz, rfl⟩)
    refine ⟨_, gv_name, rfl, evT_yes, fun H2 e2 _ Q q => ?_⟩
    have ht := e2 _ _ (e _ _ (hpt _ hz))
    refine ⟨S [99, 101, 108, 108, 32], rfl, line_le (by decide), ?_⟩
    rw [show (Str.empty ++ S [99, 101, 108, 108, 32]) = S [99, 101, 108, 108, 32] from rfl]
    refine ⟨_, rfl, t, _, 0, _, rfl, rfl, SqT.of ht, rfl, .inl ⟨S nm, rfl, line_le (by rw [SX.S_len]; omega), S nm, rfl, line_le (by rw [SX.S_cat, SX.S_len]; simp; omega), ?_⟩⟩
    rw [SX.S_cat]
    refine ⟨S [32], rfl, line_le (by rw [SX.S_cat, SX.S_len]; simp; omega), ?_⟩
    rw [SX.S_cat]
    refine ⟨_, rfl, t, _, 1, _, rfl, rfl, SqT.of ht, rfl, .inr ⟨i, rfl, log_small (by omega) k2, S [48 + i.toNat], congrArg V.str (num_one k1 k2), line_le (by rw [SX.S_cat, SX.S_len]; simp; omega), ?_⟩⟩
    rw [SX.S_cat]
    refine ⟨S [10], rfl, line_le (by rw [SX.S_cat, SX.S_len]; simp; omega), ?_⟩
    rw [SX.S_cat]
    have e9 : ((([99, 101, 108, 108, 32] ++ nm) ++ [32]) ++ [48 + i.toNat]) ++ [10] = cellLn (nm, i) := by unfold cellLn; simp
    rw [e9]
    exact q _ (Same.refl _)
  intro H1 e1 hD1
  rw [filter_all] at hD1
  refine ⟨_, rfl, x, cB K, dx, _, _, rfl, e1 _ _ hx, T.c_Band, T.n_seed_list, rfl, q, rfl, ⟨_, e1.seq (SqL.of hs)⟩, fun D2 hD2 => ?_⟩
  refine lc_lst hD2 ss sv (e1.seq (SqL.of hs)) (fun _ => true) (fun s => sv (seedLn s)) (by omega) ?_ ?_
  · intro y H2 hy e2
    refine ⟨_, gv_name, rfl, evT_yes, fun H3 e3 _ Q q => ?_⟩
    have hyl := m4 y hy
    refine ⟨S [115, 101, 101, 100, 32], rfl, line_le (by decide), ?_⟩
    rw [show (Str.empty ++ S [115, 101, 101, 100, 32]) = S [115, 101, 101, 100, 32] from rfl]
    refine ⟨_, rfl, .inl ⟨S y, rfl, line_le (by rw [SX.S_len]; omega), S y, rfl, line_le (by rw [SX.S_cat, SX.S_len]; simp; omega), ?_⟩⟩
    rw [SX.S_cat]
    refine ⟨S [10], rfl, line_le (by rw [SX.S_cat, SX.S_len]; simp; omega), ?_⟩
    rw [SX.S_cat]
    have e9 : ([115, 101, 101, 100, 32] ++ y) ++ [10] = seedLn y := by unfold seedLn; simp
    rw [e9]
    exact q _ (Same.refl _)
  intro H2 e2 hD2'
  rw [filter_all] at hD2'
  have hD1' := e2 _ _ hD1
  refine ⟨⟨_, rfl⟩, _, rfl, _, rfl, D, D2, _, _, rfl, rfl, hD1', hD2', line_le (by rw [List.length_map, List.length_map]; omega), fun p3 hp3 => ?_⟩
  have hl : upd H2 p3 (.lst (ps.map (fun z => sv (cellLn z.2)) ++ ss.map fun s => sv (seedLn s))) p3 = some (.lst (((((ps.map (·.2)).map cellLn) ++ ss.map seedLn).map S).map V.str)) := by
    rw [upd_same, map_S_V, List.map_append, List.map_map, List.map_map, List.map_map]; rfl
  have hfl : ((((ps.map (·.2)).map cellLn) ++ ss.map seedLn)).flatten = textL (ps.map (·.2)) ss := by rw [List.flatten_append]; rfl
  refine ⟨S [], p3, _, rfl, rfl, .inl (SqL.of hl), ?_, ?_⟩
  · rw [lens_sum, hfl]
    show _ + _ * 0 ≤ _
    omega
  · rw [join_nil, hfl]
    exact k _ ((e1.trans e2).upd1 hp3)
abbrev N_Band___len__ : List Str := ["self"]
theorem sc_Band___len__ : FnScope N_Band___len__ ["self"] (defScope s_Band___len__) := ⟨rfl, rfl, rfl, by decide +kernel, rfl, by decide +kernel, by decide +kernel⟩
theorem fn_len (T : Txt K mg) : ∃ fd, FnOk P w K mg base CX0 1 (He.ma K (cB K) "__len__") fd ["self"] (spBLen K) ∧ Binds K fd ["self"] [] := by
  obtain ⟨fd, F⟩ := T.d_Band___len__
  refine ⟨fd, FunD.ok0 F sc_Band___len__ (fun vs H Q E h => by obtain ⟨_, _, _, rfl, _⟩ := h; rfl) fun cdv A outer s H vs Q E hr h => ?_, F.bindsN (fun _ _ _ _ _ _ us hl => match us, hl with | [_], _ => rfl)⟩
  obtain ⟨x, cs, ss, rfl, hB, k⟩ := h
  obtain ⟨dx, p, q, r, d, l, rows, j, hx, hc, hs, hr2, hst, hrl⟩ := hB
  refine ⟨_, (pss_one (ps_ret (pe_callB (call_len_seqK (K := K) rfl) (by rfl) T.f_len PySem.boot_len (pa_cons (pe_fldK (K := K) rfl (pv 0)) pa_nil)))), ?_⟩
  refine ⟨_, rfl, x, cB K, dx, _, _, rfl, hx, T.c_Band, T.n_row_list, rfl, r, _, rfl, .inl (SqL.of hr2), ?_⟩
  rw [hrl]; exact k j hst
abbrev N_Band___str__ : List Str := ["self"]
theorem sc_Band___str__ : FnScope N_Band___str__ ["self"] (defScope s_Band___str__) := ⟨rfl, rfl, rfl, by decide +kernel, rfl, by decide +kernel, by decide +kernel⟩
theorem fn_str (T : Txt K mg) : ∃ fd, FnOk P w K mg base CX0 2 (He.ma K (cB K) "__str__") fd ["self"] (spBText K) ∧ Binds K fd ["self"] [] := by
  obtain ⟨fd, F⟩ := T.d_Band___str__
  refine ⟨fd, FunD.ok0 F sc_Band___str__ (fun vs H Q E h => by obtain ⟨_, _, _, rfl, _⟩ := h; rfl) fun cdv A outer s H vs Q E hr h => ?_, F.bindsN (fun _ _ _ _ _ _ us hl => match us, hl with | [_], _ => rfl)⟩
  obtain ⟨x, cs, ss, rfl, hB, ok, sm, k⟩ := h
  have hB' := hB
  obtain ⟨dx, p, q, r, d, l, rows, j, hx, hc, hs, hr2, hst, hrl⟩ := hB
  refine ⟨_, (pss_one (ps_ret (pe_callTy SkE.call_str_str (by rfl) T.f_str (by decide +kernel) (pa_cons (C8.pe_mt0 (cm_Band_text T) hr (by decide) (pv 0)) pa_nil)))), ?_⟩
  exact ⟨_, rfl, x, dx, _, rfl, hx, rfl, x, cs, ss, rfl, hB', ok, sm, fun H' e => ⟨_, rfl, k H' e⟩⟩
abbrev N_Band___eq__ : List Str := ["self", "other"]
theorem sc_Band___eq__ : FnScope N_Band___eq__ ["self", "other"] (defScope s_Band___eq__) := ⟨rfl, rfl, rfl, by decide +kernel, rfl, by decide +kernel, by decide +kernel⟩
theorem fn_eq (T : Txt K mg) : ∃ fd, FnOk P w K mg base CX0 1 (He.ma K (cB K) "__eq__") fd ["self", "other"] (spEq (sameBand K)) ∧ Binds K fd ["self", "other"] [] := by
  obtain ⟨fd, F⟩ := T.d_Band___eq__
  refine ⟨fd, FunD.ok0 F sc_Band___eq__ (fun vs H Q E h => by obtain ⟨_, _, rfl, _⟩ := h; rfl) fun cdv A outer s H vs Q E hr h => ?_, F.bindsN (fun _ _ _ _ _ _ us hl => match us, hl with | [_, _], _ => rfl)⟩
  obtain ⟨x, y, rfl, ⟨cs, ss, hx, hy, ac, as⟩, k⟩ := h
  obtain ⟨dx, p, q, r, d, l, rows, j, hx, hc, hs, _⟩ := hx
  obtain ⟨dx2, p2, q2, r2, d2, l2, rows2, j2, hy, hc2, hs2, _⟩ := hy
  refine ⟨_, (pss_one (ps_ret (pe_and (pe_callB (C8.call_isC T.i_Band) (by rfl) T.f_isinstance (by decide +kernel) (pa_cons (pv 1) (pa_cons (C8.pe_gc (v := .ref (cB K)) (by rfl) ⟨_, T.g_Band, rfl⟩) pa_nil))) (pe_and (pe_cmpR (op_eqDK (K := K) rfl hr.units) (pe_fldK (K := K) rfl (pv 0)) (pe_fldK (K := K) rfl (pv 1)) (nomark _)) (pe_one (pe_cmpR (op_eqDK (K := K) rfl hr.units) (pe_fldK (K := K) rfl (pv 0)) (pe_fldK (K := K) rfl (pv 1)) (nomark _))))))), ?_⟩
  refine ⟨_, rfl, y, dx2, _, rfl, hy, _, rfl, iteT ?_⟩
  refine ⟨_, rfl, x, cB K, dx, _, _, rfl, hx, T.c_Band, T.n_cell_list, rfl, _, rfl, y, cB K, dx2, _, _, rfl, hy, T.c_Band, T.n_cell_list, rfl, _, _, hc.dp, hc2.dp, shaped_cells ac, shaped_cells ac, _, rfl, ?_⟩
  rw [eqv_cells, decide_eq_true rfl]
  refine iteT ⟨_, rfl, x, cB K, dx, _, _, rfl, hx, T.c_Band, T.n_seed_list, rfl, _, rfl, y, cB K, dx2, _, _, rfl, hy, T.c_Band, T.n_seed_list, rfl, _, _, dp_strs (SqL.of hs), dp_strs (SqL.of hs2), shaped_strs as, shaped_strs as, ?_⟩
  rw [eqv_strs, decide_eq_true rfl]
  exact k H (fun _ _ h => h)
end
end NT
namespace NT
open PySem PySem.Spec PyProof.Rows L2 L2H HotX
open SX (S)
theorem pmkHK {X : Cx} {K : PySem.W.Frag} {e e2 : Expr} {ta : TA} {p pos : Pos} (hK : X.K = K) (T : Txt K X.mg) (hr : RoomH 2 X.A) (hc : HotC X) (hg : Gl X "InvalidText") (ha : PA X [e, e2] ta) (he : starEach [e, e2] X.env = (false, eval e X.env) :: starEach [e2] X.env := by rfl) (hpl : (backTo pos (starEach [e2] X.env)).any (·.1) = false := by rfl) :
    PMk5 X (.Call (.Name "InvalidText" p) [e, e2] [] pos) (tMkO (He.ga K "InvalidText") (spX2 (He.ga K "InvalidText") "line" "why" "InvalidText") [] ta) := by
  subst hK
  exact pmkH_InvalidText T hr hc hg ha he hpl
/-! ### what a text reads as -/
def rLines (x : List Nat) : List (List Nat) := TL.spl [10] 0 [] x
def rWhole (x : List Nat) : List (List Nat) := (rLines x).dropLast
def rC (x : List Nat) : List Cell := lead cellP (rWhole x)
def rS (x : List Nat) : List Row := if rC x = [] then [] else lead seedP ((rWhole x).drop (rC x).length)
def rAt (x : List Nat) : Nat := (rC x).length + (rS x).length
def rEnd (x : List Nat) : Bool := decide (rAt x = (rWhole x).length) && decide ((rLines x).getLast? = some [])
inductive Out where
  | bad (i : Nat) (w : Str)
  | good (cs : List Cell) (ss : List Row)
open Classical in
noncomputable def outP (x : List Nat) : Out := if rS x = [] then .bad (rAt x) (if rEnd x = true then "missing" else "form") else if OkBand (rC x) (rS x) then (if rEnd x = true then .good (rC x) (rS x) else .bad (rAt x) "form") else .bad 0 "band"
theorem lead_mem {α : Type} {p : List Nat → Option α} : ∀ {ys : List (List Nat)} {c : α}, c ∈ lead p ys → ∃ y ∈ ys, p y = some c
  | [], _, h => nomatch h
  | y :: ys, c, h => by
    have h : c ∈ (match p y with | none => [] | some c => c :: lead p ys) := h
    cases q : p y with
    | none => rw [q] at h; cases h
    | some d =>
      rw [q] at h
      rcases List.mem_cons.mp h with e | e
      · exact ⟨y, List.mem_cons_self, by rw [q, e]⟩
      · obtain ⟨z, hz, e⟩ := lead_mem e
        exact ⟨z, List.mem_cons_of_mem _ hz, e⟩
theorem lead_len {α : Type} {p : List Nat → Option α} : ∀ (ys : List (List Nat)), (lead p ys).length ≤ ys.length
  | [] => Nat.le_refl _
  | y :: ys => by
    show (match p y with | none => [] | some c => c :: lead p ys).length ≤ _
    cases p y with
    | none => exact Nat.zero_le _
    | some d => rw [List.length_cons, List.length_cons]; have := lead_len (p := p) ys; omega
theorem cellP_good {x : List Nat} {c : Cell} (h : cellP x = some c) : nameB c.1 = true ∧ 1 ≤ c.2 ∧ c.2 ≤ 4 := by
  unfold cellP at h
  split at h
  · rename_i a b c' hw
    split at h
    · rename_i hc
      cases h
      obtain ⟨d, rfl, hd⟩ := cntW_one hc.2.2
      refine ⟨hc.2.1, ?_, ?_⟩
      · show 1 ≤ (d : Int) - 48; omega
      · show (d : Int) - 48 ≤ 4; omega
    · cases h
  · cases h
theorem seedP_sub {x b : List Nat} (h : seedP x = some b) : b.length ≤ x.length ∧ ∀ d ∈ b, d ∈ x := by
  unfold seedP at h
  split at h
  · rename_i a b' hw
    split at h
    · cases h
      have hm : b ∈ words x := by rw [hw]; simp
      exact ⟨spl1_len hm, spl1_mem hm⟩
    · cases h
  · cases h
theorem rWhole_mem {x y : List Nat} (h : y ∈ rWhole x) : y ∈ rLines x := List.dropLast_subset _ h
theorem rC_good (x : List Nat) : goodCells (rC x) := fun c hc => by
  obtain ⟨y, _, e⟩ := lead_mem hc
  exact cellP_good e
theorem rS_sub {x : List Nat} {s : Row} (h : s ∈ rS x) : s.length ≤ x.length ∧ ∀ d ∈ s, d ∈ x := by
  unfold rS at h
  split at h
  · cases h
  · obtain ⟨y, hy, e⟩ := lead_mem h
    have hy : y ∈ rLines x := rWhole_mem (List.drop_subset _ _ hy)
    obtain ⟨h1, h2⟩ := seedP_sub e
    exact ⟨Nat.le_trans h1 (spl1_len hy), fun d hd => spl1_mem hy d (h2 d hd)⟩
theorem rLines_len (x : List Nat) : (rLines x).length ≤ x.length + 1 := spl1_count 10 x []
theorem rLines_ne (x : List Nat) : rLines x ≠ [] := spl1_ne 10 x []
theorem cut_butlast {xs : List V} (h : xs ≠ []) : cutV xs none (some (-1)) = xs.dropLast := by
  have hp : 0 < xs.length := List.length_pos_iff.mpr h
  unfold cutV
  have e1 : HT.sIx xs.length 0 none = 0 := rfl
  have e2 : HT.sIx xs.length xs.length (some (-1)) = xs.length - 1 := by
    unfold HT.sIx
    simp
    omega
  rw [e1, e2, List.drop_zero, Nat.sub_zero, List.dropLast_eq_take]
theorem at_last {α : Type} {xs : List α} {v : α} (h : xs.getLast? = some v) : atI xs (-1) = some v := by
  obtain ⟨ys, e⟩ := List.getLast?_eq_some_iff.mp h
  rw [e]; exact atI_last ys v
theorem nameB_asc {x : List Nat} (h : nameB x = true) : asc x := fun c hc => by
  have := List.all_eq_true.mp (nameB_all h) c hc
  have hm : c ∈ letters := of_decide_eq_true this
  have hl : letters.all (fun c => decide (c < 128)) = true := by decide
  exact of_decide_eq_true (List.all_eq_true.mp hl c hm)
def spRead (K : PySem.W.Frag) : Sp := fun vs H Q E =>
  (∃ x : List Nat, vs = [sv x] ∧ x.length ≤ 900000 ∧ asc x ∧ (∀ cs ss, outP x = .good cs ss → ∀ H' b, Same H H' → BandAt K H' b cs ss → Q (.ref b) H') ∧ (∀ i w, outP x = .bad i w → ∀ H' d, Same H H' → H' d = some (.xd (itF (.str w) (.int i))) → E (.ref (cIT K)) (some d) H')) ∨
  (∃ (v : V) (t : Value), vs = [v] ∧ TyX K H v t ∧ PySem.W.kitOne K t (.type "str") = some false ∧ ∀ H' d, Same H H' → H' d = some (.xd (itF (.str "form") (.int 0))) → E (.ref (cIT K)) (some d) H')
section
variable {P : Program} {w : World} {K : PySem.W.Frag} {mg : Str → Option Value} {base : Heap}
/-- Band(a, b): from the caller's heap -/
theorem make_ans {H1 : Hp} {x dx a b : Addr} {cs : List Cell} {ss : List Row} {R : VK} {E : XK} (hx : H1 x = none) (hd : H1 dx = none) (hne : dx ≠ x) (hc : CellsAt H1 a cs) (hg : goodCells cs) (hs : StrsAt H1 b ss) (h1 : cs.length ≤ 1000000) (h2 : ss.length ≤ 1000000) (h3 : ∀ s ∈ ss, s.length ≤ 1000000)
    (yes : OkBand cs ss → ∀ H2, Same H1 H2 → BandAt K H2 x cs ss → R .non H2) (no : ¬ OkBand cs ss → ∀ cls d H', PySem.W.exmOne K cls (.ref (He.ga K "TellsError")) = some true → Same H1 H' → E cls d H') :
    spInit K (.ref x :: ([.ref a, .ref b] ++ [.int 800])) (upd (upd H1 dx (.own x)) x (.ins (cB K) dx [])) R E := by
  have e0 : Same H1 (upd (upd H1 dx (.own x)) x (.ins (cB K) dx [])) := ((Same.refl H1).upd1 hd).upd1 (by rw [upd_ne (Ne.symm hne)]; exact hx)
  have sx : ∀ {H'}, SameX x (upd (upd H1 dx (.own x)) x (.ins (cB K) dx [])) H' → Same H1 H' := fun e b u h => e b u (fun q => by rw [q, hx] at h; cases h) (e0 b u h)
  exact ⟨x, dx, a, b, cs, ss, rfl, upd_same, hc.same e0, hg, hs.same e0, h1, h2, h3, fun ok H' e hB => yes ok H' (sx e) hB, fun n cls d H' te e => no n cls d H' te (sx e)⟩
abbrev N_Band_read : List Str := ["text", "lines", "whole", "cells", "seeds", "at", "ended", "band"]
theorem sc_Band_read : FnScope N_Band_read ["text"] (defScope s_Band_read) := ⟨rfl, rfl, rfl, by decide +kernel, rfl, by decide +kernel, by decide +kernel⟩
theorem fn_read (T : Txt K mg) : ∃ fd, FnOk P w K mg base (L2.CX P w) 7 (rd K) fd ["text"] (spRead K) ∧ Binds K fd ["text"] [] ∧ PySem.W.keepIn K (.ref (rd K)) = true := by
  obtain ⟨fd, F⟩ := T.d_Band_read
  obtain ⟨fdI, dsI, FI, VI, BI⟩ := fn_init (P := P) (w := w) (base := base) T
  refine ⟨fd, F.ok sc_Band_read (fun vs H Q E h => by rcases h with ⟨_, rfl, _⟩ | ⟨_, _, rfl, _⟩ <;> rfl) fun cdv A outer s H vs Q E hr h => ?_, F.bindsN (fun _ _ _ _ _ _ us hl => match us, hl with | [_], _ => rfl), F.kp⟩
  refine ⟨_, (pss_cons (ps_if (pt_not (pt_val (pe_callB (call_isiK' (K := K) rfl) (by rfl) T.f_isinstance (by decide +kernel) (pa_cons (pv 0) (pa_cons (pe_bltn (v := .ty "str") (u := .type "str") (by rfl) T.f_str (by decide +kernel) rfl) pa_nil)))))
    (pss_one (L2.ps_raise rfl (L2.takes_of rfl rfl rfl rfl) (pmk_InvalidText T (hr.mono (by decide)) (by rfl) (pa_cons pe_int (pa_cons pe_str pa_nil)))))
    pss_nil)
    (pss_cons (ps_set (i := 1) sc_Band_read.nd rfl (Or.inl rfl) (pe_split (pv 0) pe_str))
    (pss_cons (ps_set (i := 2) sc_Band_read.nd rfl (Or.inl rfl) (pe_slice (sl_listK (K := K) rfl) (pv 1) po_none (po_some (pe_un un_neg pe_int))))
    (pss_cons (ps_set (i := 3) sc_Band_read.nd rfl (Or.inl rfl) (pe_cl (cl_leading_cells T) hr (by decide) (by rfl) (pa_cons (pv 2) pa_nil)))
    (pss_cons (ps_set (i := 4) sc_Band_read.nd rfl (Or.inl rfl) (pe_cut (pe_ifExp (pt_cmpR (op_neDK (K := K) rfl hr.units) (pv 3) (pe_lst pa_nil) (nomark _)) (pe_cl (cl_leading_seeds T) hr (by decide) (by rfl) (pa_cons (pe_slice (sl_listK (K := K) rfl) (pv 2) (po_some (pe_callB (call_len_seqK (K := K) rfl) (by rfl) T.f_len PySem.boot_len (pa_cons (pv 3) pa_nil))) po_none) pa_nil)) (pe_lst pa_nil))))
    (pss_cons (ps_set (i := 5) sc_Band_read.nd rfl (Or.inl rfl) (pe_cut (pe_op op_add (pe_callB (call_len_seqK (K := K) rfl) (by rfl) T.f_len PySem.boot_len (pa_cons (pv 3) pa_nil)) (pe_callB (call_len_seqK (K := K) rfl) (by rfl) T.f_len PySem.boot_len (pa_cons (pv 4) pa_nil)))))
    (pss_cons (ps_set (i := 6) sc_Band_read.nd rfl (Or.inl rfl) (pe_cut (pe_and (pe_cmpR op_eq (pv 5) (pe_callB (call_len_seqK (K := K) rfl) (by rfl) T.f_len PySem.boot_len (pa_cons (pv 2) pa_nil)) (nomark _)) (pe_one (pe_cmpR op_eq (pe_ix (ix_listK (K := K) rfl) (pv 1) (pe_un un_neg pe_int) (fun _ _ => rfl)) pe_str (nomark _))))))
    (pss_cons (ps_if (pt_cmpR (op_eqDK (K := K) rfl hr.units) (pv 4) (pe_lst pa_nil) (nomark _))
    (pss_one (L2.ps_raise rfl (L2.takes_of rfl rfl rfl rfl) (pmk_InvalidText T (hr.mono (by decide)) (by rfl) (pa_cons (pv 5) (pa_cons (pe_ifExp (pt_val (pv 6)) pe_str pe_str) pa_nil)))))
    pss_nil)
    (pss_cons (ps_try_onlyX rfl rfl ⟨by rfl, by decide, .inl T.g_TellsError⟩ (fun hd => passesAt_of rfl hd) (L2.takes_of rfl rfl rfl rfl) (fun W pn xe tk tk2 hp => pss_one (ps_set (i := 7) sc_Band_read.nd rfl (Or.inl rfl) (pe_make (E := fun cls d H => ∀ σ, W cls d σ H) T.mk_Band FI (hr.mono (by decide)) (by rfl) T.g_Band BI VI (L2N.passes_call tk (fun _ _ σ _ h => h σ)) (pa_cons (pv 3) (pa_cons (pv 4) pa_nil))))) (fun a oe cls d pn hz hf tk hc => pss_one (ps_raiseHN hc tk (pmkHK (K := K) rfl T (roomH_mark (hr.mono (by decide)) _) hc (by rfl) (pa_cons pe_int (pa_cons pe_str pa_nil))))))
    (pss_cons (ps_if (pt_not (pt_val (pv 6)))
    (pss_one (L2.ps_raise rfl (L2.takes_of rfl rfl rfl rfl) (pmk_InvalidText T (hr.mono (by decide)) (by rfl) (pa_cons (pv 5) (pa_cons pe_str pa_nil)))))
    pss_nil)
    (pss_one (ps_ret (pv 7))))))))))))), ?_⟩
  rcases h with ⟨x, rfl, hxl, ha, kg, kb⟩ | ⟨v, t, rfl, hty, hk, kb⟩
  rotate_left
  · refine ⟨_, rfl, v, _, t, _, false, rfl, .ty _, hty, hk, _, rfl, iteT ?_⟩
    exact mkX2 fun d hd => kb _ _ ((Same.refl H).upd1 hd) upd_same
  refine ⟨_, rfl, _, _, _, _, true, rfl, .ty _, .base (.str _), kit_ty (by decide +kernel), _, rfl, iteF ?_⟩
  refine ⟨_, rfl, ⟨_, rfl⟩, _, _, rfl, rfl, rfl, line_le (by rw [SX.S_len]; omega), fun l hl => ?_⟩
  have esp : Txt.split (S x) (S [10]) = (rLines x).map S := SX.split_S (by decide) (by decide)
  rw [show (("\n" : Str)) = S [10] by rfl, esp, map_S_V]
  have e0 : Same H (upd H l (.lst ((rLines x).map sv))) := (Same.refl H).upd1 hl
  have hl0 : upd H l (.lst ((rLines x).map sv)) l = some (.lst ((rLines x).map sv)) := upd_same
  generalize upd H l (.lst ((rLines x).map sv)) = H0 at e0 hl0 ⊢
  refine ⟨_, rfl, _, rfl, _, rfl, l, _, rfl, SqL.of hl0, fun wl hw => ?_⟩
  rw [cut_butlast (by simpa using rLines_ne x), ← List.map_dropLast]
  have e1 : Same H (upd H0 wl (.lst ((rWhole x).map sv))) := e0.upd1 hw
  have hl1 : upd H0 wl (.lst ((rWhole x).map sv)) l = _ := ((Same.refl H0).upd1 hw) _ _ hl0
  have hw1 : upd H0 wl (.lst ((rWhole x).map sv)) wl = some (.lst ((rWhole x).map sv)) := upd_same
  show Ends.nx _ _ (upd H0 wl (.lst ((rWhole x).map sv)))
  generalize upd H0 wl (.lst ((rWhole x).map sv)) = H1 at e1 hl1 hw1 ⊢
  have okw : okLines (rWhole x) := by
    have := rLines_len x
    refine ⟨by unfold rWhole; rw [List.length_dropLast]; omega, fun y hy => ⟨?_, fun c hc => ha c (spl1_mem (rWhole_mem hy) c hc)⟩⟩
    have := spl1_len (rWhole_mem hy); omega
  refine ⟨_, rfl, wl, _, rfl, SqL.of hw1, okw, fun H2 ca e2 _ hca => ?_⟩
  have e02 : Same H H2 := e1.trans e2
  have hl2 := e2 _ _ hl1
  have hw2 := e2 _ _ hw1
  have acC : ∀ c ∈ rC x, asc c.1 := fun c hc => nameB_asc (rC_good x c hc).1
  have acS : ∀ s ∈ rS x, asc s := fun s hs d hd => ha d ((rS_sub hs).2 d hd)
  have hcl : (rC x).length ≤ 900001 := by
    have a1 := lead_len (p := cellP) (rWhole x)
    have a2 := rLines_len x
    have a3 : (rWhole x).length = (rLines x).length - 1 := List.length_dropLast
    show (lead cellP (rWhole x)).length ≤ _
    omega
  refine ⟨fun v H3 => ∃ sa, v = .ref sa ∧ Same H2 H3 ∧ StrsAt H3 sa (rS x), ?_, ?_⟩
  rotate_left
  · intro Q' q
    refine ⟨_, rfl, by decide, fun p hp => ⟨_, _, (hca.same ((Same.refl H2).upd1 hp)).dp, dp_strs (ys := []) (SqL.of upd_same), shaped_cells acC, shaped_strs (fun _ h => nomatch h), _, rfl, ?_⟩⟩
    have ep := (Same.refl H2).upd1 (o := .lst []) hp
    refine if_decN (congrArg not (eqv_cells (rC x) [])) (fun h => ?_) (fun h => ?_)
    · obtain ⟨ps, hps, hcaL, hpt⟩ := hca
      refine ⟨_, rfl, _, rfl, ca, _, rfl, .inl (SqL.of (ep _ _ hcaL)), _, rfl, wl, _, rfl, SqL.of (ep _ _ hw2), fun r hr2 => ?_⟩
      have e9 : (ps.map fun z => V.ref z.1).length = (rC x).length := by rw [List.length_map]; show _ = (lead cellP (rWhole x)).length; rw [← hps, List.length_map]
      rw [e9, cut_from (by rw [List.length_map]; exact lead_len _), ← List.map_drop]
      have ok2 : okLines ((rWhole x).drop (rC x).length) := ⟨by rw [List.length_drop]; have := okw.1; omega, fun y hy => okw.2 y (List.drop_subset _ _ hy)⟩
      refine ⟨r, _, rfl, SqL.of upd_same, ok2, fun H3 sa e3 _ hsa => q _ _ ⟨sa, rfl, (ep.upd1 hr2).trans e3, ?_⟩⟩
      unfold rS; rw [if_neg h]; exact hsa
    · refine ⟨by decide, fun r hr2 => q _ _ ⟨r, rfl, ep.upd1 hr2, ?_⟩⟩
      unfold rS; rw [if_pos h]; exact upd_same
  rintro _ H3 ⟨sa, rfl, e3, hsa⟩
  have hca3 := hca.same e3
  have hl3 := e3 _ _ hl2
  have hw3 := e3 _ _ hw2
  have e03 := e02.trans e3
  obtain ⟨ps, hps, hcaL, hpt⟩ := hca3
  have e9 : (ps.map fun z => V.ref z.1).length = (rC x).length := by rw [List.length_map]; show _ = (lead cellP (rWhole x)).length; rw [← hps, List.length_map]
  have hca3 : CellsAt H3 ca (rC x) := ⟨ps, hps, hcaL, hpt⟩
  refine ⟨fun v H4 => v = .int (rAt x : Nat) ∧ H4 = H3, ?_, ?_⟩
  rotate_left
  · intro Q' q
    refine ⟨_, rfl, ca, _, rfl, .inl (SqL.of hcaL), _, rfl, sa, _, rfl, .inl (SqL.of hsa), _, _, rfl, rfl, ?_⟩
    rw [e9, List.length_map]
    exact q _ _ ⟨by unfold rAt; rw [Int.natCast_add], rfl⟩
  rintro _ H3 ⟨rfl, rfl⟩
  refine ⟨fun v H4 => v = .bl (rEnd x) ∧ H4 = H3, ?_, ?_⟩
  rotate_left
  · intro Q' q
    refine ⟨_, rfl, _, rfl, wl, _, rfl, .inl (SqL.of hw3), rfl, _, rfl, ?_⟩
    rw [List.length_map]
    have hd : decide (V.int (rAt x : Nat) = .int ((rWhole x).length : Nat)) = decide (rAt x = (rWhole x).length) := by
      by_cases h : rAt x = (rWhole x).length
      · rw [decide_eq_true h, h]; exact decide_eq_true rfl
      · rw [decide_eq_false h]; exact decide_eq_false fun e => h (by injection e with e; omega)
    refine if_dec hd (fun h => ?_) (fun h => ?_)
    · obtain ⟨y, hy⟩ : ∃ y, (rLines x).getLast? = some y := ⟨_, List.getLast?_eq_some_getLast (rLines_ne x)⟩
      refine ⟨_, rfl, _, rfl, l, _, _, sv y, rfl, rfl, SqL.of hl3, at_last (by rw [List.getLast?_map, hy]; rfl), rfl, ?_⟩
      have e8 : decide (sv y = V.str "") = decide (y = []) := txt_dec rfl
      rw [e8]
      refine q _ _ ⟨?_, rfl⟩
      unfold rEnd
      rw [decide_eq_true h, hy, Bool.true_and]
      congr 1
      simp
    · refine q _ _ ⟨?_, rfl⟩
      unfold rEnd
      rw [decide_eq_false h, Bool.false_and]
  rintro _ H3 ⟨rfl, rfl⟩
  refine ⟨_, rfl, by decide, fun p hp => ⟨_, _, dp_strs (((Same.refl H3).upd1 hp).seq (SqL.of hsa)), dp_strs (ys := []) (SqL.of upd_same), shaped_strs acS, shaped_strs (fun _ h => nomatch h), _, rfl, ?_⟩⟩
  have e4 : Same H (upd H3 p (.lst [])) := e03.upd1 hp
  have hca4 : CellsAt (upd H3 p (.lst [])) ca (rC x) := hca3.same ((Same.refl H3).upd1 hp)
  have hsa4 : StrsAt (upd H3 p (.lst [])) sa (rS x) := hsa.same ((Same.refl H3).upd1 hp)
  generalize upd H3 p (.lst []) = H4 at e4 hca4 hsa4 ⊢
  refine if_dec (eqv_strs (rS x) []) (fun h => ?_) (fun hne => ?_)
  · by_cases hE : rEnd x = true
    · refine ⟨_, rfl, _, rfl, _, rfl, ?_⟩
      rw [hE]
      refine iteT (mkX2 fun d hd => kb _ _ ?_ _ _ (e4.upd1 hd) upd_same)
      unfold outP; rw [if_pos h, if_pos hE]
    · refine ⟨_, rfl, _, rfl, _, rfl, ?_⟩
      rw [Bool.eq_false_iff.mpr hE]
      refine iteF (mkX2 fun d hd => kb _ _ ?_ _ _ (e4.upd1 hd) upd_same)
      unfold outP; rw [if_pos h, if_neg hE]
  refine ⟨_, rfl, _, rfl, fun x' dx hx hd hdx => ?_⟩
  refine make_ans (K := K) (cs := rC x) (ss := rS x) hx hd hdx hca4 (rC_good x) hsa4 (by omega) ?_ (fun s hs => by have := (rS_sub hs).1; omega) ?_ ?_
  · unfold rS
    split
    · exact Nat.zero_le _
    · have a1 := lead_len (p := seedP) ((rWhole x).drop (rC x).length)
      rw [List.length_drop] at a1
      have a2 := okw.1
      omega
  · intro ok H5 e5 hB
    refine ⟨rfl, ?_⟩
    by_cases hE : rEnd x = true
    · refine ⟨_, rfl, _, rfl, ?_⟩
      rw [hE]
      refine iteF ⟨_, rfl, kg _ _ ?_ _ _ (e4.trans e5) hB⟩
      unfold outP; rw [if_neg hne, if_pos ok, if_pos hE]
    · refine ⟨_, rfl, _, rfl, ?_⟩
      rw [Bool.eq_false_iff.mpr hE]
      refine iteT ⟨_, rfl, mkX2 fun d hd => kb _ _ ?_ _ _ ((e4.trans e5).upd1 hd) upd_same⟩
      unfold outP; rw [if_neg hne, if_pos ok, if_neg hE]
  · intro no cls d H5 te e5 σ
    refine ⟨true, te, fun _ a ha => ?_, fun h => nomatch h⟩
    refine mkX2 fun d2 hd2 => kb 0 _ ?_ _ _ ((e4.trans e5).upd1 hd2) upd_same
    unfold outP; rw [if_neg hne, if_neg no]
end
end NT
namespace NT
open PySem PySem.Spec PyProof.Rows L2
open SX (S)
/-! ### the bag of draws -/
def bagL (q : Addr) (i : Nat) (d m c : Int) : List V := [.ref q, .int (i : Nat), .int d, .int m, .int c]
def BagAt (H : Hp) (a q : Addr) : Prop := ∃ (ns : List Int) (i : Nat) (d m c : Int), H a = some (.lst (bagL q i d m c)) ∧ H q = some (.lst (ns.map V.int)) ∧ ns.length ≤ 1000 ∧ 0 ≤ d ∧ 0 ≤ m ∧ m < 2147483648
theorem bag_ne {H : Hp} {a q : Addr} {i : Nat} {d m c : Int} {ns : List Int} (ha : H a = some (.lst (bagL q i d m c))) (hq : H q = some (.lst (ns.map V.int))) : q ≠ a := by
  intro e
  rw [e, ha] at hq
  have h2 : bagL q i d m c = ns.map V.int := by injection hq with h; injection h
  cases ns with
  | nil => cases h2
  | cons n ns => injection h2 with h _; cases h
theorem BagAt.same {H H' : Hp} {a q : Addr} (h : BagAt H a q) (e : Same H H') : BagAt H' a q := by
  obtain ⟨ns, i, d, m, c, h1, h2, h3⟩ := h
  exact ⟨ns, i, d, m, c, e _ _ h1, e _ _ h2, h3⟩
/-- a list that isn't the bag's -/
theorem BagAt.ne_strs {H : Hp} {a q p : Addr} {ys : List (List Nat)} (h : BagAt H a q) (hp : H p = some (.lst (ys.map sv))) : p ≠ a := by
  obtain ⟨ns, i, d, m, c, h1, _⟩ := h
  intro e
  rw [e, h1] at hp
  have h2 : bagL q i d m c = ys.map sv := by injection hp with h; injection h
  cases ys with
  | nil => cases h2
  | cons n ns => injection h2 with h _; cases h
theorem BagAt.ne_refs {α : Type} {f : α → Addr} {H : Hp} {a q p : Addr} {ys : List α} (h : BagAt H a q) (hp : H p = some (.lst (ys.map fun z => .ref (f z)))) : p ≠ a := by
  obtain ⟨ns, i, d, m, c, h1, _⟩ := h
  intro e
  rw [e, h1] at hp
  have h2 : bagL q i d m c = ys.map fun z => .ref (f z) := by injection hp with h; injection h
  match ys, h2 with
  | [], h2 => cases h2
  | [_], h2 => injection h2 with _ h; cases h
  | _ :: _ :: _, h2 => injection h2 with _ h; injection h with h _; cases h
theorem BagAt.ne_tup {H : Hp} {a q p : Addr} {xs : List V} (h : BagAt H a q) (hp : H p = some (.tup xs)) : p ≠ a := by
  obtain ⟨ns, i, d, m, c, h1, _⟩ := h
  intro e
  rw [e, h1] at hp
  cases hp
theorem StrsAt.bag {H H' : Hp} {a q p : Addr} {ys : List (List Nat)} (h : StrsAt H p ys) (hb : BagAt H a q) (e : SameX a H H') : StrsAt H' p ys := e _ _ (hb.ne_strs h) h
theorem CellsAt.bag {H H' : Hp} {a q p : Addr} {cs : List Cell} (h : CellsAt H p cs) (hb : BagAt H a q) (e : SameX a H H') : CellsAt H' p cs := by
  obtain ⟨ps, h1, h2, h3⟩ := h
  exact ⟨ps, h1, e _ _ (hb.ne_refs h2) h2, fun z hz => e _ _ (hb.ne_tup (h3 z hz)) (h3 z hz)⟩
theorem SameX.refl (x : Addr) (H : Hp) : SameX x H H := fun _ _ _ h => h
theorem BagAt.nea {H : Hp} {a q : Addr} (h : BagAt H a q) : (∃ u, H a = some u) ∧ (∃ u, H q = some u) ∧ q ≠ a := by
  obtain ⟨ns, i, d, m, c, h1, h2, _⟩ := h
  exact ⟨⟨_, h1⟩, ⟨_, h2⟩, bag_ne h1 h2⟩
/-- an object that was new to H0 may change -/
theorem BagAt.mut {H0 H : Hp} {a q p : Addr} {o : HO} (h0 : BagAt H0 a q) (hp : H0 p = none) (h : BagAt H a q) : BagAt (upd H p o) a q := by
  obtain ⟨⟨u, hu⟩, ⟨v, hv⟩, _⟩ := h0.nea
  obtain ⟨ns, i, d, m, c, h1, h2, h3⟩ := h
  exact ⟨ns, i, d, m, c, by rw [upd_ne (ne_of_none hu hp)]; exact h1, by rw [upd_ne (ne_of_none hv hp)]; exact h2, h3⟩
theorem SameX.mut {x p : Addr} {H H1 : Hp} {o : HO} (a : SameX x H H1) (hp : H p = none) : SameX x H (upd H1 p o) := fun c u n h => by rw [upd_ne (ne_of_none h hp)]; exact a c u n h
def spDraw : Sp := fun vs H Q _ => ∃ (a q : Addr) (n : Int), vs = [.ref a, .int n] ∧ BagAt H a q ∧ 0 < n ∧ n < 1073741824 ∧ ∀ H' (r : Nat), SameX a H H' → BagAt H' a q → (r : Int) < n → Q (.int (r : Nat)) H'
theorem call_lenLS {X : Cx} {K : PySem.W.Frag} (hK : X.K = K) : CallR X (.builtin "len") (fun xs H Q => ∃ x n, xs = [x] ∧ LenV K x H n ∧ Q (.int n) H) := by subst hK; exact call_len
section
variable {P : Program} {w : World} {K : PySem.W.Frag} {mg : Str → Option Value} {base : Heap}
def spBag (K : PySem.W.Frag) : Sp := fun vs H Q _ => ∃ (a : Addr) (ns : List Int), vs = [.ref a] ∧ SqL K H a (ns.map V.int) ∧ ∀ H' p q, Same H H' → BagAt H' p q → Q (.ref p) H'
theorem cut_to' {xs : List V} {i : Nat} : cutV xs none (some (i : Int)) = xs.take i := by
  unfold cutV
  have e1 : HT.sIx xs.length 0 none = 0 := rfl
  rw [e1, HT.sIx_nat, List.drop_zero, Nat.sub_zero]
  by_cases h : i ≤ xs.length
  · rw [Nat.min_eq_left h]
  · rw [Nat.min_eq_right (by omega), List.take_length, List.take_of_length_le (by omega)]
abbrev N__law_bag : List Str := ["_law_script", "_law_mixed", "_law_piece"]
theorem sc__law_bag : FnScope N__law_bag ["_law_script"] (defScope s__law_bag) := ⟨rfl, rfl, rfl, by decide +kernel, rfl, by decide +kernel, by decide +kernel⟩
theorem cl__law_bag (T : Txt K mg) : Cl P w K mg base CX0 1 "_law_bag" (spBag K) [] := by
  refine cl0 T.d__law_bag sc__law_bag (fun _ _ _ _ _ _ us hl => match us, hl with | [_], _ => rfl) (fun vs H Q E h => by obtain ⟨_, _, rfl, _⟩ := h; rfl) fun f cdv A outer s H vs Q E hr h => ?_
  obtain ⟨a, ns, rfl, ha, k⟩ := h
  refine ⟨_, (pss_cons (ps_set (i := 1) sc__law_bag.nd rfl (Or.inl rfl) pe_int)
    (pss_cons (ps_for PassesOwn.never rfl (pi_listK (K := K) rfl (pe_slice (sl_listK (K := K) rfl) (pv 0) po_none (po_some pe_int))) (pg_name (i := 2) sc__law_bag.nd rfl (Or.inl rfl))
    (pss_one (ps_set (i := 1) sc__law_bag.nd rfl (Or.inl rfl) (pe_op op_mod (pe_callTy call_int1 (by rfl) T.f_int (by decide +kernel) (pa_cons (pe_op op_add (pe_op op_add (pe_op op_mul (pv 1) pe_int) (pe_op op_mul (pe_op op_mod (pe_callTy call_int1 (by rfl) T.f_int (by decide +kernel) (pa_cons (pv 2) pa_nil)) pe_int) pe_int)) pe_int) pa_nil)) pe_int))))
    (pss_one (ps_ret (pe_lst (pa_cons (pe_callTy (call_list_ofK (K := K) rfl) (by rfl) T.f_list (by decide +kernel) (pa_cons (pe_slice (sl_listK (K := K) rfl) (pv 0) po_none (po_some pe_int)) pa_nil)) (pa_cons pe_int (pa_cons pe_int (pa_cons (pv 1) (pa_cons pe_int pa_nil)))))))))), ?_⟩
  have e63 : cutV (ns.map V.int) none (some 63) = (ns.take 63).map V.int := by
    rw [List.map_take]; exact cut_to' (i := 63)
  refine ⟨_, rfl, _, rfl, a, _, rfl, ha, fun p hp => ?_⟩
  rw [e63]
  have e1 := (Same.refl H).upd1 (o := .lst ((ns.take 63).map V.int)) hp
  have hp1 : upd H p (.lst ((ns.take 63).map V.int)) p = some (.lst ((ns.take 63).map V.int)) := upd_same
  generalize upd H p (.lst ((ns.take 63).map V.int)) = H1 at e1 hp1 ⊢
  refine ⟨p, rfl, ⟨_, SqL.of hp1⟩, ?_⟩
  refine for_it (walk_list (xs := (ns.take 63).map V.int)) (fun i σ H' => ∃ m o2, σ = [some (.ref a), some (.int m), o2] ∧ H' = H1 ∧ 0 ≤ m ∧ m < 2147483648) ?_ ?_ ?_ ?_
  · exact ⟨42012, none, rfl, rfl, by decide, by decide⟩
  · rintro i σ H' hi ⟨m, o2, rfl, rfl, h0, h1⟩
    exact SqL.of hp1
  · rintro i x σ H' H2 hi ⟨m, o2, rfl, rfl, h0, h1⟩ ⟨rfl, hx⟩
    rw [List.getElem?_map] at hx
    obtain ⟨n, hn, rfl⟩ := Option.map_eq_some_iff.mp hx
    refine ⟨_, rfl, _, _, rfl, rfl, .inr ⟨by decide, by decide⟩, _, rfl, .inl ⟨_, rfl, ?_⟩⟩
    refine ⟨_, _, rfl, rfl, (by decide : (0 : Int) < 999983), _, _, rfl, rfl, .inr ⟨by decide, by decide⟩, _, _, rfl, rfl, _, _, rfl, rfl, .inl ⟨_, rfl, _, _, rfl, rfl, (by decide : (0 : Int) < 2147483399), ?_⟩⟩
    exact ⟨_, _, rfl, rfl, Int.emod_nonneg _ (by decide), by have := Int.emod_lt_of_pos (m * 40692 + n % 999983 * 617 + 71) (b := 2147483399) (by decide); omega⟩
  · rintro σ H' ⟨m, o2, rfl, rfl, h0, h1⟩
    refine ⟨_, rfl, _, rfl, a, _, rfl, e1.seq ha, fun p2 hp2 => ?_⟩
    rw [e63]
    have e2 := e1.upd1 (o := .lst ((ns.take 63).map V.int)) hp2
    have hp2' : upd H' p2 (.lst ((ns.take 63).map V.int)) p2 = some (.lst ((ns.take 63).map V.int)) := upd_same
    generalize upd H' p2 (.lst ((ns.take 63).map V.int)) = H3 at e2 hp2' ⊢
    refine ⟨p2, _, rfl, .inl (SqL.of hp2'), fun p3 hp3 => ?_⟩
    have e3 := e2.upd1 (o := .lst ((ns.take 63).map V.int)) hp3
    have hp3' : upd H3 p3 (.lst ((ns.take 63).map V.int)) p3 = some (.lst ((ns.take 63).map V.int)) := upd_same
    generalize upd H3 p3 (.lst ((ns.take 63).map V.int)) = H4 at e3 hp3' ⊢
    refine ⟨_, rfl, line_le (by show 5 ≤ _; omega), fun p4 hp4 => k _ _ p3 (e3.upd1 hp4) ⟨ns.take 63, 0, 0, m, 0, upd_same, ?_, by rw [List.length_take]; omega, by decide, h0, h1⟩⟩
    rw [upd_ne (ne_of_none hp3' hp4)]; exact hp3'
abbrev N__law_draw : List Str := ["_law_bag_here", "_law_sides", "_law_state", "_law_piece", "_law_digit"]
theorem sc__law_draw : FnScope N__law_draw ["_law_bag_here", "_law_sides"] (defScope s__law_draw) := ⟨rfl, rfl, rfl, by decide +kernel, rfl, by decide +kernel, by decide +kernel⟩
theorem cl__law_draw (T : Txt K mg) : Cl P w K mg base CX0 1 "_law_draw" spDraw [] := by
  refine cl0 T.d__law_draw sc__law_draw (fun _ _ _ _ _ _ us hl => match us, hl with | [_, _], _ => rfl) (fun vs H Q E h => by obtain ⟨_, _, _, rfl, _⟩ := h; rfl) fun f cdv A outer s H vs Q E hr h => ?_
  obtain ⟨a, q, n, rfl, hb, hn0, hn1, k⟩ := h
  obtain ⟨ns, i, d, m, c, ha, hq, hns, hd, hm0, hm1⟩ := hb
  have hqa := bag_ne ha hq
  refine ⟨_, (pss_cons (ps_asg (pe_op op_add (pe_ix (ix_listK (K := K) rfl) (pv 0) pe_int (fun _ _ => rfl)) pe_int) (pg_sub (pv 0) pe_int set_list))
    (pss_cons (ps_cutS (ps_if (PW.pt (pw_and (pt_cmpR op_eq (pe_ix (ix_listK (K := K) rfl) (pv 0) pe_int (fun _ _ => rfl)) pe_int (nomark _)) (pw_and1 (pt_cmpR op_lt (pe_ix (ix_listK (K := K) rfl) (pv 0) pe_int (fun _ _ => rfl)) (pe_callB (call_len_seqK (K := K) rfl) (by rfl) T.f_len PySem.boot_len (pa_cons (pe_ix (ix_listK (K := K) rfl) (pv 0) pe_int (fun _ _ => rfl)) pa_nil)) (nomark _)))))
    (pss_cons (ps_set (i := 3) sc__law_draw.nd rfl (Or.inl rfl) (pe_callB call_abs (by rfl) T.f_abs (by decide +kernel) (pa_cons (pe_callTy call_int1 (by rfl) T.f_int (by decide +kernel) (pa_cons (pe_ix (ix_listK (K := K) rfl) (pe_ix (ix_listK (K := K) rfl) (pv 0) pe_int (fun _ _ => rfl)) (pe_ix (ix_listK (K := K) rfl) (pv 0) pe_int (fun _ _ => rfl)) (fun _ _ => rfl)) pa_nil)) pa_nil)))
    (pss_cons (ps_asg (pe_op op_add (pe_ix (ix_listK (K := K) rfl) (pv 0) pe_int (fun _ _ => rfl)) pe_int) (pg_sub (pv 0) pe_int set_list))
    (pss_one (ps_if (pt_cmpR op_ge (pv 3) (pe_op op_pow pe_int pe_int) (nomark _))
    (pss_one (ps_asg (pv 3) (pg_sub (pv 0) pe_int set_list)))
    (pss_one (ps_asg (pe_op op_mod (pe_callTy call_int1 (by rfl) T.f_int (by decide +kernel) (pa_cons (pe_op op_add (pe_op op_add (pe_op op_mul (pe_ix (ix_listK (K := K) rfl) (pv 0) pe_int (fun _ _ => rfl)) pe_int) (pe_op op_mul (pe_op op_mod (pv 3) pe_int) pe_int)) pe_int) pa_nil)) pe_int) (pg_sub (pv 0) pe_int set_list)))))))
    pss_nil))
    (pss_cons (ps_if (pt_cmpR op_gt (pe_ix (ix_listK (K := K) rfl) (pv 0) pe_int (fun _ _ => rfl)) pe_int (nomark _))
    (pss_cons (ps_set (i := 4) sc__law_draw.nd rfl (Or.inl rfl) (pe_op op_mod (pe_callTy call_int1 (by rfl) T.f_int (by decide +kernel) (pa_cons (pe_ix (ix_listK (K := K) rfl) (pv 0) pe_int (fun _ _ => rfl)) pa_nil)) (pv 1)))
    (pss_cons (ps_asg (pe_op op_fdiv (pe_ix (ix_listK (K := K) rfl) (pv 0) pe_int (fun _ _ => rfl)) (pv 1)) (pg_sub (pv 0) pe_int set_list))
    (pss_one (ps_ret (pv 4)))))
    pss_nil)
    (pss_cons (ps_set (i := 2) sc__law_draw.nd rfl (Or.inl rfl) (pe_callTy call_int1 (by rfl) T.f_int (by decide +kernel) (pa_cons (pe_ix (ix_listK (K := K) rfl) (pv 0) pe_int (fun _ _ => rfl)) pa_nil)))
    (pss_cons (ps_asg (pe_op op_mod (pe_callTy call_int1 (by rfl) T.f_int (by decide +kernel) (pa_cons (pe_op op_add (pe_op op_add (pe_op op_add (pe_op op_mul (pe_op op_mul (pv 2) (pv 2)) pe_int) (pe_op op_mul (pv 2) pe_int)) (pe_op op_mul (pe_ix (ix_listK (K := K) rfl) (pv 0) pe_int (fun _ _ => rfl)) pe_int)) pe_int) pa_nil)) pe_int) (pg_sub (pv 0) pe_int set_list))
    (pss_one (ps_ret (pe_op op_mod (pe_callTy call_int1 (by rfl) T.f_int (by decide +kernel) (pa_cons (pe_op op_add (pe_op op_fdiv (pe_ix (ix_listK (K := K) rfl) (pv 0) pe_int (fun _ _ => rfl)) pe_int) (pe_op op_mul (pe_op op_mod (pe_callTy call_int1 (by rfl) T.f_int (by decide +kernel) (pa_cons (pe_ix (ix_listK (K := K) rfl) (pv 0) pe_int (fun _ _ => rfl)) pa_nil)) pe_int) pe_int)) pa_nil)) (pv 1))))))))), ?_⟩
  refine ⟨_, rfl, a, _, 4, _, rfl, rfl, SqL.of ha, rfl, _, _, rfl, rfl, _, rfl, a, _, 4, 4, rfl, rfl, ha, rfl, ?_⟩
  have X1 : SameX a H (upd H a (.lst (bagL q i d m (c + 1)))) := (SameX.refl a H).put
  have ha1 : upd H a (.lst (bagL q i d m (c + 1))) a = some (.lst (bagL q i d m (c + 1))) := upd_same
  have hq1 := X1 _ _ hqa hq
  show Ends.nx _ _ (upd H a (.lst (bagL q i d m (c + 1))))
  generalize upd H a (.lst (bagL q i d m (c + 1))) = H1 at X1 ha1 hq1 ⊢
  refine ⟨fun σ' H' => ∃ o3 i d m, σ' = [some (.ref a), some (.int n), none, o3, none] ∧ SameX a H H' ∧ H' a = some (.lst (bagL q i d m (c + 1))) ∧ H' q = some (.lst (ns.map V.int)) ∧ 0 ≤ d ∧ 0 ≤ m ∧ m < 2147483648, ?_, ?_⟩
  rotate_left
  · intro N hN
    refine ⟨_, rfl, a, _, 2, _, rfl, rfl, SqL.of ha1, rfl, rfl, _, rfl, ?_⟩
    refine if_dec (p := d = 0) (decide_eq_decide.mpr ⟨fun e => by injection e, fun e => by rw [e]⟩) (fun h0 => ?_) (fun h0 => ?_)
    rotate_left
    · exact hN _ _ ⟨none, i, d, m, rfl, X1, ha1, hq1, hd, hm0, hm1⟩
    refine ⟨_, rfl, a, _, 1, _, rfl, rfl, SqL.of ha1, rfl, _, rfl, a, _, 0, _, rfl, rfl, SqL.of ha1, rfl, q, _, rfl, .inl (SqL.of hq1), _, _, rfl, rfl, _, rfl, ?_⟩
    rw [List.length_map]
    refine if_dec (p := i < ns.length) int_dec_lt (fun h1 => ?_) (fun h1 => ?_)
    rotate_left
    · exact hN _ _ ⟨none, i, d, m, rfl, X1, ha1, hq1, hd, hm0, hm1⟩
    refine ⟨_, rfl, a, _, 0, _, rfl, rfl, SqL.of ha1, rfl, _, rfl, a, _, 1, _, rfl, rfl, SqL.of ha1, rfl, q, _, (i : Nat), .int ns[i], rfl, rfl, SqL.of hq1, atI_nat (by rw [List.getElem?_map, List.getElem?_eq_getElem h1]; rfl), .inl ⟨_, rfl, _, rfl, ?_⟩⟩
    generalize hp : (if ns[i] < 0 then -ns[i] else ns[i]) = p
    have hp0 : 0 ≤ p := by rw [← hp]; split <;> omega
    refine ⟨_, rfl, a, _, 1, _, rfl, rfl, SqL.of ha1, rfl, _, _, rfl, rfl, _, rfl, a, _, 1, 1, rfl, rfl, ha1, rfl, ?_⟩
    have X2 : SameX a H1 (upd H1 a (.lst (bagL q (i + 1) d m (c + 1)))) := (SameX.refl a H1).put
    have ha2 : upd H1 a (.lst (bagL q (i + 1) d m (c + 1))) a = some (.lst (bagL q (i + 1) d m (c + 1))) := upd_same
    have hq2 := X2 _ _ hqa hq1
    show Ends.nx _ _ (upd H1 a (.lst (bagL q (i + 1) d m (c + 1))))
    generalize upd H1 a (.lst (bagL q (i + 1) d m (c + 1))) = H2 at X2 ha2 hq2 ⊢
    refine ⟨_, rfl, _, _, rfl, rfl, ⟨by decide, by decide, by decide⟩, _, _, rfl, rfl, _, rfl, ?_⟩
    refine if_int (fun h2 => ?_) (fun h2 => ?_)
    · refine ⟨_, rfl, _, rfl, a, _, 2, 2, rfl, rfl, ha2, rfl, ?_⟩
      exact hN _ _ ⟨_, i + 1, p, m, rfl, (X1.trans X2).put, upd_same, by rw [upd_ne hqa]; exact hq2, hp0, hm0, hm1⟩
    · refine ⟨_, rfl, a, _, 3, _, rfl, rfl, SqL.of ha2, rfl, _, _, rfl, rfl, .inr ⟨by decide, by decide⟩, _, rfl, _, _, rfl, rfl, (by decide : (0 : Int) < 999983), _, _, rfl, rfl, .inr ⟨by decide, by decide⟩, _, _, rfl, rfl, _, _, rfl, rfl, .inl ⟨_, rfl, _, _, rfl, rfl, (by decide : (0 : Int) < 2147483563), _, rfl, a, _, 3, 3, rfl, rfl, ha2, rfl, ?_⟩⟩
      exact hN _ _ ⟨_, i + 1, d, _, rfl, (X1.trans X2).put, upd_same, by rw [upd_ne hqa]; exact hq2, hd, Int.emod_nonneg _ (by decide), by have := Int.emod_lt_of_pos (m * 39373 + p % 999983 * 823 + 37) (b := 2147483563) (by decide); omega⟩
  rintro _ H2 ⟨o3, i2, d2, m2, rfl, X2, ha2, hq2, hd2, hm20, hm21⟩
  refine ⟨_, rfl, a, _, 2, _, rfl, rfl, SqL.of ha2, rfl, _, _, rfl, rfl, _, rfl, ?_⟩
  refine if_int (fun h2 => ?_) (fun h2 => ?_)
  · refine ⟨_, rfl, a, _, 2, _, rfl, rfl, SqL.of ha2, rfl, .inl ⟨_, rfl, _, rfl, _, _, rfl, rfl, hn0, ?_⟩⟩
    refine ⟨_, rfl, a, _, 2, _, rfl, rfl, SqL.of ha2, rfl, _, rfl, _, _, rfl, rfl, ⟨hn0, hn1⟩, _, rfl, a, _, 2, 2, rfl, rfl, ha2, rfl, ?_⟩
    have r0 := Int.emod_nonneg d2 (show n ≠ 0 by omega)
    have r1 := Int.emod_lt_of_pos d2 hn0
    refine ⟨_, rfl, ?_⟩
    obtain ⟨r, hr⟩ := Int.eq_ofNat_of_zero_le r0
    show Q (.int (d2 % n)) _
    rw [hr] at r1 ⊢
    exact k _ r X2.put ⟨ns, i2, d2 / n, m2, c + 1, upd_same, by rw [upd_ne hqa]; exact hq2, hns, Int.ediv_nonneg hd2 (by omega), hm20, hm21⟩ r1
  · refine ⟨_, rfl, a, _, 3, _, rfl, rfl, SqL.of ha2, rfl, .inl ⟨_, rfl, ?_⟩⟩
    refine ⟨_, rfl, _, rfl, _, _, rfl, rfl, .inl ⟨by omega, by omega⟩, _, _, rfl, rfl, .inr ⟨by decide, by decide⟩, _, rfl, _, _, rfl, rfl, .inr ⟨by decide, by decide⟩, _, _, rfl, rfl, ?_⟩
    refine ⟨_, rfl, a, _, 4, _, rfl, rfl, SqL.of ha2, rfl, _, _, rfl, rfl, .inr ⟨by decide, by decide⟩, _, _, rfl, rfl, _, _, rfl, rfl, .inl ⟨_, rfl, _, _, rfl, rfl, (by decide : (0 : Int) < 2147483543), _, rfl, a, _, 3, 3, rfl, rfl, ha2, rfl, ?_⟩⟩
    generalize hm3 : (m2 * m2 * 23 + m2 * 46021 + (c + 1) * 104729 + 60013) % 2147483543 = m3
    have hm30 : 0 ≤ m3 := by rw [← hm3]; exact Int.emod_nonneg _ (by decide)
    have hm31 : m3 < 2147483648 := by have := Int.emod_lt_of_pos (m2 * m2 * 23 + m2 * 46021 + (c + 1) * 104729 + 60013) (b := 2147483543) (by decide); omega
    have X3 : SameX a H2 (upd H2 a (.lst (bagL q i2 d2 m3 (c + 1)))) := (SameX.refl a H2).put
    have ha3 : upd H2 a (.lst (bagL q i2 d2 m3 (c + 1))) a = some (.lst (bagL q i2 d2 m3 (c + 1))) := upd_same
    have hq3 := X3 _ _ hqa hq2
    show Ends.nx _ _ (upd H2 a (.lst (bagL q i2 d2 ((m2 * m2 * 23 + m2 * 46021 + (c + 1) * 104729 + 60013) % 2147483543) (c + 1))))
    rw [hm3]
    generalize upd H2 a (.lst (bagL q i2 d2 m3 (c + 1))) = H3 at X3 ha3 hq3 ⊢
    refine ⟨_, rfl, a, _, 3, _, rfl, rfl, SqL.of ha3, rfl, _, _, rfl, rfl, ⟨by decide, by decide⟩, _, rfl, a, _, 3, _, rfl, rfl, SqL.of ha3, rfl, .inl ⟨_, rfl, _, _, rfl, rfl, (by decide : (0 : Int) < 8009), _, _, rfl, rfl, .inr ⟨by decide, by decide⟩, _, _, rfl, rfl, .inl ⟨_, rfl, _, rfl, _, _, rfl, rfl, hn0, ?_⟩⟩⟩
    have r0 := Int.emod_nonneg (m3 / 67 + m3 % 8009 * 61) (show n ≠ 0 by omega)
    have r1 := Int.emod_lt_of_pos (m3 / 67 + m3 % 8009 * 61) hn0
    obtain ⟨r, hr⟩ := Int.eq_ofNat_of_zero_le r0
    show Q (.int ((m3 / 67 + m3 % 8009 * 61) % n)) _
    rw [hr] at r1 ⊢
    exact k _ r (X2.trans X3) ⟨ns, i2, d2, m3, c + 1, ha3, hq3, hns, hd2, hm30, hm31⟩ r1
end
end NT
namespace NT
open PySem PySem.Spec PyProof.Rows L2
open SX (S)
/-- a comprehension whose element draws from the bag: the item at i is told by φ -/
theorem lc_bag {J : It} {n : Nat} {G : Hp → Prop} {Y : Nat → Hp → V → Hp → Prop} (w : Walk J n G Y) {g : TG} {tt : TT} {te : TE} {vs : List Nat} {σ : L2.St} {H : Hp} {D : Addr} {Qd : Hp → Prop} {a q : Addr} (hb : BagAt H a q) (hD : H D = none) (φ : Nat → V → Prop) (hn : n ≤ 16000000)
    (hG : ∀ H', SameX a H H' → G H')
    (hs : ∀ i v H1 H2, i < n → SameX a H H1 → BagAt H1 a q → Y i H1 v H2 → Same H1 H2 ∧ ∃ σ2, Gv g v (wipe σ vs) H2 σ2 ∧ wipe σ2 vs = wipe σ vs ∧ EvT tt σ2 H2 true ∧ ∀ H3, Same H2 H3 → ∀ Q : VK, (∀ H4 y, SameX a H3 H4 → BagAt H4 a q → φ i y → Q y H4) → te σ2 H3 Q)
    (hd : ∀ H' xs, SameX a H H' → BagAt H' a q → H' D = some (.lst xs) → xs.length = n → (∀ i y, xs[i]? = some y → φ i y) → Qd H') :
    ∃ W : Nat → Nat → Hp → Prop, (∃ m, W 0 m (upd H D (.lst []))) ∧ ∀ i m H, W i m H →
      (J.stop i H ∧ Qd H) ∨ (J.go i H ∧ ∃ Nx : Hp → Prop, (∀ H', Nx H' → ∃ m', m' < m ∧ W (i + 1) m' H') ∧ ∀ x H', J.yld i H x H' → g x (wipe σ vs) H' fun σ2 H2 => wipe σ2 vs = wipe σ vs ∧ tt σ2 H2 fun b H3 =>
        if b = true then te σ2 H3 fun y H4 => ∃ acc, H4 D = some (.lst acc) ∧ acc.length < sizeLine ∧ Nx (upd H4 D (.lst (acc ++ [y]))) else Nx H3) := by
  have hDa : D ≠ a := fun e => by obtain ⟨⟨u, hu⟩, _⟩ := hb.nea; rw [e, hu] at hD; cases hD
  refine lc_it w (Qd := Qd) (fun i H' => SameX a H H' ∧ BagAt H' a q ∧ ∃ xs, H' D = some (.lst xs) ∧ xs.length = i ∧ ∀ j y, xs[j]? = some y → φ j y) ⟨(SameX.refl a H).mut hD, hb.mut hD hb, [], upd_same, rfl, fun j y h => by cases h⟩ (fun i H' _ q => hG H' q.1) ?_ (fun H' q => ?_)
  · rintro i v H1 H2 hi ⟨X1, B1, xs, hx, hl, hφ⟩ y
    obtain ⟨e1, σ2, h1, h2, h3, h4⟩ := hs i v H1 H2 hi X1 B1 y
    refine h1 _ ⟨h2, h3 _ fun H3 e3 => ?_⟩
    rw [if_pos rfl]
    refine h4 H3 e3 _ fun H4 z X4 B4 hz => ⟨xs, X4 _ _ hDa (e3 _ _ (e1 _ _ hx)), line_lt (by omega), ((X1.trans ((SameX.of (e1.trans e3)).trans X4))).mut hD, hb.mut hD B4, xs ++ [z], upd_same, by rw [List.length_append, hl]; rfl, fun j y hy => ?_⟩
    by_cases hj : j < xs.length
    · rw [List.getElem?_append_left hj] at hy; exact hφ j y hy
    · rw [List.getElem?_append_right (by omega)] at hy
      have : j = xs.length := by
        have := (List.getElem?_eq_some_iff.mp hy).1
        simp at this; omega
      subst this
      rw [Nat.sub_self] at hy
      cases Option.some.inj hy
      rw [hl]; exact hz
  · obtain ⟨X1, B1, xs, hx, hl, hφ⟩ := q
    exact hd H' xs X1 B1 hx hl hφ
theorem BagAt.nep {H : Hp} {a q p : Addr} (h : BagAt H a q) (hp : H p = none) : p ≠ a := fun e => by obtain ⟨⟨u, hu⟩, _⟩ := h.nea; rw [e, hu] at hp; cases hp
def spOf : Sp := fun vs H Q _ => (∃ (a q t : Addr) (ys : List V), vs = [.ref a, .ref t] ∧ BagAt H a q ∧ t ≠ a ∧ H t = some (.lst ys) ∧ 1 ≤ ys.length ∧ ys.length ≤ 1000000 ∧ ∀ (H' : Hp) (j : Nat) (v : V), SameX a H H' → BagAt H' a q → ys[j]? = some v → Q v H') ∨
  ∃ (a q : Addr) (x : List Nat), vs = [.ref a, sv x] ∧ BagAt H a q ∧ 1 ≤ x.length ∧ x.length ≤ 1000000 ∧ ∀ H' c, SameX a H H' → BagAt H' a q → c ∈ x → Q (sv [c]) H'
section
variable {P : Program} {w : World} {K : PySem.W.Frag} {mg : Str → Option Value} {base : Heap}
abbrev N__law_of : List Str := ["_law_bag_here", "_law_things"]
theorem sc__law_of : FnScope N__law_of ["_law_bag_here", "_law_things"] (defScope s__law_of) := ⟨rfl, rfl, rfl, by decide +kernel, rfl, by decide +kernel, by decide +kernel⟩
theorem cl__law_of (T : Txt K mg) : Cl P w K mg base CX0 2 "_law_of" spOf [] := by
  refine cl0 T.d__law_of sc__law_of (fun _ _ _ _ _ _ us hl => match us, hl with | [_, _], _ => rfl) (fun vs H Q E h => by rcases h with ⟨_, _, _, _, rfl, _⟩ | ⟨_, _, _, rfl, _⟩ <;> rfl) fun f cdv A outer s H vs Q E hr h => ?_
  refine ⟨_, (pss_one (ps_ret (pe_ix (ix_seqK (K := K) rfl) (pv 1) (pe_cl (cl__law_draw T) hr (by decide) (by rfl) (pa_cons (pv 0) (pa_cons (pe_callB (call_lenLS (K := K) rfl) (by rfl) T.f_len PySem.boot_len (pa_cons (pv 1) pa_nil)) pa_nil))) (fun _ _ => rfl)))), ?_⟩
  rcases h with ⟨a, q, t, ys, rfl, hb, hta, ht, h1, h2, k⟩ | ⟨a, q, x, rfl, hb, h1, h2, k⟩
  · refine ⟨_, rfl, _, rfl, _, rfl, _, _, rfl, .inl ⟨_, SqL.of ht, rfl⟩, a, q, _, rfl, hb, by omega, by omega, fun H' r X B hr => .inl ?_⟩
    have hr' : r < ys.length := by omega
    exact ⟨t, ys, _, _, rfl, rfl, SqL.of (X _ _ hta ht), atI_nat (List.getElem?_eq_getElem hr'), k _ r _ X B (List.getElem?_eq_getElem hr')⟩
  · refine ⟨_, rfl, _, rfl, _, rfl, _, _, rfl, ⟨line_le (by rw [SX.S_len]; omega), rfl⟩, a, q, _, rfl, hb, by rw [SX.S_len]; omega, by rw [SX.S_len]; omega, fun H' r X B hr => .inr (.inr ?_)⟩
    have hr' : r < x.length := by rw [SX.S_len] at hr; omega
    exact ⟨_, _, _, rfl, rfl, line_le (by rw [SX.S_len]; omega), atI_nat (by show x[r]? = _; exact List.getElem?_eq_getElem hr'), k _ _ X B (List.getElem_mem hr')⟩
def spSize : Sp := fun vs H Q _ => ∃ (a q : Addr), vs = [.ref a] ∧ BagAt H a q ∧ ∀ H' (n : Nat), SameX a H H' → BagAt H' a q → 1 ≤ n → n ≤ 6 → Q (.int (n : Nat)) H'
abbrev N__law_size : List Str := ["_law_bag_here"]
theorem sc__law_size : FnScope N__law_size ["_law_bag_here"] (defScope s__law_size) := ⟨rfl, rfl, rfl, by decide +kernel, rfl, by decide +kernel, by decide +kernel⟩
theorem cl__law_size (T : Txt K mg) : Cl P w K mg base CX0 3 "_law_size" spSize [] := by
  refine cl0 T.d__law_size sc__law_size (fun _ _ _ _ _ _ us hl => match us, hl with | [_], _ => rfl) (fun vs H Q E h => by obtain ⟨_, _, rfl, _⟩ := h; rfl) fun f cdv A outer s H vs Q E hr h => ?_
  obtain ⟨a, q, rfl, hb, k⟩ := h
  refine ⟨_, (pss_one (ps_ret (pe_cl (cl__law_of T) hr (by decide) (by rfl) (pa_cons (pv 0) (pa_cons (pe_lst (pa_cons pe_int (pa_cons pe_int (pa_cons pe_int (pa_cons pe_int (pa_cons pe_int (pa_cons pe_int (pa_cons pe_int (pa_cons pe_int (pa_cons pe_int (pa_cons pe_int pa_nil))))))))))) pa_nil))))), ?_⟩
  refine ⟨_, rfl, by decide, fun p hp => .inl ⟨a, q, p, _, rfl, hb.same ((Same.refl H).upd1 hp), hb.nep hp, upd_same, by decide, by decide, fun H' j v X B hv => ?_⟩⟩
  have e1 := (Same.refl H).upd1 (o := .lst [.int 2, .int 3, .int 3, .int 4, .int 4, .int 5, .int 3, .int 1, .int 2, .int 6]) hp
  have hm := List.mem_of_getElem? hv
  have X2 := (SameX.of (x := a) e1).trans X
  simp only [List.mem_cons, List.not_mem_nil, or_false] at hm
  rcases hm with e | e | e | e | e | e | e | e | e | e <;> rw [e]
  · exact k _ 2 X2 B (by decide) (by decide)
  · exact k _ 3 X2 B (by decide) (by decide)
  · exact k _ 3 X2 B (by decide) (by decide)
  · exact k _ 4 X2 B (by decide) (by decide)
  · exact k _ 4 X2 B (by decide) (by decide)
  · exact k _ 5 X2 B (by decide) (by decide)
  · exact k _ 3 X2 B (by decide) (by decide)
  · exact k _ 1 X2 B (by decide) (by decide)
  · exact k _ 2 X2 B (by decide) (by decide)
  · exact k _ 6 X2 B (by decide) (by decide)
/-! title -/
def spTitle : Sp := fun vs H Q _ => ∃ (a q t : Addr) (ys : List (List Nat)), vs = [.ref a, .ref t] ∧ BagAt H a q ∧ StrsAt H t ys ∧ ys.length ≤ 20 ∧ ∀ H' x, SameX a H H' → BagAt H' a q → nameB x = true → x ∉ ys → Q (sv x) H'
abbrev nine : List (List Nat) := [[115, 101, 108, 102], [99, 101, 108, 108], [115, 101, 101, 100], [114, 111, 119], [97, 97], [98, 97, 110, 100], [122, 122, 122, 122, 122, 122], [109, 111, 115, 116], [109, 97, 100, 101]]
abbrev abc1 : List Nat := ("qwertzuiopasdfghjklyxcvbnm" : Str).cps.toList
abbrev abc2 : List Nat := ("mnbvcxylkjhgfdsapoiuztrewq" : Str).cps.toList
theorem items_of {xs : List V} {φ : Nat → Prop} (h : ∀ (i : Nat) (y : V), xs[i]? = some y → ∃ c, φ c ∧ y = sv [c]) : ∃ l : List Nat, xs = (l.map fun c => [c]).map sv ∧ (∀ c ∈ l, φ c) ∧ l.length = xs.length := by
  induction xs with
  | nil => exact ⟨[], rfl, (fun _ h => nomatch h), rfl⟩
  | cons x xs ih =>
    obtain ⟨c, hc, rfl⟩ := h 0 x rfl
    obtain ⟨l, rfl, h2, h3⟩ := ih fun i y hy => h (i + 1) y hy
    refine ⟨c :: l, rfl, fun d hd => ?_, by rw [List.length_cons, List.length_cons, h3]⟩
    rcases List.mem_cons.mp hd with e | e
    · rw [e]; exact hc
    · exact h2 d e
theorem flat1 (l : List Nat) : (l.map fun c => [c]).flatten = l := by
  induction l with
  | nil => rfl
  | cons c l ih => rw [List.map_cons, List.flatten_cons, ih]; rfl
theorem nodup_le {α : Type} [DecidableEq α] : ∀ {xs ys : List α}, xs.Nodup → (∀ z ∈ xs, z ∈ ys) → xs.length ≤ ys.length
  | [], _, _, _ => Nat.zero_le _
  | x :: xs, ys, h, hs => by
    obtain ⟨h1, h2⟩ := List.nodup_cons.mp h
    have hx := hs x List.mem_cons_self
    have := nodup_le (xs := xs) (ys := ys.erase x) h2 fun z hz => (List.mem_erase_of_ne (fun e => h1 (by rw [← e]; exact hz))).mpr (hs z (List.mem_cons_of_mem _ hz))
    rw [List.length_erase_of_mem hx] at this
    have hp := List.length_pos_of_mem hx
    rw [List.length_cons]; omega
theorem pigeon {l : List Nat} {ys : List (List Nat)} (h1 : l.Nodup) (h2 : ys.length < l.length) : ∃ c ∈ l, [c] ∉ ys := by
  apply Classical.byContradiction
  intro hno
  have hsub : ∀ c ∈ l, [c] ∈ ys := fun c hc => Classical.byContradiction fun q => hno ⟨c, hc, q⟩
  have hn : (l.map fun c => [c]).Nodup := by
    exact List.pairwise_map.mpr (h1.imp fun hne e => hne (by injection e))
  have := nodup_le hn (ys := ys) fun z hz => by
    obtain ⟨c, hc, rfl⟩ := List.mem_map.mp hz
    exact hsub c hc
  rw [List.length_map] at this
  omega
abbrev N__law_title : List Str := ["_law_bag_here", "_law_taken", "_law_title_here", "_law_k", "_law_sign"]
theorem sc__law_title : FnScope N__law_title ["_law_bag_here", "_law_taken"] (defScope s__law_title) := ⟨rfl, rfl, rfl, by decide +kernel, rfl, by decide +kernel, by decide +kernel⟩
theorem cl__law_title (T : Txt K mg) : Cl P w K mg base CX0 3 "_law_title" spTitle [] := by
  refine cl0 T.d__law_title sc__law_title (fun _ _ _ _ _ _ us hl => match us, hl with | [_, _], _ => rfl) (fun vs H Q E h => by obtain ⟨_, _, _, _, rfl, _⟩ := h; rfl) fun f cdv A outer s H vs Q E hr h => ?_
  obtain ⟨a, q, t, ys, rfl, hb, ht, hn, k⟩ := h
  refine ⟨_, (pss_cons (ps_cutS (ps_if (pt_cmpR op_eq (pe_cl (cl__law_draw T) hr (by decide) (by rfl) (pa_cons (pv 0) (pa_cons pe_int pa_nil))) pe_int (nomark _))
    (pss_one (ps_set (i := 2) sc__law_title.nd rfl (Or.inl rfl) (pe_cl (cl__law_of T) hr (by decide) (by rfl) (pa_cons (pv 0) (pa_cons (pe_lst (pa_cons pe_str (pa_cons pe_str (pa_cons pe_str (pa_cons pe_str (pa_cons pe_str (pa_cons pe_str (pa_cons pe_str (pa_cons pe_str (pa_cons pe_str pa_nil)))))))))) pa_nil)))))
    (pss_one (ps_set (i := 2) sc__law_title.nd rfl (Or.inl rfl) (pe_joinK (K := K) rfl pe_str (pe_lc (own := [("_law_k", 3)]) rfl sc__law_title.nd (pi_range1 (by rfl) T.f_range (pa_cons (pe_op op_add pe_int (pe_cl (cl__law_draw T) hr (by decide) (by rfl) (pa_cons (pv 0) (pa_cons pe_int pa_nil)))) pa_nil)) (blkOk_by (N := N__law_title) (sc := defScope s__law_title) (by decide +kernel)) (fun _ _ _ _ _ => pg_name (i := 3) sc__law_title.nd rfl (Or.inl rfl)) (fun _ _ _ _ _ => pts_nil) (fun _ _ _ _ _ => (pe_cl (cl__law_of T) hr (by decide) (by rfl) (pa_cons (pv 0) (pa_cons pe_str pa_nil))))))))))
    (pss_cons (ps_cutS (ps_if (pt_cmpR (op_in_seqK (K := K) rfl) (pv 2) (pv 1) (by rfl))
    (pss_one (ps_set (i := 2) sc__law_title.nd rfl (Or.inl rfl) (pe_ix (ix_listK (K := K) rfl) (pe_lc (own := [("_law_sign", 4)]) rfl sc__law_title.nd (pi_str pe_str) (blkOk_by (N := N__law_title) (sc := defScope s__law_title) (by decide +kernel)) (fun _ _ _ _ _ => pg_name (i := 4) sc__law_title.nd rfl (Or.inl rfl)) (fun _ _ _ _ _ => pts_one (pt_cmpR (op_notIn_seqK (K := K) rfl) (pv 4) (pv 1) (by rfl))) (fun _ _ _ _ _ => (pv 4))) pe_int (fun _ _ => rfl))))
    pss_nil))
    (pss_one (ps_ret (pv 2))))), ?_⟩
  refine ⟨fun σ' H' => ∃ x, σ' = [some (.ref a), some (.ref t), some (sv x), none, none] ∧ SameX a H H' ∧ BagAt H' a q ∧ nameB x = true, ?_, ?_⟩
  rotate_left
  · intro N hN
    refine ⟨_, rfl, a, q, 8, rfl, hb, by decide, by decide, fun H1 r X1 B1 hr1 => ⟨rfl, _, rfl, ?_⟩⟩
    refine if_dec (p := r = 0) (decide_eq_decide.mpr ⟨fun e => by injection e with e; omega, fun e => by rw [e]; rfl⟩) (fun _ => ?_) (fun _ => ?_)
    · refine ⟨_, rfl, by decide, fun p hp => .inl ⟨a, q, p, nine.map sv, rfl, B1.same ((Same.refl H1).upd1 hp), B1.nep hp, upd_same, by decide, by decide, fun H2 j v X2 B2 hv => ?_⟩⟩
      rw [List.getElem?_map] at hv
      obtain ⟨x, hx, rfl⟩ := Option.map_eq_some_iff.mp hv
      refine hN _ _ ⟨x, rfl, (X1.trans (SameX.of ((Same.refl H1).upd1 hp))).trans X2, B2, ?_⟩
      have hm := List.mem_of_getElem? hx
      have hall : nine.all nameB = true := by decide
      exact List.all_eq_true.mp hall x hm
    · refine ⟨⟨_, rfl⟩, _, rfl, a, q, 6, rfl, B1, by decide, by decide, fun H2 m X2 B2 hm => ?_⟩
      refine ⟨_, _, rfl, rfl, _, rfl, by omega, by omega, fun D hD => ?_⟩
      refine lc_bag (walk_range (lo := 0) (n := ((1 : Int) + (m : Nat)).toNat)) B2 hD (fun _ y => ∃ c, c ∈ abc1 ∧ y = sv [c]) (by omega) (fun _ _ => True.intro) ?_ ?_
      · rintro i v H3 H4 hi X3 B3 ⟨rfl, rfl⟩
        refine ⟨Same.refl _, _, gv_name, rfl, evT_yes, fun H5 e5 Q' q' => ?_⟩
        refine ⟨_, rfl, .inr ⟨a, q, abc1, rfl, B3.same e5, by decide, by decide, fun H6 c X6 B6 hc => q' H6 _ X6 B6 ⟨c, hc, rfl⟩⟩⟩
      · intro H3 xs X3 B3 hx hl hφ
        obtain ⟨l, rfl, hlm, hll⟩ := items_of hφ
        refine ⟨_, D, (l.map fun c => [c]).map S, rfl, rfl, .inl (SqL.of (by rw [hx, map_S_V])), ?_, ?_⟩
        · rw [lens_sum, flat1]
          show _ + _ * 0 ≤ _
          omega
        · have ej : Txt.join (S []) ((l.map fun c => [c]).map S) = S l := by rw [join_nil, flat1]
          show Ends.nx _ (List.set _ 2 (some (.str (Txt.join (S []) ((l.map fun c => [c]).map S))))) H3
          rw [ej]
          refine hN _ _ ⟨l, rfl, (X1.trans X2).trans X3, B3, ?_⟩
          unfold nameB
          have e1 : 1 ≤ l.length := by omega
          have e2 : l.length ≤ 6 := by omega
          rw [decide_eq_true e1, decide_eq_true e2, Bool.true_and, Bool.true_and, List.all_eq_true]
          intro c hc
          have hs : abc1.all (fun c => decide (c ∈ letters)) = true := by decide +kernel
          exact List.all_eq_true.mp hs c (hlm c hc)
  rintro _ H1 ⟨x, rfl, X1, B1, hnx⟩
  have ht1 := ht.bag hb X1
  refine ⟨fun σ' H' => ∃ x, σ' = [some (.ref a), some (.ref t), some (sv x), none, none] ∧ Same H1 H' ∧ nameB x = true ∧ x ∉ ys, ?_, ?_⟩
  rotate_left
  · intro N hN
    refine ⟨_, rfl, _, rfl, t, _, rfl, .inl (SqL.of ht1), rfl, flat_svs _, _, rfl, if_dec (inV_sv x _) (fun h => ?_) (fun h => ?_)⟩
    · refine ⟨_, rfl, fun D hD => ?_⟩
      refine lc_signs hD abc2 (fun c => !decide ([c] ∈ ys)) (fun c => sv [c]) (by decide) ?_ ?_
      · intro c H2 hc e2
        refine ⟨_, gv_name, rfl, fun Q' q' => ?_, fun H3 e3 _ Q' q' => ⟨_, rfl, q' _ (Same.refl _)⟩⟩
        refine ⟨_, rfl, _, rfl, t, _, rfl, .inl (e2.seq (SqL.of ht1)), rfl, flat_svs _, _, rfl, ?_⟩
        have e9 : (!inV (sv [c]) (ys.map sv)) = !decide ([c] ∈ ys) := congrArg not (inV_sv [c] ys)
        show Q' (!inV (sv [c]) (ys.map sv)) _
        rw [e9]; exact q' _ (Same.refl _)
      · intro H2 e2 hD2
        obtain ⟨c0, hc0, hc1⟩ := pigeon (l := abc2) (ys := ys) (by decide +kernel) (by have h26 : abc2.length = 26 := (by decide +kernel); omega)
        cases hf : abc2.filter (fun c => !decide ([c] ∈ ys)) with
        | nil =>
          exfalso
          have : c0 ∈ abc2.filter (fun c => !decide ([c] ∈ ys)) := List.mem_filter.mpr ⟨hc0, by rw [decide_eq_false hc1]; rfl⟩
          rw [hf] at this; cases this
        | cons c l =>
          rw [hf] at hD2
          have hm : c ∈ abc2.filter (fun c => !decide ([c] ∈ ys)) := by rw [hf]; exact List.mem_cons_self
          obtain ⟨hm1, hm2⟩ := List.mem_filter.mp hm
          refine ⟨D, _, 0, _, rfl, rfl, SqL.of hD2, atI_nat (j := 0) rfl, hN _ _ ⟨[c], rfl, e2, ?_, by simpa using hm2⟩⟩
          have hs : abc2.all (fun c => nameB [c]) = true := by decide +kernel
          exact List.all_eq_true.mp hs c hm1
    · exact hN _ _ ⟨x, rfl, Same.refl _, hnx, h⟩
  rintro _ H2 ⟨x, rfl, e2, hnx, hxy⟩
  exact ⟨_, rfl, k _ x (X1.trans (SameX.of e2)) (B1.same e2) hnx hxy⟩
end
end NT
namespace NT
open PySem PySem.Spec PyProof.Rows L2
open SX (S)
/-! ### once -/
def onc1 (l : List (List Nat)) (y : List Nat) : List (List Nat) := if y ∈ l then l else l ++ [y]
def once (ys : List (List Nat)) : List (List Nat) := ys.foldl onc1 []
theorem once_snoc (ys : List (List Nat)) (y : List Nat) : once (ys ++ [y]) = onc1 (once ys) y := by unfold once; rw [List.foldl_append]; rfl
theorem onc1_nodup {l : List (List Nat)} {y : List Nat} (h : l.Nodup) : (onc1 l y).Nodup := by
  unfold onc1
  by_cases e : y ∈ l
  · rw [if_pos e]; exact h
  · rw [if_neg e]; exact snoc_nodup h e
theorem fold_facts : ∀ (ys l : List (List Nat)), l.Nodup → (ys.foldl onc1 l).Nodup ∧ (∀ y, y ∈ ys.foldl onc1 l ↔ y ∈ l ∨ y ∈ ys) ∧ (ys.foldl onc1 l).length ≤ l.length + ys.length ∧ ((l ++ ys).Nodup → ys.foldl onc1 l = l ++ ys)
  | [], l, h => ⟨h, fun y => by simp, Nat.le_refl _, fun _ => (List.append_nil l).symm⟩
  | z :: ys, l, h => by
    obtain ⟨h1, h2, h3, h4⟩ := fold_facts ys (onc1 l z) (onc1_nodup h)
    refine ⟨h1, fun y => ?_, ?_, fun hn => ?_⟩
    · show y ∈ ys.foldl onc1 (onc1 l z) ↔ _
      rw [h2 y]
      unfold onc1
      by_cases e : z ∈ l
      · rw [if_pos e, List.mem_cons]
        constructor
        · rintro (q | q)
          · exact .inl q
          · exact .inr (.inr q)
        · rintro (q | q | q)
          · exact .inl q
          · rw [q]; exact .inl e
          · exact .inr q
      · rw [if_neg e, List.mem_append, List.mem_singleton, List.mem_cons, or_assoc]
    · show (ys.foldl onc1 (onc1 l z)).length ≤ _
      have : (onc1 l z).length ≤ l.length + 1 := by
        unfold onc1
        by_cases e : z ∈ l
        · rw [if_pos e]; omega
        · rw [if_neg e, List.length_append]; exact Nat.le_refl _
      rw [List.length_cons]; omega
    · have hz : z ∉ l := fun q => (List.nodup_append.mp hn).2.2 z q z List.mem_cons_self rfl
      have e : onc1 l z = l ++ [z] := by unfold onc1; rw [if_neg hz]
      show ys.foldl onc1 (onc1 l z) = _
      rw [h4 (by rw [e]; simpa using hn), e]; simp
theorem once_facts (ys : List (List Nat)) : (once ys).Nodup ∧ (∀ y, y ∈ once ys ↔ y ∈ ys) ∧ (once ys).length ≤ ys.length ∧ (ys.Nodup → once ys = ys) := by
  obtain ⟨h1, h2, h3, h4⟩ := fold_facts ys [] List.nodup_nil
  exact ⟨h1, fun y => (h2 y).trans (by simp), by have := h3; rw [List.length_nil, Nat.zero_add] at this; exact this, fun h => h4 h⟩
theorem once_iff (ys : List (List Nat)) : once ys = ys ↔ ys.Nodup := ⟨fun e => by rw [← e]; exact (once_facts ys).1, (once_facts ys).2.2.2⟩
theorem items_at {xs : List V} {φ : Nat → Nat → Prop} (h : ∀ (i : Nat) (y : V), xs[i]? = some y → ∃ c, φ i c ∧ y = sv [c]) : ∃ l : List Nat, xs = (l.map fun c => [c]).map sv ∧ (∀ (i c : Nat), l[i]? = some c → φ i c) ∧ l.length = xs.length := by
  induction xs generalizing φ with
  | nil => exact ⟨[], rfl, (fun i c h => by cases h), rfl⟩
  | cons x xs ih =>
    obtain ⟨c, hc, rfl⟩ := h 0 x rfl
    obtain ⟨l, rfl, h2, h3⟩ := ih (φ := fun i c => φ (i + 1) c) fun i y hy => h (i + 1) y hy
    refine ⟨c :: l, rfl, fun i d hd => ?_, by rw [List.length_cons, List.length_cons, h3]⟩
    cases i with
    | zero => cases Option.some.inj hd; exact hc
    | succ i => exact h2 i d hd
theorem num_digit {r : Nat} (h : r ≤ 3) : (Str.ofString (toString (r : Int)) : Str) = S [48 + r] := by
  have : r = 0 ∨ r = 1 ∨ r = 2 ∨ r = 3 := by omega
  rcases this with e | e | e | e <;> subst e <;> decide +kernel
theorem mark_digit {r : Nat} {n : Int} (h : (r : Int) < n) (h4 : n ≤ 4) : 48 + r ∈ marks.take (n + 1).toNat := by
  have h1 : n = 1 ∨ n = 2 ∨ n = 3 ∨ n = 4 := by omega
  have h2 : r = 0 ∨ r = 1 ∨ r = 2 ∨ r = 3 := by omega
  rcases h1 with e | e | e | e <;> subst e <;> rcases h2 with e | e | e | e <;> subst e <;> first | (exfalso; omega) | decide
theorem mark_dot {n : Int} (h : 1 ≤ n) : 46 ∈ marks.take (n + 1).toNat := by
  obtain ⟨k, hk⟩ : ∃ k, (n + 1).toNat = k + 1 := ⟨n.toNat, by omega⟩
  rw [hk]
  exact List.mem_cons_self
theorem rowB_of {cs : List Cell} {l : List Nat} (hl : l.length = cs.length) (h : ∀ (i c : Nat), l[i]? = some c → ∃ z, cs[i]? = some z ∧ c ∈ marks.take (z.2 + 1).toNat) : rowB cs l = true := by
  unfold rowB
  rw [decide_eq_true hl, Bool.true_and, List.all_eq_true]
  intro z hz
  obtain ⟨i, hi⟩ := List.mem_iff_getElem?.mp hz
  obtain ⟨h1, h2⟩ := zip_get hi
  obtain ⟨z', h3, h4⟩ := h i z.1 h1
  rw [h2] at h3
  cases Option.some.inj h3
  exact decide_eq_true h4
theorem rowB_at {cs : List Cell} {l : List Nat} (h : rowB cs l = true) {i c : Nat} (hi : l[i]? = some c) : ∃ z, cs[i]? = some z ∧ c ∈ marks.take (z.2 + 1).toNat := by
  have hl := rowB_len h
  unfold rowB at h
  rw [Bool.and_eq_true, List.all_eq_true] at h
  obtain ⟨hi', _⟩ := List.getElem?_eq_some_iff.mp hi
  have hz : (l.zip cs)[i]? = some (c, cs[i]'(by omega)) := List.getElem?_zip_eq_some.mpr ⟨hi, List.getElem?_eq_getElem (by omega)⟩
  exact ⟨_, List.getElem?_eq_getElem (by omega), of_decide_eq_true (h.2 _ (List.mem_of_getElem? hz))⟩
def spOnce : Sp := fun vs H Q _ => ∃ (t : Addr) (ys : List (List Nat)), vs = [.ref t] ∧ StrsAt H t ys ∧ ys.length ≤ 1000000 ∧ ∀ H' p, Same H H' → H p = none → StrsAt H' p (once ys) → Q (.ref p) H'
def spFrame : Sp := fun vs H Q _ => ∃ (a q : Addr) (n : Nat) (wd : Int), vs = [.ref a, .int n, .int wd] ∧ BagAt H a q ∧ n ≤ 13 ∧ 1 ≤ wd ∧ wd ≤ 4 ∧ ∀ H' p cs, SameX a H H' → BagAt H' a q → H p = none → CellsAt H' p cs → cs.length = n → goodCells cs → (cs.map (·.1)).Nodup → Q (.ref p) H'
def spRow : Sp := fun vs H Q _ => ∃ (a q p : Addr) (cs : List Cell) (th : Int), vs = [.ref a, .ref p, .int th] ∧ BagAt H a q ∧ CellsAt H p cs ∧ okCounts cs ∧ cs.length ≤ 13 ∧ ∀ H' x, SameX a H H' → BagAt H' a q → rowB cs x = true → Q (sv x) H'
section
variable {P : Program} {w : World} {K : PySem.W.Frag} {mg : Str → Option Value} {base : Heap}
abbrev N__law_once : List Str := ["_law_things", "_law_found", "_law_thing"]
theorem sc__law_once : FnScope N__law_once ["_law_things"] (defScope s__law_once) := ⟨rfl, rfl, rfl, by decide +kernel, rfl, by decide +kernel, by decide +kernel⟩
theorem cl__law_once (T : Txt K mg) : Cl P w K mg base CX0 1 "_law_once" spOnce [] := by
  refine cl0 T.d__law_once sc__law_once (fun _ _ _ _ _ _ us hl => match us, hl with | [_], _ => rfl) (fun vs H Q E h => by obtain ⟨_, _, rfl, _⟩ := h; rfl) fun f cdv A outer s H vs Q E hr h => ?_
  obtain ⟨t, ys, rfl, ht, hn, k⟩ := h
  refine ⟨_, (pss_cons (ps_set (i := 1) sc__law_once.nd rfl (Or.inl rfl) (pe_lst pa_nil))
    (pss_cons (ps_for PassesOwn.never rfl (pi_listK (K := K) rfl (pv 0)) (pg_name (i := 2) sc__law_once.nd rfl (Or.inl rfl))
    (pss_one (ps_if (pt_cmpR (op_notIn_seqK (K := K) rfl) (pv 2) (pv 1) (by rfl))
    (pss_one (ps_expr (pe_appK (K := K) rfl (pv 1) (pa_cons (pv 2) pa_nil))))
    pss_nil)))
    (pss_one (ps_ret (pv 1))))), ?_⟩
  refine ⟨by decide, fun p hp => ⟨_, rfl, t, rfl, ⟨_, ((Same.refl H).upd1 hp).seq (SqL.of ht)⟩, ?_⟩⟩
  refine for_it (walk_list (xs := ys.map sv)) (fun i σ H' => ∃ o2, σ = [some (.ref t), some (.ref p), o2] ∧ Same H H' ∧ StrsAt H' p (once (ys.take i))) ?_ ?_ ?_ ?_
  · exact ⟨none, rfl, (Same.refl H).upd1 hp, upd_same⟩
  · rintro i σ H' hi ⟨o2, rfl, e, _⟩
    exact e.seq (SqL.of ht)
  · rintro i x σ H' H2 hi ⟨o2, rfl, e, ho⟩ ⟨rfl, hx⟩
    rw [List.getElem?_map] at hx
    obtain ⟨y, hy, rfl⟩ := Option.map_eq_some_iff.mp hx
    have hlen : (once (ys.take i)).length ≤ 1000000 := by
      have := (once_facts (ys.take i)).2.2.1
      rw [List.length_take] at this; omega
    refine ⟨_, rfl, _, rfl, p, _, rfl, .inl (SqL.of ho), rfl, flat_svs _, _, rfl, if_decN (congrArg not (inV_sv y _)) (fun h => ?_) (fun h => ?_)⟩
    · refine ⟨_, rfl, tyL ho, _, rfl, p, _, _, rfl, rfl, ho, line_lt (by rw [List.length_map]; omega), _, rfl, e.mut1 hp, ?_⟩
      show upd _ _ _ _ = _
      rw [upd_same, take_snoc hy, once_snoc]; unfold onc1; rw [if_neg h, List.map_append]; rfl
    · refine ⟨_, rfl, e, ?_⟩
      rw [take_snoc hy, once_snoc]; unfold onc1; rw [if_pos h]; exact ho
  · rintro σ H' ⟨o2, rfl, e, ho⟩
    rw [List.length_map, List.take_length] at ho
    exact ⟨_, rfl, k _ _ e hp ho⟩
abbrev N__law_frame : List Str := ["_law_bag_here", "_law_size_here", "_law_widest", "_law_k", "_law_frame_here", "_law_taken"]
theorem sc__law_frame : FnScope N__law_frame ["_law_bag_here", "_law_size_here", "_law_widest"] (defScope s__law_frame) := ⟨rfl, rfl, rfl, by decide +kernel, rfl, by decide +kernel, by decide +kernel⟩
theorem cl__law_frame (T : Txt K mg) : Cl P w K mg base CX0 4 "_law_frame" spFrame [] := by
  refine cl0 T.d__law_frame sc__law_frame (fun _ _ _ _ _ _ us hl => match us, hl with | [_, _, _], _ => rfl) (fun vs H Q E h => by obtain ⟨_, _, _, _, rfl, _⟩ := h; rfl) fun g cdv A outer s H vs Q E hr h => ?_
  obtain ⟨a, q, n, wd, rfl, hb, hn, hw1, hw2, k⟩ := h
  refine ⟨_, (pss_cons (ps_par (i := 4) (j := 5) (by rfl) sc__law_frame.nd rfl rfl (by decide) rfl rfl (pa_cons (pe_lst pa_nil) (pa_cons (pe_lst pa_nil) pa_nil)) (by rfl))
    (pss_cons (ps_for PassesOwn.never rfl (pi_range1 (by rfl) T.f_range (pa_cons (pv 1) pa_nil)) (pg_name (i := 3) sc__law_frame.nd rfl (Or.inl rfl))
    (pss_cons (ps_expr (pe_appK (K := K) rfl (pv 5) (pa_cons (pe_cl (cl__law_title T) hr (by decide) (by rfl) (pa_cons (pv 0) (pa_cons (pv 5) pa_nil))) pa_nil)))
    (pss_one (ps_expr (pe_appK (K := K) rfl (pv 4) (pa_cons (pe_tup (pa_cons (pe_ix (ix_listK (K := K) rfl) (pv 5) (pe_un un_neg pe_int) (fun _ _ => rfl)) (pa_cons (pe_op op_add pe_int (pe_cl (cl__law_draw T) hr (by decide) (by rfl) (pa_cons (pv 0) (pa_cons (pv 2) pa_nil)))) pa_nil))) pa_nil))))))
    (pss_one (ps_ret (pv 4))))), ?_⟩
  refine ⟨by decide, fun f hf => ⟨by decide, fun t ht => ⟨_, _, rfl, ?_⟩⟩⟩
  have htf : t ≠ f := fun e => by rw [e, upd_same] at ht; cases ht
  have htH : H t = none := by rwa [upd_ne htf] at ht
  have e0 : Same H (upd (upd H f (.lst [])) t (.lst [])) := ((Same.refl H).upd1 hf).upd1 ht
  have hfa := hb.nep hf
  have hta := hb.nep htH
  refine ⟨_, rfl, _, rfl, by omega, by omega, ?_⟩
  refine for_it (walk_range (lo := 0) (n := ((n : Nat) : Int).toNat)) (fun i σ H' => ∃ (o3 : Option V) (ps : List (Addr × Cell)), σ = [some (.ref a), some (.int n), some (.int wd), o3, some (.ref f), some (.ref t)] ∧ SameX a H H' ∧ BagAt H' a q ∧ ps.length = i ∧ H' f = some (.lst (ps.map fun z : Addr × Cell => .ref z.1)) ∧ (∀ z ∈ ps, H' z.1 = some (.tup [sv z.2.1, .int z.2.2])) ∧ StrsAt H' t (ps.map (·.2.1)) ∧ (ps.map (·.2.1)).Nodup ∧ ∀ z ∈ ps, nameB z.2.1 = true ∧ 1 ≤ z.2.2 ∧ z.2.2 ≤ 4) ?_ (fun _ _ _ _ _ => True.intro) ?_ ?_
  · exact ⟨none, [], rfl, SameX.of e0, hb.same e0, rfl, by rw [upd_ne (Ne.symm htf)]; exact upd_same, (fun _ h => nomatch h), upd_same, List.nodup_nil, (fun _ h => nomatch h)⟩
  · rintro i x σ H' H2 hi ⟨o3, ps, rfl, X1, B1, hpl, hfl, hpt, htl, hnd, hgd⟩ ⟨rfl, rfl⟩
    have hi' : i < 13 := by omega
    refine ⟨_, rfl, tyL htl, _, rfl, _, rfl, a, q, t, _, rfl, B1, htl, by rw [List.length_map]; omega, fun H3 x X3 B3 hnx hxy => ?_⟩
    have hft3 := X3 _ _ hfa hfl
    have htl3 := X3 _ _ hta htl
    have hpt3 : ∀ z ∈ ps, H3 z.1 = some (.tup [sv z.2.1, .int z.2.2]) := fun z hz => X3 _ _ (B1.ne_tup (hpt z hz)) (hpt z hz)
    refine ⟨t, _, _, rfl, rfl, htl3, line_lt (by rw [List.length_map, List.length_map]; omega), ?_⟩
    have X4 : SameX a H (upd H3 t (.lst ((ps.map (·.2.1) ++ [x]).map sv))) := (X1.trans X3).mut htH
    have B4 : BagAt (upd H3 t (.lst ((ps.map (·.2.1) ++ [x]).map sv))) a q := hb.mut htH B3
    have ht4 : StrsAt (upd H3 t (.lst ((ps.map (·.2.1) ++ [x]).map sv))) t (ps.map (·.2.1) ++ [x]) := upd_same
    have hf4 : upd H3 t (.lst ((ps.map (·.2.1) ++ [x]).map sv)) f = some (.lst (ps.map fun z : Addr × Cell => .ref z.1)) := by rw [upd_ne (Ne.symm htf)]; exact hft3
    have hp4 : ∀ z ∈ ps, upd H3 t (.lst ((ps.map (·.2.1) ++ [x]).map sv)) z.1 = some (.tup [sv z.2.1, .int z.2.2]) := fun z hz => by
      rw [upd_ne (fun e => by have := hpt3 z hz; rw [e, htl3] at this; cases this)]; exact hpt3 z hz
    have eL : (ps.map (·.2.1)).map sv ++ [sv x] = (ps.map (·.2.1) ++ [x]).map sv := by rw [List.map_append]; rfl
    rw [eL]
    generalize upd H3 t (.lst ((ps.map (·.2.1) ++ [x]).map sv)) = H4 at X4 B4 ht4 hf4 hp4 ⊢
    refine ⟨_, rfl, tyL hf4, _, rfl, _, rfl, t, _, -1, _, rfl, rfl, SqL.of ht4, by rw [List.map_append]; exact atI_last _ _, _, rfl, _, rfl, a, q, wd, rfl, B4, by omega, by omega, fun H5 r X5 B5 hr5 => ⟨_, _, rfl, rfl, line_le (by show 2 ≤ _; omega), fun u hu => ?_⟩⟩
    have hf5 := X5 _ _ hfa hf4
    have ht5 : StrsAt H5 t (ps.map (·.2.1) ++ [x]) := X5 _ _ hta ht4
    have hp5 : ∀ z ∈ ps, H5 z.1 = some (.tup [sv z.2.1, .int z.2.2]) := fun z hz => X5 _ _ (B4.ne_tup (hp4 z hz)) (hp4 z hz)
    have e6 := (Same.refl H5).upd1 (o := .tup [sv x, .int (1 + r)]) hu
    have hf6 := e6 _ _ hf5
    have hu6 : upd H5 u (.tup [sv x, .int (1 + r)]) u = some (.tup [sv x, .int (1 + r)]) := upd_same
    have ht6 := e6 _ _ ht5
    have hp6 : ∀ z ∈ ps, upd H5 u (.tup [sv x, .int (1 + r)]) z.1 = some (.tup [sv z.2.1, .int z.2.2]) := fun z hz => e6 _ _ (hp5 z hz)
    have B6 := B5.same e6
    have X6 := (X4.trans X5).trans (SameX.of e6)
    generalize upd H5 u (.tup [sv x, .int (1 + r)]) = H6 at hf6 hu6 ht6 hp6 B6 X6 ⊢
    refine ⟨f, _, _, rfl, rfl, hf6, line_lt (by rw [List.length_map]; omega), _, ps ++ [(u, (x, 1 + (r : Int)))], rfl, X6.mut hf, hb.mut hf B6, by rw [List.length_append, hpl]; rfl, ?_, ?_, ?_, ?_, ?_⟩
    · rw [upd_same, List.map_append]; rfl
    · intro z hz
      rcases List.mem_append.mp hz with hz | hz
      · rw [upd_ne (fun e => by have := hp6 z hz; rw [e, hf6] at this; cases this)]; exact hp6 z hz
      · rw [List.mem_singleton.mp hz]
        show upd H6 f _ u = _
        rw [upd_ne (fun e => by rw [e, hf6] at hu6; cases hu6)]; exact hu6
    · rw [List.map_append]
      show upd H6 f _ t = _
      rw [upd_ne htf]; exact ht6
    · rw [List.map_append]; exact snoc_nodup hnd hxy
    · intro z hz
      rcases List.mem_append.mp hz with hz | hz
      · exact hgd z hz
      · rw [List.mem_singleton.mp hz]
        refine ⟨hnx, ?_, ?_⟩
        · show 1 ≤ 1 + (r : Int); omega
        · show 1 + (r : Int) ≤ 4; omega
  · rintro σ H' ⟨o3, ps, rfl, X1, B1, hpl, hfl, hpt, htl, hnd, hgd⟩
    refine ⟨_, rfl, k _ f (ps.map (·.2)) X1 B1 hf ⟨ps, rfl, hfl, hpt⟩ (by rw [List.length_map, hpl]; simp) (fun c hc => ?_) (by rw [List.map_map]; exact hnd)⟩
    obtain ⟨z, hz, rfl⟩ := List.mem_map.mp hc
    exact hgd z hz
abbrev N__law_row : List Str := ["_law_bag_here", "_law_frame_here", "_law_thin", "_law_pair"]
theorem sc__law_row : FnScope N__law_row ["_law_bag_here", "_law_frame_here", "_law_thin"] (defScope s__law_row) := ⟨rfl, rfl, rfl, by decide +kernel, rfl, by decide +kernel, by decide +kernel⟩
theorem fn__law_row (T : Txt K mg) : ∃ fd, FnOk P w K mg base CX0 2 (He.ga K "_law_row") fd ["_law_bag_here", "_law_frame_here", "_law_thin"] spRow ∧ FunD K "_law_row" "_law_row" (defArgs s__law_row) (defBody s__law_row) (defScope s__law_row) [.int 2] [] (He.ga K "_law_row") fd := by
  obtain ⟨fd, F⟩ := T.d__law_row.fd
  refine ⟨fd, FunD.ok0 F sc__law_row (fun vs H Q E h => by obtain ⟨_, _, _, _, _, rfl, _⟩ := h; rfl) fun cdv A outer s H vs Q E hr h => ?_, F⟩
  obtain ⟨a, q, p, cs, th, rfl, hb, hc, ok, hn, k⟩ := h
  have hc' := hc
  obtain ⟨ps, rfl, hp, hpt⟩ := hc
  rw [List.length_map] at hn
  refine ⟨_, (pss_one (ps_ret (pe_joinK (K := K) rfl pe_str (pe_lc (own := [("_law_pair", 3)]) rfl sc__law_row.nd (pi_listK (K := K) rfl (pv 1)) (blkOk_by (N := N__law_row) (sc := defScope s__law_row) (by decide +kernel)) (fun _ _ _ _ _ => pg_name (i := 3) sc__law_row.nd rfl (Or.inl rfl)) (fun _ _ _ _ _ => pts_nil) (fun _ _ _ _ _ => (pe_ifExp (pt_cmpR op_lt (pe_cl (cl__law_draw T) hr (by decide) (by rfl) (pa_cons (pv 0) (pa_cons pe_int pa_nil))) (pv 2) (nomark _)) pe_str (pe_callTy call_str_int (by rfl) T.f_str (by decide +kernel) (pa_cons (pe_cl (cl__law_draw T) hr (by decide) (by rfl) (pa_cons (pv 0) (pa_cons (pe_ix (ix_tupK (K := K) rfl) (pv 3) pe_int (fun _ _ => rfl)) pa_nil))) pa_nil)))))))), ?_⟩
  refine ⟨⟨_, rfl⟩, _, rfl, p, rfl, ⟨_, SqL.of hp⟩, fun D hD => ?_⟩
  refine lc_bag (walk_list (K := K) (a := p) (xs := ps.map fun z => .ref z.1)) hb hD (fun i y => ∃ c, (∃ z, (ps.map (·.2))[i]? = some z ∧ c ∈ marks.take (z.2 + 1).toNat) ∧ y = sv [c]) (by rw [List.length_map]; omega) (fun H' X => SqL.of (X _ _ (hb.ne_refs hp) hp)) ?_ ?_
  · rintro i v H1 H2 hi X1 B1 ⟨rfl, hv⟩
    rw [List.getElem?_map] at hv
    obtain ⟨⟨t, nm, m⟩, hz, rfl⟩ := Option.map_eq_some_iff.mp hv
    have hm : (t, nm, m) ∈ ps := List.mem_of_getElem? hz
    obtain ⟨k1, k2⟩ : 1 ≤ m ∧ m ≤ 4 := ok _ (List.mem_map.mpr ⟨_, hm, rfl⟩)
    have hzc : (ps.map (·.2))[i]? = some (nm, m) := by rw [List.getElem?_map, hz]; rfl
    have ht1 := X1 _ _ (hb.ne_tup (hpt _ hm)) (hpt _ hm)
    refine ⟨Same.refl _, _, gv_name, rfl, evT_yes, fun H3 e3 Q' q' => ?_⟩
    refine ⟨_, rfl, a, q, 5, rfl, B1.same e3, by decide, by decide, fun H4 r X4 B4 hr4 => ⟨_, rfl, _, _, rfl, rfl, _, rfl, ?_⟩⟩
    refine if_int (fun _ => ?_) (fun _ => ?_)
    · exact q' H4 _ X4 B4 ⟨46, ⟨_, hzc, mark_dot k1⟩, rfl⟩
    · have ht4 := X4 _ _ ((B1.same e3).ne_tup (e3 _ _ ht1)) (e3 _ _ ht1)
      refine ⟨_, rfl, _, rfl, t, _, 1, _, rfl, rfl, SqT.of ht4, rfl, a, q, m, rfl, B4, by omega, by omega, fun H5 r X5 B5 hr5 => ⟨_, rfl, log_small (by omega) (by omega), ?_⟩⟩
      have e9 : (V.str (Str.ofString (toString ((r : Nat) : Int))) : V) = sv [48 + r] := congrArg V.str (num_digit (by omega))
      show Q' (V.str (Str.ofString (toString ((r : Nat) : Int)))) H5
      rw [e9]
      exact q' H5 _ (X4.trans X5) B5 ⟨_, ⟨_, hzc, mark_digit hr5 k2⟩, rfl⟩
  · intro H3 xs X3 B3 hx hl hφ
    obtain ⟨l, rfl, hlm, hll⟩ := items_at hφ
    simp only [List.length_map] at hl
    refine ⟨_, D, (l.map fun c => [c]).map S, rfl, rfl, .inl (SqL.of (by rw [hx, map_S_V])), ?_, ?_⟩
    · rw [lens_sum, flat1]
      show _ + _ * 0 ≤ _
      omega
    · have ej : Txt.join (S []) ((l.map fun c => [c]).map S) = S l := by rw [join_nil, flat1]
      show Q (.str (Txt.join (S []) ((l.map fun c => [c]).map S))) H3
      rw [ej]
      exact k _ l X3 B3 (rowB_of (by rw [List.length_map]; omega) hlm)
end
end NT
namespace NT
open PySem PySem.Spec PyProof.Rows L2
open SX (S)
/-! ### a sign put into a row -/
def put1 (x : List Nat) (i c : Nat) : List Nat := x.take i ++ ([c] ++ x.drop (i + 1))
theorem put1_eq {x : List Nat} {i c : Nat} (h : i < x.length) : put1 x i c = x.set i c := by
  unfold put1
  rw [List.set_eq_take_append_cons_drop, if_pos h]; rfl
theorem put1_len {x : List Nat} {i c : Nat} (h : i < x.length) : (put1 x i c).length = x.length := by rw [put1_eq h, List.length_set]
theorem put1_get {x : List Nat} {i c : Nat} (h : i < x.length) (j : Nat) : (put1 x i c)[j]? = if i = j then some c else x[j]? := by
  rw [put1_eq h, List.getElem?_set]
  by_cases e : i = j
  · subst e; rw [if_pos rfl, if_pos rfl, if_pos h]
  · rw [if_neg e, if_neg e]
theorem rowB_put {cs : List Cell} {x : List Nat} {i c : Nat} {z : Cell} (hx : rowB cs x = true) (hz : cs[i]? = some z) (hc : c ∈ marks.take (z.2 + 1).toNat) : rowB cs (put1 x i c) = true := by
  have hl := rowB_len hx
  have hi : i < x.length := by rw [hl]; exact (List.getElem?_eq_some_iff.mp hz).1
  refine rowB_of (by rw [put1_len hi, hl]) fun j d hd => ?_
  rw [put1_get hi] at hd
  by_cases e : i = j
  · rw [if_pos e] at hd
    cases Option.some.inj hd
    exact ⟨z, by rw [← e]; exact hz, hc⟩
  · rw [if_neg e] at hd
    exact rowB_at hx hd
theorem not_blank {x : List Nat} {n j c : Nat} (h : x[j]? = some c) (hc : c ≠ 46) : x ≠ List.replicate n 46 := by
  intro e
  rw [e, List.getElem?_replicate] at h
  split at h
  · cases Option.some.inj h; exact hc rfl
  · cases h
theorem lot_blank {x : List Nat} {n : Nat} (hl : x.length = n) : lotL x = List.replicate n 46 ↔ x = List.replicate n 46 := by
  constructor
  · intro h
    rw [← hl] at h ⊢
    refine List.eq_replicate_iff.mpr ⟨rfl, fun c hc => ?_⟩
    have hm : (if c = 46 then 46 else 43) ∈ lotL x := List.mem_map.mpr ⟨c, hc, rfl⟩
    rw [h] at hm
    have := List.eq_of_mem_replicate hm
    by_cases e : c = 46
    · exact e
    · rw [if_neg e] at this; cases this
  · intro h
    rw [h]; unfold lotL; rw [List.map_replicate]; rfl
theorem rowB_asc {cs : List Cell} {x : List Nat} (h : rowB cs x = true) : asc x := by
  intro c hc
  obtain ⟨i, hi, rfl⟩ := List.getElem_of_mem hc
  obtain ⟨z, _, hz⟩ := rowB_at h (List.getElem?_eq_getElem hi)
  have := List.mem_of_mem_take hz
  unfold marks at this
  simp only [List.mem_cons, List.not_mem_nil, or_false] at this
  omega
theorem told_step {cs : List Cell} {l0 : List Row} {x : Row} {i c : Nat} {z : Cell} (hg : ∀ s ∈ l0 ++ [x], rowB cs s = true ∧ s ≠ List.replicate cs.length 46) (hn : (l0 ++ [x]).Nodup) (ht : ∀ j, j < i → ∃ s ∈ l0 ++ [x], s[j]? ≠ some 46)
    (he : ∀ s ∈ l0 ++ [x], s[i]? = some 46) (hz : cs[i]? = some z) (hc : c ∈ marks.take (z.2 + 1).toNat) (h6 : c ≠ 46) :
    (∀ s ∈ l0 ++ [put1 x i c], rowB cs s = true ∧ s ≠ List.replicate cs.length 46) ∧ (l0 ++ [put1 x i c]).Nodup ∧ ∀ j, j < i + 1 → ∃ s ∈ l0 ++ [put1 x i c], s[j]? ≠ some 46 := by
  have hx := hg x (by simp)
  have hi : i < x.length := by rw [rowB_len hx.1]; exact (List.getElem?_eq_some_iff.mp hz).1
  have hp : (put1 x i c)[i]? = some c := by rw [put1_get hi, if_pos rfl]
  refine ⟨fun s hs => ?_, ?_, fun j hj => ?_⟩
  · rcases List.mem_append.mp hs with h | h
    · exact hg s (List.mem_append_left _ h)
    · rw [List.mem_singleton.mp h]
      exact ⟨rowB_put hx.1 hz hc, not_blank hp h6⟩
  · rw [List.nodup_append] at hn ⊢
    refine ⟨hn.1, by simp, fun a ha b hb e => ?_⟩
    rw [List.mem_singleton.mp hb] at e
    have := he a (List.mem_append_left _ ha)
    rw [e, hp] at this
    exact h6 (Option.some.inj this)
  · by_cases e : j = i
    · subst e
      exact ⟨_, List.mem_append_right _ (List.mem_singleton.mpr rfl), by rw [hp]; exact fun h => h6 (Option.some.inj h)⟩
    · obtain ⟨s, hs, hs'⟩ := ht j (by omega)
      rcases List.mem_append.mp hs with h | h
      · exact ⟨s, List.mem_append_left _ h, hs'⟩
      · rw [List.mem_singleton.mp h] at hs'
        exact ⟨_, List.mem_append_right _ (List.mem_singleton.mpr rfl), by rw [put1_get hi, if_neg (fun q => e q.symm)]; exact hs'⟩
theorem fresh_back {a q p : Addr} {H H' : Hp} (X : SameX a H H') (B : BagAt H' a q) (h : H' p = none) : H p = none := by
  rcases hp : H p with _ | u
  · rfl
  · have := X p u (B.nep h) hp
    rw [h] at this; cases this
def spStack : Sp := fun vs H Q _ => ∃ (a q p : Addr) (cs : List Cell) (m : Nat), vs = [.ref a, .ref p, .int m] ∧ BagAt H a q ∧ CellsAt H p cs ∧ okCounts cs ∧ 1 ≤ cs.length ∧ cs.length ≤ 13 ∧ 1 ≤ m ∧ m ≤ 30 ∧ ∀ H' u ss, SameX a H H' → BagAt H' a q → StrsAt H' u ss → OkS cs ss → ss.length ≤ m → 1 ≤ ss.length → Q (.ref u) H'
section
variable {P : Program} {w : World} {K : PySem.W.Frag} {mg : Str → Option Value} {base : Heap}
theorem cl__law_row (T : Txt K mg) : Cl P w K mg base CX0 2 "_law_row" spRow [] := by
  obtain ⟨fd, F, G⟩ := fn__law_row (P := P) (w := w) (base := base) T
  obtain ⟨ds, hds, hB⟩ := FunD.binds1 (ps := ["_law_bag_here", "_law_frame_here", "_law_thin"]) G 3 1 (by simp) rfl (fun T kV doc pm an cdv ct us its h1 h2 => match us, its, h1, h2 with | [_, _, _], [_], _, _ => ⟨_, rfl, rfl⟩)
  exact ⟨_, fd, _, ds, F, T.d__law_row.gm, G.kp, hB, hds⟩
theorem cl__law_row2 (T : Txt K mg) : Cl P w K mg base CX0 2 "_law_row" spRow [.int 2] := by
  obtain ⟨fd, F, G⟩ := fn__law_row (P := P) (w := w) (base := base) T
  obtain ⟨ds, hds, hB⟩ := FunD.binds1 (ps := ["_law_bag_here", "_law_frame_here", "_law_thin"]) G 2 0 (by simp) rfl (fun T kV doc pm an cdv ct us its h1 h2 => match us, its, h1, h2 with | [_, _], [_], _, _ => ⟨_, rfl, rfl⟩)
  exact ⟨_, fd, _, ds, F, T.d__law_row.gm, G.kp, hB, hds⟩
abbrev N__law_stack : List Str := ["_law_bag_here", "_law_frame_here", "_law_size_here", "_law_found", "_law_thin", "_law_k", "_law_spot", "_law_r", "_law_last"]
theorem sc__law_stack : FnScope N__law_stack ["_law_bag_here", "_law_frame_here", "_law_size_here"] (defScope s__law_stack) := ⟨rfl, rfl, rfl, by decide +kernel, rfl, by decide +kernel, by decide +kernel⟩
theorem cl__law_stack (T : Txt K mg) : Cl P w K mg base CX0 4 "_law_stack" spStack [] := by
  refine cl0 T.d__law_stack sc__law_stack (fun _ _ _ _ _ _ us hl => match us, hl with | [_, _, _], _ => rfl) (fun vs H Q E h => by obtain ⟨_, _, _, _, _, rfl, _⟩ := h; rfl) fun g cdv A outer s H vs Q E hr h => ?_
  obtain ⟨a, q, p, cs, m, rfl, hb, hc, ok, hn1, hn, hm1, hm, k⟩ := h
  refine ⟨_, (pss_cons (ps_set (i := 3) sc__law_stack.nd rfl (Or.inl rfl) (pe_lst pa_nil))
    (pss_cons (ps_set (i := 4) sc__law_stack.nd rfl (Or.inl rfl) (pe_cl (cl__law_of T) hr (by decide) (by rfl) (pa_cons (pv 0) (pa_cons (pe_lst (pa_cons pe_int (pa_cons pe_int (pa_cons pe_int pa_nil)))) pa_nil))))
    (pss_cons (ps_for PassesOwn.never rfl (pi_range1 (by rfl) T.f_range (pa_cons (pv 2) pa_nil)) (pg_name (i := 5) sc__law_stack.nd rfl (Or.inl rfl))
    (pss_cons (ps_set (i := 7) sc__law_stack.nd rfl (Or.inl rfl) (pe_cl (cl__law_row T) hr (by decide) (by rfl) (pa_cons (pv 0) (pa_cons (pv 1) (pa_cons (pv 4) pa_nil)))))
    (pss_cons (ps_cutS (ps_if (pt_cmpR op_eq (pe_cl (cl__law_lot T) hr (by decide) (by rfl) (pa_cons (pv 7) pa_nil)) (pe_op op_mulS pe_str (pe_callB (call_len_seqK (K := K) rfl) (by rfl) T.f_len PySem.boot_len (pa_cons (pv 1) pa_nil))) (nomark _))
    (pss_cons (ps_set (i := 6) sc__law_stack.nd rfl (Or.inr rfl) (pe_cl (cl__law_draw T) hr (by decide) (by rfl) (pa_cons (pv 0) (pa_cons (pe_callB (call_len_seqK (K := K) rfl) (by rfl) T.f_len PySem.boot_len (pa_cons (pv 1) pa_nil)) pa_nil))))
    (pss_one (ps_set (i := 7) sc__law_stack.nd rfl (Or.inl rfl) (pe_op op_add_str (pe_op op_add_str (pe_slice C8.sl_txt (pv 7) po_none (po_some (pv 6))) (pe_callTy call_str_int (by rfl) T.f_str (by decide +kernel) (pa_cons (pe_cl (cl__law_draw T) hr (by decide) (by rfl) (pa_cons (pv 0) (pa_cons (pe_ix (ix_tupK (K := K) rfl) (pe_ix (ix_listK (K := K) rfl) (pv 1) (pv 6) (fun _ _ => rfl)) pe_int (fun _ _ => rfl)) pa_nil))) pa_nil))) (pe_slice C8.sl_txt (pv 7) (po_some (pe_op op_add (pv 6) pe_int)) po_none)))))
    pss_nil))
    (pss_one (ps_expr (pe_appK (K := K) rfl (pv 3) (pa_cons (pv 7) pa_nil)))))))
    (pss_cons (ps_set (i := 3) sc__law_stack.nd rfl (Or.inl rfl) (pe_cl (cl__law_once T) hr (by decide) (by rfl) (pa_cons (pv 3) pa_nil)))
    (pss_cons (ps_for PassesOwn.never rfl (pi_range1 (by rfl) T.f_range (pa_cons (pe_callB (call_len_seqK (K := K) rfl) (by rfl) T.f_len PySem.boot_len (pa_cons (pv 1) pa_nil)) pa_nil)) (pg_name (i := 6) sc__law_stack.nd rfl (Or.inr rfl))
    (pss_one (ps_if (pt_cmpR (op_eqDK (K := K) rfl hr.units) (pe_lc (own := [("_law_r", 7)]) rfl sc__law_stack.nd (pi_listK (K := K) rfl (pv 3)) (blkOk_by (N := N__law_stack) (sc := defScope s__law_stack) (by decide +kernel)) (fun _ _ _ _ _ => pg_name (i := 7) sc__law_stack.nd rfl (Or.inl rfl)) (fun _ _ _ _ _ => pts_one (pt_cmpR op_ne (pe_ix ix_str (pv 7) (pv 6) (fun _ _ => rfl)) pe_str (nomark _))) (fun _ _ _ _ _ => (pv 7))) (pe_lst pa_nil) (nomark _))
    (pss_cons (ps_set (i := 8) sc__law_stack.nd rfl (Or.inl rfl) (pe_popK (K := K) rfl (pv 3)))
    (pss_one (ps_expr (pe_appK (K := K) rfl (pv 3) (pa_cons (pe_op op_add_str (pe_op op_add_str (pe_slice C8.sl_txt (pv 8) po_none (po_some (pv 6))) (pe_callTy call_str_int (by rfl) T.f_str (by decide +kernel) (pa_cons (pe_cl (cl__law_draw T) hr (by decide) (by rfl) (pa_cons (pv 0) (pa_cons (pe_ix (ix_tupK (K := K) rfl) (pe_ix (ix_listK (K := K) rfl) (pv 1) (pv 6) (fun _ _ => rfl)) pe_int (fun _ _ => rfl)) pa_nil))) pa_nil))) (pe_slice C8.sl_txt (pv 8) (po_some (pe_op op_add (pv 6) pe_int)) po_none)) pa_nil)))))
    pss_nil)))
    (pss_one (ps_ret (pv 3)))))))), ?_⟩
  refine ⟨by decide, fun f hf => ?_⟩
  have hfa := hb.nep hf
  have e0 := (Same.refl H).upd1 (o := .lst []) hf
  have hf0 : upd H f (.lst []) f = some (.lst (([] : List Row).map sv)) := upd_same
  have hb0 := hb.same e0
  have hc0 := hc.same e0
  show Ends.nx _ _ (upd H f (.lst []))
  generalize upd H f (.lst []) = H0 at e0 hf0 hb0 hc0 ⊢
  refine ⟨_, rfl, by decide, fun t ht => .inl ⟨a, q, t, _, rfl, hb0.same ((Same.refl H0).upd1 ht), hb0.nep ht, upd_same, by decide, by decide, fun H1 j v X1 B1 hv => ?_⟩⟩
  have e1 := (Same.refl H0).upd1 (o := .lst [.int 2, .int 3, .int 2]) ht
  obtain ⟨th, rfl⟩ : ∃ th : Int, v = .int th := by
    have hm := List.mem_of_getElem? hv
    simp only [List.mem_cons, List.not_mem_nil, or_false] at hm
    rcases hm with e | e | e <;> exact ⟨_, e⟩
  have X01 := (SameX.of (x := a) e1).trans X1
  have hf1 : StrsAt H1 f [] := X01 _ _ hfa hf0
  have hc1 : CellsAt H1 p cs := hc0.bag hb0 X01
  have XH1 := (SameX.of (x := a) e0).trans X01
  refine ⟨_, rfl, _, rfl, by omega, by omega, ?_⟩
  refine for_it (walk_range (lo := 0) (n := ((m : Nat) : Int).toNat)) (fun i σ H' => ∃ (o5 o6 o7 : Option V) (l : List Row), σ = [some (.ref a), some (.ref p), some (.int m), some (.ref f), some (.int th), o5, o6, o7, none] ∧ SameX a H H' ∧ BagAt H' a q ∧ l.length = i ∧ StrsAt H' f l ∧ CellsAt H' p cs ∧ ∀ s ∈ l, rowB cs s = true ∧ s ≠ List.replicate cs.length 46) ?_ (fun _ _ _ _ _ => True.intro) ?_ ?_
  · exact ⟨none, none, none, [], rfl, XH1, B1, rfl, hf1, hc1, (fun _ h => nomatch h)⟩
  · rintro i x σ H2 H3 hi ⟨o5, o6, o7, l, rfl, X2, B2, hl, hfl, hc2, hg⟩ ⟨rfl, rfl⟩
    refine ⟨_, rfl, _, rfl, _, rfl, a, q, p, cs, th, rfl, B2, hc2, ok, hn, fun H4 x X4 B4 hx => ?_⟩
    have hxl := rowB_len hx
    have hc4 := hc2.bag B2 X4
    have hf4 : StrsAt H4 f l := hfl.bag B2 X4
    refine ⟨fun σ' H' => ∃ (o6 : Option V) (x : Row), σ' = [some (.ref a), some (.ref p), some (.int m), some (.ref f), some (.int th), some (.int (0 + (i : Nat))), o6, some (sv x), none] ∧ SameX a H4 H' ∧ BagAt H' a q ∧ rowB cs x = true ∧ x ≠ List.replicate cs.length 46, ?_, ?_⟩
    rotate_left
    · intro N hN
      obtain ⟨ps, hps, hp4, hpt4⟩ := id hc4
      have hpl : ps.length = cs.length := by rw [← hps, List.length_map]
      refine ⟨_, rfl, x, rfl, by omega, fun H5 e5 => ⟨_, rfl, p, _, rfl, .inl (SqL.of (e5 _ _ hp4)), 46, _, rfl, rfl, by omega, by rw [List.length_map]; omega, rfl, _, rfl, ?_⟩⟩
      rw [List.length_map, hpl]
      refine if_dec (txt_dec (x := lotL x) (y := List.replicate ((cs.length : Nat) : Int).toNat 46) rfl) (fun h => ?_) (fun h => ?_)
      · have hp5 := e5 _ _ hp4
        refine ⟨_, rfl, _, rfl, p, _, rfl, .inl (SqL.of hp5), a, q, _, rfl, B4.same e5, by rw [List.length_map]; omega, by rw [List.length_map]; omega, fun H6 r X6 B6 hr6 => ?_⟩
        rw [List.length_map] at hr6
        have hr6' : r < ps.length := by omega
        have hp6 := X6 _ _ ((B4.same e5).ne_refs hp5) hp5
        have hzm : ps[r] ∈ ps := List.getElem_mem hr6'
        have ht6 := X6 _ _ ((B4.same e5).ne_tup (e5 _ _ (hpt4 _ hzm))) (e5 _ _ (hpt4 _ hzm))
        have hzc : cs[r]? = some ps[r].2 := by rw [← hps, List.getElem?_map, List.getElem?_eq_getElem hr6']; rfl
        obtain ⟨k1, k2⟩ := ok _ (List.mem_of_getElem? hzc)
        refine ⟨_, rfl, _, rfl, _, rfl, _, rfl, line_le (by rw [SX.S_len]; omega), _, rfl, _, rfl, _, rfl, p, _, _, _, rfl, rfl, SqL.of hp6, atI_nat (by rw [List.getElem?_map, List.getElem?_eq_getElem hr6']; rfl), _, _, 1, _, rfl, rfl, SqT.of ht6, rfl, a, q, _, rfl, B6, by omega, by omega, fun H7 d X7 B7 hd => ?_⟩
        have hd3 : d ≤ 3 := by omega
        have hdm := mark_digit hd k2
        have ed : (Str.ofString (toString ((d : Nat) : Int)) : Str) = S [48 + d] := num_digit hd3
        have e1' : Txt.slice (S x) none (some (r : Int)) = S (x.take r) := by rw [SX.slice_to (by omega)]; rfl
        have e2' : Txt.slice (S x) (some ((r : Int) + 1)) none = S (x.drop (r + 1)) := by rw [SX.slice_from (by omega)]; rfl
        refine ⟨_, rfl, log_small (by omega) (by omega), _, _, rfl, rfl, ?_, ?_⟩
        · rw [e1', ed, SX.S_len, SX.S_len, List.length_take]; exact line_le (by show _ + 1 ≤ _; omega)
        rw [e1', ed, SX.S_cat]
        refine ⟨_, rfl, _, rfl, _, _, rfl, rfl, _, rfl, _, rfl, line_le (by rw [SX.S_len]; omega), _, _, rfl, rfl, ?_, ?_⟩
        · rw [e2', SX.S_len, SX.S_len, List.length_drop, List.length_append, List.length_take]; exact line_le (by show _ + 1 + _ ≤ _; omega)
        rw [e2', SX.S_cat, List.append_assoc]
        have hrx : r < x.length := by omega
        exact hN _ _ ⟨_, put1 x r (48 + d), rfl, ((SameX.of e5).trans X6).trans X7, B7, rowB_put hx hzc hdm, not_blank (j := r) (c := 48 + d) (by rw [put1_get hrx, if_pos rfl]) (by omega)⟩
      · refine hN _ _ ⟨o6, x, rfl, SameX.of e5, B4.same e5, hx, fun e => h ?_⟩
        rw [Int.toNat_natCast]; exact (lot_blank hxl).mpr e
    rintro _ H5 ⟨o6', x', rfl, X5, B5, hx', hb'⟩
    have hf5 : StrsAt H5 f l := hf4.bag B4 X5
    refine ⟨_, rfl, tyL hf5, _, rfl, f, _, _, rfl, rfl, hf5, line_lt (by rw [List.length_map]; omega), _, _, _, l ++ [x'], rfl, ((X2.trans X4).trans X5).mut hf, hb.mut hf B5, by rw [List.length_append, hl]; rfl, ?_, ?_, ?_⟩
    · show upd _ _ _ _ = _
      rw [upd_same, List.map_append]; rfl
    · exact hc.bag hb (((X2.trans X4).trans X5).mut hf)
    · intro s hs
      rcases List.mem_append.mp hs with h | h
      · exact hg s h
      · rw [List.mem_singleton.mp h]; exact ⟨hx', hb'⟩
  · rintro _ H2 ⟨o5, o6, o7, l, rfl, X2, B2, hl, hfl, hc2, hg⟩
    have hml : l.length = m := by omega
    refine ⟨_, rfl, f, l, rfl, hfl, by omega, fun H3 u e3 hu hu3 => ?_⟩
    have X3 := X2.trans (SameX.of e3)
    have B3 := B2.same e3
    have hc3 := hc2.same e3
    have hu0 : H u = none := fresh_back X2 B2 hu
    obtain ⟨o1, o2, o3, o4⟩ := once_facts l
    obtain ⟨ps, hps, hp3, hpt3⟩ := id hc3
    have hpl : ps.length = cs.length := by rw [← hps, List.length_map]
    have hl1 : 1 ≤ (once l).length := by
      rcases hol : once l with _ | ⟨y, t⟩
      · rcases l with _ | ⟨y, t⟩
        · simp only [List.length_nil] at hml; omega
        · have := (o2 y).mpr List.mem_cons_self
          rw [hol] at this; cases this
      · simp
    refine ⟨_, rfl, p, _, rfl, .inl (SqL.of hp3), _, rfl, by rw [List.length_map]; omega, by rw [List.length_map]; omega, ?_⟩
    rw [List.length_map, hpl]
    refine for_it (walk_range (lo := 0) (n := ((cs.length : Nat) : Int).toNat)) (fun i σ H' => ∃ (o6 o7 o8 : Option V) (l : List Row), σ = [some (.ref a), some (.ref p), some (.int m), some (.ref u), some (.int th), o5, o6, o7, o8] ∧ SameX a H H' ∧ BagAt H' a q ∧ 1 ≤ l.length ∧ l.length ≤ m ∧ StrsAt H' u l ∧ l.Nodup ∧ (∀ s ∈ l, rowB cs s = true ∧ s ≠ List.replicate cs.length 46) ∧ ∀ j, j < i → ∃ s ∈ l, s[j]? ≠ some 46) ?_ (fun _ _ _ _ _ => True.intro) ?_ ?_
    · exact ⟨_, _, _, once l, rfl, X3, B3, hl1, by omega, hu3, o1, fun s hs => hg s ((o2 s).mp hs), fun j hj => absurd hj (Nat.not_lt_zero j)⟩
    · rintro i x σ H4 H5 hi ⟨o6, o7, o8, l, rfl, X4, B4, hl1, hl2, hu4, hnd, hg, hto⟩ ⟨rfl, rfl⟩
      have hi' : i < cs.length := by omega
      have hz0 : (0 : Int) + (i : Nat) = (i : Nat) := by omega
      refine ⟨_, rfl, u, rfl, ⟨_, SqL.of hu4⟩, fun D hD => ?_⟩
      refine lc_lst hD l sv (SqL.of hu4) (fun s => !decide (s[i]? = some 46)) sv (by omega) ?_ ?_
      · intro s H5 hs e5
        refine ⟨_, gv_name, rfl, fun Q q => ?_, fun H6 e6 _ Q q => ⟨_, rfl, q _ (Same.refl _)⟩⟩
        have hsl : i < s.length := by rw [rowB_len (hg s hs).1]; exact hi'
        have hsl' : s.length = cs.length := rowB_len (hg s hs).1
        refine ⟨_, rfl, _, rfl, _, _, _, rfl, rfl, line_le (by rw [SX.S_len]; omega), by rw [hz0]; exact atI_nat (by show s[i]? = _; exact List.getElem?_eq_getElem hsl), rfl, ?_⟩
        have e9 : (!decide (V.str { cps := #[s[i]] } = V.str (Str.ofString "."))) = !decide (s[i]? = some 46) := by
          rw [show (V.str ⟨#[s[i]]⟩ : V) = sv [s[i]] from rfl, one_dec (d := 46) (by rfl), List.getElem?_eq_getElem hsl]
          simp
        rw [e9]
        exact ⟨_, rfl, q _ (Same.refl _)⟩
      intro H5 e5 hD5
      have hu5 := e5 _ _ hu4
      refine ⟨by decide, fun p3 hp3 => ⟨_, _, dp_strs (((Same.refl H5).upd1 hp3).seq (SqL.of hD5)), dp_strs (ys := []) (SqL.of upd_same), shaped_strs ?_, shaped_strs (fun _ h => nomatch h), _, rfl, ?_⟩⟩
      · intro y hy
        exact rowB_asc (hg y (List.mem_filter.mp hy).1).1
      have e6 := e5.upd1 (o := .lst []) hp3
      have hu6 := e6 _ _ hu4
      generalize upd H5 p3 (.lst []) = H6 at e6 hu6 ⊢
      have X6 := X4.trans (SameX.of e6)
      have B6 := B4.same e6
      refine if_dec (eqv_strs (l.filter fun s => !decide (s[i]? = some 46)) []) (fun h => ?_) (fun h => ?_)
      · have hall : ∀ s ∈ l, s[i]? = some 46 := by
          intro s hs
          apply Classical.byContradiction
          intro hno
          have : s ∈ l.filter fun s => !decide (s[i]? = some 46) := List.mem_filter.mpr ⟨hs, by rw [decide_eq_false hno]; rfl⟩
          rw [h] at this; cases this
        obtain ⟨l0, y, rfl⟩ : ∃ l0 y, l = l0 ++ [y] := ⟨l.dropLast, l.getLast (by intro e; rw [e] at hl1; simp at hl1), (List.dropLast_concat_getLast _).symm⟩
        have hll : (l0 ++ [y]).length = l0.length + 1 := by simp
        have hyl : y.length = cs.length := rowB_len (hg y (by simp)).1
        refine ⟨_, rfl, tyL hu6, u, _, _, rfl, rfl, hu6, (by rw [List.length_map, hll, List.getElem?_map, Nat.add_sub_cancel, List.getElem?_append_right (Nat.le_refl _), Nat.sub_self]; rfl), ?_⟩
        have hu7 : StrsAt (upd H6 u (.lst ((l0 ++ [y]).map sv).dropLast)) u l0 := by
          show upd _ _ _ _ = _
          rw [upd_same, List.map_append, List.map_cons, List.map_nil, List.dropLast_concat]
        have X7 : SameX a H (upd H6 u (.lst ((l0 ++ [y]).map sv).dropLast)) := X6.mut hu0
        have B7 := hb.mut (o := .lst ((l0 ++ [y]).map sv).dropLast) hu0 B6
        have hc7 := hc.bag hb X7
        have hua : u ≠ a := B7.ne_strs hu7
        refine ⟨_, rfl, tyL hu7, ?_⟩
        generalize upd H6 u (.lst ((l0 ++ [y]).map sv).dropLast) = H7 at hu7 X7 B7 hc7 ⊢
        obtain ⟨ps, hps, hp7, hpt7⟩ := id hc7
        have hpl : ps.length = cs.length := by rw [← hps, List.length_map]
        have hip : i < ps.length := by omega
        have hzm : ps[i] ∈ ps := List.getElem_mem hip
        have ht7 := hpt7 _ hzm
        have hzc : cs[i]? = some ps[i].2 := by rw [← hps, List.getElem?_map, List.getElem?_eq_getElem hip]; rfl
        obtain ⟨k1, k2⟩ := ok _ (List.mem_of_getElem? hzc)
        refine ⟨_, rfl, _, rfl, _, rfl, _, rfl, line_le (by rw [SX.S_len]; omega), _, rfl, _, rfl, _, rfl, p, _, _, _, rfl, rfl, SqL.of hp7, by rw [hz0]; exact atI_nat (by rw [List.getElem?_map, List.getElem?_eq_getElem hip]; rfl), _, _, 1, _, rfl, rfl, SqT.of ht7, rfl, a, q, _, rfl, B7, by omega, by omega, fun H8 d X8 B8 hd => ?_⟩
        have hd3 : d ≤ 3 := by omega
        have hdm := mark_digit hd k2
        have ed : (Str.ofString (toString ((d : Nat) : Int)) : Str) = S [48 + d] := num_digit hd3
        have e1' : Txt.slice (S y) none (some (i : Int)) = S (y.take i) := by rw [SX.slice_to (by omega)]; rfl
        have e2' : Txt.slice (S y) (some ((i : Int) + 1)) none = S (y.drop (i + 1)) := by rw [SX.slice_from (by omega)]; rfl
        refine ⟨_, rfl, log_small (by omega) (by omega), _, _, rfl, rfl, ?_, ?_⟩
        · rw [hz0, e1', ed, SX.S_len, SX.S_len, List.length_take]; exact line_le (by show _ + 1 ≤ _; omega)
        rw [hz0, e1', ed, SX.S_cat]
        refine ⟨_, rfl, _, rfl, _, _, rfl, rfl, _, rfl, _, rfl, line_le (by rw [SX.S_len]; omega), _, _, rfl, rfl, ?_, ?_⟩
        · rw [hz0, e2', SX.S_len, SX.S_len, List.length_drop, List.length_append, List.length_take]; exact line_le (by show _ + 1 + _ ≤ _; omega)
        rw [hz0, e2', SX.S_cat, List.append_assoc]
        have hu8 : StrsAt H8 u l0 := hu7.bag B7 X8
        obtain ⟨g1, g2, g3⟩ := told_step hg hnd hto hall hzc hdm (by omega)
        refine ⟨u, _, _, rfl, rfl, hu8, line_lt (by rw [List.length_map]; omega), _, _, _, l0 ++ [put1 y i (48 + d)], rfl, (X7.trans X8).mut hu0, hb.mut hu0 B8, by simp, by rw [List.length_append] at hl2 ⊢; exact hl2, ?_, g2, g1, g3⟩
        show upd _ _ _ _ = _
        rw [upd_same, List.map_append]; rfl
      · refine ⟨_, _, _, l, rfl, X6, B6, hl1, hl2, hu6, hnd, hg, fun j hj => ?_⟩
        by_cases e : j = i
        · subst e
          apply Classical.byContradiction
          intro hno
          refine h (List.filter_eq_nil_iff.mpr fun s hs hb => hno ⟨s, hs, fun q => ?_⟩)
          rw [decide_eq_true q] at hb; cases hb
        · exact hto j (by omega)
    · rintro _ H4 ⟨o6, o7, o8, l, rfl, X4, B4, hl1, hl2, hu4, hnd, hg, hto⟩
      refine ⟨_, rfl, k _ _ _ X4 B4 hu4 ⟨by omega, hg, hnd, fun i hi => hto i (by omega)⟩ hl2 hl1⟩
end
end NT
namespace NT
open PySem PySem.Spec PyProof.Rows L2
open SX (S)
def spRows : Sp := fun vs H Q _ => ∃ (a : Addr) (ss : List Row) (n cap : Nat), vs = [.ref a, .int n, .int cap] ∧ StrsAt H a ss ∧ (∀ s ∈ ss, s.length = n) ∧ n ≤ 1000 ∧ ss.length ≤ 1000 ∧ 1 ≤ cap ∧ cap ≤ 1000 ∧ (TooBig ss n cap → ∀ H', Same H H' → Q .non H') ∧ (¬ TooBig ss n cap → ∀ H' p, Same H H' → Q (.ref p) H')
section
variable {P : Program} {w : World} {K : PySem.W.Frag} {mg : Str → Option Value} {base : Heap}
abbrev N__law_rows : List Str := ["_law_stack_here", "_law_wide", "_law_cap", "_law_found", "_law_known", "_law_k", "_law_r", "_law_s"]
theorem sc__law_rows : FnScope N__law_rows ["_law_stack_here", "_law_wide", "_law_cap"] (defScope s__law_rows) := ⟨rfl, rfl, rfl, by decide +kernel, rfl, by decide +kernel, by decide +kernel⟩
theorem cl__law_rows (T : Txt K mg) : Cl P w K mg base CX0 2 "_law_rows" spRows [] := by
  refine cl0 T.d__law_rows sc__law_rows (fun _ _ _ _ _ _ us hl => match us, hl with | [_, _, _], _ => rfl) (fun vs H Q E h => by obtain ⟨_, _, _, _, rfl, _⟩ := h; rfl) fun f cdv A outer s H vs Q E hr h => ?_
  obtain ⟨a, ss, n, cap, rfl, ha, hs, hn, hsn, hc1, hc2, kb, kg⟩ := h
  refine ⟨_, (pss_cons (ps_set (i := 3) sc__law_rows.nd rfl (Or.inr rfl) (pe_lst (pa_cons (pe_op op_mulS pe_str (pv 1)) pa_nil)))
    (pss_cons (ps_set (i := 4) sc__law_rows.nd rfl (Or.inl rfl) (pe_disp (pps_cons (pe_ix (ix_listK (K := K) rfl) (pv 3) pe_int (fun _ _ => rfl)) pe_bl pps_nil) (by rfl) (by rfl) (fun z => by cases z) (by decide)))
    (pss_cons (ps_for PassesOwn.never rfl (pi_range1 (by rfl) T.f_range (pa_cons (pv 2) pa_nil)) (pg_name (i := 5) sc__law_rows.nd rfl (Or.inr rfl))
    (pss_cons (ps_cutS (ps_if (pt_cmpR op_lt (pv 5) (pe_callB (call_len_seqK (K := K) rfl) (by rfl) T.f_len PySem.boot_len (pa_cons (pv 3) pa_nil)) (nomark _))
    (pss_one (ps_for PassesOwn.never rfl (pi_listK (K := K) rfl (pe_lc (own := [("_law_s", 7)]) rfl sc__law_rows.nd (pi_listK (K := K) rfl (pv 0)) (blkOk_by (N := N__law_rows) (sc := defScope s__law_rows) (by decide +kernel)) (fun _ _ _ _ _ => pg_name (i := 7) sc__law_rows.nd rfl (Or.inl rfl)) (fun _ _ _ _ _ => pts_nil) (fun _ _ _ _ _ => (pe_cl (cl__law_lay T) hr (by decide) (by rfl) (pa_cons (pv 7) (pa_cons (pe_ix (ix_listK (K := K) rfl) (pv 3) (pv 5) (fun _ _ => rfl)) pa_nil)))))) (pg_name (i := 6) sc__law_rows.nd rfl (Or.inl rfl))
    (pss_one (ps_if (pt_cmp (pc_dnotin (hu_of hr) (pv 6) (pv 4)))
    (pss_cons (ps_dput (hu_of hr) (pv 4) (pv 6) pe_bl rfl)
    (pss_one (ps_expr (pe_appK (K := K) rfl (pv 3) (pa_cons (pv 6) pa_nil)))))
    pss_nil))))
    pss_nil))
    (pss_one (ps_if (pt_cmpR op_gt (pe_callB (call_len_seqK (K := K) rfl) (by rfl) T.f_len PySem.boot_len (pa_cons (pv 3) pa_nil)) (pv 2) (nomark _))
    (pss_one (ps_ret pe_non))
    pss_nil))))
    (pss_one (ps_ret (pe_callB (cr_sortTx (K := K) rfl hr.units) (by rfl) T.f_sorted (by decide +kernel) (pa_cons (pv 3) pa_nil))))))), ?_⟩
  refine ⟨_, rfl, 46, n, rfl, rfl, by omega, by omega, line_le (by show 1 ≤ _; omega), fun b hb => ?_⟩
  have e0 : Same H (upd H b (.lst [sv (List.replicate n 46)])) := (Same.refl H).upd1 hb
  have hb0 : upd H b (.lst [sv (List.replicate n 46)]) b = some (.lst ((lv ss n 0).map sv)) := upd_same
  show Ends.nx _ _ (upd H b (.lst [sv (List.replicate n 46)]))
  generalize upd H b (.lst [sv (List.replicate n 46)]) = H0 at e0 hb0 ⊢
  intro d hd
  have hdH : H d = none := by
    cases q : H d with
    | none => rfl
    | some u => rw [e0 _ _ q] at hd; cases hd
  have hbd : b ≠ d := fun e => by rw [e, hd] at hb0; cases hb0
  refine ⟨_, rfl, b, _, 0, _, rfl, rfl, SqL.of (by rw [upd_ne hbd]; exact hb0), rfl, upd_same, [(.inr (S (List.replicate n 46)), .bl true)], rfl, Nat.le_of_ble_eq_true rfl, ?_⟩
  have e1 : Same H (upd (upd H0 d (.dK [])) d (.dK (mergeK [] [(.inr (S (List.replicate n 46)), .bl true)]))) := by
    rw [upd_upd]; exact e0.upd1 hd
  have hd1 : upd (upd H0 d (.dK [])) d (.dK (mergeK [] [(.inr (S (List.replicate n 46)), .bl true)])) d = some (.dK (kvT (lv ss n 0))) := upd_same
  have hb1 : upd (upd H0 d (.dK [])) d (.dK (mergeK [] [(.inr (S (List.replicate n 46)), .bl true)])) b = some (.lst ((lv ss n 0).map sv)) := by
    rw [upd_ne hbd, upd_ne hbd]; exact hb0
  generalize upd (upd H0 d (.dK [])) d (.dK (mergeK [] [(.inr (S (List.replicate n 46)), .bl true)])) = H1 at e1 hd1 hb1 ⊢
  refine ⟨_, rfl, _, rfl, by omega, by omega, ?_⟩
  refine for_it (walk_range (lo := 0) (n := ((cap : Nat) : Int).toNat)) (fun i σ H' => ∃ (o5 o6 o7 : Option V), σ = [some (.ref a), some (.int n), some (.int cap), some (.ref b), some (.ref d), o5, o6, o7] ∧ Same H H' ∧ H' b = some (.lst ((lv ss n i).map sv)) ∧ H' d = some (.dK (kvT (lv ss n i))) ∧ (lv ss n i).length ≤ cap) ?_ (fun _ _ _ _ _ => True.intro) ?_ ?_
  · exact ⟨_, _, _, rfl, e1, hb1, hd1, hc1⟩
  · rintro j x σ H2 H3 hj ⟨o5, o6, o7, rfl, e, hb2, hd2, hlc⟩ ⟨rfl, rfl⟩
    have hz0 : (0 : Int) + (j : Nat) = (j : Nat) := by omega
    refine ⟨fun σ' H' => ∃ (o6 o7 : Option V), σ' = [some (.ref a), some (.int n), some (.int cap), some (.ref b), some (.ref d), some (.int (0 + (j : Nat))), o6, o7] ∧ Same H H' ∧ H' b = some (.lst ((lv ss n (j + 1)).map sv)) ∧ H' d = some (.dK (kvT (lv ss n (j + 1)))), ?_, ?_⟩
    · rintro _ H4 ⟨o6, o7, rfl, e4, hb4, hd4⟩
      refine ⟨_, rfl, b, _, rfl, .inl (SqL.of hb4), _, rfl, _, _, rfl, rfl, _, rfl, ?_⟩
      rw [List.length_map]
      refine if_int (fun h => ?_) (fun h => ?_)
      · exact kb ⟨j + 1, by omega, by omega⟩ _ e4
      · exact ⟨_, _, _, rfl, e4, hb4, hd4, by omega⟩
    intro N hN
    refine ⟨_, rfl, _, rfl, b, _, rfl, .inl (SqL.of hb2), _, _, rfl, rfl, _, rfl, ?_⟩
    rw [List.length_map]
    refine if_int (fun h => ?_) (fun h => ?_)
    rotate_left
    · have hst := lv_stay (ss := ss) (n := n) (i := j) (by omega)
      exact hN _ _ ⟨o6, o7, rfl, e, by rw [hst]; exact hb2, by rw [hst]; exact hd2⟩
    have hjl : j < (lv ss n j).length := by omega
    have hx := List.getElem?_eq_getElem hjl
    generalize (lv ss n j)[j] = x at hx
    have hxn : x.length = n := lv_rows hs j x (List.mem_of_getElem? hx)
    refine ⟨_, rfl, a, rfl, ⟨_, SqL.of (e _ _ ha)⟩, fun D hD => ?_⟩
    have hxi : atI ((lv ss n j).map sv) (j : Nat) = some (sv x) := atI_nat (by rw [List.getElem?_map, hx]; rfl)
    refine lc_lst hD ss sv (SqL.of (e _ _ ha)) (fun _ => true) (fun s => sv (overL s x)) (by omega) ?_ ?_
    · intro s H4 hs4 e4
      refine ⟨_, gv_name, rfl, evT_yes, fun H5 e5 _ Q' q' => ?_⟩
      exact ⟨_, rfl, _, rfl, _, rfl, b, _, _, _, rfl, rfl, SqL.of ((e4.trans e5) _ _ hb2), by rw [hz0]; exact hxi, s, x, rfl, by rw [hs s hs4]; omega, fun H6 e6 => q' _ e6⟩
    intro H4 e4 hD4
    rw [filter_all] at hD4
    have hD4' : H4 D = some (.lst ((ss.map fun s => overL s x).map sv)) := by rw [hD4, List.map_map] <;> rfl
    have hbD : b ≠ D := fun q => by rw [q, hD] at hb2; cases hb2
    have hdD : d ≠ D := fun q => by rw [q, hD] at hd2; cases hd2
    refine ⟨D, rfl, ⟨_, SqL.of hD4'⟩, ?_⟩
    refine for_it (walk_list (K := K) (a := D) (xs := (ss.map fun s => overL s x).map sv)) (fun i σ H' => ∃ (o6 o7 : Option V), σ = [some (.ref a), some (.int n), some (.int cap), some (.ref b), some (.ref d), some (.int (0 + (j : Nat))), o6, o7] ∧ Same H H' ∧ H' b = some (.lst ((ext (ss.take i) x (lv ss n j)).map sv)) ∧ H' d = some (.dK (kvT (ext (ss.take i) x (lv ss n j)))) ∧ H' D = some (.lst ((ss.map fun s => overL s x).map sv))) ?_ ?_ ?_ ?_
    · exact ⟨_, _, rfl, e.trans e4, e4 _ _ hb2, e4 _ _ hd2, hD4'⟩
    · rintro i σ H2 hi ⟨o6, o7, rfl, e2, hb3, hd3, hD3⟩
      exact SqL.of hD3
    · rintro i y σ H5 H6 hi ⟨o6, o7, rfl, e2, hb3, hd3, hD3⟩ ⟨rfl, hy⟩
      rw [List.getElem?_map, List.getElem?_map] at hy
      obtain ⟨s2, hs2, rfl⟩ := Option.map_eq_some_iff.mp hy
      obtain ⟨s1, hs1, rfl⟩ := Option.map_eq_some_iff.mp hs2
      obtain ⟨t, ht⟩ := ext_app x (ss.take i) (lv ss n j)
      have hlen : (ext (ss.take i) x (lv ss n j)).length ≤ 4000 := by
        have := ext_len x (ss.take i) (lv ss n j)
        rw [List.length_take] at this
        omega
      refine ⟨_, rfl, _, rfl, d, _, rfl, DGet.k (k := .inr (S (overL s1 x))) hd3, _, rfl, ?_⟩
      rw [kvT_val]
      refine if_decN rfl (fun h => ?_) (fun h => ?_)
      · refine ⟨_, rfl, _, rfl, d, _, rfl, DPut.k (k := .inr (S (overL s1 x))) hd3 (line_lt (by unfold kvT; rw [List.length_map]; omega)), ?_⟩
        rw [kvT_put h]
        have hb4 : upd H6 d (.dK (kvT (ext (ss.take i) x (lv ss n j) ++ [overL s1 x]))) b = some (.lst ((ext (ss.take i) x (lv ss n j)).map sv)) := by rw [upd_ne hbd]; exact hb3
        refine ⟨_, rfl, tyL hb4, _, rfl, b, _, _, rfl, rfl, hb4, line_lt (by rw [List.length_map]; omega), _, _, rfl, (e2.mut1 hdH).mut1 hb, ?_, ?_, ?_⟩
        · rw [upd_same, take_snoc hs1, ext_snoc]; unfold ext1; rw [if_neg h, List.map_append]; rfl
        · rw [upd_ne (Ne.symm hbd), upd_same, take_snoc hs1, ext_snoc]; unfold ext1; rw [if_neg h]
        · rw [upd_ne (Ne.symm hbD), upd_ne (Ne.symm hdD)]; exact hD3
      · refine ⟨_, _, rfl, e2, ?_, ?_, hD3⟩
        · rw [take_snoc hs1, ext_snoc]; unfold ext1; rw [if_pos h]; exact hb3
        · rw [take_snoc hs1, ext_snoc]; unfold ext1; rw [if_pos h]; exact hd3
    · rintro σ H5 ⟨o6, o7, rfl, e2, hb3, hd3, hD3⟩
      rw [List.length_map, List.length_map, List.take_length] at hb3 hd3
      rw [← lv_next hx] at hb3 hd3
      exact hN _ _ ⟨_, _, rfl, e2, hb3, hd3⟩
  · rintro _ H4 ⟨o5, o6, o7, rfl, e4, hb4, hd4, hlc⟩
    have hcn : ((cap : Nat) : Int).toNat = cap := by omega
    rw [hcn] at hb4 hlc
    refine ⟨_, rfl, b, (lv ss n cap).map S, rfl, SqL.of (by rw [map_S_V]; exact hb4), fun zs p _ hp => kg (not_big_cap hlc) _ _ (e4.upd1 hp)⟩
end
end NT
namespace NT
open PySem PySem.Spec PyProof.Rows L2
open SX (S)
def spLText : Sp := fun vs H Q _ => ∃ (a b : Addr) (cs : List Cell) (ss : List Row), vs = [.ref a, .ref b] ∧ CellsAt H a cs ∧ StrsAt H b ss ∧ okCounts cs ∧ smallB cs ss ∧ ∀ H', Same H H' → Q (sv (textL cs ss)) H'
def spRefused : Sp := fun vs H Q _ => ∃ (a b : Addr) (cs : List Cell) (ss : List Row), vs = [.ref a, .ref b] ∧ CellsAt H a cs ∧ StrsAt H b ss ∧ goodCells cs ∧ 1 ≤ cs.length ∧ cs.length ≤ 1000000 ∧ ss.length ≤ 1000000 ∧ (∀ s ∈ ss, s.length ≤ 1000000 ∧ asc s) ∧ (OkBand cs ss → ∀ H', Same H H' → Q (.bl false) H') ∧ (¬ OkBand cs ss → ∀ H', Same H H' → Q (.bl true) H')
theorem dp_ints {K : PySem.W.Frag} {H : Hp} {a : Addr} {f : Nat → Int} {ys : List Nat} (h : H a = some (.lst (ys.map fun i => .int (f i)))) : Dp K H (.ref a) (.list (ys.map fun i => .int (f i))) := .lst (SqL.of h) (dpAll_map _ fun _ _ => .int _)
theorem shaped_ints {f : Nat → Int} (ys : List Nat) : SeqAt.shaped (.list (ys.map fun i => .int (f i))) = true := by
  unfold SeqAt.shaped
  rw [Bool.and_eq_true]
  refine ⟨?_, decide_eq_true ?_⟩
  · show PyData.canLayAll0 _ = true
    exact canAll _ fun z hz => rfl
  · show PyData.depthAll _ + 1 ≤ 64
    have := depAll (f := fun i => PyData.int (f i)) (n := 0) ys fun z _ => Nat.le_refl _
    omega
theorem eqv_ints {f : Nat → Int} (ys : List Nat) : PyData.eqv (.list (ys.map fun i => .int (f i))) (.list (([] : List (List Nat)).map txD)) = decide (ys = []) := by
  rw [PyData.eqv]
  cases ys <;> rfl
section
variable {P : Program} {w : World} {K : PySem.W.Frag} {mg : Str → Option Value} {base : Heap}
abbrev N__law_text : List Str := ["_law_frame_here", "_law_stack_here", "_law_head", "_law_pair", "_law_s"]
theorem sc__law_text : FnScope N__law_text ["_law_frame_here", "_law_stack_here"] (defScope s__law_text) := ⟨rfl, rfl, rfl, by decide +kernel, rfl, by decide +kernel, by decide +kernel⟩
theorem cl__law_text (T : Txt K mg) : Cl P w K mg base CX0 1 "_law_text" spLText [] := by
  refine cl0 T.d__law_text sc__law_text (fun _ _ _ _ _ _ us hl => match us, hl with | [_, _], _ => rfl) (fun vs H Q E h => by obtain ⟨_, _, _, _, rfl, _⟩ := h; rfl) fun f cdv A outer s H vs Q E hr h => ?_
  obtain ⟨a, b, cs, ss, rfl, hc, hs, ok, sm, k⟩ := h
  obtain ⟨ps, rfl, hp, hpt⟩ := hc
  have hb := textL_len sm
  obtain ⟨m1, m2, m3, m4⟩ := sm
  rw [List.length_map] at m1
  refine ⟨_, (pss_cons (ps_set (i := 2) sc__law_text.nd rfl (Or.inl rfl) (pe_joinK (K := K) rfl pe_str (pe_lc (own := [("_law_pair", 3)]) rfl sc__law_text.nd (pi_listK (K := K) rfl (pv 0)) (blkOk_by (N := N__law_text) (sc := defScope s__law_text) (by decide +kernel)) (fun _ _ _ _ _ => pg_name (i := 3) sc__law_text.nd rfl (Or.inl rfl)) (fun _ _ _ _ _ => pts_nil) (fun _ _ _ _ _ => (pe_op op_add_str (pe_op op_add_str (pe_op op_add_str (pe_op op_add_str pe_str (pe_ix (ix_tupK (K := K) rfl) (pv 3) pe_int (fun _ _ => rfl))) pe_str) (pe_callTy call_str_int (by rfl) T.f_str (by decide +kernel) (pa_cons (pe_ix (ix_tupK (K := K) rfl) (pv 3) pe_int (fun _ _ => rfl)) pa_nil))) pe_str)))))
    (pss_one (ps_ret (pe_op op_add_str (pv 2) (pe_joinK (K := K) rfl pe_str (pe_lc (own := [("_law_s", 4)]) rfl sc__law_text.nd (pi_listK (K := K) rfl (pv 1)) (blkOk_by (N := N__law_text) (sc := defScope s__law_text) (by decide +kernel)) (fun _ _ _ _ _ => pg_name (i := 4) sc__law_text.nd rfl (Or.inl rfl)) (fun _ _ _ _ _ => pts_nil) (fun _ _ _ _ _ => (pe_op op_add_str (pe_op op_add_str pe_str (pv 4)) pe_str)))))))), ?_⟩
  refine ⟨⟨_, rfl⟩, _, rfl, a, rfl, ⟨_, SqL.of hp⟩, fun D hD => ?_⟩
  refine lc_lst hD ps (fun z => .ref z.1) (SqL.of hp) (fun _ => true) (fun z => sv (cellLn z.2)) (by omega) ?_ ?_
  · intro z H1 hz e
    obtain ⟨t, nm, i⟩ := z
    obtain ⟨k1, k2⟩ : 1 ≤ i ∧ i ≤ 4 := ok _ (List.mem_map.mpr ⟨_, hz, rfl⟩)
    have hnm : nm.length ≤ 6 := m3 _ (List.mem_map.mpr ⟨_, hz, rfl⟩)
    refine ⟨_, gv_name, rfl, evT_yes, fun H2 e2 _ Q q => ?_⟩
    have ht := e2 _ _ (e _ _ (hpt _ hz))
    refine ⟨_, rfl, t, _, 0, _, rfl, rfl, SqT.of ht, rfl, S [99, 101, 108, 108, 32], S nm, rfl, rfl, line_le (by rw [SX.S_len, SX.S_len]; simp; omega), ?_⟩
    rw [SX.S_cat]
    refine ⟨_, S [32], rfl, rfl, line_le (by rw [SX.S_len, SX.S_len]; simp; omega), ?_⟩
    rw [SX.S_cat]
    refine ⟨_, rfl, t, _, 1, _, rfl, rfl, SqT.of ht, rfl, i, rfl, log_small (by omega) k2, ?_⟩
    rw [num_one k1 k2]
    refine ⟨_, _, rfl, rfl, line_le (by rw [SX.S_len, SX.S_len]; simp; omega), ?_⟩
    rw [SX.S_cat]
    refine ⟨_, S [10], rfl, rfl, line_le (by rw [SX.S_len, SX.S_len]; simp; omega), ?_⟩
    rw [SX.S_cat]
    have e9 : ((([99, 101, 108, 108, 32] ++ nm) ++ [32]) ++ [48 + i.toNat]) ++ [10] = cellLn (nm, i) := by unfold cellLn; simp
    rw [e9]
    exact q _ (Same.refl _)
  intro H1 e1 hD1
  rw [filter_all] at hD1
  have hl1 : H1 D = some (.lst ((((ps.map (·.2)).map cellLn).map S).map V.str)) := by rw [hD1, map_S_V, List.map_map, List.map_map]; rfl
  have hcl : (((ps.map (·.2)).map cellLn).flatten).length ≤ 1000 := by unfold textL at hb; rw [List.length_append] at hb; omega
  have hsl : ((ss.map seedLn).flatten).length ≤ 1000 := by unfold textL at hb; rw [List.length_append] at hb; omega
  refine ⟨S [], D, _, rfl, rfl, .inl (SqL.of hl1), ?_, ?_⟩
  · rw [lens_sum]
    show _ + _ * 0 ≤ _
    omega
  rw [join_nil]
  refine ⟨_, rfl, ⟨_, rfl⟩, _, rfl, b, rfl, ⟨_, e1.seq (SqL.of hs)⟩, fun D2 hD2 => ?_⟩
  refine lc_lst hD2 ss sv (e1.seq (SqL.of hs)) (fun _ => true) (fun s => sv (seedLn s)) (by omega) ?_ ?_
  · intro y H2 hy e2
    refine ⟨_, gv_name, rfl, evT_yes, fun H3 e3 _ Q q => ?_⟩
    have hyl := m4 y hy
    refine ⟨_, rfl, S [115, 101, 101, 100, 32], S y, rfl, rfl, line_le (by rw [SX.S_len, SX.S_len]; simp; omega), ?_⟩
    rw [SX.S_cat]
    refine ⟨_, S [10], rfl, rfl, line_le (by rw [SX.S_len, SX.S_len]; simp; omega), ?_⟩
    rw [SX.S_cat]
    have e9 : ([115, 101, 101, 100, 32] ++ y) ++ [10] = seedLn y := by unfold seedLn; simp
    rw [e9]
    exact q _ (Same.refl _)
  intro H2 e2 hD2'
  rw [filter_all] at hD2'
  have hl2 : H2 D2 = some (.lst (((ss.map seedLn).map S).map V.str)) := by rw [hD2', map_S_V, List.map_map]; rfl
  refine ⟨S [], D2, _, rfl, rfl, .inl (SqL.of hl2), ?_, ?_⟩
  · rw [lens_sum]
    show _ + _ * 0 ≤ _
    omega
  rw [join_nil]
  refine ⟨_, _, rfl, rfl, line_le (by rw [SX.S_len, SX.S_len]; omega), ?_⟩
  rw [SX.S_cat]
  exact k _ (e1.trans e2)
abbrev N__law_refused : List Str := ["_law_frame_here", "_law_stack_here", "_law_titles", "_law_pair", "_law_s", "_law_k"]
theorem sc__law_refused : FnScope N__law_refused ["_law_frame_here", "_law_stack_here"] (defScope s__law_refused) := ⟨rfl, rfl, rfl, by decide +kernel, rfl, by decide +kernel, by decide +kernel⟩
theorem cl__law_refused (T : Txt K mg) : Cl P w K mg base CX0 3 "_law_refused" spRefused [] := by
  refine cl0 T.d__law_refused sc__law_refused (fun _ _ _ _ _ _ us hl => match us, hl with | [_, _], _ => rfl) (fun vs H Q E h => by obtain ⟨_, _, _, _, rfl, _⟩ := h; rfl) fun f cdv A outer s H vs Q E hr h => ?_
  obtain ⟨a, b, cs, ss, rfl, hc, hs, hg, hn1, hn, hsn, hsl, kg, kb⟩ := h
  have hc' := hc
  obtain ⟨ps, rfl, hp, hpt⟩ := hc
  rw [List.length_map] at hn1 hn
  refine ⟨_, (pss_cons (ps_setLc (i := 2) (own := [("_law_pair", 3)]) rfl sc__law_refused.nd rfl rfl (sw_true rfl rfl rfl (by decide +kernel)) (pi_listK (K := K) rfl (pv 0)) (blkOk_by (N := N__law_refused) (sc := defScope s__law_refused) (by decide +kernel)) (fun _ _ _ _ _ => pg_name (i := 3) sc__law_refused.nd rfl (Or.inl rfl)) (fun _ _ _ _ _ => pts_nil) (fun _ _ _ _ _ => (pe_ix (ix_tupK (K := K) rfl) (pv 3) pe_int (fun _ _ => rfl))))
    (pss_cons (ps_if (PW.pt (pw_or (pt_cmpR op_gt (pe_callB (call_len_seqK (K := K) rfl) (by rfl) T.f_len PySem.boot_len (pa_cons (pv 2) pa_nil)) pe_int (nomark _)) (pw_or (pt_cmpR (op_neDK (K := K) rfl hr.units) (pe_cl (cl__law_once T) hr (by decide) (by rfl) (pa_cons (pv 2) pa_nil)) (pv 2) (nomark _)) (pw_or (pt_cmpR op_gt (pe_callB (call_len_seqK (K := K) rfl) (by rfl) T.f_len PySem.boot_len (pa_cons (pv 1) pa_nil)) pe_int (nomark _)) (pw_or1 (pt_cmpR (op_neDK (K := K) rfl hr.units) (pe_cl (cl__law_once T) hr (by decide) (by rfl) (pa_cons (pv 1) pa_nil)) (pv 1) (nomark _)))))))
    (pss_one (ps_ret pe_bl))
    pss_nil)
    (pss_cons (ps_if (pt_cmpR (op_neDK (K := K) rfl hr.units) (pe_lc (own := [("_law_s", 4)]) rfl sc__law_refused.nd (pi_listK (K := K) rfl (pv 1)) (blkOk_by (N := N__law_refused) (sc := defScope s__law_refused) (by decide +kernel)) (fun _ _ _ _ _ => pg_name (i := 4) sc__law_refused.nd rfl (Or.inl rfl)) (fun _ _ _ _ _ => pts_one (PW.pt (pw_or (pt_not (pt_val (pe_cl (cl__law_is_row T) hr (by decide) (by rfl) (pa_cons (pv 0) (pa_cons (pv 4) pa_nil))))) (pw_or1 (pt_cmpR op_eq (pv 4) (pe_cl (cl__law_blank T) hr (by decide) (by rfl) (pa_cons (pv 0) pa_nil)) (nomark _)))))) (fun _ _ _ _ _ => (pv 4))) (pe_lst pa_nil) (nomark _))
    (pss_one (ps_ret pe_bl))
    pss_nil)
    (pss_cons (ps_if (pt_cmpR (op_neDK (K := K) rfl hr.units) (pe_lc (own := [("_law_k", 5)]) rfl sc__law_refused.nd (pi_range1 (by rfl) T.f_range (pa_cons (pe_callB (call_len_seqK (K := K) rfl) (by rfl) T.f_len PySem.boot_len (pa_cons (pv 0) pa_nil)) pa_nil)) (blkOk_by (N := N__law_refused) (sc := defScope s__law_refused) (by decide +kernel)) (fun _ _ _ _ _ => pg_name (i := 5) sc__law_refused.nd rfl (Or.inr rfl)) (fun _ _ _ _ _ => pts_one (pt_cmpR (op_eqDK (K := K) rfl hr.units) (pe_lc (own := [("_law_s", 4)]) rfl sc__law_refused.nd (pi_listK (K := K) rfl (pv 1)) (blkOk_by (by kernel_rfl)) (fun _ _ _ _ _ => pg_name (i := 4) sc__law_refused.nd rfl (Or.inl rfl)) (fun _ _ _ _ _ => pts_one (pt_cmpR op_ne (pe_ix ix_str (pv 4) (pv 5) (fun _ _ => rfl)) pe_str (nomark _))) (fun _ _ _ _ _ => (pv 4))) (pe_lst pa_nil) (nomark _))) (fun _ _ _ _ _ => (pv 5))) (pe_lst pa_nil) (nomark _))
    (pss_one (ps_ret pe_bl))
    pss_nil)
    (pss_one (ps_ret (pe_cmpR op_isN (pe_cl (cl__law_rows T) hr (by decide) (by rfl) (pa_cons (pv 1) (pa_cons (pe_callB (call_len_seqK (K := K) rfl) (by rfl) T.f_len PySem.boot_len (pa_cons (pv 0) pa_nil)) (pa_cons pe_int pa_nil)))) pe_non (nomark _)))))))), ?_⟩
  refine ⟨_, rfl, a, rfl, ⟨_, SqL.of hp⟩, fun D hD => ?_⟩
  refine lc_lst hD ps (fun z => .ref z.1) (SqL.of hp) (fun _ => true) (fun z => sv z.2.1) (by omega) ?_ ?_
  · intro z H1 hz e
    refine ⟨_, gv_name, rfl, evT_yes, fun H2 e2 _ Q q => ?_⟩
    exact ⟨_, rfl, z.1, _, 0, _, rfl, rfl, SqT.of (e2 _ _ (e _ _ (hpt _ hz))), rfl, q _ (Same.refl _)⟩
  intro H1 e1 hD1
  rw [filter_all] at hD1
  have hns : ∀ y ∈ (ps.map (·.2)).map (·.1), asc y := by
    intro y hy
    obtain ⟨c, hc, rfl⟩ := List.mem_map.mp hy
    exact nameB_asc (hg c hc).1
  have ht1 : StrsAt H1 D ((ps.map (·.2)).map (·.1)) := by show H1 D = _; rw [hD1, List.map_map, List.map_map]; rfl
  have hok : okCounts (ps.map (·.2)) := fun z hz => (hg z hz).2
  generalize hnm : (ps.map (·.2)).map (·.1) = nms at hns ht1
  have hnl : nms.length = ps.length := by rw [← hnm]; simp
  refine ⟨_, rfl, D, _, rfl, .inl (SqL.of ht1), _, _, rfl, rfl, _, rfl, ?_⟩
  rw [List.length_map, hnl]
  have K12 : ¬ OkBand (ps.map (·.2)) ss → ∀ H', Same H H' → Q (.bl true) H' := kb
  refine if_int (fun h => ?_) (fun h12 => ?_)
  · exact kb (fun q => by have := q.1.2.1; rw [List.length_map] at this; omega) _ e1
  refine ⟨_, rfl, D, nms, rfl, ht1, by omega, fun H2 u e2 hu hu2 => ⟨_, rfl, _, _, dp_strs (SqL.of hu2), dp_strs (SqL.of (e2 _ _ ht1)), shaped_strs (fun y hy => hns y (((once_facts nms).2.1 y).mp hy)), shaped_strs hns, _, rfl, ?_⟩⟩
  have e02 := e1.trans e2
  refine if_decN (congrArg not (eqv_strs (once nms) nms)) (fun h => kb (fun q => h ((once_iff nms).mpr (hnm ▸ q.1.2.2))) _ e02) (fun hnd => ?_)
  have hs2 : StrsAt H2 b ss := hs.same e02
  refine ⟨_, rfl, b, _, rfl, .inl (SqL.of hs2), _, _, rfl, rfl, _, rfl, ?_⟩
  rw [List.length_map]
  refine if_int (fun h => ?_) (fun h30 => ?_)
  · exact kb (fun q => by have := q.2.1.1; omega) _ e02
  refine ⟨_, rfl, b, ss, rfl, hs2, by omega, fun H3 u3 e3 hu3 hu3' => ⟨_, rfl, _, _, dp_strs (SqL.of hu3'), dp_strs (SqL.of (e3 _ _ hs2)), shaped_strs (fun y hy => (hsl y (((once_facts ss).2.1 y).mp hy)).2), shaped_strs (fun y hy => (hsl y hy).2), _, rfl, ?_⟩⟩
  have e03 := e02.trans e3
  refine if_decN (congrArg not (eqv_strs (once ss) ss)) (fun h => kb (fun q => h ((once_iff ss).mpr q.2.1.2.2.1)) _ e03) (fun hnd2 => ?_)
  have hs3 : StrsAt H3 b ss := hs.same e03
  refine ⟨_, rfl, b, rfl, ⟨_, SqL.of hs3⟩, fun D2 hD2 => ?_⟩
  refine lc_lst hD2 ss sv (SqL.of hs3) (fun s => !rowB (ps.map (·.2)) s || decide (s = List.replicate (ps.map (·.2)).length 46)) sv (by omega) ?_ ?_
  · intro s H4 hs4 e4
    refine ⟨_, gv_name, rfl, fun Q q => ?_, fun H6 e6 _ Q q => ⟨_, rfl, q _ (Same.refl _)⟩⟩
    have hc4 := hc'.same (e03.trans e4)
    refine ⟨_, rfl, _, rfl, a, _, s, rfl, hc4, hok, (hsl s hs4).1, fun H5 e5 => ⟨_, rfl, ?_⟩⟩
    refine if_notB (fun hb => ?_) (fun hb => ?_)
    · have := q _ e5
      rw [hb] at this
      exact this
    · refine ⟨_, rfl, _, rfl, a, _, rfl, SqL.of ((e03.trans (e4.trans e5)) _ _ hp), by rw [List.length_map]; omega, rfl, _, rfl, ?_⟩
      have := q _ e5
      rw [hb, List.length_map] at this
      rw [List.length_map, txt_dec (y := List.replicate ps.length 46) (by rfl)]
      exact this
  intro H4 e4 hD4
  have e04 := e03.trans e4
  refine ⟨by decide, fun p3 hp3 => ⟨_, _, dp_strs (((Same.refl H4).upd1 hp3).seq (SqL.of hD4)), dp_strs (ys := []) (SqL.of upd_same), shaped_strs (fun y hy => (hsl y (List.mem_filter.mp hy).1).2), shaped_strs (fun _ h => nomatch h), _, rfl, ?_⟩⟩
  have e05 := e04.upd1 (o := .lst []) hp3
  generalize upd H4 p3 (.lst []) = H5 at e05 ⊢
  refine if_decN (congrArg not (eqv_strs (ss.filter fun s => !rowB (ps.map (·.2)) s || decide (s = List.replicate (ps.map (·.2)).length 46)) [])) (fun h => kb (fun q => h (List.filter_eq_nil_iff.mpr fun s hs hb => ?_)) _ e05) (fun hrows => ?_)
  · obtain ⟨q1, q2⟩ := q.2.1.2.1 s hs
    rw [q1, decide_eq_false q2] at hb
    cases hb
  have hrow : ∀ s ∈ ss, rowB (ps.map (·.2)) s = true ∧ s ≠ List.replicate (ps.map (·.2)).length 46 := by
    intro s hs
    have := List.filter_eq_nil_iff.mp hrows s hs
    rw [Bool.or_eq_true, not_or] at this
    refine ⟨by simpa using this.1, fun e => this.2 (decide_eq_true e)⟩
  have hp5 := e05 _ _ hp
  have hs5 : StrsAt H5 b ss := hs.same e05
  refine ⟨_, rfl, a, _, rfl, .inl (SqL.of hp5), _, rfl, by rw [List.length_map]; omega, by rw [List.length_map]; omega, fun D3 hD3 => ?_⟩
  rw [List.length_map]
  have wr : Walk (Itr 0 ((ps.length : Nat) : Int).toNat) (List.range ps.length).length (fun _ => True) (YFn fun i => .int (0 + i)) := by
    rw [List.length_range, Int.toNat_natCast]; exact walk_range
  refine lc_pure (List.range ps.length) wr hD3 (fun k => decide (∀ s ∈ ss, s[k]? = some 46)) (fun k => .int (0 + (k : Nat))) (fun _ _ => True.intro) (by rw [List.length_range]; omega) ?_ ?_
  · rintro i y v H6 H7 hy e6 ⟨rfl, rfl⟩
    have hyi : y = i ∧ i < ps.length := by
      obtain ⟨h1, h2⟩ := List.getElem?_eq_some_iff.mp hy
      rw [List.length_range] at h1
      rw [List.getElem_range] at h2
      exact ⟨h2.symm, h1⟩
    obtain ⟨rfl, hyl⟩ := hyi
    refine ⟨Same.refl _, _, gv_name, rfl, fun Q q => ?_, fun H8 e8 _ Q q => ⟨_, rfl, q _ (Same.refl _)⟩⟩
    have hs7 : StrsAt H7 b ss := hs5.same e6
    refine ⟨_, rfl, b, rfl, ⟨_, SqL.of hs7⟩, fun D4 hD4 => ?_⟩
    refine lc_lst hD4 ss sv (SqL.of hs7) (fun s => !decide (s[y]? = some 46)) sv (by omega) ?_ ?_
    · intro s H8 hs8 e8
      refine ⟨_, gv_name, rfl, fun Q q => ?_, fun H9 e9 _ Q q => ⟨_, rfl, q _ (Same.refl _)⟩⟩
      have hsy : y < s.length := by rw [rowB_len (hrow s hs8).1, List.length_map]; exact hyl
      refine ⟨_, rfl, _, rfl, _, _, _, rfl, rfl, line_le (by rw [SX.S_len]; have := (hsl s hs8).1; omega), by rw [show (0 : Int) + (y : Nat) = (y : Nat) by omega]; exact atI_nat (by show s[y]? = _; exact List.getElem?_eq_getElem hsy), rfl, ?_⟩
      have e9 : (!decide (V.str { cps := #[s[y]] } = V.str (Str.ofString "."))) = !decide (s[y]? = some 46) := by
        rw [show (V.str ⟨#[s[y]]⟩ : V) = sv [s[y]] from rfl, one_dec (d := 46) (by rfl), List.getElem?_eq_getElem hsy]
        simp
      rw [e9]
      exact ⟨_, rfl, q _ (Same.refl _)⟩
    intro H8 e8 hD8
    refine ⟨by decide, fun p9 hp9 => ⟨_, _, dp_strs (((Same.refl H8).upd1 hp9).seq (SqL.of hD8)), dp_strs (ys := []) (SqL.of upd_same), shaped_strs (fun z hz => (hsl z (List.mem_filter.mp hz).1).2), shaped_strs (fun _ h => nomatch h), _, rfl, ?_⟩⟩
    rw [eqv_strs]
    have e9 : decide ((ss.filter fun s => !decide (s[y]? = some 46)) = []) = decide (∀ s ∈ ss, s[y]? = some 46) := by
      rw [decide_eq_decide, List.filter_eq_nil_iff]
      simp
    rw [e9]
    exact q _ (e8.upd1 hp9)
  intro H6 e6 hD6
  have e06 := e05.trans e6
  refine ⟨by decide, fun p7 hp7 => ⟨_, _, dp_ints (((Same.refl H6).upd1 (o := .lst []) hp7) _ _ hD6), dp_strs (ys := []) (SqL.of upd_same), shaped_ints _, shaped_strs (fun _ h => nomatch h), _, rfl, ?_⟩⟩
  have e07 := e06.upd1 (o := .lst []) hp7
  generalize upd H6 p7 (.lst []) = H7 at e07 ⊢
  refine if_decN (congrArg not (eqv_ints _)) (fun h => kb (fun q => h (List.filter_eq_nil_iff.mpr fun i hi hb => ?_)) _ e07) (fun htold => ?_)
  · obtain ⟨s, q1, q2⟩ := q.2.1.2.2.2 i (by rw [List.length_map]; exact List.mem_range.mp hi)
    exact q2 (of_decide_eq_true hb s q1)
  have hp7 := e07 _ _ hp
  have hs7 : StrsAt H7 b ss := hs.same e07
  have hC : OkC (ps.map (·.2)) := ⟨by rw [List.length_map]; omega, by rw [List.length_map]; omega, by rw [hnm]; exact (once_iff nms).mp hnd⟩
  have hS : OkS (ps.map (·.2)) ss := by
    refine ⟨by omega, hrow, (once_iff ss).mp hnd2, fun i hi => ?_⟩
    rw [List.length_map] at hi
    have := List.filter_eq_nil_iff.mp htold i (List.mem_range.mpr hi)
    apply Classical.byContradiction
    intro hno
    refine this (decide_eq_true fun s hs => ?_)
    apply Classical.byContradiction
    intro hne
    exact hno ⟨s, hs, hne⟩
  refine ⟨_, rfl, _, rfl, a, _, rfl, .inl (SqL.of hp7), b, ss, ps.length, 800, by rw [List.length_map]; rfl, hs7, fun s hs => by rw [rowB_len (hrow s hs).1, List.length_map], by omega, by omega, by omega, by omega, fun hb H8 e8 => ⟨rfl, ?_⟩, fun hb H8 p8 e8 => ⟨rfl, ?_⟩⟩
  · exact kb (fun q => q.2.2 (by rw [List.length_map]; exact hb)) _ (e07.trans e8)
  · exact kg ⟨hC, hS, by rw [List.length_map]; exact hb⟩ _ (e07.trans e8)
end
end NT
namespace NT
open PySem PySem.Spec PyProof.Rows L2
open SX (S)
theorem lead_snoc {α : Type} {p : List Nat → Option α} : ∀ (ys : List (List Nat)) (y : List Nat), lead p (ys ++ [y]) = if (lead p ys).length = ys.length then (match p y with | none => lead p ys | some c => lead p ys ++ [c]) else lead p ys
  | [], y => by
    show (match p y with | none => [] | some c => c :: lead p []) = if (0 : Nat) = 0 then (match p y with | none => [] | some c => [] ++ [c]) else []
    rw [if_pos rfl]
    cases p y <;> rfl
  | a :: ys, y => by
    show (match p a with | none => [] | some c => c :: lead p (ys ++ [y])) = if (match p a with | none => [] | some c => c :: lead p ys).length = ys.length + 1 then (match p y with | none => (match p a with | none => [] | some c => c :: lead p ys) | some c => (match p a with | none => [] | some c => c :: lead p ys) ++ [c]) else (match p a with | none => [] | some c => c :: lead p ys)
    cases h : p a with
    | none => rw [if_neg (by show ¬ (0 = _); omega)]
    | some c =>
      show c :: lead p (ys ++ [y]) = if (lead p ys).length + 1 = ys.length + 1 then (match p y with | none => c :: lead p ys | some d => (c :: lead p ys) ++ [d]) else c :: lead p ys
      rw [lead_snoc ys y]
      by_cases e : (lead p ys).length = ys.length
      · rw [if_pos e, if_pos (by omega)]
        cases p y <;> rfl
      · rw [if_neg e, if_neg (by omega)]
theorem lead_no {α : Type} {p : List Nat → Option α} {ys : List (List Nat)} {i : Nat} {y : List Nat} (hi : ys[i]? = some y) (h : (lead p (ys.take i)).length ≠ i ∨ p y = none) : lead p (ys.take (i + 1)) = lead p (ys.take i) := by
  have hl : (ys.take i).length = i := by rw [List.length_take]; have := (List.getElem?_eq_some_iff.mp hi).1; omega
  rw [take_snoc hi, lead_snoc, hl]
  by_cases e : (lead p (ys.take i)).length = i
  · rw [if_pos e]
    rcases h with h | h
    · exact absurd e h
    · rw [h]
  · rw [if_neg e]
theorem lead_yes {α : Type} {p : List Nat → Option α} {ys : List (List Nat)} {i : Nat} {y : List Nat} {c : α} (hi : ys[i]? = some y) (h : (lead p (ys.take i)).length = i) (hp : p y = some c) : lead p (ys.take (i + 1)) = lead p (ys.take i) ++ [c] := by
  have hl : (ys.take i).length = i := by rw [List.length_take]; have := (List.getElem?_eq_some_iff.mp hi).1; omega
  rw [take_snoc hi, lead_snoc, hl, if_pos h, hp]
theorem rAt_le (x : List Nat) : rAt x ≤ (rWhole x).length := by
  unfold rAt rS
  by_cases h : rC x = []
  · rw [if_pos h, h]; exact Nat.zero_le _
  · rw [if_neg h]
    have h1 := lead_len (p := seedP) ((rWhole x).drop (rC x).length)
    have h2 := lead_len (p := cellP) (rWhole x)
    rw [List.length_drop] at h1
    show (rC x).length + _ ≤ _
    unfold rC at h1 ⊢
    omega
theorem int_eq_dec {a b : Int} {p : Prop} [Decidable p] (h : a = b ↔ p) : decide ((V.int a : V) = .int b) = decide p := decide_eq_decide.mpr ⟨fun q => h.mp (by injection q), fun q => by rw [h.mpr q]⟩
theorem CellsAt.updL {H : Hp} {a b : Addr} {cs : List Cell} {xs : List V} {o : HO} (h : CellsAt H a cs) (hb : H b = some (.lst xs)) (hne : a ≠ b) : CellsAt (upd H b o) a cs := by
  obtain ⟨ps, h1, h2, h3⟩ := h
  refine ⟨ps, h1, by rw [upd_ne hne]; exact h2, fun z hz => ?_⟩
  rw [upd_ne (fun q => by have := h3 z hz; rw [q, hb] at this; cases this)]
  exact h3 z hz
def spLRead : Sp := fun vs H Q _ => ∃ x : List Nat, vs = [sv x] ∧ x.length ≤ 900000 ∧ asc x ∧ (∀ cs ss, outP x = .good cs ss → ∀ H' p a b, Same H H' → H' p = some (.tup [.str "", .ref a, .ref b]) → CellsAt H' a cs → StrsAt H' b ss → Q (.ref p) H') ∧ (∀ i w, outP x = .bad i w → ∀ H' p q, Same H H' → H' p = some (.tup [.str "InvalidText", .ref q]) → H' q = some (.tup [.int i, .str w]) → Q (.ref p) H')
section
variable {P : Program} {w : World} {K : PySem.W.Frag} {mg : Str → Option Value} {base : Heap}
abbrev N__law_read : List Str := ["_law_text_here", "_law_parts", "_law_k", "_law_frame_here", "_law_stack_here", "_law_spot", "_law_told"]
theorem sc__law_read : FnScope N__law_read ["_law_text_here"] (defScope s__law_read) := ⟨rfl, rfl, rfl, by decide +kernel, rfl, by decide +kernel, by decide +kernel⟩
theorem cl__law_read (T : Txt K mg) : Cl P w K mg base CX0 4 "_law_read" spLRead [] := by
  refine cl0 T.d__law_read sc__law_read (fun _ _ _ _ _ _ us hl => match us, hl with | [_], _ => rfl) (fun vs H Q E h => by obtain ⟨_, rfl, _⟩ := h; rfl) fun f cdv A outer s H vs Q E hr h => ?_
  obtain ⟨x, rfl, hx, ha, kg, kb⟩ := h
  refine ⟨_, (pss_cons (ps_set (i := 1) sc__law_read.nd rfl (Or.inl rfl) (pe_split (pv 0) pe_str))
    (pss_cons (ps_par3 (i := 3) (j := 4) (l := 5) (by rfl) sc__law_read.nd rfl rfl rfl (by decide) (by decide) (by decide) rfl rfl rfl (pa_cons (pe_lst pa_nil) (pa_cons (pe_lst pa_nil) (pa_cons pe_int pa_nil))) (by rfl))
    (pss_cons (ps_for PassesOwn.never rfl (pi_range1 (by rfl) T.f_range (pa_cons (pe_op op_sub (pe_callB (call_len_seqK (K := K) rfl) (by rfl) T.f_len PySem.boot_len (pa_cons (pv 1) pa_nil)) pe_int) pa_nil)) (pg_name (i := 2) sc__law_read.nd rfl (Or.inl rfl))
    (pss_cons (ps_set (i := 6) sc__law_read.nd rfl (Or.inl rfl) (pe_cl (cl__law_cell_of T) hr (by decide) (by rfl) (pa_cons (pe_ix (ix_listK (K := K) rfl) (pv 1) (pv 2) (fun _ _ => rfl)) pa_nil)))
    (pss_one (ps_if (PW.pt (pw_and (pt_cmpR op_eq (pv 5) (pv 2) (nomark _)) (pw_and1 (pt_cmpR op_notN (pv 6) pe_non (nomark _)))))
    (pss_cons (ps_expr (pe_appK (K := K) rfl (pv 3) (pa_cons (pv 6) pa_nil)))
    (pss_one (ps_set (i := 5) sc__law_read.nd rfl (Or.inl rfl) (pe_op op_add (pv 2) pe_int))))
    pss_nil))))
    (pss_cons (ps_cutS (ps_if (pt_cmpR op_gt (pv 5) pe_int (nomark _))
    (pss_one (ps_for PassesOwn.never rfl (pi_range2 (by rfl) T.f_range (pa_cons (pv 5) (pa_cons (pe_op op_sub (pe_callB (call_len_seqK (K := K) rfl) (by rfl) T.f_len PySem.boot_len (pa_cons (pv 1) pa_nil)) pe_int) pa_nil))) (pg_name (i := 2) sc__law_read.nd rfl (Or.inl rfl))
    (pss_cons (ps_set (i := 6) sc__law_read.nd rfl (Or.inl rfl) (pe_cl (cl__law_seed_of T) hr (by decide) (by rfl) (pa_cons (pe_ix (ix_listK (K := K) rfl) (pv 1) (pv 2) (fun _ _ => rfl)) pa_nil)))
    (pss_one (ps_if (PW.pt (pw_and (pt_cmpR op_eq (pv 5) (pv 2) (nomark _)) (pw_and1 (pt_cmpR op_notN (pv 6) pe_non (nomark _)))))
    (pss_cons (ps_expr (pe_appK (K := K) rfl (pv 4) (pa_cons (pv 6) pa_nil)))
    (pss_one (ps_set (i := 5) sc__law_read.nd rfl (Or.inl rfl) (pe_op op_add (pv 2) pe_int))))
    pss_nil)))))
    pss_nil))
    (pss_cons (ps_if (pt_cut (PW.pt (pw_and (pt_truth (pv 4) (by intro _; rfl)) (pw_and1 (pt_val (pe_cl (cl__law_refused T) hr (by decide) (by rfl) (pa_cons (pv 3) (pa_cons (pv 4) pa_nil))))))))
    (pss_one (ps_ret (pe_tup (pa_cons pe_str (pa_cons (pe_tup (pa_cons pe_int (pa_cons pe_str pa_nil))) pa_nil)))))
    pss_nil)
    (pss_cons (ps_if (PW.pt (pw_or (pt_cmpR op_lt (pv 5) (pe_op op_sub (pe_callB (call_len_seqK (K := K) rfl) (by rfl) T.f_len PySem.boot_len (pa_cons (pv 1) pa_nil)) pe_int) (nomark _)) (pw_or1 (pt_cmpR op_ne (pe_ix (ix_listK (K := K) rfl) (pv 1) (pe_op op_sub (pe_callB (call_len_seqK (K := K) rfl) (by rfl) T.f_len PySem.boot_len (pa_cons (pv 1) pa_nil)) pe_int) (fun _ _ => rfl)) pe_str (nomark _)))))
    (pss_one (ps_ret (pe_tup (pa_cons pe_str (pa_cons (pe_tup (pa_cons (pv 5) (pa_cons pe_str pa_nil))) pa_nil)))))
    pss_nil)
    (pss_one (ps_ret (pe_ifExp (pt_truth (pv 4) (by intro _; rfl)) (pe_tup (pa_cons pe_str (pa_cons (pv 3) (pa_cons (pv 4) pa_nil)))) (pe_tup (pa_cons pe_str (pa_cons (pe_tup (pa_cons (pe_op op_sub (pe_callB (call_len_seqK (K := K) rfl) (by rfl) T.f_len PySem.boot_len (pa_cons (pv 1) pa_nil)) pe_int) (pa_cons pe_str pa_nil))) pa_nil)))))))))))), ?_⟩
  refine ⟨_, rfl, ⟨_, rfl⟩, _, _, rfl, rfl, rfl, line_le (by rw [SX.S_len]; omega), fun l hl => ?_⟩
  have esp : Txt.split (S x) (S [10]) = (rLines x).map S := SX.split_S (by decide) (by decide)
  rw [show (("\n" : Str)) = S [10] by rfl, esp, map_S_V]
  have e0 : Same H (upd H l (.lst ((rLines x).map sv))) := (Same.refl H).upd1 hl
  have hl0 : upd H l (.lst ((rLines x).map sv)) l = some (.lst ((rLines x).map sv)) := upd_same
  generalize upd H l (.lst ((rLines x).map sv)) = H0 at e0 hl0 ⊢
  refine ⟨by decide, fun f1 hf1 => ⟨by decide, fun st hst => ?_⟩⟩
  have e1 : Same H (upd H0 f1 (.lst [])) := e0.upd1 hf1
  have e2 := e1.upd1 (o := .lst []) hst
  have nlf : l ≠ f1 := fun q => by rw [← q, hl0] at hf1; cases hf1
  have nls : l ≠ st := fun q => by rw [← q, upd_ne nlf, hl0] at hst; cases hst
  have nfs : f1 ≠ st := fun q => by rw [← q, upd_same] at hst; cases hst
  have hfH : H f1 = none := by
    cases q : H f1 with
    | none => rfl
    | some u => rw [e0 _ _ q] at hf1; cases hf1
  have hsH : H st = none := by
    cases q : H st with
    | none => rfl
    | some u => rw [e1 _ _ q] at hst; cases hst
  have hl2 : upd (upd H0 f1 (.lst [])) st (.lst []) l = some (.lst ((rLines x).map sv)) := by rw [upd_ne nls, upd_ne nlf]; exact hl0
  have hf2 : CellsAt (upd (upd H0 f1 (.lst [])) st (.lst [])) f1 [] := ⟨[], rfl, by rw [upd_ne nfs, upd_same]; rfl, fun z hz => nomatch hz⟩
  have hs2 : StrsAt (upd (upd H0 f1 (.lst [])) st (.lst [])) st [] := upd_same
  generalize upd (upd H0 f1 (.lst [])) st (.lst []) = H2 at e2 hl2 hf2 hs2 ⊢
  have hwl : (rWhole x).length = (rLines x).length - 1 := List.length_dropLast
  have hll := rLines_len x
  have hlp : 0 < (rLines x).length := List.length_pos_iff.mpr (rLines_ne x)
  have hwg : ∀ i, i < (rWhole x).length → (rLines x)[i]? = (rWhole x)[i]? := fun i hi => by
    unfold rWhole
    rw [List.getElem?_dropLast, if_pos (by omega)]
  refine ⟨_, _, _, rfl, _, rfl, l, _, rfl, .inl (SqL.of hl2), _, _, rfl, rfl, _, rfl, by rw [List.length_map]; omega, by rw [List.length_map]; omega, ?_⟩
  rw [List.length_map, show (((rLines x).length : Nat) : Int) - 1 = ((rWhole x).length : Nat) by omega]
  have hlx : ∀ i, i < (rWhole x).length → ∃ y, (rWhole x)[i]? = some y ∧ y.length ≤ 900000 ∧ asc y := by
    intro i hi
    refine ⟨_, List.getElem?_eq_getElem hi, ?_, ?_⟩
    · have := spl1_len (rWhole_mem (List.getElem_mem hi)); omega
    · exact fun d hd => ha d (spl1_mem (rWhole_mem (List.getElem_mem hi)) d hd)
  refine for_it (walk_range (lo := 0) (n := (((rWhole x).length : Nat) : Int).toNat)) (fun i σ H' => ∃ (o2 o6 : Option V), σ = [some (sv x), some (.ref l), o2, some (.ref f1), some (.ref st), some (.int ((lead cellP ((rWhole x).take i)).length : Nat)), o6] ∧ Same H H' ∧ H' l = some (.lst ((rLines x).map sv)) ∧ CellsAt H' f1 (lead cellP ((rWhole x).take i)) ∧ StrsAt H' st []) ?_ (fun _ _ _ _ _ => True.intro) ?_ ?_
  · exact ⟨_, _, rfl, e2, hl2, hf2, hs2⟩
  · rintro i v σ H3 H4 hi ⟨o2, o6, rfl, e, hl3, hc3, hs3⟩ ⟨rfl, rfl⟩
    have hz0 : (0 : Int) + (i : Nat) = (i : Nat) := by omega
    have hi' : i < (rWhole x).length := by omega
    obtain ⟨y, hy, hyl, hya⟩ := hlx i hi'
    refine ⟨_, rfl, _, rfl, l, _, _, _, rfl, rfl, SqL.of hl3, by rw [hz0]; exact atI_nat (by rw [List.getElem?_map, hwg i hi', hy]; rfl), y, rfl, by omega, hya, fun hn H5 e5 => ?_, fun c hc H5 p5 e5 hp5 => ?_⟩
    · have hinv := lead_no (p := cellP) hy (.inr hn)
      have fin : ∃ (o2 o6 : Option V), [some (sv x), some (.ref l), some (.int (0 + (i : Nat))), some (.ref f1), some (.ref st), some (.int ((lead cellP ((rWhole x).take i)).length : Nat)), some .non] = [some (sv x), some (.ref l), o2, some (.ref f1), some (.ref st), some (.int ((lead cellP ((rWhole x).take (i + 1))).length : Nat)), o6] ∧ Same H H5 ∧ H5 l = some (.lst ((rLines x).map sv)) ∧ CellsAt H5 f1 (lead cellP ((rWhole x).take (i + 1))) ∧ StrsAt H5 st [] := by
        rw [hinv]
        exact ⟨_, _, rfl, e.trans e5, e5 _ _ hl3, hc3.same e5, hs3.same e5⟩
      refine ⟨_, rfl, _, rfl, rfl, _, rfl, ?_⟩
      refine if_dec (p := (lead cellP ((rWhole x).take i)).length = i) (int_eq_dec (by omega)) (fun h => ?_) (fun h => fin)
      exact ⟨_, rfl, rfl, _, rfl, if_decN rfl (fun h => absurd rfl h) (fun _ => fin)⟩
    · refine ⟨_, rfl, _, rfl, rfl, _, rfl, ?_⟩
      refine if_dec (p := (lead cellP ((rWhole x).take i)).length = i) (int_eq_dec (by omega)) (fun h => ?_) (fun h => ?_)
      · have hinv := lead_yes (p := cellP) hy h hc
        refine ⟨_, rfl, rfl, _, rfl, if_decN rfl (fun _ => ?_) (fun h => nomatch h)⟩
        obtain ⟨xs, hb2, hlen, hc2⟩ := (hc3.same e5).snoc hp5
        refine ⟨_, rfl, tyL hb2, _, rfl, f1, xs, _, rfl, rfl, hb2, line_lt (by omega), ?_⟩
        refine ⟨_, rfl, _, _, rfl, rfl, ?_⟩
        have hsp : (0 + (i : Nat) + 1 : Int) = ((lead cellP ((rWhole x).take (i + 1))).length : Nat) := by rw [hinv, List.length_append, h]; simp
        refine ⟨some (.int (0 + (i : Nat))), some (.ref p5), by rw [← hsp]; rfl, (e.trans e5).mut1 hfH, ?_, ?_, ?_⟩
        · rw [upd_ne nlf]; exact e5 _ _ hl3
        · rw [hinv]; exact hc2
        · show upd _ _ _ _ = _
          rw [upd_ne (Ne.symm nfs)]; exact e5 _ _ hs3
      · have hinv := lead_no (p := cellP) hy (.inl h)
        refine ⟨some (.int (0 + (i : Nat))), some (.ref p5), by rw [hinv]; rfl, e.trans e5, e5 _ _ hl3, by rw [hinv]; exact hc3.same e5, hs3.same e5⟩
  rintro _ H3 ⟨o2, o6, rfl, e, hl3, hc3, hs3⟩
  rw [Int.toNat_natCast, List.take_length] at hc3
  refine ⟨fun σ' H' => ∃ (o2 o6 : Option V), σ' = [some (sv x), some (.ref l), o2, some (.ref f1), some (.ref st), some (.int (rAt x : Nat)), o6] ∧ Same H H' ∧ H' l = some (.lst ((rLines x).map sv)) ∧ CellsAt H' f1 (rC x) ∧ StrsAt H' st (rS x), ?_, ?_⟩
  rotate_left
  · intro N hN
    have hc3 : CellsAt H3 f1 (rC x) := hc3
    have hcl : (rC x).length ≤ (rWhole x).length := lead_len _
    have esp : (lead cellP ((rWhole x).take (((rWhole x).length : Nat) : Int).toNat)).length = (rC x).length := by rw [Int.toNat_natCast, List.take_length]; rfl
    rw [esp]
    refine ⟨_, rfl, _, _, rfl, rfl, _, rfl, ?_⟩
    refine if_int (fun h => ?_) (fun h => ?_)
    rotate_left
    · have h0 : rC x = [] := List.eq_nil_of_length_eq_zero (by omega)
      have hS : rS x = [] := by unfold rS; rw [if_pos h0]
      have hA : rAt x = (rC x).length := by unfold rAt; rw [hS]; rfl
      exact hN _ _ ⟨o2, o6, by rw [hA], e, hl3, hc3, by rw [hS]; exact hs3⟩
    have hne : rC x ≠ [] := fun q => by rw [q] at h; simp at h
    refine ⟨_, rfl, _, rfl, l, _, rfl, .inl (SqL.of hl3), _, _, rfl, rfl, _, _, rfl, ?_, ?_⟩
    · rw [List.length_map]; omega
    rw [List.length_map]
    have hdl : (((rLines x).length : Nat) : Int) - 1 - ((rC x).length : Nat) = (((rWhole x).drop (rC x).length).length : Nat) := by rw [List.length_drop]; omega
    rw [hdl, Int.toNat_natCast]
    generalize hds : (rWhole x).drop (rC x).length = ds
    have hdg : ∀ i : Nat, ds[i]? = (rWhole x)[(rC x).length + i]? := fun i => by rw [← hds, List.getElem?_drop]
    have hdn : ds.length = (rWhole x).length - (rC x).length := by rw [← hds, List.length_drop]
    have hrS : rS x = lead seedP ds := by unfold rS; rw [if_neg hne, hds]
    refine for_it (walk_range (lo := (((rC x).length : Nat) : Int)) (n := ds.length)) (fun i σ H' => ∃ (o2 o6 : Option V), σ = [some (sv x), some (.ref l), o2, some (.ref f1), some (.ref st), some (.int (((rC x).length + (lead seedP (ds.take i)).length : Nat) : Int)), o6] ∧ Same H H' ∧ H' l = some (.lst ((rLines x).map sv)) ∧ CellsAt H' f1 (rC x) ∧ StrsAt H' st (lead seedP (ds.take i))) ?_ (fun _ _ _ _ _ => True.intro) ?_ ?_
    · exact ⟨_, _, rfl, e, hl3, hc3, hs3⟩
    · rintro i v σ H4 H5 hi ⟨o2, o6, rfl, e4, hl4, hc4, hs4⟩ ⟨rfl, rfl⟩
      have hi' : (rC x).length + i < (rWhole x).length := by omega
      obtain ⟨y, hy0, hyl, hya⟩ := hlx _ hi'
      have hy : ds[i]? = some y := by rw [hdg, hy0]
      have hz0 : (((rC x).length : Nat) : Int) + (i : Nat) = (((rC x).length + i : Nat) : Int) := by omega
      refine ⟨_, rfl, _, rfl, l, _, _, _, rfl, rfl, SqL.of hl4, by rw [hz0]; exact atI_nat (by rw [List.getElem?_map, hwg _ hi', hy0]; rfl), y, rfl, by omega, hya, fun hn H6 e6 => ?_, fun c hc H6 e6 => ?_⟩
      · have hinv := lead_no (p := seedP) hy (.inr hn)
        have fin : ∃ (o2 o6 : Option V), [some (sv x), some (.ref l), some (.int ((((rC x).length : Nat) : Int) + (i : Nat))), some (.ref f1), some (.ref st), some (.int (((rC x).length + (lead seedP (ds.take i)).length : Nat) : Int)), some .non] = [some (sv x), some (.ref l), o2, some (.ref f1), some (.ref st), some (.int (((rC x).length + (lead seedP (ds.take (i + 1))).length : Nat) : Int)), o6] ∧ Same H H6 ∧ H6 l = some (.lst ((rLines x).map sv)) ∧ CellsAt H6 f1 (rC x) ∧ StrsAt H6 st (lead seedP (ds.take (i + 1))) := by
          rw [hinv]
          exact ⟨_, _, rfl, e4.trans e6, e6 _ _ hl4, hc4.same e6, hs4.same e6⟩
        refine ⟨_, rfl, _, rfl, rfl, _, rfl, ?_⟩
        refine if_dec (p := (lead seedP (ds.take i)).length = i) (int_eq_dec (by omega)) (fun h => ?_) (fun h => fin)
        exact ⟨_, rfl, rfl, _, rfl, if_decN rfl (fun h => absurd rfl h) (fun _ => fin)⟩
      · refine ⟨_, rfl, _, rfl, rfl, _, rfl, ?_⟩
        refine if_dec (p := (lead seedP (ds.take i)).length = i) (int_eq_dec (by omega)) (fun h => ?_) (fun h => ?_)
        · have hinv := lead_yes (p := seedP) hy h hc
          refine ⟨_, rfl, rfl, _, rfl, if_decN rfl (fun _ => ?_) (fun h => nomatch h)⟩
          have hs6 := hs4.same e6
          refine ⟨_, rfl, tyL hs6, _, rfl, st, _, _, rfl, rfl, hs6, line_lt (by rw [List.length_map]; omega), ?_⟩
          refine ⟨_, rfl, _, _, rfl, rfl, ?_⟩
          have hsp : ((((rC x).length : Nat) : Int) + (i : Nat) + 1 : Int) = (((rC x).length + (lead seedP (ds.take (i + 1))).length : Nat) : Int) := by rw [hinv, List.length_append, h]; simp; omega
          refine ⟨some (.int ((((rC x).length : Nat) : Int) + (i : Nat))), some (sv c), by rw [← hsp]; rfl, (e4.trans e6).mut1 hsH, ?_, ?_, ?_⟩
          · rw [upd_ne nls]; exact e6 _ _ hl4
          · exact (hc4.same e6).updL hs6 nfs
          · show upd _ _ _ _ = _
            rw [upd_same, hinv, List.map_append]; rfl
        · have hinv := lead_no (p := seedP) hy (.inl h)
          refine ⟨some (.int ((((rC x).length : Nat) : Int) + (i : Nat))), some (sv c), by rw [hinv]; rfl, e4.trans e6, e6 _ _ hl4, hc4.same e6, by rw [hinv]; exact hs4.same e6⟩
    · rintro _ H4 ⟨o2, o6, rfl, e4, hl4, hc4, hs4⟩
      rw [List.take_length, ← hrS] at hs4
      exact hN _ _ ⟨o2, o6, by rw [List.take_length, ← hrS]; rfl, e4, hl4, hc4, hs4⟩
  rintro _ H4 ⟨o2, o6, rfl, e4, hl4, hc4, hs4⟩
  have hsl : ∀ s ∈ rS x, s.length ≤ 1000000 ∧ asc s := fun s hs => ⟨by have := (rS_sub hs).1; omega, fun d hd => ha d ((rS_sub hs).2 d hd)⟩
  have hrl : rAt x ≤ (rWhole x).length := rAt_le x
  have hcl : (rC x).length ≤ (rWhole x).length := lead_len _
  have hSl : (rC x).length + (rS x).length = rAt x := rfl
  obtain ⟨z, hz⟩ : ∃ z, (rLines x).getLast? = some z := ⟨_, List.getLast?_eq_some_getLast (rLines_ne x)⟩
  have hzi : (rLines x)[(rWhole x).length]? = some z := by rw [hwl, ← List.getLast?_eq_getElem?, hz]
  have hzl : z.length ≤ 900000 := by have := spl1_len (List.mem_of_getLast? hz); omega
  refine ⟨fun b H' => Same H4 H' ∧ (b = true ↔ rS x ≠ [] ∧ ¬ OkBand (rC x) (rS x)), ?_, ?_⟩
  rotate_left
  · intro N hN
    by_cases hS : rS x = []
    · refine ⟨_, rfl, false, .inl ⟨[], SqL.of (by rw [hs4, hS]; rfl), rfl⟩, iteF ?_⟩
      exact hN _ _ ⟨Same.refl _, by simp [hS]⟩
    · have h1 : 1 ≤ (rC x).length := by
        rcases hc0 : rC x with _ | ⟨c, cs⟩
        · exfalso; apply hS; unfold rS; rw [if_pos hc0]
        · simp
      refine ⟨_, rfl, true, .inl ⟨_, SqL.of hs4, ?_⟩, iteT ?_⟩
      · cases hq : rS x with
        | nil => exact absurd hq hS
        | cons a l => rfl
      refine ⟨_, rfl, _, rfl, f1, st, rC x, rS x, rfl, hc4, hs4, rC_good x, h1, by omega, by omega, hsl, fun ok H5 e5 => ⟨_, rfl, hN _ _ ⟨e5, ?_⟩⟩, fun no H5 e5 => ⟨_, rfl, hN _ _ ⟨e5, ?_⟩⟩⟩
      · simp [ok]
      · simp [no, hS]
  rintro b H5 ⟨e5, hb⟩
  have hl5 := e5 _ _ hl4
  have hc5 := hc4.same e5
  have hs5 := hs4.same e5
  have e05 := e4.trans e5
  cases b with
  | true =>
    obtain ⟨h1, h2⟩ := hb.mp rfl
    refine iteT ⟨line_le (by show 2 ≤ _; omega), fun q hq => ⟨line_le (by show 2 ≤ _; omega), fun p hp => ?_⟩⟩
    have e6 := e05.upd1 (o := .tup [.int 0, .str "band"]) hq
    refine kb 0 "band" ?_ _ p q (e6.upd1 hp) upd_same ?_
    · unfold outP; rw [if_neg h1, if_neg h2]
    · rw [upd_ne (fun r => by rw [← r, upd_same] at hp; cases hp), upd_same]; rfl
  | false =>
    have hb' : rS x = [] ∨ OkBand (rC x) (rS x) := by
      by_cases h1 : rS x = []
      · exact .inl h1
      · refine .inr (Classical.byContradiction fun h2 => ?_)
        exact nomatch hb.mpr ⟨h1, h2⟩
    refine iteF ?_
    have hrE : rEnd x = (decide (rAt x = (rWhole x).length) && decide (z = [])) := by
      unfold rEnd; rw [hz]; simp
    have form : rEnd x = false → ∀ H' p q, Same H H' → H' p = some (.tup [.str "InvalidText", .ref q]) → H' q = some (.tup [.int (rAt x : Nat), .str "form"]) → Q (.ref p) H' := by
      intro hE
      refine kb (rAt x) "form" ?_
      unfold outP
      rw [hE]
      rcases hb' with h1 | h1
      · rw [if_pos h1]; rfl
      · by_cases h2 : rS x = []
        · rw [if_pos h2]; rfl
        · rw [if_neg h2, if_pos h1]; rfl
    refine ⟨_, rfl, _, rfl, l, _, rfl, .inl (SqL.of hl5), _, _, rfl, rfl, _, _, rfl, rfl, _, rfl, ?_⟩
    rw [List.length_map]
    refine if_dec (p := rAt x ≠ (rWhole x).length) (decide_eq_decide.mpr (by omega)) (fun h => ?_) (fun h => ?_)
    · refine ⟨_, rfl, line_le (by show 2 ≤ _; omega), fun q hq => ⟨line_le (by show 2 ≤ _; omega), fun p hp => ?_⟩⟩
      have e6 := e05.upd1 (o := .tup [.int (rAt x : Nat), .str "form"]) hq
      refine form (by rw [hrE, decide_eq_false h, Bool.false_and]) _ p q (e6.upd1 hp) upd_same ?_
      rw [upd_ne (fun r => by rw [← r, upd_same] at hp; cases hp), upd_same]
    have hat : rAt x = (rWhole x).length := by omega
    refine ⟨_, rfl, _, rfl, l, _, rfl, .inl (SqL.of hl5), _, _, rfl, rfl, l, _, _, sv z, rfl, rfl, SqL.of hl5, ?_, rfl, _, rfl, ?_⟩
    · rw [List.length_map, show (((rLines x).length : Nat) : Int) - 1 = ((rWhole x).length : Nat) by omega]
      exact atI_nat (by rw [List.getElem?_map, hzi]; rfl)
    refine if_decN (congrArg not (txt_dec (x := z) (y := []) (by rfl))) (fun h => ?_) (fun hz0 => ?_)
    · refine ⟨_, rfl, line_le (by show 2 ≤ _; omega), fun q hq => ⟨line_le (by show 2 ≤ _; omega), fun p hp => ?_⟩⟩
      have e6 := e05.upd1 (o := .tup [.int (rAt x : Nat), .str "form"]) hq
      refine form (by rw [hrE, decide_eq_false h, Bool.and_false]) _ p q (e6.upd1 hp) upd_same ?_
      rw [upd_ne (fun r => by rw [← r, upd_same] at hp; cases hp), upd_same]
    have hE : rEnd x = true := by rw [hrE, decide_eq_true hat, decide_eq_true hz0]; rfl
    by_cases hS : rS x = []
    · refine ⟨_, rfl, false, .inl ⟨[], SqL.of (by rw [hs5, hS]; rfl), rfl⟩, iteF ?_⟩
      refine ⟨_, rfl, l, _, rfl, .inl (SqL.of hl5), _, _, rfl, rfl, line_le (by show 2 ≤ _; omega), fun q hq => ⟨line_le (by show 2 ≤ _; omega), fun p hp => ?_⟩⟩
      have e6 := e05.upd1 (o := .tup [.int (rAt x : Nat), .str "missing"]) hq
      have hv : (V.int (((rLines x).length : Nat) - 1 : Int) : V) = .int ((rAt x : Nat) : Int) := congrArg V.int (by omega)
      rw [List.length_map] at hp ⊢
      dsimp only at hp ⊢
      rw [hv] at hp ⊢
      refine kb (rAt x) "missing" ?_ _ p q (e6.upd1 hp) upd_same ?_
      · unfold outP; rw [if_pos hS, hE]; rfl
      · rw [upd_ne (fun r => by rw [← r, upd_same] at hp; cases hp), upd_same]
    · refine ⟨_, rfl, true, .inl ⟨_, SqL.of hs5, ?_⟩, iteT ?_⟩
      · cases hq : rS x with
        | nil => exact absurd hq hS
        | cons a l => rfl
      refine ⟨_, rfl, _, rfl, line_le (by show 3 ≤ _; omega), fun p hp => ?_⟩
      have hok : OkBand (rC x) (rS x) := by
        rcases hb' with h1 | h1
        · exact absurd h1 hS
        · exact h1
      have e6 := (Same.refl H5).upd1 (o := .tup [.str "", .ref f1, .ref st]) hp
      refine kg (rC x) (rS x) ?_ _ p f1 st (e05.trans e6) upd_same (hc5.same e6) (hs5.same e6)
      unfold outP; rw [if_neg hS, if_pos hok, if_pos hE]
end
end NT
namespace NT
open PySem PySem.Spec PyProof.Rows L2
open SX (S)
/-! ### a text that is read is the text of what it tells -/
theorem lead_map {α : Type} {p : List Nat → Option α} : ∀ (ys : List (List Nat)), (ys.take (lead p ys).length).map p = (lead p ys).map some
  | [] => rfl
  | y :: ys => by
    show (List.take (match p y with | none => [] | some c => c :: lead p ys).length (y :: ys)).map p = (match p y with | none => [] | some c => c :: lead p ys).map some
    cases h : p y with
    | none => rfl
    | some c =>
      show (List.take ((lead p ys).length + 1) (y :: ys)).map p = some c :: (lead p ys).map some
      rw [List.take_succ_cons, List.map_cons, lead_map ys, h]
theorem cell_ln {y : List Nat} {c : Cell} (h : cellP y = some c) : y ++ [10] = cellLn c := by
  unfold cellP at h
  split at h
  · rename_i a b cw hw
    split at h
    · rename_i hc
      obtain ⟨h1, h2, h3⟩ := hc
      obtain ⟨d, rfl, d1, d2⟩ := cntW_one h3
      cases h
      have hj : TL.joinL [32] (words y) = y := by
        have := join_spl1 32 y []
        exact this
      rw [hw, joinL_cons (List.cons_ne_nil _ _), joinL_cons (List.cons_ne_nil _ _)] at hj
      rw [← hj, h1]
      unfold cellLn
      have e : 48 + (((d : Int) - 48)).toNat = d := by omega
      simp only [TL.joinL, List.append_assoc, List.headD_cons]
      rw [e]
    · cases h
  · cases h
theorem seed_ln {y : List Nat} {s : Row} (h : seedP y = some s) : y ++ [10] = seedLn s := by
  unfold seedP at h
  split at h
  · rename_i a b hw
    split at h
    · rename_i hc
      cases h
      have hj : TL.joinL [32] (words y) = y := by
        have := join_spl1 32 y []
        exact this
      rw [hw, joinL_cons (List.cons_ne_nil _ _)] at hj
      rw [← hj, hc.1]
      unfold seedLn
      simp only [TL.joinL, List.append_assoc]
    · cases h
  · cases h
theorem joinL_snoc : ∀ ys : List (List Nat), TL.joinL [10] (ys ++ [[]]) = (ys.map (· ++ [10])).flatten
  | [] => rfl
  | y :: ys => by
    rw [List.cons_append, joinL_cons (by simp), joinL_snoc ys, List.map_cons, List.flatten_cons, List.append_assoc]
theorem map_ln {α : Type} {p : List Nat → Option α} {f : α → List Nat} (hf : ∀ y c, p y = some c → y ++ [10] = f c) : ∀ {ys : List (List Nat)} {cs : List α}, ys.map p = cs.map some → ys.map (· ++ [10]) = cs.map f
  | [], [], _ => rfl
  | [], _ :: _, h => nomatch h
  | _ :: _, [], h => nomatch h
  | y :: ys, c :: cs, h => by
    rw [List.map_cons, List.map_cons] at h
    injection h with h1 h2
    rw [List.map_cons, List.map_cons, hf y c h1, map_ln hf h2]
theorem text_back {x : List Nat} (hS : rS x ≠ []) (hE : rEnd x = true) : textL (rC x) (rS x) = x := by
  unfold rEnd at hE
  rw [Bool.and_eq_true] at hE
  have h1 := of_decide_eq_true hE.1
  have h2 := of_decide_eq_true hE.2
  have hC : rC x ≠ [] := fun q => hS (by unfold rS; rw [if_pos q])
  have hl : rLines x = rWhole x ++ [[]] := by
    obtain ⟨ys, e⟩ := List.getLast?_eq_some_iff.mp h2
    unfold rWhole
    rw [e, List.dropLast_concat]
  have hj : TL.joinL [10] (rLines x) = x := by
    have := join_spl1 10 x []
    exact this
  rw [hl, joinL_snoc] at hj
  have a1 : ((rWhole x).take (rC x).length).map (· ++ [10]) = (rC x).map cellLn := map_ln (fun y c h => cell_ln h) (lead_map _)
  have hrS : rS x = lead seedP ((rWhole x).drop (rC x).length) := by unfold rS; rw [if_neg hC]
  have a2 : ((rWhole x).drop (rC x).length).map (· ++ [10]) = (rS x).map seedLn := by
    have := lead_map (p := seedP) ((rWhole x).drop (rC x).length)
    rw [← hrS, List.take_of_length_le (by rw [List.length_drop]; unfold rAt at h1; omega)] at this
    exact map_ln (fun y c h => seed_ln h) this
  unfold textL
  rw [← a1, ← a2, ← List.flatten_append, ← List.map_append, List.take_append_drop]
  exact hj
theorem good_facts {x : List Nat} {cs : List Cell} {ss : List Row} (h : outP x = .good cs ss) : textL cs ss = x ∧ smallB cs ss ∧ OkBand cs ss ∧ goodCells cs ∧ okCounts cs ∧ (∀ s ∈ ss, rowB cs s = true) := by
  unfold outP at h
  split at h
  · cases h
  · rename_i hS
    split at h
    · rename_i hB
      split at h
      · rename_i hE
        injection h with h1 h2
        subst h1; subst h2
        have g := rC_good x
        obtain ⟨⟨c1, c2, c3⟩, ⟨s1, s2, s3⟩, _⟩ := id hB
        refine ⟨text_back hS hE, ⟨by omega, by omega, fun c hc => (nameB_len (g c hc).1).2, fun s hs => by rw [rowB_len (s2 s hs).1]; omega⟩, hB, g, fun z hz => (g z hz).2, fun s hs => (s2 s hs).1⟩
      · cases h
    · cases h
end NT
namespace NT
open PySem PySem.Spec PyProof.Rows L2
open SX (S)
/-! ### texts and lists of texts of a bounded length: what the law bends -/
def Sm (n : Nat) (v : V) : Prop := ∃ x : List Nat, v = sv x ∧ x.length ≤ n ∧ asc x
def wt (ys : List (List Nat)) : Nat := (ys.map fun y => y.length + 1).sum
def Ls (n : Nat) (v : V) (H : Hp) : Prop := ∃ (p : Addr) (ys : List (List Nat)), v = .ref p ∧ StrsAt H p ys ∧ wt ys ≤ n ∧ ∀ y ∈ ys, asc y
def Ib (lo hi : Int) (v : V) : Prop := ∃ i : Int, v = .int i ∧ lo ≤ i ∧ i ≤ hi
theorem Sm.mono {n m : Nat} {v : V} (h : Sm n v) (k : n ≤ m) : Sm m v := by
  obtain ⟨x, h1, h2, h3⟩ := h
  exact ⟨x, h1, Nat.le_trans h2 k, h3⟩
theorem wt_nil : wt [] = 0 := rfl
theorem wt_cons (y : List Nat) (ys : List (List Nat)) : wt (y :: ys) = y.length + 1 + wt ys := by unfold wt; rw [List.map_cons, List.sum_cons]
theorem wt_app (ys zs : List (List Nat)) : wt (ys ++ zs) = wt ys + wt zs := by unfold wt; rw [List.map_append, List.sum_append]
theorem wt_len (ys : List (List Nat)) : ys.length ≤ wt ys := by
  induction ys with
  | nil => exact Nat.le_refl _
  | cons y ys ih => rw [wt_cons, List.length_cons]; omega
theorem wt_rev (ys : List (List Nat)) : wt ys.reverse = wt ys := by
  induction ys with
  | nil => rfl
  | cons y ys ih => rw [List.reverse_cons, wt_app, ih, wt_cons, wt_cons, wt_nil]; omega
theorem wt_drop (k : Nat) (ys : List (List Nat)) : wt (ys.drop k) ≤ wt ys := by
  have := wt_app (ys.take k) (ys.drop k)
  rw [List.take_append_drop] at this; omega
theorem wt_take (k : Nat) (ys : List (List Nat)) : wt (ys.take k) ≤ wt ys := by
  have := wt_app (ys.take k) (ys.drop k)
  rw [List.take_append_drop] at this; omega
theorem joinL_len : ∀ ys : List (List Nat), (TL.joinL [10] ys).length ≤ wt ys
  | [] => Nat.zero_le _
  | [a] => by rw [wt_cons, wt_nil]; show a.length ≤ _; omega
  | a :: b :: r => by
    rw [joinL_cons (List.cons_ne_nil b r), wt_cons, List.length_append, List.length_append]
    have := joinL_len (b :: r)
    show _ + (1 + _) ≤ _
    omega
theorem joinL_len_ge : ∀ ys : List (List Nat), wt ys ≤ (TL.joinL [10] ys).length + 1
  | [] => Nat.zero_le _
  | [a] => by rw [wt_cons, wt_nil]; exact Nat.le_refl _
  | a :: b :: r => by
    rw [joinL_cons (List.cons_ne_nil b r), wt_cons, List.length_append, List.length_append]
    have := joinL_len_ge (b :: r)
    show _ ≤ _ + (1 + _) + 1
    omega
theorem joinL_asc : ∀ ys : List (List Nat), (∀ y ∈ ys, asc y) → asc (TL.joinL [10] ys)
  | [], _ => fun _ h => nomatch h
  | [a], h => h a (by simp)
  | a :: b :: r, h => by
    rw [joinL_cons (List.cons_ne_nil b r)]
    intro c hc
    rcases List.mem_append.mp hc with h1 | h1
    · exact h a (by simp) c h1
    · rcases List.mem_append.mp h1 with h2 | h2
      · rw [List.mem_singleton.mp h2]; decide
      · exact joinL_asc (b :: r) (fun y hy => h y (List.mem_cons_of_mem _ hy)) c h2
theorem S_back (s : Str) : S s.cps.toList = s := by cases s; rfl
def SE (a q : Addr) (H0 : Hp) (te : TE) (σ : L2.St) (φ : V → Hp → Prop) : Prop := ∀ (H : Hp) (Q : VK), SameX a H0 H → BagAt H a q → (∀ v H', SameX a H H' → BagAt H' a q → φ v H' → Q v H') → te σ H Q
def SP (a q : Addr) (H0 : Hp) (tp : TO) (σ : L2.St) : Prop := ∀ (H : Hp) (Q : Option Int → Hp → Prop), SameX a H0 H → BagAt H a q → (∀ o H', SameX a H H' → BagAt H' a q → Q o H') → tp σ H Q
def SA (a q : Addr) (H0 : Hp) (ta : TA) (σ : L2.St) (n k : Nat) : Prop := ∀ (H : Hp) (Q : List V → Hp → Prop), SameX a H0 H → BagAt H a q → (∀ vs H', SameX a H H' → BagAt H' a q → vs.length = k → (∀ v ∈ vs, Sm n v) → Q vs H') → ta σ H Q
section
variable {a q : Addr} {H0 : Hp} {σ : L2.St}
theorem se_c {s : Str} (h : (decide (s.cps.toList.length ≤ 100) && s.cps.toList.all fun c => decide (c < 128)) = true) : SE a q H0 (tC (.str s)) σ fun v _ => Sm s.cps.toList.length v := by
  intro H Q X B k
  rw [Bool.and_eq_true, List.all_eq_true] at h
  exact k _ _ (SameX.refl a H) B ⟨_, congrArg V.str (S_back s).symm, Nat.le_refl _, fun c hc => of_decide_eq_true (h.2 c hc)⟩
theorem se_v {i : Nat} {v : V} {n : Nat} (h : σ[i]? = some (some v)) (hs : Sm n v) : SE a q H0 (tVar i) σ fun v _ => Sm n v := fun H Q X B k => ⟨v, h, k _ _ (SameX.refl a H) B hs⟩
theorem se_w {te : TE} {n m : Nat} (h : SE a q H0 te σ fun v _ => Sm n v) (k : n ≤ m) : SE a q H0 te σ fun v _ => Sm m v := fun H Q X B q' => h H Q X B fun v H' X' B' hv => q' v H' X' B' (hv.mono k)
abbrev rAddT : R2 := fun x y H Q => ∃ i j, x = .str i ∧ y = .str j ∧ i.length + j.length ≤ sizeLine ∧ Q (.str (i ++ j)) H
theorem se_add {ta tb : TE} {n m : Nat} (ha : SE a q H0 ta σ fun v _ => Sm n v) (hb : SE a q H0 tb σ fun v _ => Sm m v) (h : n + m ≤ 16000000) : SE a q H0 (tOp rAddT ta tb) σ fun v _ => Sm (n + m) v := by
  intro H Q X B k
  refine ha H _ X B fun v H1 X1 B1 hv => hb H1 _ (X.trans X1) B1 fun u H2 X2 B2 hu => ?_
  obtain ⟨x, rfl, hx, ax⟩ := hv
  obtain ⟨y, rfl, hy, ay⟩ := hu
  refine ⟨_, _, rfl, rfl, line_le (by rw [SX.S_len, SX.S_len]; omega), ?_⟩
  rw [SX.S_cat]
  refine k _ _ (X1.trans X2) B2 ⟨_, rfl, by rw [List.length_append]; omega, fun c hc => ?_⟩
  rcases List.mem_append.mp hc with h1 | h1
  · exact ax c h1
  · exact ay c h1
theorem sp_no : SP a q H0 tNoPart σ := fun H Q X B k => k _ _ (SameX.refl a H) B
theorem sp_some {te : TE} {lo hi : Int} (h : SE a q H0 te σ fun v _ => Ib lo hi v) : SP a q H0 (tPart te) σ := by
  intro H Q X B k
  refine h H _ X B fun v H1 X1 B1 hv => ?_
  obtain ⟨i, rfl, _⟩ := hv
  exact ⟨i, rfl, k _ _ X1 B1⟩
theorem se_ci {i lo hi : Int} (h1 : lo ≤ i) (h2 : i ≤ hi) : SE a q H0 (tC (.int i)) σ fun v _ => Ib lo hi v := fun H Q X B k => k _ _ (SameX.refl a H) B ⟨i, rfl, h1, h2⟩
theorem se_vi {j : Nat} {i lo hi : Int} (h : σ[j]? = some (some (.int i))) (h1 : lo ≤ i) (h2 : i ≤ hi) : SE a q H0 (tVar j) σ fun v _ => Ib lo hi v := fun H Q X B k => ⟨_, h, k _ _ (SameX.refl a H) B ⟨i, rfl, h1, h2⟩⟩
theorem se_addi {ta tb : TE} {l1 h1 l2 h2 : Int} (ha : SE a q H0 ta σ fun v _ => Ib l1 h1 v) (hb : SE a q H0 tb σ fun v _ => Ib l2 h2 v) : SE a q H0 (tOp (rI0 fun i j => V.int (i + j)) ta tb) σ fun v _ => Ib (l1 + l2) (h1 + h2) v := by
  intro H Q X B k
  refine ha H _ X B fun v H1 X1 B1 hv => hb H1 _ (X.trans X1) B1 fun u H2 X2 B2 hu => ?_
  obtain ⟨x, rfl, h3, h4⟩ := hv
  obtain ⟨y, rfl, h5, h6⟩ := hu
  exact ⟨_, _, rfl, rfl, k _ _ (X1.trans X2) B2 ⟨_, rfl, by omega, by omega⟩⟩
theorem se_subi {ta tb : TE} {l1 h1 l2 h2 : Int} (ha : SE a q H0 ta σ fun v _ => Ib l1 h1 v) (hb : SE a q H0 tb σ fun v _ => Ib l2 h2 v) : SE a q H0 (tOp (rI0 fun i j => V.int (i - j)) ta tb) σ fun v _ => Ib (l1 - h2) (h1 - l2) v := by
  intro H Q X B k
  refine ha H _ X B fun v H1 X1 B1 hv => hb H1 _ (X.trans X1) B1 fun u H2 X2 B2 hu => ?_
  obtain ⟨x, rfl, h3, h4⟩ := hv
  obtain ⟨y, rfl, h5, h6⟩ := hu
  exact ⟨_, _, rfl, rfl, k _ _ (X1.trans X2) B2 ⟨_, rfl, by omega, by omega⟩⟩
theorem slice_sub (x : List Nat) (lo hi : Option Int) : ∃ y, Txt.slice (S x) lo hi = S y ∧ y.length ≤ x.length ∧ ∀ c ∈ y, c ∈ x := by
  rw [← C8.cutS_slice]
  refine ⟨(x.drop (HT.sIx (S x).length 0 lo)).take (HT.sIx (S x).length (S x).length hi - HT.sIx (S x).length 0 lo), rfl, ?_, fun c hc => ?_⟩
  · rw [List.length_take, List.length_drop]; omega
  · exact List.mem_of_mem_drop (List.mem_of_mem_take hc)
theorem se_sl {te : TE} {tl tu : TO} {n : Nat} (h : SE a q H0 te σ fun v _ => Sm n v) (hl : SP a q H0 tl σ) (hu : SP a q H0 tu σ) (hn : n ≤ 16000000) : SE a q H0 (tSl C8.rSlX te tl tu) σ fun v _ => Sm n v := by
  intro H Q X B k
  refine h H _ X B fun v H1 X1 B1 hv => hl H1 _ (X.trans X1) B1 fun l H2 X2 B2 => hu H2 _ ((X.trans X1).trans X2) B2 fun u H3 X3 B3 => ?_
  obtain ⟨x, rfl, hx, ax⟩ := hv
  refine ⟨_, rfl, line_le (by rw [SX.S_len]; omega), ?_⟩
  obtain ⟨y, e, hy, sy⟩ := slice_sub x l u
  rw [e]
  exact k _ _ ((X1.trans X2).trans X3) B3 ⟨y, rfl, by omega, fun c hc => ax c (sy c hc)⟩
theorem sa_nil {n : Nat} : SA a q H0 tNil σ n 0 := fun H Q X B k => k _ _ (SameX.refl a H) B rfl fun v h => nomatch h
theorem sa_cons {te : TE} {ta : TA} {n k : Nat} (h : SE a q H0 te σ fun v _ => Sm n v) (ht : SA a q H0 ta σ n k) : SA a q H0 (tCons te ta) σ n (k + 1) := by
  intro H Q X B r
  refine h H _ X B fun v H1 X1 B1 hv => ht H1 _ (X.trans X1) B1 fun vs H2 X2 B2 hl hvs => ?_
  refine r _ _ (X1.trans X2) B2 (by rw [List.length_cons, hl]) fun u hu => ?_
  rcases List.mem_cons.mp hu with e | e
  · rw [e]; exact hv
  · exact hvs u e
theorem se_ret {te : TE} {φ : V → Hp → Prop} {D : L2.Ends} {H : Hp} (h : SE a q H0 te σ φ) (X : SameX a H0 H) (B : BagAt H a q) (k : ∀ v H', SameX a H H' → BagAt H' a q → φ v H' → D.rt v H') : tRet te D σ H := h H _ X B k
/-- the bag picks of a list display of texts -/
theorem se_of {ta : TA} {E : XK} {n k i : Nat} (hb0 : BagAt H0 a q) (hv : σ[i]? = some (some (.ref a))) (h : SA a q H0 ta σ n (k + 1)) (hk : k + 1 ≤ 1000000) : SE a q H0 (tCall spOf [] E (tCons (tVar i) (tCons (tLst ta) tNil))) σ fun v _ => Sm n v := by
  intro H Q X B r
  refine ⟨_, hv, h H _ X B fun vs H1 X1 B1 hl hvs => ⟨line_le (by omega), fun t ht => ?_⟩⟩
  have e1 := (Same.refl H1).upd1 (o := .lst vs) ht
  refine .inl ⟨a, q, t, vs, rfl, B1.same e1, B1.nep ht, upd_same, by omega, by omega, fun H2 j v X2 B2 hj => ?_⟩
  exact r _ _ ((X1.trans (SameX.of e1)).trans X2) B2 (hvs v (List.mem_of_getElem? hj))
theorem Ls.bag {n : Nat} {v : V} {H H' : Hp} (h : Ls n v H) (hb : BagAt H a q) (X : SameX a H H') : Ls n v H' := by
  obtain ⟨p, ys, h1, h2, h3⟩ := h
  exact ⟨p, ys, h1, h2.bag hb X, h3⟩
end
end NT
namespace NT
open PySem PySem.Spec PyProof.Rows L2
open SX (S)
/-- what the law bends with: a frame of at most 13 cells, some rows -/
structure Fs (H : Hp) (a q p u : Addr) (cs : List Cell) (ss : List Row) : Prop where
  hb : BagAt H a q
  hc : CellsAt H p cs
  hg : goodCells cs
  n1 : 1 ≤ cs.length
  n2 : cs.length ≤ 13
  hs : StrsAt H u ss
  m1 : 1 ≤ ss.length
  m2 : ss.length ≤ 31
  hr : ∀ s ∈ ss, s.length ≤ 13 ∧ asc s
theorem Fs.bag {H H' : Hp} {a q p u : Addr} {cs : List Cell} {ss : List Row} (h : Fs H a q p u cs ss) (X : SameX a H H') (B : BagAt H' a q) : Fs H' a q p u cs ss :=
  ⟨B, h.hc.bag h.hb X, h.hg, h.n1, h.n2, h.hs.bag h.hb X, h.m1, h.m2, h.hr⟩
def spLine : Sp := fun vs H Q _ => ∃ (a q p u : Addr) (cs : List Cell) (ss : List Row), vs = [.ref a, .ref p, .ref u] ∧ Fs H a q p u cs ss ∧ ∀ H' v, SameX a H H' → BagAt H' a q → Sm 100 v → Q v H'
def spBent : Sp := fun vs H Q _ => ∃ (a q p u : Addr) (cs : List Cell) (ss : List Row) (x : List Nat), vs = [.ref a, .ref p, .ref u, sv x] ∧ Fs H a q p u cs ss ∧ x.length ≤ 200000 ∧ asc x ∧ ∀ H' v, SameX a H H' → BagAt H' a q → Sm (3 * x.length + 300) v → Q v H'
section
variable {P : Program} {w : World} {K : PySem.W.Frag} {mg : Str → Option Value} {base : Heap}
abbrev N__law_line : List Str := ["_law_bag_here", "_law_frame_here", "_law_stack_here", "_law_title_here", "_law_s"]
theorem sc__law_line : FnScope N__law_line ["_law_bag_here", "_law_frame_here", "_law_stack_here"] (defScope s__law_line) := ⟨rfl, rfl, rfl, by decide +kernel, rfl, by decide +kernel, by decide +kernel⟩
theorem cl__law_line (T : Txt K mg) : Cl P w K mg base CX0 3 "_law_line" spLine [] := by
  refine cl0 T.d__law_line sc__law_line (fun _ _ _ _ _ _ us hl => match us, hl with | [_, _, _], _ => rfl) (fun vs H Q E h => by obtain ⟨_, _, _, _, _, _, rfl, _⟩ := h; rfl) fun f cdv A outer s H vs Q E hr h => ?_
  obtain ⟨a, q, p, u, cs, ss, rfl, F, k⟩ := h
  refine ⟨_, (pss_cons (ps_par (i := 3) (j := 4) (by rfl) sc__law_line.nd rfl rfl (by decide) rfl rfl (pa_cons (pe_ix (ix_seqK (K := K) rfl) (pe_cl (cl__law_of T) hr (by decide) (by rfl) (pa_cons (pv 0) (pa_cons (pv 1) pa_nil))) pe_int (fun _ _ => rfl)) (pa_cons (pe_cl (cl__law_of T) hr (by decide) (by rfl) (pa_cons (pv 0) (pa_cons (pv 2) pa_nil))) pa_nil)) (by rfl))
    (pss_one (ps_ret (pe_cl (cl__law_of T) hr (by decide) (by rfl) (pa_cons (pv 0) (pa_cons (pe_lst (pa_cons (pe_op op_add_str (pe_op op_add_str pe_str (pv 3)) pe_str) (pa_cons pe_str (pa_cons (pe_op op_add_str (pe_op op_add_str pe_str (pv 3)) pe_str) (pa_cons (pe_op op_add_str (pe_op op_add_str pe_str (pv 3)) pe_str) (pa_cons (pe_op op_add_str (pe_op op_add_str pe_str (pv 3)) pe_str) (pa_cons (pe_op op_add_str pe_str (pv 3)) (pa_cons (pe_op op_add_str (pe_op op_add_str pe_str (pv 3)) pe_str) (pa_cons pe_str (pa_cons pe_str (pa_cons (pe_op op_add_str pe_str (pv 4)) (pa_cons (pe_op op_add_str (pe_op op_add_str pe_str (pv 4)) pe_str) (pa_cons (pe_op op_add_str pe_str (pv 4)) (pa_cons pe_str (pa_cons pe_str (pa_cons (pe_op op_add_str pe_str (pe_slice C8.sl_txt (pv 4) (po_some pe_int) po_none)) (pa_cons (pe_op op_add_str (pe_op op_add_str pe_str (pv 4)) pe_str) (pa_cons (pe_op op_add_str pe_str (pe_cl (cl__law_blank T) hr (by decide) (by rfl) (pa_cons (pv 1) pa_nil))) (pa_cons pe_str (pa_cons (pe_op op_add_str pe_str (pe_slice C8.sl_txt (pv 4) (po_some pe_int) po_none)) (pa_cons pe_str (pa_cons pe_str (pa_cons pe_str (pa_cons (pe_op op_add_str pe_str (pv 3)) (pa_cons (pe_op op_add_str (pe_op op_add_str pe_str (pv 3)) pe_str) (pa_cons (pe_op op_add_str pe_str (pv 4)) (pa_cons (pe_op op_add_str (pe_op op_add_str pe_str (pv 3)) pe_str) (pa_cons (pe_op op_add_str pe_str (pv 4)) (pa_cons (pv 4) (pa_cons (pe_op op_add_str pe_str (pe_cl (cl__law_row2 T) hr (by decide) (by rfl) (pa_cons (pv 0) (pa_cons (pv 1) pa_nil)))) pa_nil)))))))))))))))))))))))))))))) pa_nil)))))), ?_⟩
  obtain ⟨ps, hps, hp, hpt⟩ := id F.hc
  have hpl : ps.length = cs.length := by rw [← hps, List.length_map]
  have n1 := F.n1
  have n2 := F.n2
  have m1 := F.m1
  have m2 := F.m2
  refine ⟨_, rfl, _, rfl, .inl ⟨a, q, p, _, rfl, F.hb, F.hb.ne_refs hp, hp, by rw [List.length_map]; omega, by rw [List.length_map]; omega, fun H1 j v X1 B1 hv => ?_⟩⟩
  rw [List.getElem?_map] at hv
  obtain ⟨⟨t, nm, m⟩, hz, rfl⟩ := Option.map_eq_some_iff.mp hv
  have hm : (t, nm, m) ∈ ps := List.mem_of_getElem? hz
  have F1 := F.bag X1 B1
  have ht1 := X1 _ _ (F.hb.ne_tup (hpt _ hm)) (hpt _ hm)
  obtain ⟨g1, _⟩ := F.hg (nm, m) (hps ▸ List.mem_map.mpr ⟨_, hm, rfl⟩)
  refine .inr (.inl ⟨t, _, 0, _, rfl, rfl, SqT.of ht1, rfl, ?_⟩)
  refine ⟨_, rfl, _, rfl, .inl ⟨a, q, u, _, rfl, F1.hb, F1.hb.ne_strs F1.hs, F1.hs, by rw [List.length_map]; omega, by rw [List.length_map]; omega, fun H2 j2 v2 X2 B2 hv2 => ?_⟩⟩
  rw [List.getElem?_map] at hv2
  obtain ⟨s1, hz2, rfl⟩ := Option.map_eq_some_iff.mp hv2
  obtain ⟨r1, r2⟩ := F.hr s1 (List.mem_of_getElem? hz2)
  have F2 := F1.bag X2 B2
  have ht : Sm 6 (sv nm) := ⟨nm, rfl, (nameB_len g1).2, nameB_asc g1⟩
  have hs : Sm 13 (sv s1) := ⟨s1, rfl, r1, r2⟩
  refine ⟨_, _, rfl, ?_⟩
  have hblank : SE a q H2 (tCall (spLBlank K) [] E0 (tCons (tVar 1) tNil)) [some (.ref a), some (.ref p), some (.ref u), some (sv nm), some (sv s1)] fun v _ => Sm 13 v := by
    intro H3 Q3 X3 B3 k3
    have F3 := F2.bag X3 B3
    obtain ⟨ps3, hps3, hp3, _⟩ := F3.hc
    have hpl3 : ps3.length = cs.length := by rw [← hps3, List.length_map]
    refine ⟨_, rfl, p, _, rfl, SqL.of hp3, by rw [List.length_map]; omega, k3 _ _ (SameX.refl a H3) B3 ⟨_, rfl, by rw [List.length_replicate, List.length_map]; omega, fun c hc => by rw [List.eq_of_mem_replicate hc]; decide⟩⟩
  have hrow2 : SE a q H2 (tCall spRow [.int 2] E0 (tCons (tVar 0) (tCons (tVar 1) tNil))) [some (.ref a), some (.ref p), some (.ref u), some (sv nm), some (sv s1)] fun v _ => Sm 13 v := by
    intro H3 Q3 X3 B3 k3
    have F3 := F2.bag X3 B3
    exact ⟨_, rfl, _, rfl, a, q, p, cs, 2, rfl, B3, F3.hc, fun z hz => (F.hg z hz).2, n2, fun H4 x X4 B4 hx => k3 _ _ X4 B4 ⟨x, rfl, by rw [rowB_len hx]; omega, rowB_asc hx⟩⟩
  exact se_ret (se_of (n := 100) B2 rfl (
(sa_cons (se_w (se_add (se_add (se_c (by decide +kernel)) (se_v rfl ht) (by decide)) (se_c (by decide +kernel)) (by decide)) (by decide))
      (sa_cons (se_w (se_c (by decide +kernel)) (by decide))
      (sa_cons (se_w (se_add (se_add (se_c (by decide +kernel)) (se_v rfl ht) (by decide)) (se_c (by decide +kernel)) (by decide)) (by decide))
      (sa_cons (se_w (se_add (se_add (se_c (by decide +kernel)) (se_v rfl ht) (by decide)) (se_c (by decide +kernel)) (by decide)) (by decide))
      (sa_cons (se_w (se_add (se_add (se_c (by decide +kernel)) (se_v rfl ht) (by decide)) (se_c (by decide +kernel)) (by decide)) (by decide))
      (sa_cons (se_w (se_add (se_c (by decide +kernel)) (se_v rfl ht) (by decide)) (by decide))
      (sa_cons (se_w (se_add (se_add (se_c (by decide +kernel)) (se_v rfl ht) (by decide)) (se_c (by decide +kernel)) (by decide)) (by decide))
      (sa_cons (se_w (se_c (by decide +kernel)) (by decide))
      (sa_cons (se_w (se_c (by decide +kernel)) (by decide))
      (sa_cons (se_w (se_add (se_c (by decide +kernel)) (se_v rfl hs) (by decide)) (by decide))
      (sa_cons (se_w (se_add (se_add (se_c (by decide +kernel)) (se_v rfl hs) (by decide)) (se_c (by decide +kernel)) (by decide)) (by decide))
      (sa_cons (se_w (se_add (se_c (by decide +kernel)) (se_v rfl hs) (by decide)) (by decide))
      (sa_cons (se_w (se_c (by decide +kernel)) (by decide))
      (sa_cons (se_w (se_c (by decide +kernel)) (by decide))
      (sa_cons (se_w (se_add (se_c (by decide +kernel)) (se_sl (se_v rfl hs) (sp_some (se_ci (i := 1) (lo := 1) (hi := 1) (by decide) (by decide))) sp_no (by decide)) (by decide)) (by decide))
      (sa_cons (se_w (se_add (se_add (se_c (by decide +kernel)) (se_v rfl hs) (by decide)) (se_c (by decide +kernel)) (by decide)) (by decide))
      (sa_cons (se_w (se_add (se_c (by decide +kernel)) hblank (by decide)) (by decide))
      (sa_cons (se_w (se_c (by decide +kernel)) (by decide))
      (sa_cons (se_w (se_add (se_c (by decide +kernel)) (se_sl (se_v rfl hs) (sp_some (se_ci (i := 1) (lo := 1) (hi := 1) (by decide) (by decide))) sp_no (by decide)) (by decide)) (by decide))
      (sa_cons (se_w (se_c (by decide +kernel)) (by decide))
      (sa_cons (se_w (se_c (by decide +kernel)) (by decide))
      (sa_cons (se_w (se_c (by decide +kernel)) (by decide))
      (sa_cons (se_w (se_add (se_c (by decide +kernel)) (se_v rfl ht) (by decide)) (by decide))
      (sa_cons (se_w (se_add (se_add (se_c (by decide +kernel)) (se_v rfl ht) (by decide)) (se_c (by decide +kernel)) (by decide)) (by decide))
      (sa_cons (se_w (se_add (se_c (by decide +kernel)) (se_v rfl hs) (by decide)) (by decide))
      (sa_cons (se_w (se_add (se_add (se_c (by decide +kernel)) (se_v rfl ht) (by decide)) (se_c (by decide +kernel)) (by decide)) (by decide))
      (sa_cons (se_w (se_add (se_c (by decide +kernel)) (se_v rfl hs) (by decide)) (by decide))
      (sa_cons (se_w (se_v rfl hs) (by decide))
      (sa_cons (se_w (se_add (se_c (by decide +kernel)) hrow2 (by decide)) (by decide))
      sa_nil)))))))))))))))))))))))))))))
    ) (by decide)) (SameX.refl a H2) B2 fun v H3 X3 B3 hv => k _ _ ((X1.trans X2).trans X3) B3 hv
end
end NT
namespace NT
open PySem PySem.Spec PyProof.Rows L2
open SX (S)
theorem cut_strs (ys : List (List Nat)) (lo hi : Option Int) : ∃ zs : List (List Nat), cutV (ys.map sv) lo hi = zs.map sv ∧ wt zs ≤ wt ys ∧ ∀ z ∈ zs, z ∈ ys := by
  unfold cutV
  rw [← List.map_drop, ← List.map_take]
  exact ⟨_, rfl, Nat.le_trans (wt_take _ _) (wt_drop _ _), fun z hz => List.mem_of_mem_drop (List.mem_of_mem_take hz)⟩
section
variable {a q : Addr} {H0 : Hp} {σ : L2.St} {K : PySem.W.Frag}
theorem se_vl {i n : Nat} {v : V} (h : σ[i]? = some (some v)) (hl : Ls n v H0) (hb : BagAt H0 a q) : SE a q H0 (tVar i) σ (Ls n) := fun H Q X B k => ⟨v, h, k _ _ (SameX.refl a H) B (hl.bag hb X)⟩
theorem se_sll {te : TE} {tl tu : TO} {n : Nat} (h : SE a q H0 te σ (Ls n)) (hl : SP a q H0 tl σ) (hu : SP a q H0 tu σ) : SE a q H0 (tSl (rSlL K) te tl tu) σ (Ls n) := by
  intro H Q X B k
  refine h H _ X B fun v H1 X1 B1 hv => hl H1 _ (X.trans X1) B1 fun l H2 X2 B2 => hu H2 _ ((X.trans X1).trans X2) B2 fun u H3 X3 B3 => ?_
  obtain ⟨p, ys, rfl, hp, hw, ha⟩ := (hv.bag B1 X2).bag B2 X3
  obtain ⟨zs, e, hz, hm⟩ := cut_strs ys l u
  refine ⟨p, _, rfl, SqL.of hp, fun r hr => ?_⟩
  rw [e]
  have e3 := (Same.refl H3).upd1 (o := .lst (zs.map sv)) hr
  exact k _ _ (((X1.trans X2).trans X3).trans (SameX.of e3)) (B3.same e3) ⟨r, zs, rfl, upd_same, by omega, fun y hy => ha y (hm y hy)⟩
theorem se_cat {ta tb : TE} {n m : Nat} (h1 : SE a q H0 ta σ (Ls n)) (h2 : SE a q H0 tb σ (Ls m)) (h : n + m ≤ 16000000) : SE a q H0 (tOp rCat ta tb) σ (Ls (n + m)) := by
  intro H Q X B k
  refine h1 H _ X B fun v H1 X1 B1 hv => h2 H1 _ (X.trans X1) B1 fun u H2 X2 B2 hu => ?_
  obtain ⟨p, ys, rfl, hp, hw, ha⟩ := hv.bag B1 X2
  obtain ⟨r, zs, rfl, hr, hw2, ha2⟩ := hu
  have l1 := wt_len ys
  have l2 := wt_len zs
  refine ⟨p, r, _, _, rfl, rfl, hp, hr, line_le (by rw [List.length_map, List.length_map]; omega), fun t ht => ?_⟩
  rw [← List.map_append]
  have e3 := (Same.refl H2).upd1 (o := .lst ((ys ++ zs).map sv)) ht
  refine k _ _ ((X1.trans X2).trans (SameX.of e3)) (B2.same e3) ⟨t, ys ++ zs, rfl, upd_same, by rw [wt_app]; omega, fun y hy => ?_⟩
  rcases List.mem_append.mp hy with e | e
  · exact ha y e
  · exact ha2 y e
theorem se_lst1 {te : TE} {n : Nat} (h : SE a q H0 te σ fun v _ => Sm n v) : SE a q H0 (tLst (tCons te tNil)) σ (Ls (n + 1)) := by
  intro H Q X B k
  refine h H _ X B fun v H1 X1 B1 hv => ⟨line_le (by show 1 ≤ _; omega), fun t ht => ?_⟩
  obtain ⟨x, rfl, hx, ax⟩ := hv
  have e3 := (Same.refl H1).upd1 (o := .lst [sv x]) ht
  refine k _ _ (X1.trans (SameX.of e3)) (B1.same e3) ⟨t, [x], rfl, upd_same, by rw [wt_cons, wt_nil]; omega, fun y hy => ?_⟩
  rw [List.mem_singleton.mp hy]; exact ax
theorem se_rev {te : TE} {n : Nat} (h : SE a q H0 te σ (Ls n)) : SE a q H0 (tRevL K te) σ (Ls n) := by
  intro H Q X B k
  refine h H _ X B fun v H1 X1 B1 hv => ?_
  obtain ⟨p, ys, rfl, hp, hw, ha⟩ := hv
  refine ⟨p, _, rfl, SqL.of hp, fun t ht => ?_⟩
  rw [← List.map_reverse]
  have e3 := (Same.refl H1).upd1 (o := .lst (ys.reverse.map sv)) ht
  exact k _ _ (X1.trans (SameX.of e3)) (B1.same e3) ⟨t, ys.reverse, rfl, upd_same, by rw [wt_rev]; exact hw, fun y hy => ha y (List.mem_reverse.mp hy)⟩
abbrev rJn (K : PySem.W.Frag) : V → List V → Hp → VK → Prop := fun x xs H Q => ∃ a p ys, x = .str a ∧ xs = [.ref p] ∧ (SqL K H p (ys.map V.str) ∨ SqT K H p (ys.map V.str)) ∧ (ys.map (·.length)).sum + ys.length * a.length ≤ 16777216 ∧ Q (.str (Txt.join a ys)) H
theorem wt_sum (ys : List (List Nat)) : (ys.map (·.length)).sum + ys.length = wt ys := by
  induction ys with
  | nil => rfl
  | cons y ys ih => rw [wt_cons, List.map_cons, List.sum_cons, List.length_cons]; omega
theorem se_join {te : TE} {n : Nat} (h : SE a q H0 te σ (Ls n)) (hn : n ≤ 16000000) : SE a q H0 (tM1 (rJn K) (tC (.str (S [10]))) te) σ fun v _ => Sm n v := by
  intro H Q X B k
  refine ⟨⟨_, rfl⟩, h H _ X B fun v H1 X1 B1 hv => ?_⟩
  obtain ⟨p, ys, rfl, hp, hw, ha⟩ := hv
  refine ⟨S [10], p, ys.map S, rfl, rfl, .inl (SqL.of (by rw [map_S_V]; exact hp)), ?_, ?_⟩
  · rw [SX.lens, List.length_map]
    have := wt_sum ys
    show _ + _ * 1 ≤ _
    omega
  · rw [SX.join_S]
    exact k _ _ X1 B1 ⟨_, rfl, Nat.le_trans (joinL_len ys) hw, joinL_asc ys ha⟩
theorem se_draw {te : TE} {E : XK} {n : Int} {i : Nat} (hv : σ[i]? = some (some (.ref a))) (h : SE a q H0 te σ fun v _ => Ib 1 n v) (hn : n < 1073741824) : SE a q H0 (tCall spDraw [] E (tCons (tVar i) (tCons te tNil))) σ fun v _ => Ib 0 n v := by
  intro H Q X B k
  refine ⟨_, hv, h H _ X B fun v H1 X1 B1 hv => ?_⟩
  obtain ⟨m, rfl, h1, h2⟩ := hv
  exact ⟨a, q, m, rfl, B1, by omega, by omega, fun H2 r X2 B2 hr => k _ _ (X1.trans X2) B2 ⟨_, rfl, by omega, by omega⟩⟩
theorem se_lens {te : TE} {n : Nat} (h : SE a q H0 te σ fun v _ => Sm n v) (hn : n ≤ 16000000) : SE a q H0 (tCB (fun xs H Q => ∃ z, xs = [.str z] ∧ z.length ≤ sizeLine ∧ Q (.int z.length) H) (tCons te tNil)) σ fun v _ => Ib 0 n v := by
  intro H Q X B k
  refine h H _ X B fun v H1 X1 B1 hv => ?_
  obtain ⟨x, rfl, hx, ax⟩ := hv
  exact ⟨_, rfl, line_le (by rw [SX.S_len]; omega), k _ _ X1 B1 ⟨_, rfl, by omega, by rw [SX.S_len]; omega⟩⟩
theorem se_wi {te : TE} {l h l2 h2 : Int} (k : SE a q H0 te σ fun v _ => Ib l h v) (k1 : l2 ≤ l) (k2 : h ≤ h2) : SE a q H0 te σ fun v _ => Ib l2 h2 v := fun H Q X B r => k H Q X B fun v H' X' B' ⟨i, e, h1, h3⟩ => r v H' X' B' ⟨i, e, by omega, by omega⟩
theorem se_ofs {E : XK} {s : Str} {i : Nat} (hv : σ[i]? = some (some (.ref a))) (h : (decide (1 ≤ s.cps.toList.length) && decide (s.cps.toList.length ≤ 100) && s.cps.toList.all fun c => decide (c < 128)) = true) : SE a q H0 (tCall spOf [] E (tCons (tVar i) (tCons (tC (.str s)) tNil))) σ fun v _ => Sm 1 v := by
  intro H Q X B k
  rw [Bool.and_eq_true, Bool.and_eq_true, List.all_eq_true] at h
  obtain ⟨⟨h1, h2⟩, h3⟩ := h
  have h1 := of_decide_eq_true h1
  have h2 := of_decide_eq_true h2
  refine ⟨_, hv, .inr ⟨a, q, s.cps.toList, ?_, B, h1, by omega, fun H' c X' B' hc => k _ _ X' B' ⟨[c], rfl, Nat.le_refl _, fun d hd => by rw [List.mem_singleton.mp hd]; exact of_decide_eq_true (h3 c hc)⟩⟩⟩
  show [V.ref a, V.str s] ++ [] = [V.ref a, V.str (S s.cps.toList)]
  rw [S_back]; rfl
theorem se_asg {te : TE} {φ : V → Hp → Prop} {g : TG} {D : L2.Ends} {H : Hp} (h : SE a q H0 te σ φ) (X : SameX a H0 H) (B : BagAt H a q) (k : ∀ v H', SameX a H H' → BagAt H' a q → φ v H' → g v σ H' D.nx) : tAsg te g D σ H := h H _ X B k
theorem se_go {te : TE} {φ : V → Hp → Prop} {H : Hp} {Q : VK} (h : SE a q H0 te σ φ) (X : SameX a H0 H) (B : BagAt H a q) (k : ∀ v H', SameX a H H' → BagAt H' a q → φ v H' → Q v H') : te σ H Q := h H _ X B k
theorem se_line {E : XK} {i j k p u : Addr} {cs : List Cell} {ss : List Row} (F : Fs H0 a q p u cs ss) (h1 : σ[i]? = some (some (.ref a))) (h2 : σ[j]? = some (some (.ref p))) (h3 : σ[k]? = some (some (.ref u))) : SE a q H0 (tCall spLine [] E (tCons (tVar i) (tCons (tVar j) (tCons (tVar k) tNil)))) σ fun v _ => Sm 100 v := by
  intro H Q X B r
  exact ⟨_, h1, _, h2, _, h3, a, q, p, u, cs, ss, rfl, F.bag X B, fun H' v X' B' hv => r _ _ X' B' hv⟩
end
section
variable {P : Program} {w : World} {K : PySem.W.Frag} {mg : Str → Option Value} {base : Heap}
abbrev N__law_bent : List Str := ["_law_bag_here", "_law_frame_here", "_law_stack_here", "_law_text_here", "_law_parts", "_law_spot", "_law_shape", "_law_here"]
theorem sc__law_bent : FnScope N__law_bent ["_law_bag_here", "_law_frame_here", "_law_stack_here", "_law_text_here"] (defScope s__law_bent) := ⟨rfl, rfl, rfl, by decide +kernel, rfl, by decide +kernel, by decide +kernel⟩
theorem cl__law_bent (T : Txt K mg) : Cl P w K mg base CX0 4 "_law_bent" spBent [] := by
  refine cl0 T.d__law_bent sc__law_bent (fun _ _ _ _ _ _ us hl => match us, hl with | [_, _, _, _], _ => rfl) (fun vs H Q E h => by obtain ⟨_, _, _, _, _, _, _, rfl, _⟩ := h; rfl) fun f cdv A outer s H vs Q E hr h => ?_
  obtain ⟨a, q, p, u, cs, ss, x, rfl, F, hx, ha, k⟩ := h
  refine ⟨_, (pss_cons (ps_set (i := 4) sc__law_bent.nd rfl (Or.inl rfl) (pe_split (pv 3) pe_str))
    (pss_cons (ps_par (i := 5) (j := 6) (by rfl) sc__law_bent.nd rfl rfl (by decide) rfl rfl (pa_cons (pe_cl (cl__law_draw T) hr (by decide) (by rfl) (pa_cons (pv 0) (pa_cons (pe_callB (call_len_seqK (K := K) rfl) (by rfl) T.f_len PySem.boot_len (pa_cons (pv 4) pa_nil)) pa_nil))) (pa_cons (pe_cl (cl__law_draw T) hr (by decide) (by rfl) (pa_cons (pv 0) (pa_cons pe_int pa_nil))) pa_nil)) (by rfl))
    (pss_cons (ps_if (pt_cmpR op_eq (pv 6) pe_int (nomark _))
    (pss_one (ps_ret (pe_joinK (K := K) rfl pe_str (pe_op op_cat (pe_op op_cat (pe_slice (sl_listK (K := K) rfl) (pv 4) po_none (po_some (pv 5))) (pe_lst (pa_cons (pe_cl (cl__law_line T) hr (by decide) (by rfl) (pa_cons (pv 0) (pa_cons (pv 1) (pa_cons (pv 2) pa_nil)))) pa_nil))) (pe_slice (sl_listK (K := K) rfl) (pv 4) (po_some (pe_op op_add (pv 5) pe_int)) po_none)))))
    pss_nil)
    (pss_cons (ps_if (pt_cmpR op_eq (pv 6) pe_int (nomark _))
    (pss_one (ps_ret (pe_joinK (K := K) rfl pe_str (pe_op op_cat (pe_slice (sl_listK (K := K) rfl) (pv 4) po_none (po_some (pv 5))) (pe_slice (sl_listK (K := K) rfl) (pv 4) (po_some (pe_op op_add (pv 5) pe_int)) po_none)))))
    pss_nil)
    (pss_cons (ps_if (pt_cmpR op_eq (pv 6) pe_int (nomark _))
    (pss_one (ps_ret (pe_joinK (K := K) rfl pe_str (pe_op op_cat (pe_slice (sl_listK (K := K) rfl) (pv 4) po_none (po_some (pe_op op_add (pv 5) pe_int))) (pe_slice (sl_listK (K := K) rfl) (pv 4) (po_some (pv 5)) po_none)))))
    pss_nil)
    (pss_cons (ps_if (pt_cmpR op_eq (pv 6) pe_int (nomark _))
    (pss_one (ps_ret (pe_joinK (K := K) rfl pe_str (pe_op op_cat (pe_op op_cat (pe_slice (sl_listK (K := K) rfl) (pv 4) po_none (po_some (pv 5))) (pe_revLK (K := K) rfl (pe_slice (sl_listK (K := K) rfl) (pv 4) (po_some (pv 5)) (po_some (pe_op op_add (pv 5) pe_int))))) (pe_slice (sl_listK (K := K) rfl) (pv 4) (po_some (pe_op op_add (pv 5) pe_int)) po_none)))))
    pss_nil)
    (pss_cons (ps_if (pt_cmpR op_eq (pv 6) pe_int (nomark _))
    (pss_one (ps_ret (pe_ifExp (pt_truth (pv 3) (by intro _; rfl)) (pe_slice C8.sl_txt (pv 3) po_none (po_some (pe_op op_sub (pe_op op_sub (pe_callB call_len_str (by rfl) T.f_len PySem.boot_len (pa_cons (pv 3) pa_nil)) pe_int) (pe_cl (cl__law_draw T) hr (by decide) (by rfl) (pa_cons (pv 0) (pa_cons (pe_op op_add pe_int (pe_callB call_len_str (by rfl) T.f_len PySem.boot_len (pa_cons (pv 3) pa_nil))) pa_nil)))))) pe_str)))
    pss_nil)
    (pss_cons (ps_if (pt_cmpR op_eq (pv 6) pe_int (nomark _))
    (pss_one (ps_ret (pe_op op_add_str (pv 3) (pe_cl (cl__law_of T) hr (by decide) (by rfl) (pa_cons (pv 0) (pa_cons (pe_lst (pa_cons pe_str (pa_cons pe_str (pa_cons pe_str (pa_cons pe_str (pa_cons pe_str pa_nil)))))) pa_nil))))))
    pss_nil)
    (pss_cons (ps_if (pt_cmpR op_eq (pv 6) pe_int (nomark _))
    (pss_cons (ps_set (i := 7) sc__law_bent.nd rfl (Or.inl rfl) (pe_cl (cl__law_draw T) hr (by decide) (by rfl) (pa_cons (pv 0) (pa_cons (pe_op op_add (pe_callB call_len_str (by rfl) T.f_len PySem.boot_len (pa_cons (pv 3) pa_nil)) pe_int) pa_nil))))
    (pss_one (ps_ret (pe_op op_add_str (pe_op op_add_str (pe_slice C8.sl_txt (pv 3) po_none (po_some (pv 7))) (pe_cl (cl__law_of T) hr (by decide) (by rfl) (pa_cons (pv 0) (pa_cons pe_str pa_nil)))) (pe_slice C8.sl_txt (pv 3) (po_some (pe_op op_add (pv 7) (pe_cl (cl__law_draw T) hr (by decide) (by rfl) (pa_cons (pv 0) (pa_cons pe_int pa_nil))))) po_none)))))
    pss_nil)
    (pss_cons (ps_if (pt_cmpR op_eq (pv 6) pe_int (nomark _))
    (pss_one (ps_ret (pe_op op_add_str (pe_joinK (K := K) rfl pe_str (pe_slice (sl_listK (K := K) rfl) (pv 4) po_none (po_some (pv 5)))) (pe_cl (cl__law_of T) hr (by decide) (by rfl) (pa_cons (pv 0) (pa_cons (pe_lst (pa_cons pe_str (pa_cons pe_str pa_nil))) pa_nil))))))
    pss_nil)
    (pss_one (ps_ret (pe_joinK (K := K) rfl pe_str (pe_op op_cat (pe_op op_cat (pe_slice (sl_listK (K := K) rfl) (pv 4) po_none (po_some (pv 5))) (pe_lst (pa_cons (pe_cl (cl__law_line T) hr (by decide) (by rfl) (pa_cons (pv 0) (pa_cons (pv 1) (pa_cons (pv 2) pa_nil)))) pa_nil))) (pe_slice (sl_listK (K := K) rfl) (pv 4) (po_some (pv 5)) po_none))))))))))))))), ?_⟩
  refine ⟨_, rfl, ⟨_, rfl⟩, _, _, rfl, rfl, rfl, line_le (by rw [SX.S_len]; omega), fun l hl => ?_⟩
  have esp : Txt.split (S x) (S [10]) = (rLines x).map S := SX.split_S (by decide) (by decide)
  rw [show (("\n" : Str)) = S [10] by rfl, esp, map_S_V]
  have e0 : Same H (upd H l (.lst ((rLines x).map sv))) := (Same.refl H).upd1 hl
  have hl0 : upd H l (.lst ((rLines x).map sv)) l = some (.lst ((rLines x).map sv)) := upd_same
  generalize upd H l (.lst ((rLines x).map sv)) = H1 at e0 hl0 ⊢
  have X1 := SameX.of (x := a) e0
  have B1 := F.hb.same e0
  have hll := rLines_len x
  have hlp : 0 < (rLines x).length := List.length_pos_iff.mpr (rLines_ne x)
  refine ⟨_, rfl, _, rfl, l, _, rfl, .inl (SqL.of hl0), a, q, _, rfl, B1, by rw [List.length_map]; omega, by rw [List.length_map]; omega, fun H2 r X2 B2 hr2 => ?_⟩
  refine ⟨_, rfl, a, q, 9, rfl, B2, by decide, by decide, fun H3 r3 X3 B3 hr3 => ?_⟩
  refine ⟨_, _, rfl, ?_⟩
  rw [List.length_map] at hr2
  have XX := (X1.trans X2).trans X3
  have FF := F.bag XX B3
  have hwt : wt (rLines x) ≤ x.length + 1 := by
    have := joinL_len_ge (rLines x)
    unfold rLines at this ⊢
    rw [join_spl1] at this
    exact this
  have hL : Ls (x.length + 1) (.ref l) H3 := ⟨l, rLines x, rfl, (show StrsAt H1 l (rLines x) from hl0).bag B1 (X2.trans X3), hwt, fun y hy d hd => ha d (spl1_mem hy d hd)⟩
  have hT : Sm x.length (sv x) := ⟨x, rfl, Nat.le_refl _, ha⟩
  have fin : ∀ v H', SameX a H3 H' → BagAt H' a q → Sm (3 * x.length + 300) v → Q v H' := fun v H' X B hv => k _ _ (XX.trans X) B hv
  refine ⟨_, rfl, rfl, _, rfl, if_dec (p := (r3 : Int) = 0) (int_eq_dec Iff.rfl) (fun _ => ?_) (fun _ => ?_)⟩
  · exact se_ret (se_w (se_join (se_cat (se_cat (se_sll (se_vl rfl hL B3) sp_no (sp_some (se_vi (lo := 0) (hi := 1000000) rfl (by omega) (by omega)))) (se_lst1 (se_line FF rfl rfl rfl)) (by omega)) (se_sll (se_vl rfl hL B3) (sp_some (se_addi (se_vi (lo := 0) (hi := 1000000) rfl (by omega) (by omega)) (se_ci (lo := 1) (hi := 1) (by decide) (by decide)))) sp_no) (by omega)) (by omega)) (by omega)) (SameX.refl a H3) B3 fin
  refine ⟨_, rfl, rfl, _, rfl, if_dec (p := (r3 : Int) = 1) (int_eq_dec Iff.rfl) (fun _ => ?_) (fun _ => ?_)⟩
  · exact se_ret (se_w (se_join (se_cat (se_sll (se_vl rfl hL B3) sp_no (sp_some (se_vi (lo := 0) (hi := 1000000) rfl (by omega) (by omega)))) (se_sll (se_vl rfl hL B3) (sp_some (se_addi (se_vi (lo := 0) (hi := 1000000) rfl (by omega) (by omega)) (se_ci (lo := 1) (hi := 1) (by decide) (by decide)))) sp_no) (by omega)) (by omega)) (by omega)) (SameX.refl a H3) B3 fin
  refine ⟨_, rfl, rfl, _, rfl, if_dec (p := (r3 : Int) = 2) (int_eq_dec Iff.rfl) (fun _ => ?_) (fun _ => ?_)⟩
  · exact se_ret (se_w (se_join (se_cat (se_sll (se_vl rfl hL B3) sp_no (sp_some (se_addi (se_vi (lo := 0) (hi := 1000000) rfl (by omega) (by omega)) (se_ci (lo := 1) (hi := 1) (by decide) (by decide))))) (se_sll (se_vl rfl hL B3) (sp_some (se_vi (lo := 0) (hi := 1000000) rfl (by omega) (by omega))) sp_no) (by omega)) (by omega)) (by omega)) (SameX.refl a H3) B3 fin
  refine ⟨_, rfl, rfl, _, rfl, if_dec (p := (r3 : Int) = 3) (int_eq_dec Iff.rfl) (fun _ => ?_) (fun _ => ?_)⟩
  · exact se_ret (se_w (se_join (se_cat (se_cat (se_sll (se_vl rfl hL B3) sp_no (sp_some (se_vi (lo := 0) (hi := 1000000) rfl (by omega) (by omega)))) (se_rev (se_sll (se_vl rfl hL B3) (sp_some (se_vi (lo := 0) (hi := 1000000) rfl (by omega) (by omega))) (sp_some (se_addi (se_vi (lo := 0) (hi := 1000000) rfl (by omega) (by omega)) (se_ci (lo := 2) (hi := 2) (by decide) (by decide)))))) (by omega)) (se_sll (se_vl rfl hL B3) (sp_some (se_addi (se_vi (lo := 0) (hi := 1000000) rfl (by omega) (by omega)) (se_ci (lo := 2) (hi := 2) (by decide) (by decide)))) sp_no) (by omega)) (by omega)) (by omega)) (SameX.refl a H3) B3 fin
  refine ⟨_, rfl, rfl, _, rfl, if_dec (p := (r3 : Int) = 4) (int_eq_dec Iff.rfl) (fun _ => ?_) (fun _ => ?_)⟩
  · refine ⟨_, rfl, _, ⟨line_le (by rw [SX.S_len]; omega), rfl⟩, ?_⟩
    cases ((S x).length : Int) != 0 with
    | false => exact iteF (fin _ _ (SameX.refl a H3) B3 ⟨[], rfl, Nat.zero_le _, fun c h => nomatch h⟩)
    | true =>
      refine iteT ?_
      exact se_go (se_w (se_sl (se_v rfl hT) sp_no (sp_some (se_subi (se_subi (se_lens (se_v rfl hT) (by omega)) (se_ci (lo := 1) (hi := 1) (by decide) (by decide))) (se_draw (n := 1000000) rfl (se_wi (l2 := 1) (h2 := 1000000) (se_addi (se_ci (lo := 1) (hi := 1) (by decide) (by decide)) (se_lens (se_v rfl hT) (by omega))) (by omega) (by omega)) (by decide)))) (by omega)) (by omega)) (SameX.refl a H3) B3 fin
  refine ⟨_, rfl, rfl, _, rfl, if_dec (p := (r3 : Int) = 5) (int_eq_dec Iff.rfl) (fun _ => ?_) (fun _ => ?_)⟩
  · exact se_ret (se_w (se_add (se_v rfl hT) (se_of (n := 20) B3 rfl (sa_cons (se_w (se_c (by decide +kernel)) (by decide)) (sa_cons (se_w (se_c (by decide +kernel)) (by decide)) (sa_cons (se_w (se_c (by decide +kernel)) (by decide)) (sa_cons (se_w (se_c (by decide +kernel)) (by decide)) (sa_cons (se_w (se_c (by decide +kernel)) (by decide)) sa_nil))))) (by decide)) (by omega)) (by omega)) (SameX.refl a H3) B3 fin
  refine ⟨_, rfl, rfl, _, rfl, if_dec (p := (r3 : Int) = 6) (int_eq_dec Iff.rfl) (fun _ => ?_) (fun _ => ?_)⟩
  · refine se_asg (se_draw (n := 1000000) rfl (se_wi (se_addi (se_lens (se_v rfl hT) (by omega)) (se_ci (lo := 1) (hi := 1) (by decide) (by decide))) (by omega) (by omega)) (by decide)) (SameX.refl a H3) B3 fun v H4 X4 B4 hv => ?_
    obtain ⟨i, rfl, i1, i2⟩ := hv
    exact se_ret (se_w (se_add (se_add (se_sl (se_v rfl hT) sp_no (sp_some (se_vi (lo := 0) (hi := 1000000) rfl i1 i2)) (by omega)) (se_ofs rfl (by decide +kernel)) (by omega)) (se_sl (se_v rfl hT) (sp_some (se_addi (se_vi (lo := 0) (hi := 1000000) rfl i1 i2) (se_draw (n := 2) rfl (se_ci (by decide) (by decide)) (by decide)))) sp_no (by omega)) (by omega)) (by omega)) (SameX.refl a H4) B4 fun v H' X B hv => fin _ _ (X4.trans X) B hv
  refine ⟨_, rfl, rfl, _, rfl, if_dec (p := (r3 : Int) = 7) (int_eq_dec Iff.rfl) (fun _ => ?_) (fun _ => ?_)⟩
  · exact se_ret (se_w (se_add (se_join (se_sll (se_vl rfl hL B3) sp_no (sp_some (se_vi (lo := 0) (hi := 1000000) rfl (by omega) (by omega)))) (by omega)) (se_of (n := 20) B3 rfl (sa_cons (se_w (se_c (by decide +kernel)) (by decide)) (sa_cons (se_w (se_c (by decide +kernel)) (by decide)) sa_nil)) (by decide)) (by omega)) (by omega)) (SameX.refl a H3) B3 fin
  exact se_ret (se_w (se_join (se_cat (se_cat (se_sll (se_vl rfl hL B3) sp_no (sp_some (se_vi (lo := 0) (hi := 1000000) rfl (by omega) (by omega)))) (se_lst1 (se_line FF rfl rfl rfl)) (by omega)) (se_sll (se_vl rfl hL B3) (sp_some (se_vi (lo := 0) (hi := 1000000) rfl (by omega) (by omega))) sp_no) (by omega)) (by omega)) (by omega)) (SameX.refl a H3) B3 fin
end
end NT
namespace NT
open PySem PySem.Spec PyProof.Rows L2
open SX (S)
/-- the same data, told twice -/
def Eqd : Nat → Hp → V → V → Prop
  | 0, _, _, _ => False
  | d + 1, H, x, y => (∃ s, x = .str s ∧ y = .str s) ∨ (∃ i, x = .int i ∧ y = .int i) ∨ (∃ b, x = .bl b ∧ y = .bl b) ∨
    (∃ p r xs ys, x = .ref p ∧ y = .ref r ∧ H p = some (.lst xs) ∧ H r = some (.lst ys) ∧ xs.length = ys.length ∧ xs.length ≤ 1000000 ∧ ∀ (i : Nat) u v, xs[i]? = some u → ys[i]? = some v → Eqd d H u v) ∨
    (∃ p r xs ys, x = .ref p ∧ y = .ref r ∧ H p = some (.tup xs) ∧ H r = some (.tup ys) ∧ xs.length = ys.length ∧ xs.length ≤ 1000000 ∧ ∀ (i : Nat) u v, xs[i]? = some u → ys[i]? = some v → Eqd d H u v)
theorem Eqd.same : ∀ {d : Nat} {H H' : Hp} {x y : V}, Eqd d H x y → Same H H' → Eqd d H' x y
  | 0, _, _, _, _, h, _ => h.elim
  | d + 1, H, H', x, y, h, e => by
    rcases h with h | h | h | ⟨p, r, xs, ys, h1, h2, h3, h4, h5, h6, h7⟩ | ⟨p, r, xs, ys, h1, h2, h3, h4, h5, h6, h7⟩
    · exact .inl h
    · exact .inr (.inl h)
    · exact .inr (.inr (.inl h))
    · exact .inr (.inr (.inr (.inl ⟨p, r, xs, ys, h1, h2, e _ _ h3, e _ _ h4, h5, h6, fun i u v a b => (h7 i u v a b).same e⟩)))
    · exact .inr (.inr (.inr (.inr ⟨p, r, xs, ys, h1, h2, e _ _ h3, e _ _ h4, h5, h6, fun i u v a b => (h7 i u v a b).same e⟩)))
theorem Eqd.str {d : Nat} {H : Hp} (s : Str) : Eqd (d + 1) H (.str s) (.str s) := .inl ⟨s, rfl, rfl⟩
theorem Eqd.int {d : Nat} {H : Hp} (i : Int) : Eqd (d + 1) H (.int i) (.int i) := .inr (.inl ⟨i, rfl, rfl⟩)
theorem Eqd.bl {d : Nat} {H : Hp} (b : Bool) : Eqd (d + 1) H (.bl b) (.bl b) := .inr (.inr (.inl ⟨b, rfl, rfl⟩))
def spSame (d : Nat) : Sp := fun vs H Q _ => ∃ x y, vs = [x, y] ∧ Eqd d H x y ∧ ∀ H', Same H H' → Q (.bl true) H'
theorem walk_zipT2 {K : PySem.W.Frag} {a b : Addr} {xs ys : List V} {n : Nat} (hn : n = min xs.length ys.length) : Walk (RZ.ItzT K a b) n (fun H => SqT K H a xs ∧ SqT K H b ys) (YPair (fun i => xs[i]?) (fun i => ys[i]?)) := by
  subst hn
  refine ⟨fun i _ hi q => ?_, fun _ q => ⟨xs, ys, q.1, q.2, by omega⟩, fun i H v H' _ q y => ?_⟩
  · have h1 : i < xs.length := by omega
    have h2 : i < ys.length := by omega
    exact ⟨xs, ys, xs[i], ys[i], q.1, q.2, by simp [h1], by simp [h2]⟩
  · obtain ⟨T, x, y, h1, h2, h3, h4, h5⟩ := y
    exact ⟨T, x, y, h1, h2, h3, h4 xs q.1, h5 ys q.2⟩
section
variable {P : Program} {w : World} {K : PySem.W.Frag} {mg : Str → Option Value} {base : Heap}
abbrev N__law_same : List Str := ["_law_found", "_law_due", "_law_mark", "_law_x", "_law_y"]
theorem sc__law_same : FnScope N__law_same ["_law_found", "_law_due"] (defScope s__law_same) := ⟨rfl, rfl, rfl, by decide +kernel, rfl, by decide +kernel, by decide +kernel⟩
theorem cl_same0 (T : Txt K mg) : Cl P w K mg base CX0 1 "_law_same" (spSame 0) [] :=
  cl0 T.d__law_same sc__law_same (fun _ _ _ _ _ _ us hl => match us, hl with | [_, _], _ => rfl) (fun vs H Q E h => by obtain ⟨_, _, _, h, _⟩ := h; exact h.elim) fun f cdv A outer s H vs Q E hr h => by obtain ⟨_, _, _, h, _⟩ := h; exact h.elim
theorem same_step (T : Txt K mg) (d : Nat) (IH : Cl P w K mg base CX0 (d + 1) "_law_same" (spSame d) []) : Cl P w K mg base CX0 (d + 1 + 1) "_law_same" (spSame (d + 1)) [] := by
  refine cl0 T.d__law_same sc__law_same (fun _ _ _ _ _ _ us hl => match us, hl with | [_, _], _ => rfl) (fun vs H Q E h => by obtain ⟨_, _, rfl, _⟩ := h; rfl) fun f cdv A outer s H vs Q E hr h => ?_
  obtain ⟨x, y, rfl, h, k⟩ := h
  refine ⟨_, (pss_cons (ps_if (PW.pt (pw_or (pt_cmpR op_isN (pv 1) pe_non (nomark _)) (pw_or1 (pt_cmpR op_isN (pv 0) pe_non (nomark _)))))
    (pss_one (ps_ret (pe_and (pe_cmpR op_isN (pv 1) pe_non (nomark _)) (pe_one (pe_cmpR op_isN (pv 0) pe_non (nomark _))))))
    pss_nil)
    (pss_cons (ps_if (pt_val (pe_callB (call_isiTK (K := K) rfl) (by rfl) T.f_isinstance (by decide +kernel) (pa_cons (pv 1) (pa_cons (pe_tup (pa_cons (pe_bltn (v := .ty "list") (u := .type "list") (by rfl) T.f_list (by decide +kernel) rfl) (pa_cons (pe_bltn (v := .ty "tuple") (u := .type "tuple") (by rfl) T.f_tuple (by decide +kernel) rfl) pa_nil))) pa_nil))))
    (pss_cons (ps_if (PW.pt (pw_or (pt_cmpR op_ne (pe_callB (call_isiK' (K := K) rfl) (by rfl) T.f_isinstance (by decide +kernel) (pa_cons (pv 0) (pa_cons (pe_bltn (v := .ty "list") (u := .type "list") (by rfl) T.f_list (by decide +kernel) rfl) pa_nil))) (pe_callB (call_isiK' (K := K) rfl) (by rfl) T.f_isinstance (by decide +kernel) (pa_cons (pv 1) (pa_cons (pe_bltn (v := .ty "list") (u := .type "list") (by rfl) T.f_list (by decide +kernel) rfl) pa_nil))) (nomark _)) (pw_or1 (pt_cmpR op_ne (pe_callB (call_isiK' (K := K) rfl) (by rfl) T.f_isinstance (by decide +kernel) (pa_cons (pv 0) (pa_cons (pe_bltn (v := .ty "tuple") (u := .type "tuple") (by rfl) T.f_tuple (by decide +kernel) rfl) pa_nil))) (pe_callB (call_isiK' (K := K) rfl) (by rfl) T.f_isinstance (by decide +kernel) (pa_cons (pv 1) (pa_cons (pe_bltn (v := .ty "tuple") (u := .type "tuple") (by rfl) T.f_tuple (by decide +kernel) rfl) pa_nil))) (nomark _)))))
    (pss_one (ps_ret pe_bl))
    pss_nil)
    (pss_one (ps_ret (pe_and (pe_cmpR op_eq (pe_callB call_len (by rfl) T.f_len PySem.boot_len (pa_cons (pv 0) pa_nil)) (pe_callB call_len (by rfl) T.f_len PySem.boot_len (pa_cons (pv 1) pa_nil)) (nomark _)) (pe_one (pe_callB (cr_allK (K := K) rfl rfl) (by rfl) T.f_all (by decide +kernel) (pa_cons (pe_lc (own := [("_law_x", 3), ("_law_y", 4)]) rfl sc__law_same.nd (RZ.pi_zipA (by rfl) T.f_zip (pa_cons (pv 0) (pa_cons (pv 1) pa_nil))) (blkOk_by (N := N__law_same) (sc := defScope s__law_same) (by decide +kernel)) (fun _ _ _ _ _ => pg_pairK (K := K) (i := 3) (j := 4) rfl rfl sc__law_same.nd rfl rfl (Or.inl rfl) (Or.inl rfl) (Or.inr rfl) (Or.inr rfl)) (fun _ _ _ _ _ => pts_nil) (fun _ _ _ _ _ => (pe_cl IH hr (Nat.le_refl _) (by rfl) (pa_cons (pv 3) (pa_cons (pv 4) pa_nil))))) pa_nil)))))))
    pss_nil)
    (pss_cons (ps_if (pt_val (pe_callB (call_isiK' (K := K) rfl) (by rfl) T.f_isinstance (by decide +kernel) (pa_cons (pv 1) (pa_cons (pe_bltn (v := .ty "dict") (u := .type "dict") (by rfl) T.f_dict (by decide +kernel) rfl) pa_nil))))
    (pss_cons (ps_if (PW.pt (pw_or (pt_not (pt_val (pe_callB (call_isiK' (K := K) rfl) (by rfl) T.f_isinstance (by decide +kernel) (pa_cons (pv 0) (pa_cons (pe_bltn (v := .ty "dict") (u := .type "dict") (by rfl) T.f_dict (by decide +kernel) rfl) pa_nil))))) (pw_or1 (pt_not (pt_val (pe_cl IH hr (Nat.le_refl _) (by rfl) (pa_cons (pe_callTy (call_list_ofK (K := K) rfl) (by rfl) T.f_list (by decide +kernel) (pa_cons (pv 0) pa_nil)) (pa_cons (pe_callTy (call_list_ofK (K := K) rfl) (by rfl) T.f_list (by decide +kernel) (pa_cons (pv 1) pa_nil)) pa_nil))))))))
    (pss_one (ps_ret pe_bl))
    pss_nil)
    (pss_one (ps_ret (pe_callB (cr_allK (K := K) rfl rfl) (by rfl) T.f_all (by decide +kernel) (pa_cons (pe_lc (own := [("_law_mark", 2)]) rfl sc__law_same.nd (pi_listK (K := K) rfl (pe_callTy (call_list_ofK (K := K) rfl) (by rfl) T.f_list (by decide +kernel) (pa_cons (pv 1) pa_nil))) (blkOk_by (N := N__law_same) (sc := defScope s__law_same) (by decide +kernel)) (fun _ _ _ _ _ => pg_name (i := 2) sc__law_same.nd rfl (Or.inl rfl)) (fun _ _ _ _ _ => pts_nil) (fun _ _ _ _ _ => (pe_cl IH hr (Nat.le_refl _) (by rfl) (pa_cons (pe_ix (ix_seqK (K := K) rfl) (pv 0) (pv 2) (fun _ _ => rfl)) (pa_cons (pe_ix (ix_seqK (K := K) rfl) (pv 1) (pv 2) (fun _ _ => rfl)) pa_nil))))) pa_nil)))))
    pss_nil)
    (pss_cons (ps_if (PW.pt (pw_or (pt_cmpR op_ne (pe_callB (call_isiK' (K := K) rfl) (by rfl) T.f_isinstance (by decide +kernel) (pa_cons (pv 1) (pa_cons (pe_bltn (v := .ty "bool") (u := .type "bool") (by rfl) T.f_bool (by decide +kernel) rfl) pa_nil))) (pe_callB (call_isiK' (K := K) rfl) (by rfl) T.f_isinstance (by decide +kernel) (pa_cons (pv 0) (pa_cons (pe_bltn (v := .ty "bool") (u := .type "bool") (by rfl) T.f_bool (by decide +kernel) rfl) pa_nil))) (nomark _)) (pw_or1 (pt_cmpR op_ne (pe_callB (call_isiK' (K := K) rfl) (by rfl) T.f_isinstance (by decide +kernel) (pa_cons (pv 1) (pa_cons (pe_bltn (v := .ty "int") (u := .type "int") (by rfl) T.f_int (by decide +kernel) rfl) pa_nil))) (pe_callB (call_isiK' (K := K) rfl) (by rfl) T.f_isinstance (by decide +kernel) (pa_cons (pv 0) (pa_cons (pe_bltn (v := .ty "int") (u := .type "int") (by rfl) T.f_int (by decide +kernel) rfl) pa_nil))) (nomark _)))))
    (pss_one (ps_ret pe_bl))
    pss_nil)
    (pss_one (ps_ret (pe_and (pe_cmpR op_eq (pe_callB (call_isiK' (K := K) rfl) (by rfl) T.f_isinstance (by decide +kernel) (pa_cons (pv 1) (pa_cons (pe_bltn (v := .ty "str") (u := .type "str") (by rfl) T.f_str (by decide +kernel) rfl) pa_nil))) (pe_callB (call_isiK' (K := K) rfl) (by rfl) T.f_isinstance (by decide +kernel) (pa_cons (pv 0) (pa_cons (pe_bltn (v := .ty "str") (u := .type "str") (by rfl) T.f_str (by decide +kernel) rfl) pa_nil))) (nomark _)) (pe_one (pe_cmpR op_eq (pv 0) (pv 1) (nomark _)))))))))), ?_⟩
  rcases h with ⟨z, rfl, rfl⟩ | ⟨z, rfl, rfl⟩ | ⟨z, rfl, rfl⟩ | ⟨p, r, xs, ys, rfl, rfl, hp, hr2, hl, hn, hi⟩ | ⟨p, r, xs, ys, rfl, rfl, hp, hr2, hl, hn, hi⟩
  · refine ⟨_, rfl, rfl, _, rfl, if_dec rfl (fun h => nomatch h) (fun _ => ⟨_, rfl, rfl, _, rfl, if_dec rfl (fun h => nomatch h) (fun _ => ?_)⟩)⟩
    refine ⟨_, rfl, by decide, fun t1 ht1 => ⟨_, t1, _, _, _, false, rfl, upd_same, .cons (.ty _) (.cons (.ty _) .nil), .base (.str _), (kitAny_miss (kit_ty (by decide +kernel))).trans ((kitAny_miss (kit_ty (by decide +kernel))).trans rfl), _, rfl, iteF ?_⟩⟩
    have e1 := (Same.refl H).upd1 (o := .tup [.ty "list", .ty "tuple"]) ht1
    refine ⟨_, rfl, _, _, _, _, false, rfl, .ty _, .base (.str _), kit_ty (by decide +kernel), _, rfl, iteF ?_⟩
    refine ⟨_, rfl, _, _, _, _, false, rfl, .ty _, .base (.str _), kit_ty (by decide +kernel), _, rfl, _, _, _, _, false, rfl, .ty _, .base (.str _), kit_ty (by decide +kernel), rfl, _, rfl, if_decN rfl (fun h => absurd rfl h) (fun _ => ⟨_, rfl, _, _, _, _, false, rfl, .ty _, .base (.str _), kit_ty (by decide +kernel), _, rfl, _, _, _, _, false, rfl, .ty _, .base (.str _), kit_ty (by decide +kernel), rfl, _, rfl, if_decN rfl (fun h => absurd rfl h) (fun _ => ?_)⟩)⟩
    refine ⟨_, rfl, _, _, _, _, true, rfl, .ty _, .base (.str _), kit_ty (by decide +kernel), _, rfl, _, _, _, _, true, rfl, .ty _, .base (.str _), kit_ty (by decide +kernel), rfl, ?_⟩
    exact ⟨_, rfl, if_dec rfl (fun _ => ⟨_, rfl, _, rfl, rfl, (by show Q (.bl (decide (V.str z = V.str z))) _; rw [decide_eq_true rfl]; exact k _ e1)⟩) (fun h => absurd rfl h)⟩
  · refine ⟨_, rfl, rfl, _, rfl, if_dec rfl (fun h => nomatch h) (fun _ => ⟨_, rfl, rfl, _, rfl, if_dec rfl (fun h => nomatch h) (fun _ => ?_)⟩)⟩
    refine ⟨_, rfl, by decide, fun t1 ht1 => ⟨_, t1, _, _, _, false, rfl, upd_same, .cons (.ty _) (.cons (.ty _) .nil), .base (.int _), (kitAny_miss (kit_ty (by decide +kernel))).trans ((kitAny_miss (kit_ty (by decide +kernel))).trans rfl), _, rfl, iteF ?_⟩⟩
    have e1 := (Same.refl H).upd1 (o := .tup [.ty "list", .ty "tuple"]) ht1
    refine ⟨_, rfl, _, _, _, _, false, rfl, .ty _, .base (.int _), kit_ty (by decide +kernel), _, rfl, iteF ?_⟩
    refine ⟨_, rfl, _, _, _, _, false, rfl, .ty _, .base (.int _), kit_ty (by decide +kernel), _, rfl, _, _, _, _, false, rfl, .ty _, .base (.int _), kit_ty (by decide +kernel), rfl, _, rfl, if_decN rfl (fun h => absurd rfl h) (fun _ => ⟨_, rfl, _, _, _, _, true, rfl, .ty _, .base (.int _), kit_ty (by decide +kernel), _, rfl, _, _, _, _, true, rfl, .ty _, .base (.int _), kit_ty (by decide +kernel), rfl, _, rfl, if_decN rfl (fun h => absurd rfl h) (fun _ => ?_)⟩)⟩
    refine ⟨_, rfl, _, _, _, _, false, rfl, .ty _, .base (.int _), kit_ty (by decide +kernel), _, rfl, _, _, _, _, false, rfl, .ty _, .base (.int _), kit_ty (by decide +kernel), rfl, ?_⟩
    exact ⟨_, rfl, if_dec rfl (fun _ => ⟨_, rfl, _, rfl, rfl, (by show Q (.bl (decide (V.int z = V.int z))) _; rw [decide_eq_true rfl]; exact k _ e1)⟩) (fun h => absurd rfl h)⟩
  · refine ⟨_, rfl, rfl, _, rfl, if_dec rfl (fun h => nomatch h) (fun _ => ⟨_, rfl, rfl, _, rfl, if_dec rfl (fun h => nomatch h) (fun _ => ?_)⟩)⟩
    refine ⟨_, rfl, by decide, fun t1 ht1 => ⟨_, t1, _, _, _, false, rfl, upd_same, .cons (.ty _) (.cons (.ty _) .nil), .base (.bl _), (kitAny_miss (kit_ty (by decide +kernel))).trans ((kitAny_miss (kit_ty (by decide +kernel))).trans rfl), _, rfl, iteF ?_⟩⟩
    have e1 := (Same.refl H).upd1 (o := .tup [.ty "list", .ty "tuple"]) ht1
    refine ⟨_, rfl, _, _, _, _, false, rfl, .ty _, .base (.bl _), kit_ty (by decide +kernel), _, rfl, iteF ?_⟩
    refine ⟨_, rfl, _, _, _, _, true, rfl, .ty _, .base (.bl _), kit_ty (by decide +kernel), _, rfl, _, _, _, _, true, rfl, .ty _, .base (.bl _), kit_ty (by decide +kernel), rfl, _, rfl, if_decN rfl (fun h => absurd rfl h) (fun _ => ⟨_, rfl, _, _, _, _, true, rfl, .ty _, .base (.bl _), kit_ty (by decide +kernel), _, rfl, _, _, _, _, true, rfl, .ty _, .base (.bl _), kit_ty (by decide +kernel), rfl, _, rfl, if_decN rfl (fun h => absurd rfl h) (fun _ => ?_)⟩)⟩
    refine ⟨_, rfl, _, _, _, _, false, rfl, .ty _, .base (.bl _), kit_ty (by decide +kernel), _, rfl, _, _, _, _, false, rfl, .ty _, .base (.bl _), kit_ty (by decide +kernel), rfl, ?_⟩
    exact ⟨_, rfl, if_dec rfl (fun _ => ⟨_, rfl, _, rfl, rfl, (by show Q (.bl (decide (V.bl z = V.bl z))) _; rw [decide_eq_true rfl]; exact k _ e1)⟩) (fun h => absurd rfl h)⟩
  · refine ⟨_, rfl, rfl, _, rfl, if_dec rfl (fun h => nomatch h) (fun _ => ⟨_, rfl, rfl, _, rfl, if_dec rfl (fun h => nomatch h) (fun _ => ?_)⟩)⟩
    refine ⟨_, rfl, by decide, fun t1 ht1 => ⟨_, t1, _, _, _, true, rfl, upd_same, .cons (.ty _) (.cons (.ty _) .nil), .base (.lst (by rw [upd_ne (ne_of_none hr2 ht1)]; exact hr2)), kitAny_hit (kit_ty (by decide +kernel)), _, rfl, iteT ?_⟩⟩
    have e1 := (Same.refl H).upd1 (o := .tup [.ty "list", .ty "tuple"]) ht1
    generalize upd H t1 (.tup [.ty "list", .ty "tuple"]) = H1 at e1 ⊢
    have hp1 := e1 _ _ hp
    have hr1 := e1 _ _ hr2
    refine ⟨_, rfl, _, _, _, _, true, rfl, .ty _, .base (.lst hp1), kit_ty (by decide +kernel), _, rfl, _, _, _, _, true, rfl, .ty _, .base (.lst hr1), kit_ty (by decide +kernel), rfl, _, rfl, if_decN rfl (fun h => absurd rfl h) (fun _ => ⟨_, rfl, _, _, _, _, false, rfl, .ty _, .base (.lst hp1), kit_ty (by decide +kernel), _, rfl, _, _, _, _, false, rfl, .ty _, .base (.lst hr1), kit_ty (by decide +kernel), rfl, _, rfl, if_decN rfl (fun h => absurd rfl h) (fun _ => ?_)⟩)⟩
    refine ⟨_, rfl, _, xs.length, rfl, .inl ⟨_, SqL.of hp1, rfl⟩, _, rfl, _, ys.length, rfl, .inl ⟨_, SqL.of hr1, rfl⟩, rfl, _, rfl, if_dec (p := xs.length = ys.length) (int_eq_dec (by omega)) (fun _ => ?_) (fun h => absurd hl h)⟩
    refine ⟨_, rfl, _, rfl, p, r, xs, ys, rfl, .inl ⟨SqL.of hp1, SqL.of hr1, fun D hD => ?_⟩⟩
    have wz := walk_zip (K := K) (a := p) (b := r) (xs := xs) (ys := ys) (n := (List.range xs.length).length) (by rw [List.length_range]; omega)
    refine lc_pure (List.range xs.length) wz hD (fun _ => true) (fun _ => .bl true) (fun H' e => ⟨SqL.of (e _ _ hp1), SqL.of (e _ _ hr1)⟩) (by rw [List.length_range]; omega) ?_ ?_
    · rintro i y v H2 H3 hy e2 ⟨T', u, w', rfl, hT, rfl, hu, hw⟩
      refine ⟨(Same.refl H2).upd1 hT, _, gv_pair upd_same, rfl, evT_yes, fun H4 e4 _ Q' q' => ?_⟩
      have e24 := (((Same.refl H2).upd1 (o := .tup [u, w']) hT)).trans e4
      exact ⟨_, rfl, _, rfl, u, w', rfl, (hi i u w' hu hw).same ((e1.trans e2).trans e24), fun H5 e5 => q' _ e5⟩
    · intro H' e' hD'
      rw [filter_all] at hD'
      have hD2 : H' D = some (.lst ((List.replicate xs.length true).map V.bl)) := by
        rw [hD', List.map_replicate]
        congr 2
        exact List.eq_replicate_iff.mpr ⟨by simp, fun b hb => by obtain ⟨_, _, h⟩ := List.mem_map.mp hb; exact h.symm⟩
      refine ⟨D, _, rfl, SqL.of hD2, ?_⟩
      rw [show (List.replicate xs.length true).all id = true from List.all_eq_true.mpr fun b hb => by rw [List.eq_of_mem_replicate hb]; rfl]
      exact k _ (e1.trans e')
  · refine ⟨_, rfl, rfl, _, rfl, if_dec rfl (fun h => nomatch h) (fun _ => ⟨_, rfl, rfl, _, rfl, if_dec rfl (fun h => nomatch h) (fun _ => ?_)⟩)⟩
    refine ⟨_, rfl, by decide, fun t1 ht1 => ⟨_, t1, _, _, _, true, rfl, upd_same, .cons (.ty _) (.cons (.ty _) .nil), .base (.tup (by rw [upd_ne (ne_of_none hr2 ht1)]; exact hr2)), (kitAny_miss (kit_ty (by decide +kernel))).trans (kitAny_hit (kit_ty (by decide +kernel))), _, rfl, iteT ?_⟩⟩
    have e1 := (Same.refl H).upd1 (o := .tup [.ty "list", .ty "tuple"]) ht1
    generalize upd H t1 (.tup [.ty "list", .ty "tuple"]) = H1 at e1 ⊢
    have hp1 := e1 _ _ hp
    have hr1 := e1 _ _ hr2
    refine ⟨_, rfl, _, _, _, _, false, rfl, .ty _, .base (.tup hp1), kit_ty (by decide +kernel), _, rfl, _, _, _, _, false, rfl, .ty _, .base (.tup hr1), kit_ty (by decide +kernel), rfl, _, rfl, if_decN rfl (fun h => absurd rfl h) (fun _ => ⟨_, rfl, _, _, _, _, true, rfl, .ty _, .base (.tup hp1), kit_ty (by decide +kernel), _, rfl, _, _, _, _, true, rfl, .ty _, .base (.tup hr1), kit_ty (by decide +kernel), rfl, _, rfl, if_decN rfl (fun h => absurd rfl h) (fun _ => ?_)⟩)⟩
    refine ⟨_, rfl, _, xs.length, rfl, .inr ⟨_, SqT.of hp1, rfl⟩, _, rfl, _, ys.length, rfl, .inr ⟨_, SqT.of hr1, rfl⟩, rfl, _, rfl, if_dec (p := xs.length = ys.length) (int_eq_dec (by omega)) (fun _ => ?_) (fun h => absurd hl h)⟩
    refine ⟨_, rfl, _, rfl, p, r, xs, ys, rfl, .inr ⟨SqT.of hp1, SqT.of hr1, fun D hD => ?_⟩⟩
    have wz := walk_zipT2 (K := K) (a := p) (b := r) (xs := xs) (ys := ys) (n := (List.range xs.length).length) (by rw [List.length_range]; omega)
    refine lc_pure (List.range xs.length) wz hD (fun _ => true) (fun _ => .bl true) (fun H' e => ⟨SqT.of (e _ _ hp1), SqT.of (e _ _ hr1)⟩) (by rw [List.length_range]; omega) ?_ ?_
    · rintro i y v H2 H3 hy e2 ⟨T', u, w', rfl, hT, rfl, hu, hw⟩
      refine ⟨(Same.refl H2).upd1 hT, _, gv_pair upd_same, rfl, evT_yes, fun H4 e4 _ Q' q' => ?_⟩
      have e24 := (((Same.refl H2).upd1 (o := .tup [u, w']) hT)).trans e4
      exact ⟨_, rfl, _, rfl, u, w', rfl, (hi i u w' hu hw).same ((e1.trans e2).trans e24), fun H5 e5 => q' _ e5⟩
    · intro H' e' hD'
      rw [filter_all] at hD'
      have hD2 : H' D = some (.lst ((List.replicate xs.length true).map V.bl)) := by
        rw [hD', List.map_replicate]
        congr 2
        exact List.eq_replicate_iff.mpr ⟨by simp, fun b hb => by obtain ⟨_, _, h⟩ := List.mem_map.mp hb; exact h.symm⟩
      refine ⟨D, _, rfl, SqL.of hD2, ?_⟩
      rw [show (List.replicate xs.length true).all id = true from List.all_eq_true.mpr fun b hb => by rw [List.eq_of_mem_replicate hb]; rfl]
      exact k _ (e1.trans e')
theorem cl__law_same (T : Txt K mg) : Cl P w K mg base CX0 5 "_law_same" (spSame 4) [] := same_step T 3 (same_step T 2 (same_step T 1 (same_step T 0 (cl_same0 T))))
end
end NT
namespace NT
open PySem PySem.Spec PyProof.Rows L2 LamX
open SX (S)
/-! ### the defs that make a lambda: their code objects and tables -/
def tabsT (K : PySem.W.Frag) : List (Addr × Str) := [((cT1 K).2, "_law_text_so.<locals>." ++ "<lambda>"), ((cT2 K).2, "law.<locals>." ++ "<lambda>")]
structure Tx (K : PySem.W.Frag) (mg : Str → Option Value) (base : Heap) : Prop where
  T : Txt K mg
  b1 : TabB base mg (cT1 K).1 (cT1 K).2
  b2 : TabB base mg (cT2 K).1 (cT2 K).2
  ne : (cT1 K).2 ≠ (cT2 K).2
theorem mem1 (K : PySem.W.Frag) : ((cT1 K).2, ("_law_text_so" : Str) ++ ".<locals>." ++ "<lambda>") ∈ tabsT K := List.mem_cons_self
theorem mem2 (K : PySem.W.Frag) : ((cT2 K).2, ("law" : Str) ++ ".<locals>." ++ "<lambda>") ∈ tabsT K := List.mem_cons_of_mem _ List.mem_cons_self
theorem uq1 {K : PySem.W.Frag} {mg : Str → Option Value} {base : Heap} (X : Tx K mg base) : ∀ p ∈ tabsT K, p.1 = (cT1 K).2 → p.2 = ("_law_text_so" : Str) ++ ".<locals>." ++ "<lambda>" := by
  intro p hp e
  rcases List.mem_cons.mp hp with h | h
  · rw [h]; rfl
  · rw [List.mem_singleton.mp h] at e
    exact absurd e.symm X.ne
theorem uq2 {K : PySem.W.Frag} {mg : Str → Option Value} {base : Heap} (X : Tx K mg base) : ∀ p ∈ tabsT K, p.1 = (cT2 K).2 → p.2 = ("law" : Str) ++ ".<locals>." ++ "<lambda>" := by
  intro p hp e
  rcases List.mem_cons.mp hp with h | h
  · rw [h] at e
    exact absurd e X.ne
  · rw [List.mem_singleton.mp h]; rfl
theorem passN {X : Cx} : Passes (L2N.CX X.prog X.w) X E0 := fun _ _ _ _ _ _ _ h => by
  obtain ⟨_, _, _, _, _, _, _, _, _, _, _, _, z⟩ := h
  exact z.elim
section
variable {P : Program} {w : World} {K : PySem.W.Frag} {mg : Str → Option Value} {base : Heap}
/-- a def whose code object is told -/
theorem cl_lam {x : Str} {st : Stmt} {N ps : List Str} {k : Nat} {sp : Sp} (D : Df K mg x st []) (S : FnScope N ps (defScope st))
    (hb : ∀ (kV doc pm : Value) (an : Option Addr) (cdv ct : Value) (us : List Value), us.length = ps.length → bindArgs (PySem.W.fnOf x x (defArgs st) (defBody st) (defScope st) .none kV doc pm an cdv ct) ⟨us, []⟩ = pure (ps.zip us))
    (len : ∀ vs H Q E, sp vs H Q E → vs.length = ps.length)
    (hbody : ∀ (f : Addr) (A : Around) (outer : List Env) (s : Shared) (H : Hp) (vs : List V) (Q : VK) (E : XK), Room k (A.deeper (envOfC x (defScope st) s.heap.objs.size f (.ref (He.cT K (x, none)).1))) → sp vs H Q E →
      ∃ t, PSs (cxOf CX0 P w K mg base N x (defScope st) f (.ref (He.cT K (x, none)).1) A outer s H E).nox (defBody st) t ∧ t { nx := fun _ H' => Q .non H', rt := Q } (L2.start N vs) H) : Cl P w K mg base CX0 (k + 1) x sp [] := by
  obtain ⟨fd, F⟩ := D.fd
  have F' := F
  obtain ⟨oc, od, dV, kV, doc, pm, an, cdv, ct, osl, rfl, lk, hcd, _, _⟩ := F.ex
  obtain ⟨c, rfl⟩ := He.codeIn_ref hcd
  have hc : (He.cT K (x, none)).1 = c := He.codeOf_eq (p := (x, none)) lk rfl
  subst hc
  exact ⟨_, _, ps, [], fn_of lk hcd S len fun A outer s H vs Q E hr hsp => by
    obtain ⟨t, h, q⟩ := hbody _ A outer s H vs Q E hr hsp
    exact ⟨t, h.nox, q⟩, D.gm, F'.kp, F'.bindsN hb, .nil⟩
theorem _root_.LamX.ExtN.up {H H' : Hp} (e : Same H H') : ExtN H H' := ExtN.of e
theorem CellsAt.extN {H H' : Hp} {p : Addr} {cs : List Cell} (h : CellsAt H p cs) (e : ExtN H H') : CellsAt H' p cs := by
  obtain ⟨ps, h1, h2, h3⟩ := h
  exact ⟨ps, h1, e _ _ h2 (fun ps h => nomatch h), fun z hz => e _ _ (h3 z hz) (fun ps h => nomatch h)⟩
theorem StrsAt.extN {H H' : Hp} {p : Addr} {ss : List (List Nat)} (h : StrsAt H p ss) (e : ExtN H H') : StrsAt H' p ss := e _ _ h (fun ps h => nomatch h)
theorem BandAt.extN {H H' : Hp} {x : Addr} {cs : List Cell} {ss : List Row} (h : BandAt K H x cs ss) (e : ExtN H H') : BandAt K H' x cs ss := by
  obtain ⟨dx, p, q, r, d, l, rows, j, h1, h2, h3, h4, h5⟩ := h
  exact ⟨dx, p, q, r, d, l, rows, j, e _ _ h1 (fun ps h => nomatch h), h2.extN e, h3.extN e, e _ _ h4 (fun ps h => nomatch h), h5⟩
theorem Eqd.tup2 {d : Nat} {H : Hp} {p r : Addr} {x1 x2 y1 y2 : V} (hp : H p = some (.tup [x1, x2])) (hr : H r = some (.tup [y1, y2])) (h1 : Eqd d H x1 y1) (h2 : Eqd d H x2 y2) : Eqd (d + 1) H (.ref p) (.ref r) := by
  refine .inr (.inr (.inr (.inr ⟨p, r, _, _, rfl, rfl, hp, hr, rfl, by show 2 ≤ _; omega, fun i u v hu hv => ?_⟩)))
  rcases i with _ | _ | i
  · cases Option.some.inj hu; cases Option.some.inj hv; exact h1
  · cases Option.some.inj hu; cases Option.some.inj hv; exact h2
  · simp at hu
theorem StrsAt.eqd {d : Nat} {H : Hp} {p r : Addr} {ss : List (List Nat)} (hp : StrsAt H p ss) (hr : StrsAt H r ss) (h : ss.length ≤ 1000000) : Eqd (d + 2) H (.ref p) (.ref r) := by
  refine .inr (.inr (.inr (.inl ⟨p, r, _, _, rfl, rfl, hp, hr, rfl, by rw [List.length_map]; exact h, fun i u v hu hv => ?_⟩)))
  rw [hu] at hv
  cases Option.some.inj hv
  rw [List.getElem?_map] at hu
  obtain ⟨s, _, rfl⟩ := Option.map_eq_some_iff.mp hu
  exact Eqd.str _
theorem CellsAt.eqd {d : Nat} {H : Hp} {p r : Addr} {cs : List Cell} (hp : CellsAt H p cs) (hr : CellsAt H r cs) (h : cs.length ≤ 1000000) : Eqd (d + 3) H (.ref p) (.ref r) := by
  obtain ⟨ps, e1, h1, h2⟩ := hp
  obtain ⟨qs, e2, k1, k2⟩ := hr
  have l1 : ps.length = cs.length := by rw [← e1, List.length_map]
  have l2 : qs.length = cs.length := by rw [← e2, List.length_map]
  refine .inr (.inr (.inr (.inl ⟨p, r, _, _, rfl, rfl, h1, k1, by rw [List.length_map, List.length_map]; omega, by rw [List.length_map]; omega, fun i u v hu hv => ?_⟩)))
  rw [List.getElem?_map] at hu hv
  obtain ⟨z, hz, rfl⟩ := Option.map_eq_some_iff.mp hu
  obtain ⟨y, hy, rfl⟩ := Option.map_eq_some_iff.mp hv
  have a1 : cs[i]? = some z.2 := by rw [← e1, List.getElem?_map, hz]; rfl
  have a2 : cs[i]? = some y.2 := by rw [← e2, List.getElem?_map, hy]; rfl
  have e : z.2 = y.2 := Option.some.inj (a1.symm.trans a2)
  have t2 := k2 y (List.mem_of_getElem? hy)
  rw [← e] at t2
  exact Eqd.tup2 (h2 z (List.mem_of_getElem? hz)) t2 (Eqd.str _) (Eqd.int _)
def spTextSo (K : PySem.W.Frag) : Sp := fun vs H Q _ => ∃ x : List Nat, vs = [sv x] ∧ x.length ≤ 900000 ∧ asc x ∧ Tabs (tabsT K) H ∧ ∀ H', ExtN H H' → Tabs (tabsT K) H' → Q (.bl true) H'
abbrev N__law_text_so : List Str := ["_law_text_here", "_law_due", "_law_found", "_law_band", "_law_twin"]
theorem sc__law_text_so : FnScope N__law_text_so ["_law_text_here"] (defScope s__law_text_so) := ⟨rfl, rfl, rfl, by decide +kernel, rfl, by decide +kernel, by decide +kernel⟩
theorem cl__law_text_so (X : Tx K mg base) : Cl P w K mg base CX0 10 "_law_text_so" (spTextSo K) [] := by
  have T := X.T
  obtain ⟨fdT, FT⟩ := T.d__law_try.fd
  obtain ⟨fdR, FR, BR, kR⟩ := fn_read (P := P) (w := w) (base := base) T
  obtain ⟨fdI, dsI, FI, VI, BI⟩ := fn_init (P := P) (w := w) (base := base) T
  obtain ⟨fdE, FE, BE⟩ := fn_eq (P := P) (w := w) (base := base) T
  obtain ⟨fdS, FS, BS⟩ := fn_str (P := P) (w := w) (base := base) T
  obtain ⟨fdL, FL, BL⟩ := fn_len (P := P) (w := w) (base := base) T
  have BT : Binds K fdT ["_law_ask"] [] := FT.bindsN (fun _ _ _ _ _ _ us hl => match us, hl with | [_], _ => rfl)
  obtain ⟨oc, od, dV, kV, doc, pm, an, cdv, ct, osl, rfl, lkT, hcT, _, _⟩ := FT.ex
  have EQ1 : PySem.W.findIn K (.ref (cB K)) "__eq__" = some (some (.ref (He.ma K (cB K) "__eq__"))) := T.m_Band___eq__.at_
  have EQ2 : PySem.W.isFn K (.ref (He.ma K (cB K) "__eq__")) = true := T.m_Band___eq__.fn
  refine cl_lam T.d__law_text_so sc__law_text_so (fun _ _ _ _ _ _ us hl => match us, hl with | [_], _ => rfl) (fun vs H Q E h => by obtain ⟨_, rfl, _⟩ := h; rfl) fun f A outer s H vs Q E hr h => ?_
  obtain ⟨x, rfl, hx, ha, ht, k⟩ := h
  refine ⟨_, (pss_cons (ps_set (i := 1) sc__law_text_so.nd rfl (Or.inl rfl) (pe_cl (cl__law_read T) hr (by decide) (by rfl) (pa_cons (pv 0) pa_nil)))
    (pss_cons (ps_set (i := 2) sc__law_text_so.nd rfl (Or.inl rfl) (pe_lamcall (T := tabsT K) (TT := TTry K) (x := "_law_try") (a := "_law_ask") (k := 7) (t := fun E => tSM (cB K) (spRead K) E (tC (.ref (cB K))) (tCons (tVar 0) tNil)) (by rfl) T.d__law_try.gm FT.kp lkT hcT BT sc__law_try rfl (Or.inl (by rfl)) (try_gives T (hr.mono (by decide))) X.b1 (by rfl) (mem1 K) (uq1 X) (hr.mono (by decide)) (lamS_by (by rfl)) (by rfl) (fun _ _ _ _ _ => rfl) (fun A outer s H E f c' hr2 => pe_smeth (C8.pe_gc (v := .ref (cB K)) (by rfl) ⟨_, T.g_Band, rfl⟩) T.r_Band T.m_Band_read.1 T.m_Band_read.2 FR BR kR hr2 (L2.passes_call (L2.takes_of rfl rfl rfl rfl) (fun _ _ _ _ h => h)) (pa_cons (pv 0) pa_nil))))
    (pss_cons (ps_if (pt_cmpR op_ne (pe_ix (ix_tupK (K := K) rfl) (pv 1) pe_int (fun _ _ => rfl)) pe_str (nomark _))
    (pss_one (ps_ret (pe_cl (cl__law_same T) hr (by decide) (by rfl) (pa_cons (pv 2) (pa_cons (pv 1) pa_nil)))))
    pss_nil)
    (pss_cons (ps_if (pt_cmpR op_ne (pe_ix (ix_tupK (K := K) rfl) (pv 2) pe_int (fun _ _ => rfl)) pe_str (nomark _))
    (pss_one (ps_ret pe_bl))
    pss_nil)
    (pss_cons (ps_par (i := 3) (j := 4) (by rfl) sc__law_text_so.nd rfl rfl (by decide) rfl rfl (pa_cons (pe_ix (ix_tupK (K := K) rfl) (pv 2) pe_int (fun _ _ => rfl)) (pa_cons (pe_make (E := E0) T.mk_Band FI (hr.mono (by decide)) (by rfl) T.g_Band BI VI passN (pa_cons (pe_ix (ix_tupK (K := K) rfl) (pv 1) pe_int (fun _ _ => rfl)) (pa_cons (pe_ix (ix_tupK (K := K) rfl) (pv 1) pe_int (fun _ _ => rfl)) pa_nil))) pa_nil)) (by rfl))
    (pss_one (ps_ret (pe_cl (cl__law_same T) hr (by decide) (by rfl) (pa_cons (pe_lst (pa_cons (pe_cmpR (op_eqG (rcG_ins FE EQ1 EQ2 BE pass0) (hr.mono (by decide))) (pv 3) (pv 4) (nomark _)) (pa_cons (C8.pe_mt0 (cm_Band_cells T) hr (by decide) (pv 3)) (pa_cons (C8.pe_mt0 (cm_Band_seeds T) hr (by decide) (pv 3)) (pa_cons (C8.pe_mt0 (cm_Band_text T) hr (by decide) (pv 3)) (pa_cons (pe_callTy (call_strOwn T.m_Band___str__ FS BS (hr.mono (by decide))) (by rfl) T.f_str (by decide +kernel) (pa_cons (pv 3) pa_nil)) (pa_cons (pe_callB (call_lenOwn T.m_Band___len__ FL BL (hr.mono (by decide))) (by rfl) T.f_len PySem.boot_len (pa_cons (pv 3) pa_nil)) pa_nil))))))) (pa_cons (pe_lst (pa_cons pe_bl (pa_cons (pe_ix (ix_tupK (K := K) rfl) (pv 1) pe_int (fun _ _ => rfl)) (pa_cons (pe_ix (ix_tupK (K := K) rfl) (pv 1) pe_int (fun _ _ => rfl)) (pa_cons (pv 0) (pa_cons (pv 0) (pa_cons (pe_callB (call_lenOwn T.m_Band___len__ FL BL (hr.mono (by decide))) (by rfl) T.f_len PySem.boot_len (pa_cons (pv 4) pa_nil)) pa_nil))))))) pa_nil)))))))))), ?_⟩
  refine ⟨_, rfl, x, rfl, hx, ha, fun cs ss ho H1 p a b e1 hp hca hsb => ?_, fun i w' ho H1 p q e1 hp hq => ?_⟩
  rotate_left
  · refine ⟨ht.ext e1, fun H2 n2 t2 => ⟨rfl, _, rfl, .inl ⟨x, rfl, hx, ha, fun cs ss hg => absurd (ho.symm.trans hg) (fun h => nomatch h), fun i2 w2 hb H3 d e3 hd => ?_⟩⟩⟩
    obtain ⟨rfl, rfl⟩ : i = i2 ∧ w' = w2 := by
      have := ho.symm.trans hb
      injection this with h1 h2
      exact ⟨h1, h2⟩
    refine ⟨d, .str w', .int i, rfl, rfl, hd, fun H4 p4 q4 e4 hq4 hp4 => ?_⟩
    have e24 := e3.trans e4
    have hp' := e24 _ _ (n2 _ _ hp (fun ps h => nomatch h))
    have hq' := e24 _ _ (n2 _ _ hq (fun ps h => nomatch h))
    refine ⟨_, rfl, p, _, 0, _, rfl, rfl, SqT.of hp', rfl, rfl, _, rfl, if_decN rfl (fun _ => ?_) (fun h => absurd h (by decide +kernel))⟩
    exact ⟨_, rfl, _, rfl, .ref p4, .ref p, rfl, Eqd.tup2 hp4 hp' (Eqd.str _) (Eqd.tup2 hq4 hq' (Eqd.int _) (Eqd.str _)), fun H5 e5 => k _ ((ExtN.of e1).trans (n2.trans (ExtN.of (e24.trans e5)))) (t2.ext (e24.trans e5))⟩
  · obtain ⟨g1, g2, g3, g4, g5, g6⟩ := good_facts ho
    have g2' := g2
    obtain ⟨m1, m2, m3, m4⟩ := g2
    refine ⟨ht.ext e1, fun H2 n2 t2 => ⟨rfl, _, rfl, .inl ⟨x, rfl, hx, ha, fun cs2 ss2 hg H3 bd e3 hB => ?_, fun i w2 hb => absurd (ho.symm.trans hb) (fun h => nomatch h)⟩⟩⟩
    obtain ⟨rfl, rfl⟩ : cs = cs2 ∧ ss = ss2 := by
      have := ho.symm.trans hg
      injection this with h1 h2
      exact ⟨h1, h2⟩
    refine ⟨line_le (by show 2 ≤ _; omega), fun p3 hp3 => ?_⟩
    have e4 := e3.upd1 (o := .tup [.str "", .ref bd]) hp3
    have hp4 : upd H3 p3 (.tup [.str "", .ref bd]) p3 = some (.tup [.str "", .ref bd]) := upd_same
    have hB4 := hB.same ((Same.refl H3).upd1 (o := .tup [.str "", .ref bd]) hp3)
    show Ends.nx _ _ (upd H3 p3 (.tup [.str "", .ref bd]))
    generalize upd H3 p3 (.tup [.str "", .ref bd]) = H4 at e4 hp4 hB4 ⊢
    have n24 : ExtN H1 H4 := n2.trans (ExtN.of e4)
    have hp' := n24 _ _ hp (fun ps h => nomatch h)
    have hca' := hca.extN n24
    have hsb' := hsb.extN n24
    refine ⟨_, rfl, p, _, 0, _, rfl, rfl, SqT.of hp', rfl, rfl, _, rfl, if_decN rfl (fun h => absurd rfl h) (fun _ => ?_)⟩
    refine ⟨_, rfl, p3, _, 0, _, rfl, rfl, SqT.of hp4, rfl, rfl, _, rfl, if_decN rfl (fun h => absurd rfl h) (fun _ => ?_)⟩
    refine ⟨_, rfl, p3, _, 1, _, rfl, rfl, SqT.of hp4, rfl, _, rfl, p, _, 1, _, rfl, rfl, SqT.of hp', rfl, _, rfl, p, _, 2, _, rfl, rfl, SqT.of hp', rfl, fun tw dx htw hdx hne => ?_⟩
    refine make_ans (K := K) (cs := cs) (ss := ss) htw hdx hne hca' g4 hsb' (by omega) (by omega) (fun s hs => by have := m4 s hs; omega) (fun _ H5 e5 hT => ⟨rfl, ?_⟩) (fun no => absurd g3 no)
    refine ⟨_, _, rfl, ?_⟩
    have hB5 := hB4.same e5
    have hp5 := e5 _ _ hp'
    have hca5 := hca'.same e5
    have hsb5 := hsb'.same e5
    have acs : ∀ c ∈ cs, asc c.1 := fun c hc => nameB_asc (g4 c hc).1
    have ass : ∀ s ∈ ss, asc s := fun s hs => rowB_asc (g6 s hs)
    have ins : ∀ {H' : Hp} {z : Addr}, BandAt K H' z cs ss → ∃ dx fs, H' z = some (.ins (cB K) dx fs) ∧ fs.lookup (Str.ofString "cells") = none ∧ fs.lookup (Str.ofString "seeds") = none ∧ fs.lookup (Str.ofString "text") = none := by
      rintro H' z ⟨dx, p, q, r, d, l, rows, j, hz, _⟩
      exact ⟨dx, _, hz, rfl, rfl, rfl⟩
    obtain ⟨dx1, fs1, i1, _⟩ := ins hB5
    obtain ⟨dx2, fs2, i2, _⟩ := ins hT
    refine ⟨_, rfl, _, rfl, ⟨bd, tw, dx1, dx2, fs1, fs2, rfl, rfl, i1, i2, cs, ss, hB5, hT, acs, ass⟩, fun H6 e6 => ?_⟩
    have hB6 := hB5.same e6
    obtain ⟨dx3, fs3, i3, l3, _, _⟩ := ins hB6
    refine ⟨_, rfl, bd, dx3, fs3, rfl, i3, l3, bd, cs, ss, rfl, hB6, fun H7 pc e7 hpc => ?_⟩
    have hB7 := hB6.same e7
    obtain ⟨dx4, fs4, i4, _, l4, _⟩ := ins hB7
    refine ⟨_, rfl, bd, dx4, fs4, rfl, i4, l4, bd, cs, ss, rfl, hB7, fun H8 ps e8 hps => ?_⟩
    have hB8 := hB7.same e8
    obtain ⟨dx5, fs5, i5, _, _, l5⟩ := ins hB8
    refine ⟨_, rfl, bd, dx5, fs5, rfl, i5, l5, bd, cs, ss, rfl, hB8, g5, g2', fun H9 e9 => ?_⟩
    have hB9 := hB8.same e9
    obtain ⟨dx6, fs6, i6, _⟩ := ins hB9
    refine ⟨_, rfl, bd, dx6, fs6, rfl, i6, bd, cs, ss, rfl, hB9, g5, g2', fun H10 e10 => ⟨_, rfl, ?_⟩⟩
    have hB10 := hB9.same e10
    obtain ⟨dx7, fs7, i7, _⟩ := ins hB10
    have small : ∀ j, Stop ss cs.length 800 j → (lv ss cs.length j).length ≤ 800 := fun j hj => by
      have := stop_big (ss := ss) (n := cs.length) (by omega) hj
      by_cases q : 800 < (lv ss cs.length j).length
      · exact absurd (this.mp q) g3.2.2
      · omega
    refine ⟨_, rfl, bd, dx7, fs7, rfl, i7, bd, cs, ss, rfl, hB10, fun j hj => ⟨_, rfl, by omega, by have := small j hj; omega, ?_⟩⟩
    refine ⟨line_le (by show 6 ≤ _; omega), fun l1 hl1 => ?_⟩
    have e5a := (e7.trans (e8.trans (e9.trans e10)))
    have e11 := (Same.refl H10).upd1 (o := .lst [.bl true, .ref pc, .ref ps, sv (textL cs ss), sv (textL cs ss), .int ((lv ss cs.length j).length : Nat)]) hl1
    have hl11 : upd H10 l1 (.lst [.bl true, .ref pc, .ref ps, sv (textL cs ss), sv (textL cs ss), .int ((lv ss cs.length j).length : Nat)]) l1 = _ := upd_same
    have e5b := (e6.trans e5a).trans e11
    generalize upd H10 l1 (.lst [.bl true, .ref pc, .ref ps, sv (textL cs ss), sv (textL cs ss), .int ((lv ss cs.length j).length : Nat)]) = H11 at e11 hl11 e5b ⊢
    have hp11 := e5b _ _ hp5
    have hT11 := hT.same e5b
    obtain ⟨dx8, fs8, i8, _⟩ := ins hT11
    refine ⟨_, rfl, p, _, 1, _, rfl, rfl, SqT.of hp11, rfl, _, rfl, p, _, 2, _, rfl, rfl, SqT.of hp11, rfl, _, rfl, _, rfl, _, rfl, tw, dx8, fs8, rfl, i8, tw, cs, ss, rfl, hT11, fun j2 hj2 => ⟨_, rfl, by omega, by have := small j2 hj2; omega, ?_⟩⟩
    have hjj := stop_uniq hj hj2
    subst hjj
    refine ⟨line_le (by show 6 ≤ _; omega), fun l2 hl2 => ?_⟩
    have e12 := (Same.refl H11).upd1 (o := .lst [.bl true, .ref a, .ref b, sv x, sv x, .int ((lv ss cs.length j).length : Nat)]) hl2
    have hl12 : upd H11 l2 (.lst [.bl true, .ref a, .ref b, sv x, sv x, .int ((lv ss cs.length j).length : Nat)]) l2 = _ := upd_same
    have f1 := e12 _ _ hl11
    have f2 := ((hpc.same (e8.trans (e9.trans e10))).same e11).same e12
    have f3 := ((hps.same (e9.trans e10)).same e11).same e12
    have f4 := (hca5.same e5b).same e12
    have f5 := (hsb5.same e5b).same e12
    have e5c := e5b.trans e12
    refine ⟨.ref l1, .ref l2, rfl, .inr (.inr (.inr (.inl ⟨l1, l2, _, _, rfl, rfl, f1, hl12, rfl, by show 6 ≤ _; omega, fun i u v hu hv => ?_⟩))), fun H13 e13 => k _ ((ExtN.of e1).trans (n24.trans (ExtN.of (e5.trans (e5c.trans e13))))) (t2.ext (e4.trans (e5.trans (e5c.trans e13))))⟩
    rcases i with _ | _ | _ | _ | _ | _ | i
    · cases Option.some.inj hu; cases Option.some.inj hv; exact Eqd.bl _
    · cases Option.some.inj hu; cases Option.some.inj hv; exact f2.eqd f4 (by omega)
    · cases Option.some.inj hu; cases Option.some.inj hv; exact f3.eqd f5 (by omega)
    · cases Option.some.inj hu; cases Option.some.inj hv; rw [g1]; exact Eqd.str _
    · cases Option.some.inj hu; cases Option.some.inj hv; rw [g1]; exact Eqd.str _
    · cases Option.some.inj hu; cases Option.some.inj hv; exact Eqd.int _
    · simp at hu
end
end NT
namespace NT
open PySem PySem.Spec PyProof.Rows L2 LamX
open SX (S)
/-- all but the bag's list and the tables stays -/
def XN (a : Addr) (H H' : Hp) : Prop := ∀ b o, b ≠ a → H b = some o → (∀ ps, o ≠ .tbl ps) → H' b = some o
theorem XN.of {a : Addr} {H H' : Hp} (X : SameX a H H') : XN a H H' := fun b o n h _ => X b o n h
theorem XN.ofN {a : Addr} {H H' : Hp} (X : ExtN H H') : XN a H H' := fun b o _ h t => X b o h t
theorem XN.refl (a : Addr) (H : Hp) : XN a H H := fun _ _ _ h _ => h
theorem XN.trans {a : Addr} {H H1 H2 : Hp} (x : XN a H H1) (y : XN a H1 H2) : XN a H H2 := fun b o n h t => y b o n (x b o n h t) t
theorem BagAt.extN {H H' : Hp} {a q : Addr} (h : BagAt H a q) (e : ExtN H H') : BagAt H' a q := by
  obtain ⟨ns, i, d, m, c, h1, h2, h3⟩ := h
  exact ⟨ns, i, d, m, c, e _ _ h1 (fun ps h => nomatch h), e _ _ h2 (fun ps h => nomatch h), h3⟩
theorem CellsAt.xn {H H' : Hp} {a q p : Addr} {cs : List Cell} (h : CellsAt H p cs) (hb : BagAt H a q) (e : XN a H H') : CellsAt H' p cs := by
  obtain ⟨ps, h1, h2, h3⟩ := h
  exact ⟨ps, h1, e _ _ (hb.ne_refs h2) h2 (fun ps h => nomatch h), fun z hz => e _ _ (hb.ne_tup (h3 z hz)) (h3 z hz) (fun ps h => nomatch h)⟩
theorem StrsAt.xn {H H' : Hp} {a q p : Addr} {ss : List (List Nat)} (h : StrsAt H p ss) (hb : BagAt H a q) (e : XN a H H') : StrsAt H' p ss := e _ _ (hb.ne_strs h) h (fun ps h => nomatch h)
theorem codeO_lst {c : Addr} {q : Str} {xs : List V} : CodeO c q ≠ .lst xs := fun z => by unfold CodeO at z; cases z
theorem Tabs.bag {T : List (Addr × Str)} {H H' : Hp} {a q : Addr} (t : Tabs T H) (hb : BagAt H a q) (X : SameX a H H') : Tabs T H' := by
  obtain ⟨ns, i, d, m, c, ha, _⟩ := hb
  intro p hp
  obtain ⟨ps, h1, h2, h3⟩ := t p hp
  refine ⟨ps, X _ _ (fun e => by rw [e, ha] at h1; cases h1) h1, h2, fun pos cv hc => ?_⟩
  obtain ⟨c2, e1, e2⟩ := h3 pos cv hc
  exact ⟨c2, e1, X _ _ (fun e => by rw [e, ha] at e2; exact codeO_lst (Option.some.inj e2).symm) e2⟩
theorem Tabs.updL {T : List (Addr × Str)} {H : Hp} {b : Addr} {xs : List V} {o : HO} (t : Tabs T H) (hb : H b = some (.lst xs)) : Tabs T (upd H b o) := by
  intro p hp
  obtain ⟨ps, h1, h2, h3⟩ := t p hp
  refine ⟨ps, by rw [upd_ne (fun e => by rw [e, hb] at h1; cases h1)]; exact h1, h2, fun pos cv hc => ?_⟩
  obtain ⟨c2, e1, e2⟩ := h3 pos cv hc
  exact ⟨c2, e1, by rw [upd_ne (fun e => by rw [e, hb] at e2; exact codeO_lst (Option.some.inj e2).symm)]; exact e2⟩
theorem XN.mut {a p : Addr} {H H1 : Hp} {o : HO} (x : XN a H H1) (hp : H p = none) : XN a H (upd H1 p o) := fun c u n h t => by rw [upd_ne (ne_of_none h hp)]; exact x c u n h t
theorem asc_app {x y : List Nat} (h1 : asc x) (h2 : asc y) : asc (x ++ y) := fun c hc => (List.mem_append.mp hc).elim (h1 c) (h2 c)
theorem asc_flat {xs : List (List Nat)} (h : ∀ x ∈ xs, asc x) : asc xs.flatten := fun c hc => by
  obtain ⟨x, hx, hc⟩ := List.mem_flatten.mp hc
  exact h x hx c hc
theorem asc_cellLn {c : Cell} (h1 : asc c.1) (h2 : c.2 ≤ 4) : asc (cellLn c) := by
  unfold cellLn
  refine asc_app (by unfold asc; decide) (asc_app (by unfold asc; decide) (asc_app h1 (asc_app (by unfold asc; decide) (asc_app ?_ (by unfold asc; decide)))))
  intro d hd
  rw [List.mem_singleton.mp hd]
  omega
theorem asc_textL {cs : List Cell} {ss : List Row} (h1 : ∀ c ∈ cs, asc c.1) (h2 : okCounts cs) (h3 : ∀ s ∈ ss, asc s) : asc (textL cs ss) := by
  unfold textL
  refine asc_app (asc_flat fun x hx => ?_) (asc_flat fun x hx => ?_)
  · obtain ⟨c, hc, rfl⟩ := List.mem_map.mp hx
    exact asc_cellLn (h1 c hc) (h2 c hc).2
  · obtain ⟨s, hs, rfl⟩ := List.mem_map.mp hx
    unfold seedLn
    exact asc_app (by unfold asc; decide) (asc_app (by unfold asc; decide) (asc_app (h3 s hs) (by unfold asc; decide)))
theorem CellsAt.take {H : Hp} {p u : Addr} {cs : List Cell} (h : CellsAt H p cs) (n : Nat) (hu : ∀ ps : List (Addr × Cell), H p = some (.lst (ps.map fun z => .ref z.1)) → H u = some (.lst ((ps.map fun z => V.ref z.1).take n))) : CellsAt H u (cs.take n) := by
  obtain ⟨ps, h1, h2, h3⟩ := h
  exact ⟨ps.take n, by rw [List.map_take, h1], by rw [hu ps h2, List.map_take], fun z hz => h3 z (List.mem_of_mem_take hz)⟩
def spWide (K : PySem.W.Frag) : Sp := fun vs H Q _ => ∃ a q : Addr, vs = [.ref a] ∧ BagAt H a q ∧ Tabs (tabsT K) H ∧ ∀ H', XN a H H' → BagAt H' a q → Tabs (tabsT K) H' → Q (.bl true) H'
section
variable {P : Program} {w : World} {K : PySem.W.Frag} {mg : Str → Option Value} {base : Heap}
abbrev N__law_wide_texts_so : List Str := ["_law_bag_here", "_law_full", "_law_k", "_law_asked", "_law_frame_here", "_law_first", "_law_number", "_law_wide", "_law_most", "_law_pair", "_law_text_here"]
theorem sc__law_wide_texts_so : FnScope N__law_wide_texts_so ["_law_bag_here"] (defScope s__law_wide_texts_so) := ⟨rfl, rfl, rfl, by decide +kernel, rfl, by decide +kernel, by decide +kernel⟩
theorem cl__law_wide_texts_so (X : Tx K mg base) : Cl P w K mg base CX0 11 "_law_wide_texts_so" (spWide K) [] := by
  have T := X.T
  refine cl0 T.d__law_wide_texts_so sc__law_wide_texts_so (fun _ _ _ _ _ _ us hl => match us, hl with | [_], _ => rfl) (fun vs H Q E h => by obtain ⟨_, _, rfl, _⟩ := h; rfl) fun f cdv A outer s H vs Q E hr h => ?_
  obtain ⟨a, q, rfl, hb, ht, k⟩ := h
  refine ⟨_, (pss_cons (ps_par (i := 4) (j := 5) (by rfl) sc__law_wide_texts_so.nd rfl rfl (by decide) rfl rfl (pa_cons (pe_lc (own := [("_law_pair", 9)]) rfl sc__law_wide_texts_so.nd (pi_listK (K := K) rfl (pe_cl (cl__law_frame T) hr (by decide) (by rfl) (pa_cons (pv 0) (pa_cons pe_int (pa_cons pe_int pa_nil))))) (blkOk_by (N := N__law_wide_texts_so) (sc := defScope s__law_wide_texts_so) (by decide +kernel)) (fun _ _ _ _ _ => pg_name (i := 9) sc__law_wide_texts_so.nd rfl (Or.inl rfl)) (fun _ _ _ _ _ => pts_nil) (fun _ _ _ _ _ => (pe_tup (pa_cons (pe_ix (ix_tupK (K := K) rfl) (pv 9) pe_int (fun _ _ => rfl)) (pa_cons pe_int pa_nil))))) (pa_cons (pe_cl (cl__law_draw T) hr (by decide) (by rfl) (pa_cons (pv 0) (pa_cons pe_int pa_nil))) pa_nil)) (by rfl))
    (pss_cons (ps_set (i := 1) sc__law_wide_texts_so.nd rfl (Or.inl rfl) (pe_lst pa_nil))
    (pss_cons (ps_for PassesOwn.never rfl (pi_range1 (by rfl) T.f_range (pa_cons pe_int pa_nil)) (pg_name (i := 2) sc__law_wide_texts_so.nd rfl (Or.inl rfl))
    (pss_cons (ps_set (i := 6) sc__law_wide_texts_so.nd rfl (Or.inl rfl) (pe_op op_mod (pe_callTy call_int1 (by rfl) T.f_int (by decide +kernel) (pa_cons (pe_op op_add (pv 5) (pe_op op_mul pe_int (pv 2))) pa_nil)) pe_int))
    (pss_one (ps_expr (pe_appK (K := K) rfl (pv 1) (pa_cons (pe_op op_add_str (pe_op op_add_str (pe_callTy call_str_int (by rfl) T.f_str (by decide +kernel) (pa_cons (pe_op op_fdiv (pv 6) pe_int) pa_nil)) (pe_callTy call_str_int (by rfl) T.f_str (by decide +kernel) (pa_cons (pe_op op_mod (pe_callTy call_int1 (by rfl) T.f_int (by decide +kernel) (pa_cons (pe_op op_fdiv (pv 6) pe_int) pa_nil)) pe_int) pa_nil))) (pe_callTy call_str_int (by rfl) T.f_str (by decide +kernel) (pa_cons (pe_op op_mod (pe_callTy call_int1 (by rfl) T.f_int (by decide +kernel) (pa_cons (pv 6) pa_nil)) pe_int) pa_nil))) pa_nil))))))
    (pss_cons (ps_par (i := 7) (j := 8) (by rfl) sc__law_wide_texts_so.nd rfl rfl (by decide) rfl rfl (pa_cons (pe_cl (cl__law_frame T) hr (by decide) (by rfl) (pa_cons (pv 0) (pa_cons pe_int (pa_cons pe_int pa_nil)))) (pa_cons (pe_op op_mulS pe_str pe_int) pa_nil)) (by rfl))
    (pss_cons (ps_set (i := 3) sc__law_wide_texts_so.nd rfl (Or.inl rfl) (pe_lst (pa_cons (pe_cl (cl__law_text T) hr (by decide) (by rfl) (pa_cons (pv 4) (pa_cons (pe_slice (sl_listK (K := K) rfl) (pv 1) po_none (po_some pe_int)) pa_nil))) (pa_cons (pe_cl (cl__law_text T) hr (by decide) (by rfl) (pa_cons (pv 4) (pa_cons (pv 1) pa_nil))) (pa_cons (pe_cl (cl__law_text T) hr (by decide) (by rfl) (pa_cons (pv 7) (pa_cons (pe_lst (pa_cons (pv 8) pa_nil)) pa_nil))) (pa_cons (pe_cl (cl__law_text T) hr (by decide) (by rfl) (pa_cons (pe_slice (sl_listK (K := K) rfl) (pv 7) po_none (po_some pe_int)) (pa_cons (pe_lst (pa_cons (pe_slice C8.sl_txt (pv 8) po_none (po_some pe_int)) pa_nil)) pa_nil))) pa_nil))))))
    (pss_one (ps_ret (pe_callB (cr_allK (K := K) rfl rfl) (by rfl) T.f_all (by decide +kernel) (pa_cons (pe_lc (own := [("_law_text_here", 10)]) rfl sc__law_wide_texts_so.nd (pi_listK (K := K) rfl (pv 3)) (blkOk_by (N := N__law_wide_texts_so) (sc := defScope s__law_wide_texts_so) (by decide +kernel)) (fun _ _ _ _ _ => pg_name (i := 10) sc__law_wide_texts_so.nd rfl (Or.inl rfl)) (fun _ _ _ _ _ => pts_nil) (fun _ _ _ _ _ => (pe_cl (cl__law_text_so X) hr (by decide) (by rfl) (pa_cons (pv 10) pa_nil)))) pa_nil))))))))), ?_⟩
  refine ⟨_, rfl, a, q, 3, 1, rfl, hb, by decide, by decide, by decide, fun H1 p1 cs1 X1 B1 hp1 hc1 hn1 g1 _ => ?_⟩
  obtain ⟨ps, hps, hp1', hpt⟩ := id hc1
  have hpl : ps.length = 3 := by rw [← hn1, ← hps, List.length_map]
  refine ⟨p1, rfl, ⟨_, SqL.of hp1'⟩, fun D hD => ?_⟩
  have wl := walk_list (K := K) (a := p1) (xs := ps.map fun z => .ref z.1)
  refine lc_it wl (fun i H' => Same H1 H' ∧ CellsAt H' D ((cs1.take i).map fun c => (c.1, (4 : Int)))) ⟨(Same.refl H1).upd1 hD, [], rfl, upd_same, fun z hz => nomatch hz⟩ (fun i H' _ h => SqL.of (h.1 _ _ hp1')) ?_ ?_
  · rintro i v H2 H3 hi ⟨e2, hc2⟩ ⟨rfl, hv⟩
    rw [List.getElem?_map] at hv
    obtain ⟨⟨t, nm, m⟩, hz, rfl⟩ := Option.map_eq_some_iff.mp hv
    have hm : (t, nm, m) ∈ ps := List.mem_of_getElem? hz
    have hci : cs1[i]? = some (nm, m) := by rw [← hps, List.getElem?_map, hz]; rfl
    refine gv_name _ ⟨rfl, evT_yes _ fun H4 e4 => iteT ?_⟩
    have ht4 := (e2.trans e4) _ _ (hpt _ hm)
    refine ⟨_, rfl, t, _, 0, _, rfl, rfl, SqT.of ht4, rfl, line_le (by show 2 ≤ _; omega), fun r hr => ?_⟩
    have e5 := (Same.refl H4).upd1 (o := .tup [sv nm, .int 4]) hr
    obtain ⟨xs, hb2, hlen, hc5⟩ := ((hc2.same e4).same e5).snoc (c := (nm, 4)) (p := r) upd_same
    refine ⟨xs, hb2, line_lt ?_, ((e2.trans e4).trans e5).mut1 hD, ?_⟩
    · rw [hlen, List.length_map, List.length_take]; omega
    · rw [take_snoc hci, List.map_append]
      exact hc5
  rintro H2 ⟨e2, hc2⟩
  rw [List.length_map, hpl, List.take_of_length_le (by omega)] at hc2
  have B2 := B1.same e2
  refine ⟨_, rfl, a, q, 64, rfl, B2, by decide, by decide, fun H3 r X3 B3 hr3 => ?_⟩
  refine ⟨_, _, rfl, by decide, fun fl hfl => ?_⟩
  have X03 := (X1.trans (SameX.of e2)).trans X3
  have hc3 := hc2.bag B2 X3
  have hDf : D ≠ fl := fun e => by obtain ⟨_, _, h, _⟩ := hc3; rw [e, hfl] at h; cases h
  have e4 := (Same.refl H3).upd1 (o := .lst []) hfl
  have hfl4 : StrsAt (upd H3 fl (.lst [])) fl [] := upd_same
  have hc4 := hc3.same e4
  have B4 := B3.same e4
  show Ends.nx _ _ (upd H3 fl (.lst []))
  generalize upd H3 fl (.lst []) = H4 at e4 hfl4 hc4 B4 ⊢
  have X04 := X03.trans (SameX.of e4)
  refine ⟨_, rfl, by decide, by decide, ?_⟩
  refine for_it (walk_range (lo := 0) (n := (31 : Int).toNat)) (fun i σ H' => ∃ (o2 o6 : Option V) (l : List Row), σ = [some (.ref a), some (.ref fl), o2, none, some (.ref D), some (.int (r : Nat)), o6, none, none, none, none] ∧ Same H3 H' ∧ CellsAt H' D (cs1.map fun c => (c.1, (4 : Int))) ∧ BagAt H' a q ∧ StrsAt H' fl l ∧ l.length = i ∧ ∀ s ∈ l, s.length = 3 ∧ asc s) ?_ (fun _ _ _ _ _ => True.intro) ?_ ?_
  · exact ⟨_, _, [], rfl, e4, hc4, B4, hfl4, rfl, fun _ h => nomatch h⟩
  · rintro i v σ H5 H6 hi ⟨o2, o6, l, rfl, e5, hc5, B5, hfl5, hll, hlg⟩ ⟨rfl, rfl⟩
    refine ⟨_, rfl, _, rfl, _, _, rfl, rfl, .inl ⟨by decide, by decide⟩, _, _, rfl, rfl, .inl ⟨_, rfl, _, _, rfl, rfl, (by show (0 : Int) < 64; decide), ?_⟩⟩
    obtain ⟨n, hn, hn2⟩ : ∃ n : Nat, ((r : Int) + 5 * (0 + (i : Nat))) % 64 = (n : Int) ∧ n < 64 := ⟨(((r : Int) + 5 * (0 + (i : Nat))) % 64).toNat, by omega, by omega⟩
    dsimp only
    rw [hn]
    have q1 : ((n : Int) / 16) = ((n / 16 : Nat) : Int) := by omega
    have q2 : ((n : Int) / 4) % 4 = ((n / 4 % 4 : Nat) : Int) := by omega
    have q3 : (n : Int) % 4 = ((n % 4 : Nat) : Int) := by omega
    have z1 := num_digit (r := n / 16) (by omega)
    have z2 := num_digit (r := n / 4 % 4) (by omega)
    have z3 := num_digit (r := n % 4) (by omega)
    rw [← q1] at z1
    rw [← q2] at z2
    rw [← q3] at z3
    refine ⟨_, rfl, tyL hfl5, _, rfl, _, _, rfl, rfl, ⟨by decide, by decide⟩, _, rfl, log_small (by omega) (by omega), _, rfl, _, _, rfl, rfl, ⟨by decide, by decide⟩, .inl ⟨_, rfl, _, _, rfl, rfl, (by show (0 : Int) < 4; decide), _, rfl, log_small (by omega) (by omega), _, _, rfl, rfl, ?_, ?_⟩⟩
    · rw [z1, z2, SX.S_len, SX.S_len]; exact line_le (by show 1 + 1 ≤ _; omega)
    rw [z1, z2, SX.S_cat]
    refine ⟨_, rfl, .inl ⟨_, rfl, _, _, rfl, rfl, (by show (0 : Int) < 4; decide), _, rfl, log_small (by omega) (by omega), _, _, rfl, rfl, ?_, ?_⟩⟩
    · rw [z3, SX.S_len, SX.S_len]; exact line_le (by show 2 + 1 ≤ _; omega)
    rw [z3, SX.S_cat]
    refine ⟨fl, _, _, rfl, rfl, hfl5, line_lt (by rw [List.length_map]; omega), _, _, l ++ [([48 + n / 16] ++ [48 + n / 4 % 4]) ++ [48 + n % 4]], rfl, e5.mut1 hfl, ?_, ?_, ?_, by simp [hll], ?_⟩
    · exact hc5.updL hfl5 hDf
    · exact B3.mut hfl B5
    · show upd _ _ _ _ = _
      rw [upd_same, List.map_append]; rfl
    · intro s hs
      rcases List.mem_append.mp hs with h | h
      · exact hlg s h
      · rw [List.mem_singleton.mp h]
        refine ⟨rfl, fun c hc => ?_⟩
        simp only [List.cons_append, List.nil_append, List.mem_cons, List.not_mem_nil, or_false] at hc
        rcases hc with h | h | h <;> omega
  · rintro _ H5 ⟨o2, o6, l, rfl, e5, hc5, B5, hfl5, hll, hlg⟩
    have hll : l.length = 31 := hll
    have gg : goodCells (cs1.map fun c => (c.1, (4 : Int))) := fun c hc => by
      obtain ⟨d, hd, rfl⟩ := List.mem_map.mp hc
      exact ⟨(g1 d hd).1, by show (1 : Int) ≤ 4; decide, by show (4 : Int) ≤ 4; decide⟩
    generalize hcsD : cs1.map (fun c => (c.1, (4 : Int))) = csD at gg hc5
    have hnD : csD.length = 3 := by rw [← hcsD, List.length_map, hn1]
    have X05 := X03.trans (SameX.of e5)
    have okD : okCounts csD := fun z hz => (gg z hz).2
    have acD : ∀ c ∈ csD, asc c.1 := fun c hc => nameB_asc (gg c hc).1
    have nmD : ∀ c ∈ csD, c.1.length ≤ 6 := fun c hc => (nameB_len (gg c hc).1).2
    refine ⟨_, rfl, a, q, 13, 4, rfl, B5, by decide, by decide, by decide, fun H6 p6 cs6 X6 B6 hp6 hc6 hn6 g6 nd6 => ⟨48, 13, rfl, rfl, by decide, by decide, _, _, rfl, ?_⟩⟩
    rw [show Int.toNat 13 = 13 from rfl]
    have ok6 : okCounts cs6 := fun z hz => (g6 z hz).2
    have ac6 : ∀ c ∈ cs6, asc c.1 := fun c hc => nameB_asc (g6 c hc).1
    have nm6 : ∀ c ∈ cs6, c.1.length ≤ 6 := fun c hc => (nameB_len (g6 c hc).1).2
    have X06 := X05.trans X6
    have hcD6 := hc5.bag B5 X6
    have hfl6 := hfl5.bag B5 X6
    refine ⟨_, rfl, _, rfl, _, rfl, fl, _, rfl, SqL.of hfl6, fun u1 hu1 => ?_⟩
    have e7 := (Same.refl H6).upd1 (o := .lst (cutV (l.map sv) none (some 30))) hu1
    have hu7 : StrsAt (upd H6 u1 (.lst (cutV (l.map sv) none (some 30)))) u1 (l.take 30) := by
      show upd _ _ _ _ = _
      rw [upd_same, show (some (30 : Int)) = some ((30 : Nat) : Int) from rfl, cut_to', List.map_take]
    generalize upd H6 u1 (.lst (cutV (l.map sv) none (some 30))) = H7 at e7 hu7 ⊢
    have sm1 : smallB csD (l.take 30) := ⟨by omega, by rw [List.length_take]; omega, nmD, fun s hs => by rw [(hlg s (List.mem_of_mem_take hs)).1]; decide⟩
    refine ⟨D, u1, csD, l.take 30, rfl, hcD6.same e7, hu7, okD, sm1, fun H8 e8 => ?_⟩
    have e68 := e7.trans e8
    have sm2 : smallB csD l := ⟨by omega, by omega, nmD, fun s hs => by rw [(hlg s hs).1]; decide⟩
    refine ⟨_, rfl, _, rfl, D, fl, csD, l, rfl, hcD6.same e68, hfl6.same e68, okD, sm2, fun H9 e9 => ?_⟩
    have e69 := e68.trans e9
    refine ⟨_, rfl, _, rfl, line_le (by show 1 ≤ _; omega), fun u2 hu2 => ?_⟩
    have e10 := e69.upd1 (o := .lst [sv (List.replicate 13 48)]) hu2
    have hu10 : StrsAt (upd H9 u2 (.lst [sv (List.replicate 13 48)])) u2 [List.replicate 13 48] := upd_same
    generalize upd H9 u2 (.lst [sv (List.replicate 13 48)]) = H10 at e10 hu10 ⊢
    have sm3 : smallB cs6 [List.replicate 13 48] := ⟨by omega, by decide, nm6, fun s hs => by rw [List.mem_singleton.mp hs]; decide⟩
    refine ⟨p6, u2, cs6, _, rfl, hc6.same e10, hu10, ok6, sm3, fun H11 e11 => ?_⟩
    have e611 := e10.trans e11
    obtain ⟨qs, hqs, hp11, hqt⟩ := id (hc6.same e611)
    refine ⟨_, rfl, _, rfl, p6, _, rfl, SqL.of hp11, fun u3 hu3 => ?_⟩
    have e12 := e611.upd1 (o := .lst (cutV (qs.map fun z => .ref z.1) none (some 12))) hu3
    have hu12 : upd H11 u3 (.lst (cutV (qs.map fun z => .ref z.1) none (some 12))) u3 = some (.lst ((qs.map fun z => V.ref z.1).take 12)) := by
      rw [upd_same, show (some (12 : Int)) = some ((12 : Nat) : Int) from rfl, cut_to']
    have hq12 : ∀ z ∈ qs.take 12, upd H11 u3 (.lst (cutV (qs.map fun z => .ref z.1) none (some 12))) z.1 = some (.tup [sv z.2.1, .int z.2.2]) := fun z hz => ((Same.refl H11).upd1 hu3) _ _ (hqt z (List.mem_of_mem_take hz))
    generalize upd H11 u3 (.lst (cutV (qs.map fun z => .ref z.1) none (some 12))) = H12 at e12 hu12 hq12 ⊢
    have hc12 : CellsAt H12 u3 (cs6.take 12) := ⟨qs.take 12, by rw [List.map_take, hqs], by rw [hu12, List.map_take], hq12⟩
    refine ⟨_, rfl, _, rfl, _, rfl, line_le (by rw [SX.S_len, List.length_replicate]; decide), line_le (by show 1 ≤ _; omega), fun u4 hu4 => ?_⟩
    rw [show Txt.slice (S (List.replicate 13 48)) none (some 12) = S (List.replicate 12 48) from by rw [SX.slice_to (by decide)]; rfl]
    have e13 := e12.upd1 (o := .lst [sv (List.replicate 12 48)]) hu4
    have hu13 : StrsAt (upd H12 u4 (.lst [sv (List.replicate 12 48)])) u4 [List.replicate 12 48] := upd_same
    have hc13 := hc12.same ((Same.refl H12).upd1 (o := .lst [sv (List.replicate 12 48)]) hu4)
    generalize upd H12 u4 (.lst [sv (List.replicate 12 48)]) = H13 at e13 hu13 hc13 ⊢
    have ok12 : okCounts (cs6.take 12) := fun z hz => ok6 z (List.mem_of_mem_take hz)
    have sm4 : smallB (cs6.take 12) [List.replicate 12 48] := ⟨by rw [List.length_take]; omega, by decide, fun c hc => nm6 c (List.mem_of_mem_take hc), fun s hs => by rw [List.mem_singleton.mp hs]; decide⟩
    refine ⟨u3, u4, cs6.take 12, _, rfl, hc13, hu13, ok12, sm4, fun H14 e14 => ⟨line_le (by show 4 ≤ _; omega), fun la hla => ?_⟩⟩
    have e615 := (e13.trans e14)
    have asr : asc (List.replicate 13 48) ∧ asc (List.replicate 12 48) := by unfold asc; decide
    obtain ⟨ts, hts, htg, htn⟩ : ∃ ts : List (List Nat), [sv (textL csD (l.take 30)), sv (textL csD l), sv (textL cs6 [List.replicate 13 48]), sv (textL (cs6.take 12) [List.replicate 12 48])] = ts.map sv ∧ (∀ t ∈ ts, t.length ≤ 900000 ∧ asc t) ∧ ts.length = 4 := by
      refine ⟨[_, _, _, _], rfl, fun t htt => ?_, rfl⟩
      simp only [List.mem_cons, List.not_mem_nil, or_false] at htt
      rcases htt with h | h | h | h <;> subst h
      · exact ⟨Nat.le_trans (textL_len sm1) (by decide), asc_textL acD okD fun s hs => (hlg s (List.mem_of_mem_take hs)).2⟩
      · exact ⟨Nat.le_trans (textL_len sm2) (by decide), asc_textL acD okD fun s hs => (hlg s hs).2⟩
      · exact ⟨Nat.le_trans (textL_len sm3) (by decide), asc_textL ac6 ok6 fun s hs => by rw [List.mem_singleton.mp hs]; exact asr.1⟩
      · exact ⟨Nat.le_trans (textL_len sm4) (by decide), asc_textL (fun c hc => ac6 c (List.mem_of_mem_take hc)) ok12 fun s hs => by rw [List.mem_singleton.mp hs]; exact asr.2⟩
    rw [hts]
    have e16 := e615.upd1 (o := .lst (ts.map sv)) hla
    have hla16 : StrsAt (upd H14 la (.lst (ts.map sv))) la ts := upd_same
    show Ends.nx _ _ (upd H14 la (.lst (ts.map sv)))
    generalize upd H14 la (.lst (ts.map sv)) = H15 at e16 hla16 ⊢
    have B15 := B6.same e16
    have X015 := X06.trans (SameX.of e16)
    have t15 := NT.Tabs.bag ht hb X015
    refine ⟨_, rfl, la, rfl, ⟨_, SqL.of hla16⟩, fun D2 hD2 => ?_⟩
    have wl2 := walk_list (K := K) (a := la) (xs := ts.map sv)
    have eD := (Same.refl H15).upd1 (o := .lst []) hD2
    have XD := SameX.of (x := a) eD
    refine lc_it wl2 (fun i H' => XN a H15 H' ∧ BagAt H' a q ∧ Tabs (tabsT K) H' ∧ H' la = some (.lst (ts.map sv)) ∧ H' D2 = some (.lst ((List.replicate i true).map V.bl))) ⟨XN.of XD, B15.same eD, LamX.Tabs.ext t15 eD, eD _ _ hla16, upd_same⟩ (fun i H' _ h => SqL.of h.2.2.2.1) ?_ ?_
    · rintro i v H16 H17 hi ⟨x16, B16, t16, l16, d16⟩ ⟨rfl, hv⟩
      rw [List.getElem?_map] at hv
      obtain ⟨t, htt, rfl⟩ := Option.map_eq_some_iff.mp hv
      obtain ⟨g1, g2⟩ := htg t (List.mem_of_getElem? htt)
      refine gv_name _ ⟨rfl, evT_yes _ fun H18 e18 => iteT ?_⟩
      refine ⟨_, rfl, t, rfl, g1, g2, LamX.Tabs.ext t16 e18, fun H19 n19 t19 => ?_⟩
      have n := (ExtN.of e18).trans n19
      have d19 := n _ _ d16 (fun ps h => nomatch h)
      have B19 := B16.extN n
      refine ⟨_, d19, line_lt (by rw [List.length_map, List.length_replicate]; rw [List.length_map] at hi; omega), ?_⟩
      refine ⟨(x16.trans (XN.ofN n)).mut hD2, B15.mut hD2 B19, Tabs.updL t19 d19, ?_, ?_⟩
      · rw [upd_ne (ne_of_none hla16 hD2)]
        exact n _ _ l16 (fun ps h => nomatch h)
      · rw [upd_same, List.replicate_succ', List.map_append]; rfl
    · rintro H16 ⟨x16, B16, t16, l16, d16⟩
      rw [List.length_map, htn] at d16
      refine ⟨D2, _, rfl, SqL.of d16, ?_⟩
      exact k _ ((XN.of X015).trans x16) B16 t16
end
end NT
namespace NT
open PySem PySem.Spec PyProof.Rows L2 LamX
open SX (S)
theorem big_mono {ss : List Row} {n : Nat} (h : ¬ TooBig ss n 40) : ¬ TooBig ss n 800 := by
  have h40 : (lv ss n 40).length ≤ 40 := by
    by_cases q : (lv ss n 40).length ≤ 40
    · exact q
    · exact absurd ⟨40, Nat.le_refl _, by omega⟩ h
  exact not_big h40 (by omega)
theorem Fs.xn {H H' : Hp} {a q p u : Addr} {cs : List Cell} {ss : List Row} (h : Fs H a q p u cs ss) (X : XN a H H') (B : BagAt H' a q) : Fs H' a q p u cs ss :=
  ⟨B, h.hc.xn h.hb X, h.hg, h.n1, h.n2, h.hs.xn h.hb X, h.m1, h.m2, h.hr⟩
/-- a Band's cells and seeds -/
def BandT (K : PySem.W.Frag) (H : Hp) (x : Addr) (cs : List Cell) (ss : List Row) : Prop := ∃ (dx p q r d l : Addr),
  H x = some (.ins (cB K) dx [("cell_list", .ref p), ("seed_list", .ref q), ("row_list", .ref r), ("known_rows", .ref d), ("lot_list", .ref l)]) ∧ CellsAt H p cs ∧ StrsAt H q ss
theorem BandAt.t {K : PySem.W.Frag} {H : Hp} {x : Addr} {cs : List Cell} {ss : List Row} (h : BandAt K H x cs ss) : BandT K H x cs ss := by
  obtain ⟨dx, p, q, r, d, l, rows, j, h1, h2, h3, _⟩ := h
  exact ⟨dx, p, q, r, d, l, h1, h2, h3⟩
theorem BandT.xn {K : PySem.W.Frag} {H H' : Hp} {a q x : Addr} {cs : List Cell} {ss : List Row} (h : BandT K H x cs ss) (hb : BagAt H a q) (e : XN a H H') : BandT K H' x cs ss := by
  obtain ⟨dx, p, q', r, d, l, h1, h2, h3⟩ := h
  obtain ⟨ns, i, dd, m, c, ha, _⟩ := id hb
  exact ⟨dx, p, q', r, d, l, e _ _ (fun z => by rw [z, ha] at h1; cases h1) h1 (fun ps h => nomatch h), h2.xn hb e, h3.xn hb e⟩
theorem BandT.same {K : PySem.W.Frag} {H H' : Hp} {x : Addr} {cs : List Cell} {ss : List Row} (h : BandT K H x cs ss) (e : Same H H') : BandT K H' x cs ss := by
  obtain ⟨dx, p, q', r, d, l, h1, h2, h3⟩ := h
  exact ⟨dx, p, q', r, d, l, e _ _ h1, h2.same e, h3.same e⟩
theorem BandT.extN {K : PySem.W.Frag} {H H' : Hp} {x : Addr} {cs : List Cell} {ss : List Row} (h : BandT K H x cs ss) (e : ExtN H H') : BandT K H' x cs ss := by
  obtain ⟨dx, p, q', r, d, l, h1, h2, h3⟩ := h
  exact ⟨dx, p, q', r, d, l, e _ _ h1 (fun ps h => nomatch h), h2.extN e, h3.extN e⟩
def spBText2 (K : PySem.W.Frag) : Sp := fun vs H Q _ => ∃ (x : Addr) (cs : List Cell) (ss : List Row), vs = [.ref x] ∧ BandT K H x cs ss ∧ okCounts cs ∧ smallB cs ss ∧ ∀ H', Same H H' → Q (sv (textL cs ss)) H'
section
variable {P : Program} {w : World} {K : PySem.W.Frag} {mg : Str → Option Value} {base : Heap}
theorem cm_Band_text2 (T : Txt K mg) : C8.Met P w K mg base 1 (cB K) "text" (spBText2 K) [] := by
  refine met0 T T.m_Band_text T.d_Band_text sc_Band_text (fun _ _ _ _ _ _ us hl => match us, hl with | [_], _ => rfl) (fun vs H Q E h => by obtain ⟨_, _, _, rfl, _⟩ := h; rfl) fun cdv A outer s H vs Q E hr h => ?_
  obtain ⟨x, cs, ss, rfl, hB, ok, sm, k⟩ := h
  obtain ⟨dx, p, q, r, d, l, hx, hc, hs⟩ := hB
  obtain ⟨ps, rfl, hp, hpt⟩ := hc
  have hb := textL_len sm
  obtain ⟨m1, m2, m3, m4⟩ := sm
  rw [List.length_map] at m1
  refine ⟨_, (pss_cons (ps_setLc (i := 1) (own := [("cell", 3)]) rfl sc_Band_text.nd rfl rfl (sw_true rfl rfl rfl (by decide +kernel)) (pi_listK (K := K) rfl (pe_fldK (K := K) rfl (pv 0))) (blkOk_by (N := N_Band_text) (sc := defScope s_Band_text) (by decide +kernel)) (fun _ _ _ _ _ => pg_name (i := 3) sc_Band_text.nd rfl (Or.inl rfl)) (fun _ _ _ _ _ => pts_nil) (fun _ _ _ _ _ => (pe_joinedT (PJ.cons pe_str (PJ.cons (pe_fmt (pe_ix (ix_tupK (K := K) rfl) (pv 3) pe_int (fun _ _ => rfl))) (PJ.cons pe_str (PJ.cons (pe_fmt (pe_ix (ix_tupK (K := K) rfl) (pv 3) pe_int (fun _ _ => rfl))) (PJ.cons pe_str PJ.nil))))))))
    (pss_cons (ps_setLc (i := 2) (own := [("seed", 4)]) rfl sc_Band_text.nd rfl rfl (sw_true rfl rfl rfl (by decide +kernel)) (pi_listK (K := K) rfl (pe_fldK (K := K) rfl (pv 0))) (blkOk_by (N := N_Band_text) (sc := defScope s_Band_text) (by decide +kernel)) (fun _ _ _ _ _ => pg_name (i := 4) sc_Band_text.nd rfl (Or.inl rfl)) (fun _ _ _ _ _ => pts_nil) (fun _ _ _ _ _ => (pe_joinedT (PJ.cons pe_str (PJ.cons (pe_fmt (pv 4)) (PJ.cons pe_str PJ.nil))))))
    (pss_one (ps_ret (pe_joinK (K := K) rfl pe_str (pe_op op_cat (pv 1) (pv 2))))))), ?_⟩
  refine ⟨_, rfl, x, cB K, dx, _, _, rfl, hx, T.c_Band, T.n_cell_list, rfl, p, rfl, ⟨_, SqL.of hp⟩, fun D hD => ?_⟩
  refine lc_lst hD ps (fun z => .ref z.1) (SqL.of hp) (fun _ => true) (fun z => sv (cellLn z.2)) (by omega) ?_ ?_
  · intro z H1 hz e
    obtain ⟨t, nm, i⟩ := z
    obtain ⟨k1, k2⟩ : 1 ≤ i ∧ i ≤ 4 := ok _ (List.mem_map.mpr ⟨_, hz, rfl⟩)
    have hnm : nm.length ≤ 6 := m3 _ (List.mem_map.mpr ⟨_, hz, rfl⟩)
    refine ⟨_, gv_name, rfl, evT_yes, fun H2 e2 _ Q q => ?_⟩
    have ht := e2 _ _ (e _ _ (hpt _ hz))
    refine ⟨S [99, 101, 108, 108, 32], rfl, line_le (by decide), ?_⟩
    rw [show (Str.empty ++ S [99, 101, 108, 108, 32]) = S [99, 101, 108, 108, 32] from rfl]
    refine ⟨_, rfl, t, _, 0, _, rfl, rfl, SqT.of ht, rfl, .inl ⟨S nm, rfl, line_le (by rw [SX.S_len]; omega), S nm, rfl, line_le (by rw [SX.S_cat, SX.S_len]; simp; omega), ?_⟩⟩
    rw [SX.S_cat]
    refine ⟨S [32], rfl, line_le (by rw [SX.S_cat, SX.S_len]; simp; omega), ?_⟩
    rw [SX.S_cat]
    refine ⟨_, rfl, t, _, 1, _, rfl, rfl, SqT.of ht, rfl, .inr ⟨i, rfl, log_small (by omega) k2, S [48 + i.toNat], congrArg V.str (num_one k1 k2), line_le (by rw [SX.S_cat, SX.S_len]; simp; omega), ?_⟩⟩
    rw [SX.S_cat]
    refine ⟨S [10], rfl, line_le (by rw [SX.S_cat, SX.S_len]; simp; omega), ?_⟩
    rw [SX.S_cat]
    have e9 : ((([99, 101, 108, 108, 32] ++ nm) ++ [32]) ++ [48 + i.toNat]) ++ [10] = cellLn (nm, i) := by unfold cellLn; simp
    rw [e9]
    exact q _ (Same.refl _)
  intro H1 e1 hD1
  rw [filter_all] at hD1
  refine ⟨_, rfl, x, cB K, dx, _, _, rfl, e1 _ _ hx, T.c_Band, T.n_seed_list, rfl, q, rfl, ⟨_, e1.seq (SqL.of hs)⟩, fun D2 hD2 => ?_⟩
  refine lc_lst hD2 ss sv (e1.seq (SqL.of hs)) (fun _ => true) (fun s => sv (seedLn s)) (by omega) ?_ ?_
  · intro y H2 hy e2
    refine ⟨_, gv_name, rfl, evT_yes, fun H3 e3 _ Q q => ?_⟩
    have hyl := m4 y hy
    refine ⟨S [115, 101, 101, 100, 32], rfl, line_le (by decide), ?_⟩
    rw [show (Str.empty ++ S [115, 101, 101, 100, 32]) = S [115, 101, 101, 100, 32] from rfl]
    refine ⟨_, rfl, .inl ⟨S y, rfl, line_le (by rw [SX.S_len]; omega), S y, rfl, line_le (by rw [SX.S_cat, SX.S_len]; simp; omega), ?_⟩⟩
    rw [SX.S_cat]
    refine ⟨S [10], rfl, line_le (by rw [SX.S_cat, SX.S_len]; simp; omega), ?_⟩
    rw [SX.S_cat]
    have e9 : ([115, 101, 101, 100, 32] ++ y) ++ [10] = seedLn y := by unfold seedLn; simp
    rw [e9]
    exact q _ (Same.refl _)
  intro H2 e2 hD2'
  rw [filter_all] at hD2'
  have hD1' := e2 _ _ hD1
  refine ⟨⟨_, rfl⟩, _, rfl, _, rfl, D, D2, _, _, rfl, rfl, hD1', hD2', line_le (by rw [List.length_map, List.length_map]; omega), fun p3 hp3 => ?_⟩
  have hl : upd H2 p3 (.lst (ps.map (fun z => sv (cellLn z.2)) ++ ss.map fun s => sv (seedLn s))) p3 = some (.lst (((((ps.map (·.2)).map cellLn) ++ ss.map seedLn).map S).map V.str)) := by
    rw [upd_same, map_S_V, List.map_append, List.map_map, List.map_map, List.map_map]; rfl
  have hfl : ((((ps.map (·.2)).map cellLn) ++ ss.map seedLn)).flatten = textL (ps.map (·.2)) ss := by rw [List.flatten_append]; rfl
  refine ⟨S [], p3, _, rfl, rfl, .inl (SqL.of hl), ?_, ?_⟩
  · rw [lens_sum, hfl]
    show _ + _ * 0 ≤ _
    omega
  · rw [join_nil, hfl]
    exact k _ ((e1.trans e2).upd1 hp3)
end
/-- what Band.read is handed that is no text -/
def Th (K : PySem.W.Frag) (H : Hp) (a : Addr) (v : V) : Prop := v = .non ∨ (∃ b, v = .bl b) ∨ (∃ i, v = .int i) ∨ ∃ p, v = .ref p ∧ p ≠ a ∧ ((∃ xs, H p = some (.lst xs)) ∨ (∃ xs, H p = some (.tup xs)) ∨ (∃ kvs, H p = some (.dK kvs)) ∨ ∃ dx fs, H p = some (.ins (cB K) dx fs))
theorem Th.xn {K : PySem.W.Frag} {H H' : Hp} {a : Addr} {v : V} (h : Th K H a v) (X : XN a H H') : Th K H' a v := by
  rcases h with h | h | h | ⟨p, h1, h2, h⟩
  · exact .inl h
  · exact .inr (.inl h)
  · exact .inr (.inr (.inl h))
  · refine .inr (.inr (.inr ⟨p, h1, h2, ?_⟩))
    rcases h with ⟨xs, h⟩ | ⟨xs, h⟩ | ⟨xs, h⟩ | ⟨dx, fs, h⟩
    · exact .inl ⟨xs, X _ _ h2 h (fun ps h => nomatch h)⟩
    · exact .inr (.inl ⟨xs, X _ _ h2 h (fun ps h => nomatch h)⟩)
    · exact .inr (.inr (.inl ⟨xs, X _ _ h2 h (fun ps h => nomatch h)⟩))
    · exact .inr (.inr (.inr ⟨dx, fs, X _ _ h2 h (fun ps h => nomatch h)⟩))
theorem Th.ok {K : PySem.W.Frag} {mg : Str → Option Value} (T : Txt K mg) {H : Hp} {a : Addr} {v : V} (h : Th K H a v) : ∃ t, TyX K H v t ∧ PySem.W.kitOne K t (.type "str") = some false := by
  rcases h with rfl | ⟨b, rfl⟩ | ⟨i, rfl⟩ | ⟨p, rfl, h2, h⟩
  · exact ⟨_, .base .non, kit_ty (by decide +kernel)⟩
  · exact ⟨_, .base (.bl _), kit_ty (by decide +kernel)⟩
  · exact ⟨_, .base (.int _), kit_ty (by decide +kernel)⟩
  · rcases h with ⟨xs, h⟩ | ⟨xs, h⟩ | ⟨xs, h⟩ | ⟨dx, fs, h⟩
    · exact ⟨_, .base (.lst h), kit_ty (by decide +kernel)⟩
    · exact ⟨_, .base (.tup h), kit_ty (by decide +kernel)⟩
    · exact ⟨_, .base (.dK h), kit_ty (by decide +kernel)⟩
    · exact ⟨_, .base (.ins h T.i_Band.cl T.i_Band.ha T.i_Band.hn T.i_Band.htk T.i_Band.hm), T.k_Band_str⟩
def spLaw (K : PySem.W.Frag) : Sp := fun vs H Q _ => ∃ (a0 : Addr) (ns : List Int), vs = [.ref a0] ∧ SqL K H a0 (ns.map V.int) ∧ Tabs (tabsT K) H ∧ ∀ H', Q (.bl true) H'
section
variable {P : Program} {w : World} {K : PySem.W.Frag} {mg : Str → Option Value} {base : Heap}
theorem fn_lam {x : Str} {st : Stmt} {N ps : List Str} {k : Nat} {sp : Sp} {fd : FuncData} (F : FunD K x x (defArgs st) (defBody st) (defScope st) [] [] (He.ga K x) fd) (S : FnScope N ps (defScope st))
    (len : ∀ vs H Q E, sp vs H Q E → vs.length = ps.length)
    (hbody : ∀ (f : Addr) (A : Around) (outer : List Env) (s : Shared) (H : Hp) (vs : List V) (Q : VK) (E : XK), Room k (A.deeper (envOfC x (defScope st) s.heap.objs.size f (.ref (He.cT K (x, none)).1))) → sp vs H Q E →
      ∃ t, PSs (cxOf CX0 P w K mg base N x (defScope st) f (.ref (He.cT K (x, none)).1) A outer s H E).nox (defBody st) t ∧ t { nx := fun _ H' => Q .non H', rt := Q } (L2.start N vs) H) : FnOk P w K mg base CX0 (k + 1) (He.ga K x) fd ps sp := by
  obtain ⟨oc, od, dV, kV, doc, pm, an, cdv, ct, osl, rfl, lk, hcd, _, _⟩ := F.ex
  obtain ⟨c, rfl⟩ := He.codeIn_ref hcd
  have hc : (He.cT K (x, none)).1 = c := He.codeOf_eq (p := (x, none)) lk rfl
  subst hc
  exact fn_of lk hcd S len fun A outer s H vs Q E hr hsp => by
    obtain ⟨t, h, q⟩ := hbody _ A outer s H vs Q E hr hsp
    exact ⟨t, h.nox, q⟩
abbrev N_law : List Str := ["_law_script", "_law_bag_here", "_law_frame_here", "_law_stack_here", "_law_turn", "_law_thing", "_law_band", "_law_due", "_law_text_here", "_law_k"]
theorem sc_law : FnScope N_law ["_law_script"] (defScope s_law) := ⟨rfl, rfl, rfl, by decide +kernel, rfl, by decide +kernel, by decide +kernel⟩
theorem fn_law (X : Tx K mg base) {fd : FuncData} (F : FunD K "law" "law" (defArgs s_law) (defBody s_law) (defScope s_law) [] [] (He.ga K "law") fd) : FnOk P w K mg base CX0 12 (He.ga K "law") fd ["_law_script"] (spLaw K) := by
  have T := X.T
  obtain ⟨fdT, FT⟩ := T.d__law_try.fd
  obtain ⟨fdR, FR, BR, kR⟩ := fn_read (P := P) (w := w) (base := base) T
  obtain ⟨fdI, dsI, FI, VI, BI⟩ := fn_init (P := P) (w := w) (base := base) T
  obtain ⟨fdS, FS, BS⟩ := fn_str (P := P) (w := w) (base := base) T
  have BT : Binds K fdT ["_law_ask"] [] := FT.bindsN (fun _ _ _ _ _ _ us hl => match us, hl with | [_], _ => rfl)
  obtain ⟨oc, od, dV, kV, doc, pm, an, cdv, ct, osl, rfl, lkT, hcT, _, _⟩ := FT.ex
  refine fn_lam F sc_law (fun vs H Q E h => by obtain ⟨_, _, rfl, _⟩ := h; rfl) fun f A outer s H vs Q E hr h => ?_
  obtain ⟨a0, ns, rfl, hs, ht, k⟩ := h
  refine ⟨_, (pss_cons (ps_set (i := 1) sc_law.nd rfl (Or.inl rfl) (pe_cl (cl__law_bag T) hr (by decide) (by rfl) (pa_cons (pv 0) pa_nil)))
    (pss_cons (ps_set (i := 2) sc_law.nd rfl (Or.inl rfl) (pe_cl (cl__law_frame T) hr (by decide) (by rfl) (pa_cons (pv 1) (pa_cons (pe_cl (cl__law_size T) hr (by decide) (by rfl) (pa_cons (pv 1) pa_nil)) (pa_cons pe_int pa_nil)))))
    (pss_cons (ps_set (i := 3) sc_law.nd rfl (Or.inl rfl) (pe_cl (cl__law_stack T) hr (by decide) (by rfl) (pa_cons (pv 1) (pa_cons (pv 2) (pa_cons (pe_op op_add pe_int (pe_cl (cl__law_draw T) hr (by decide) (by rfl) (pa_cons (pv 1) (pa_cons pe_int pa_nil)))) pa_nil)))))
    (pss_cons (ps_if (pt_cmpR op_isN (pe_cl (cl__law_rows T) hr (by decide) (by rfl) (pa_cons (pv 3) (pa_cons (pe_callB (call_len_seqK (K := K) rfl) (by rfl) T.f_len PySem.boot_len (pa_cons (pv 2) pa_nil)) (pa_cons pe_int pa_nil)))) pe_non (nomark _))
    (pss_one (ps_ret pe_bl))
    pss_nil)
    (pss_cons (ps_par (i := 6) (j := 7) (by rfl) sc_law.nd rfl rfl (by decide) rfl rfl (pa_cons (pe_make (E := E0) T.mk_Band FI (hr.mono (by decide)) (by rfl) T.g_Band BI VI passN (pa_cons (pv 2) (pa_cons (pv 3) pa_nil))) (pa_cons (pe_cl (cl__law_text T) hr (by decide) (by rfl) (pa_cons (pv 2) (pa_cons (pv 3) pa_nil))) pa_nil)) (by rfl))
    (pss_cons (ps_if (pt_cut (PW.pt (pw_or (pt_not (pt_val (pe_cl (cl__law_same T) hr (by decide) (by rfl) (pa_cons (pe_lst (pa_cons (C8.pe_mt0 (cm_Band_text T) hr (by decide) (pv 6)) (pa_cons (pe_callTy (call_strOwn T.m_Band___str__ FS BS (hr.mono (by decide))) (by rfl) T.f_str (by decide +kernel) (pa_cons (pv 6) pa_nil)) pa_nil))) (pa_cons (pe_lst (pa_cons (pv 7) (pa_cons (pv 7) pa_nil))) pa_nil))))) (pw_or1 (pt_not (pt_val (pe_cl (cl__law_text_so X) hr (by decide) (by rfl) (pa_cons (pv 7) pa_nil))))))))
    (pss_one (ps_ret pe_bl))
    pss_nil)
    (pss_cons (ps_for PassesOwn.never rfl (pi_range1 (by rfl) T.f_range (pa_cons pe_int pa_nil)) (pg_name (i := 4) sc_law.nd rfl (Or.inl rfl))
    (pss_cons (ps_set (i := 8) sc_law.nd rfl (Or.inl rfl) (pv 7))
    (pss_cons (ps_for PassesOwn.never rfl (pi_range1 (by rfl) T.f_range (pa_cons (pe_cl (cl__law_of T) hr (by decide) (by rfl) (pa_cons (pv 1) (pa_cons (pe_lst (pa_cons pe_int (pa_cons pe_int (pa_cons pe_int (pa_cons pe_int pa_nil))))) pa_nil))) pa_nil)) (pg_name (i := 9) sc_law.nd rfl (Or.inl rfl))
    (pss_one (ps_set (i := 8) sc_law.nd rfl (Or.inl rfl) (pe_cl (cl__law_bent T) hr (by decide) (by rfl) (pa_cons (pv 1) (pa_cons (pv 2) (pa_cons (pv 3) (pa_cons (pv 8) pa_nil))))))))
    (pss_one (ps_if (pt_not (pt_val (pe_cl (cl__law_text_so X) hr (by decide) (by rfl) (pa_cons (pv 8) pa_nil))))
    (pss_one (ps_ret pe_bl))
    pss_nil)))))
    (pss_cons (ps_if (pt_cut (PW.pt (pw_and (pt_cmpR op_eq (pe_cl (cl__law_draw T) hr (by decide) (by rfl) (pa_cons (pv 1) (pa_cons pe_int pa_nil))) pe_int (nomark _)) (pw_and1 (pt_not (pt_val (pe_cl (cl__law_wide_texts_so X) hr (by decide) (by rfl) (pa_cons (pv 1) pa_nil))))))))
    (pss_one (ps_ret pe_bl))
    pss_nil)
    (pss_cons (ps_set (i := 5) sc_law.nd rfl (Or.inr rfl) (pe_cl (cl__law_of T) hr (by decide) (by rfl) (pa_cons (pv 1) (pa_cons (pe_lst (pa_cons pe_non (pa_cons pe_bl (pa_cons pe_int (pa_cons (pe_lst pa_nil) (pa_cons (pe_tup (pa_cons (pv 7) pa_nil)) (pa_cons (pe_lst (pa_cons (pv 7) pa_nil)) (pa_cons (pe_dnewK) (pa_cons (pv 6) (pa_cons (pe_disp (pps_cons pe_str (pv 7) pps_nil) (by rfl) (by rfl) (fun z => by cases z) (by decide)) pa_nil)))))))))) pa_nil))))
    (pss_one (ps_ret (pe_and (pe_cl (cl__law_same T) hr (by decide) (by rfl) (pa_cons (pe_lamcall (T := tabsT K) (TT := TTry K) (x := "_law_try") (a := "_law_ask") (k := 7) (t := fun E => tSM (cB K) (spRead K) E (tC (.ref (cB K))) (tCons (tVar 5) tNil)) (by rfl) T.d__law_try.gm FT.kp lkT hcT BT sc__law_try rfl (Or.inl (by rfl)) (try_gives T (hr.mono (by decide))) X.b2 (by rfl) (mem2 K) (uq2 X) (hr.mono (by decide)) (lamS_by (by rfl)) (by rfl) (fun _ _ _ _ _ => rfl) (fun A outer s H E f c' hr2 => pe_smeth (C8.pe_gc (v := .ref (cB K)) (by rfl) ⟨_, T.g_Band, rfl⟩) T.r_Band T.m_Band_read.1 T.m_Band_read.2 FR BR kR hr2 (L2.passes_call (L2.takes_of rfl rfl rfl rfl) (fun _ _ _ _ h => h)) (pa_cons (pv 5) pa_nil))) (pa_cons (pe_tup (pa_cons pe_str (pa_cons (pe_tup (pa_cons pe_int (pa_cons pe_str pa_nil))) pa_nil))) pa_nil))) (pe_and (pe_cl (cl__law_text_so X) hr (by decide) (by rfl) (pa_cons pe_str pa_nil)) (pe_one (pe_cl (cl__law_same T) hr (by decide) (by rfl) (pa_cons (C8.pe_mt0 (cm_Band_text2 T) hr (by decide) (pv 6)) (pa_cons (pv 7) pa_nil))))))))))))))))), ?_⟩
  refine ⟨_, rfl, a0, ns, rfl, hs, fun H1 a q e1 B1 => ?_⟩
  have t1 := LamX.Tabs.ext ht e1
  refine ⟨_, rfl, _, rfl, a, q, rfl, B1, fun H2 n X2 B2 n1 n2 => ?_⟩
  have t2 := NT.Tabs.bag t1 B1 X2
  refine ⟨a, q, n, 4, rfl, B2, by omega, by decide, by decide, fun H3 p cs X3 B3 hp3 hc3 hn3 g3 nd3 => ?_⟩
  have t3 := NT.Tabs.bag t2 B2 X3
  have okc : okCounts cs := fun z hz => (g3 z hz).2
  refine ⟨_, rfl, _, rfl, _, rfl, a, q, 4, rfl, B3, by decide, by decide, fun H4 r X4 B4 hr4 => ⟨_, _, rfl, rfl, a, q, p, cs, 2 + r, ?_, B4, hc3.bag B3 X4, okc, by omega, by omega, by omega, by omega, fun H5 u ss X5 B5 hs5 okS hsl hs1 => ?_⟩⟩
  · show [V.ref a, V.ref p, V.int (2 + (r : Nat))] ++ [] = [V.ref a, V.ref p, V.int ((2 + r : Nat) : Int)]
    rw [show ((2 : Int) + (r : Nat)) = ((2 + r : Nat) : Int) by omega]; rfl
  have t5 := NT.Tabs.bag (NT.Tabs.bag t3 B3 X4) B4 X5
  have hc5 := (hc3.bag B3 X4).bag B4 X5
  obtain ⟨ps, hps, hp5, hpt5⟩ := id hc5
  have hpl : ps.length = cs.length := by rw [← hps, List.length_map]
  refine ⟨_, rfl, _, rfl, p, _, rfl, .inl (SqL.of hp5), u, ss, cs.length, 40, by rw [List.length_map, hpl]; rfl, hs5, fun s hs => rowB_len (okS.2.1 s hs).1, by omega, by omega, by decide, by decide, fun hbig H6 e6 => ⟨rfl, _, rfl, if_dec rfl (fun _ => k _) (fun h => absurd rfl h)⟩, fun hbig H6 p6 e6 => ⟨rfl, _, rfl, if_dec rfl (fun h => nomatch h) (fun _ => ?_)⟩⟩
  have okB : OkBand cs ss := ⟨⟨by omega, by omega, nd3⟩, okS, big_mono hbig⟩
  have sm : smallB cs ss := ⟨by omega, by omega, fun c hc => (nameB_len (g3 c hc).1).2, fun s hs => by rw [rowB_len (okS.2.1 s hs).1]; omega⟩
  have rasc : ∀ s ∈ ss, asc s := fun s hs => rowB_asc (okS.2.1 s hs).1
  have hc6 := hc5.same e6
  have hs6 := hs5.same e6
  have B6 := B5.same e6
  have t6 := LamX.Tabs.ext t5 e6
  refine ⟨_, rfl, _, rfl, fun bd dx hbd hdx hne => ?_⟩
  refine make_ans (K := K) (cs := cs) (ss := ss) hbd hdx hne hc6 g3 hs6 (by omega) (by omega) (fun s hs => by rw [rowB_len (okS.2.1 s hs).1]; omega) (fun _ H7 e7 hBd => ⟨rfl, ?_⟩) (fun no => absurd okB no)
  have hc7 := hc6.same e7
  have hs7 := hs6.same e7
  have B7 := B6.same e7
  have t7 := LamX.Tabs.ext t6 e7
  refine ⟨_, rfl, _, rfl, p, u, cs, ss, rfl, hc7, hs7, okc, sm, fun H8 e8 => ⟨_, _, rfl, ?_⟩⟩
  have B8 := B7.same e8
  have t8 := LamX.Tabs.ext t7 e8
  have hBd8 := hBd.same e8
  have F8 : Fs H8 a q p u cs ss := ⟨B8, hc7.same e8, g3, by omega, by omega, hs7.same e8, by omega, by omega, fun s hs => ⟨by rw [rowB_len (okS.2.1 s hs).1]; omega, rasc s hs⟩⟩
  have hdl := textL_len sm
  have hda : asc (textL cs ss) := asc_textL (fun c hc => nameB_asc (g3 c hc).1) okc rasc
  generalize hdue : textL cs ss = due at hdl hda ⊢
  have ins : ∀ {H' : Hp}, BandAt K H' bd cs ss → ∃ dx fs, H' bd = some (.ins (cB K) dx fs) ∧ fs.lookup (Str.ofString "text") = none := by
    rintro H' ⟨dx, p, q, r, d, l, rows, j, hz, _⟩
    exact ⟨dx, _, hz, rfl⟩
  refine ⟨fun b H' => b = false ∧ XN a H8 H' ∧ BagAt H' a q ∧ Tabs (tabsT K) H', ?_, ?_⟩
  rotate_left
  · intro N hN
    obtain ⟨dx1, fs1, i1, l1⟩ := ins hBd8
    refine ⟨_, rfl, bd, dx1, fs1, rfl, i1, l1, bd, cs, ss, rfl, hBd8, okc, sm, fun H9 e9 => ?_⟩
    have hBd9 := hBd8.same e9
    obtain ⟨dx2, fs2, i2, l2⟩ := ins hBd9
    refine ⟨_, rfl, bd, dx2, fs2, rfl, i2, bd, cs, ss, rfl, hBd9, okc, sm, fun H10 e10 => ⟨_, rfl, ?_⟩⟩
    rw [hdue]
    refine ⟨line_le (by show 2 ≤ _; omega), fun y1 hy1 => ?_⟩
    have e11 := (Same.refl H10).upd1 (o := .lst [sv due, sv due]) hy1
    have hy11 : upd H10 y1 (.lst [sv due, sv due]) y1 = some (.lst [sv due, sv due]) := upd_same
    generalize upd H10 y1 (.lst [sv due, sv due]) = H11 at e11 hy11 ⊢
    refine ⟨_, rfl, _, rfl, line_le (by show 2 ≤ _; omega), fun y2 hy2 => ?_⟩
    have e12 := (Same.refl H11).upd1 (o := .lst [sv due, sv due]) hy2
    have hy12 : upd H11 y2 (.lst [sv due, sv due]) y2 = some (.lst [sv due, sv due]) := upd_same
    have e812 := ((e9.trans e10).trans e11).trans e12
    refine ⟨.ref y1, .ref y2, rfl, .inr (.inr (.inr (.inl ⟨y1, y2, _, _, rfl, rfl, e12 _ _ hy11, hy12, rfl, by show 2 ≤ _; omega, fun i x y hx hy => ?_⟩))), fun H13 e13 => ⟨_, rfl, iteF ?_⟩⟩
    · rw [hx] at hy
      cases Option.some.inj hy
      have hm := List.mem_of_getElem? hx
      simp only [List.mem_cons, List.not_mem_nil, or_false, or_self] at hm
      rw [hm]; exact Eqd.str _
    have e813 := e812.trans e13
    refine ⟨_, rfl, due, rfl, by omega, hda, LamX.Tabs.ext t8 e813, fun H14 n14 t14 => ⟨_, rfl, ?_⟩⟩
    exact hN _ _ ⟨rfl, XN.ofN ((ExtN.of e813).trans n14), B8.extN ((ExtN.of e813).trans n14), t14⟩
  rintro b H9 ⟨rfl, x9, B9, t9⟩
  refine iteF ?_
  have F9 := F8.xn x9 B9
  have hBd9 := hBd8.t.xn B8 x9
  refine ⟨_, rfl, by decide, by decide, ?_⟩
  refine for_it (walk_range (lo := 0) (n := (7 : Int).toNat)) (fun i σ H' => ∃ (o4 o8 o9 : Option V), σ = [some (.ref a0), some (.ref a), some (.ref p), some (.ref u), o4, none, some (.ref bd), some (sv due), o8, o9] ∧ XN a H9 H' ∧ BagAt H' a q ∧ Tabs (tabsT K) H') ?_ (fun _ _ _ _ _ => True.intro) ?_ ?_
  · exact ⟨_, _, _, rfl, XN.refl a H9, B9, t9⟩
  · rintro i v σ H10 H11 hi ⟨o4, o8, o9, rfl, x10, B10, t10⟩ ⟨rfl, rfl⟩
    refine ⟨_, rfl, _, rfl, line_le (by show 4 ≤ _; omega), fun t ht4 => ?_⟩
    have e11 := (Same.refl H11).upd1 (o := .lst [.int 1, .int 1, .int 2, .int 3]) ht4
    refine .inl ⟨a, q, t, _, rfl, B10.same e11, B10.nep ht4, upd_same, by decide, by decide, fun H12 j v X12 B12 hv => ?_⟩
    obtain ⟨m, rfl, m1, m2⟩ : ∃ m : Nat, v = .int (m : Int) ∧ 1 ≤ m ∧ m ≤ 3 := by
      have hm := List.mem_of_getElem? hv
      simp only [List.mem_cons, List.not_mem_nil, or_false] at hm
      rcases hm with e | e | e | e
      · exact ⟨1, e, by omega, by omega⟩
      · exact ⟨1, e, by omega, by omega⟩
      · exact ⟨2, e, by omega, by omega⟩
      · exact ⟨3, e, by omega, by omega⟩
    have x12 := (x10.trans (XN.of (SameX.of e11))).trans (XN.of X12)
    have t12 := NT.Tabs.bag (LamX.Tabs.ext t10 e11) (B10.same e11) X12
    refine ⟨_, rfl, by omega, by omega, ?_⟩
    refine for_it (walk_range (lo := 0) (n := ((m : Nat) : Int).toNat)) (fun j σ H' => ∃ (o9 : Option V) (x : List Nat), σ = [some (.ref a0), some (.ref a), some (.ref p), some (.ref u), some (.int (0 + (i : Nat))), none, some (.ref bd), some (sv due), some (sv x), o9] ∧ XN a H9 H' ∧ BagAt H' a q ∧ Tabs (tabsT K) H' ∧ x.length + 150 ≤ 1150 * 3 ^ j ∧ asc x) ?_ (fun _ _ _ _ _ => True.intro) ?_ ?_
    · exact ⟨_, due, rfl, x12, B12, t12, by rw [Nat.pow_zero]; omega, hda⟩
    · rintro j' v σ H13 H14 hj ⟨o9, x, rfl, x13, B13, t13, hxl, hxa⟩ ⟨rfl, rfl⟩
      have h3 : 3 ^ j' ≤ 3 ^ 2 := Nat.pow_le_pow_right (by decide) (by omega)
      refine ⟨_, rfl, _, rfl, _, rfl, _, rfl, a, q, p, u, cs, ss, x, rfl, F9.xn x13 B13, by omega, hxa, fun H15 v X15 B15 hv => ?_⟩
      obtain ⟨y, rfl, hy, ay⟩ := hv
      exact ⟨_, y, rfl, x13.trans (XN.of X15), B15, NT.Tabs.bag t13 B13 X15, by rw [Nat.pow_succ]; omega, ay⟩
    · rintro _ H13 ⟨o9, x, rfl, x13, B13, t13, hxl, hxa⟩
      have h3 : 3 ^ ((m : Nat) : Int).toNat ≤ 3 ^ 3 := Nat.pow_le_pow_right (by decide) (by omega)
      refine ⟨_, rfl, x, rfl, by omega, hxa, t13, fun H14 n14 t14 => ⟨_, rfl, iteF ?_⟩⟩
      exact ⟨_, _, _, rfl, x13.trans (XN.ofN n14), B13.extN n14, t14⟩
  rintro _ H10 ⟨o4, o8, o9, rfl, x10, B10, t10⟩
  refine ⟨fun b H' => b = false ∧ XN a H9 H' ∧ BagAt H' a q ∧ Tabs (tabsT K) H', ?_, ?_⟩
  rotate_left
  · intro N hN
    refine ⟨_, rfl, a, q, 4, rfl, B10, by decide, by decide, fun H11 r X11 B11 hr11 => ⟨rfl, _, rfl, ?_⟩⟩
    have x11 := x10.trans (XN.of X11)
    have t11 := NT.Tabs.bag t10 B10 X11
    refine if_dec (p := (r : Int) = 0) (int_eq_dec Iff.rfl) (fun _ => ?_) (fun _ => hN _ _ ⟨rfl, x11, B11, t11⟩)
    exact ⟨_, rfl, a, q, rfl, B11, t11, fun H12 x12 B12 t12 => ⟨_, rfl, hN _ _ ⟨rfl, x11.trans x12, B12, t12⟩⟩⟩
  rintro b H11 ⟨rfl, x11, B11, t11⟩
  refine iteF ?_
  have hB11 := hBd9.xn B9 x11
  refine ⟨_, rfl, by decide, fun y1 k1 => ?_⟩
  have f1 := (Same.refl H11).upd1 (o := .lst []) k1
  have g1 : upd H11 y1 (.lst []) y1 = some (.lst []) := upd_same
  have w1 := B11.nep k1
  generalize upd H11 y1 (.lst []) = G1 at f1 g1 ⊢
  refine ⟨_, rfl, line_le (by show 1 ≤ _; omega), fun y2 k2 => ?_⟩
  have f2 := f1.upd1 (o := .tup [sv due]) k2
  have g12 := ((Same.refl G1).upd1 (o := .tup [sv due]) k2) _ _ g1
  have g2 : upd G1 y2 (.tup [sv due]) y2 = some (.tup [sv due]) := upd_same
  have w2 := (B11.same f1).nep k2
  generalize upd G1 y2 (.tup [sv due]) = G2 at f2 g12 g2 ⊢
  refine ⟨_, rfl, line_le (by show 1 ≤ _; omega), fun y3 k3 => ?_⟩
  have s3 := (Same.refl G2).upd1 (o := .lst [sv due]) k3
  have f3 := f2.trans s3
  have g13 := s3 _ _ g12
  have g23 := s3 _ _ g2
  have g3' : upd G2 y3 (.lst [sv due]) y3 = some (.lst [sv due]) := upd_same
  have w3 := (B11.same f2).nep k3
  generalize upd G2 y3 (.lst [sv due]) = G3 at s3 f3 g13 g23 g3' ⊢
  intro y4 k4
  have s4 := (Same.refl G3).upd1 (o := .dK []) k4
  have f4 := f3.trans s4
  have g14 := s4 _ _ g13
  have g24 := s4 _ _ g23
  have g34 := s4 _ _ g3'
  have g4 : upd G3 y4 (.dK []) y4 = some (.dK []) := upd_same
  have w4 := (B11.same f3).nep k4
  generalize upd G3 y4 (.dK []) = G4 at s4 f4 g14 g24 g34 g4 ⊢
  refine ⟨_, rfl, fun y5 k5 => ?_⟩
  have w5 := (B11.same f4).nep k5
  have fin5 : ∀ kvs, Same G4 (upd (upd G4 y5 (.dK [])) y5 (.dK kvs)) := fun kvs => by rw [upd_upd]; exact (Same.refl G4).upd1 k5
  refine ⟨_, rfl, upd_same, [(.inr (S [97]), sv due)], rfl, Nat.le_of_ble_eq_true rfl, ?_⟩
  have s5 := fin5 (mergeK [] [(.inr (S [97]), sv due)])
  have g5 : upd (upd G4 y5 (.dK [])) y5 (.dK (mergeK [] [(.inr (S [97]), sv due)])) y5 = some (.dK (mergeK [] [(.inr (S [97]), sv due)])) := upd_same
  generalize upd (upd G4 y5 (.dK [])) y5 (.dK (mergeK [] [(.inr (S [97]), sv due)])) = G5 at s5 g5 ⊢
  have f5 := f4.trans s5
  refine ⟨line_le (by show 9 ≤ _; omega), fun t kt => ?_⟩
  have s6 := (Same.refl G5).upd1 (o := .lst [.non, .bl true, .int 7, .ref y1, .ref y2, .ref y3, .ref y4, .ref bd, .ref y5]) kt
  have f6 := f5.trans s6
  obtain ⟨dxb, fsb, ib⟩ : ∃ dx fs, upd G5 t (.lst [.non, .bl true, .int 7, .ref y1, .ref y2, .ref y3, .ref y4, .ref bd, .ref y5]) bd = some (.ins (cB K) dx fs) := by
    obtain ⟨dx, p, q, r, d, l, hz, _⟩ := hB11.same f6
    exact ⟨dx, _, hz⟩
  have wb : bd ≠ a := fun e => by
    obtain ⟨ns, i, d, m, c, h, _⟩ := B11
    obtain ⟨dx, p, q, r, dd, l, hz, _⟩ := hB11
    rw [e, h] at hz; cases hz
  have th : ∀ v ∈ [V.non, .bl true, .int 7, .ref y1, .ref y2, .ref y3, .ref y4, .ref bd, .ref y5], Th K (upd G5 t (.lst [.non, .bl true, .int 7, .ref y1, .ref y2, .ref y3, .ref y4, .ref bd, .ref y5])) a v := by
    intro v hv
    simp only [List.mem_cons, List.not_mem_nil, or_false] at hv
    rcases hv with e | e | e | e | e | e | e | e | e <;> subst e
    · exact .inl rfl
    · exact .inr (.inl ⟨_, rfl⟩)
    · exact .inr (.inr (.inl ⟨_, rfl⟩))
    · exact .inr (.inr (.inr ⟨_, rfl, w1, .inl ⟨_, s6 _ _ (s5 _ _ g14)⟩⟩))
    · exact .inr (.inr (.inr ⟨_, rfl, w2, .inr (.inl ⟨_, s6 _ _ (s5 _ _ g24)⟩)⟩))
    · exact .inr (.inr (.inr ⟨_, rfl, w3, .inl ⟨_, s6 _ _ (s5 _ _ g34)⟩⟩))
    · exact .inr (.inr (.inr ⟨_, rfl, w4, .inr (.inr (.inl ⟨_, s6 _ _ (s5 _ _ g4)⟩))⟩))
    · exact .inr (.inr (.inr ⟨_, rfl, wb, .inr (.inr (.inr ⟨_, _, ib⟩))⟩))
    · exact .inr (.inr (.inr ⟨_, rfl, w5, .inr (.inr (.inl ⟨_, s6 _ _ g5⟩))⟩))
  refine .inl ⟨a, q, t, _, rfl, B11.same f6, (B11.same f5).nep kt, upd_same, by show 1 ≤ 9; omega, by show 9 ≤ _; omega, fun H12 j v X12 B12 hv => ?_⟩
  have th12 := (th v (List.mem_of_getElem? hv)).xn (XN.of X12)
  have t12 := NT.Tabs.bag (LamX.Tabs.ext t11 f6) (B11.same f6) X12
  have hB12 := (hB11.same f6).xn (B11.same f6) (XN.of X12)
  refine ⟨t12, fun H13 n13 t13 => ?_⟩
  obtain ⟨ty, ty1, ty2⟩ := (th12.xn (XN.ofN n13)).ok T
  have hB13 := hB12.extN n13
  refine ⟨rfl, _, rfl, .inr ⟨v, ty, rfl, ty1, ty2, fun H14 d e14 hd => ⟨d, .str "form", .int 0, rfl, rfl, hd, fun H15 p4 q4 e15 hq4 hp4 => ?_⟩⟩⟩
  refine ⟨line_le (by show 2 ≤ _; omega), fun q5 hq5 => ⟨line_le (by show 2 ≤ _; omega), fun p5 hp5 => ?_⟩⟩
  have e16 := (Same.refl H15).upd1 (o := .tup [.int 0, .str "form"]) hq5
  have e17 := e16.upd1 (o := .tup [.str "InvalidText", .ref q5]) hp5
  have z1 : upd (upd H15 q5 (.tup [.int 0, .str "form"])) p5 (.tup [.str "InvalidText", .ref q5]) q5 = some (.tup [.int 0, .str "form"]) := by
    rw [upd_ne (fun e => by rw [← e, upd_same] at hp5; cases hp5), upd_same]
  refine ⟨.ref p4, .ref p5, rfl, Eqd.tup2 (e17 _ _ hp4) upd_same (Eqd.str _) (Eqd.tup2 (e17 _ _ hq4) z1 (Eqd.int _) (Eqd.str _)), fun H18 e18 => ⟨_, rfl, iteT ?_⟩⟩
  have e1318 := ((e14.trans e15).trans e17).trans e18
  refine ⟨[], rfl, by decide, (fun c h => nomatch h), LamX.Tabs.ext t13 e1318, fun H19 n19 t19 => ⟨_, rfl, iteT ?_⟩⟩
  have hB19 := (hB13.same e1318).extN n19
  obtain ⟨dxc, fsc, ic, lc⟩ : ∃ dx fs, H19 bd = some (.ins (cB K) dx fs) ∧ fs.lookup (Str.ofString "text") = none := by
    obtain ⟨dx, p, q, r, d, l, hz, _⟩ := hB19
    exact ⟨dx, _, hz, rfl⟩
  refine ⟨_, rfl, bd, dxc, fsc, rfl, ic, lc, bd, cs, ss, rfl, hB19, okc, sm, fun H20 e20 => ?_⟩
  rw [hdue]
  exact ⟨_, rfl, sv due, sv due, rfl, Eqd.str _, fun H21 e21 => k _⟩
end
end NT
namespace NT
open PySem PySem.Spec PyProof.Rows L2 LamX
/-! ### what the top has left, as a Bool of the fragment -/
theorem oexB_ok {K : PySem.W.Frag} {C : Addr} (h : oexB K C = true) (sa : PySem.W.findIn K (.ref C) "__setattr__" = some (some (.builtin "object.__setattr__"))) (exC : PySem.W.subIn K (.ref C) (.type "BaseException") = some true) (tyC : PySem.W.typeIn K (.ref C) = some (.type "type")) (kC : PySem.W.keepIn K (.ref C) = true) : OexC K C := by
  refine ⟨?_, sa, exC, tyC, kC⟩
  unfold oexB at h
  split at h
  · rename_i dd cd sl ho
    split at h
    · rename_i C2 bm k0 k1 k2 k3 n k5 hm hs
      simp only [Bool.and_eq_true, beq_iff_eq, Bool.not_eq_true'] at h
      obtain ⟨⟨⟨⟨rfl, rfl⟩, hdel⟩, hdict⟩, ht⟩ := h
      obtain ⟨nm, bs, mro, ns, qn, hd, sn, sub, ab, col, del⟩ := cd
      dsimp only at hm hdel hdict
      subst hm hdel hdict
      have hsl : sl = #[k0, k1, k2, k3, some (.builtin "ValueError.__new__"), k5] := by
        obtain ⟨l⟩ := sl
        simp only at hs
        rw [hs]
      subst hsl
      exact ⟨nm, qn, ns, bs, bm, sn, sub, ab, col, dd, k0, k1, k2, k3, k5, ho, ht⟩
    · cases h
  · cases h
theorem exB_at {K : PySem.W.Frag} (h : exB K = true) (i : Nat) {b : Bool} (e : (exL K)[i]? = some b) : b = true := List.all_eq_true.mp h b (List.mem_of_getElem? e)
theorem txt_of {K : PySem.W.Frag} {h : Heap} {mg : Str → Option Value} (KI : K.In h) (G : h.Ns mainGlobals mg) (c : He5.SaysA faL fnL K) (hx : exB K = true) : Txt K mg :=
  have A : ∀ (i : Nat) {f : He.Fa}, faL[i]? = some f → f.ok K = true := fun i f e => c.fact i e
  have B : ∀ (i : Nat) {b : Bool}, (exL K)[i]? = some b → b = true := fun i b e => exB_at hx i e
  {
  f_isinstance := He.free_ok KI G (A 0 (f := .free "isinstance") rfl)
  f_str := He.free_ok KI G (A 1 (f := .free "str") rfl)
  f_int := He.free_ok KI G (A 2 (f := .free "int") rfl)
  f_bool := He.free_ok KI G (A 3 (f := .free "bool") rfl)
  f_list := He.free_ok KI G (A 4 (f := .free "list") rfl)
  f_tuple := He.free_ok KI G (A 5 (f := .free "tuple") rfl)
  f_dict := He.free_ok KI G (A 6 (f := .free "dict") rfl)
  f_len := He.free_ok KI G (A 7 (f := .free "len") rfl)
  f_all := He.free_ok KI G (A 8 (f := .free "all") rfl)
  f_enumerate := He.free_ok KI G (A 9 (f := .free "enumerate") rfl)
  f_zip := He.free_ok KI G (A 10 (f := .free "zip") rfl)
  f_range := He.free_ok KI G (A 11 (f := .free "range") rfl)
  f_sorted := He.free_ok KI G (A 12 (f := .free "sorted") rfl)
  f_set := He.free_ok KI G (A 13 (f := .free "set") rfl)
  f_abs := He.free_ok KI G (A 14 (f := .free "abs") rfl)
  v_MOST_ROWS := (He.int_ok KI G (A 15 (f := .int "MOST_ROWS" 800) rfl)).elim fun t h => ⟨_, h, t, rfl⟩
  v_MOST_SEEDS := (He.int_ok KI G (A 16 (f := .int "MOST_SEEDS" 30) rfl)).elim fun t h => ⟨_, h, t, rfl⟩
  v_MOST_CELLS := (He.int_ok KI G (A 17 (f := .int "MOST_CELLS" 12) rfl)).elim fun t h => ⟨_, h, t, rfl⟩
  v_MOST_VALUES := (He.int_ok KI G (A 18 (f := .int "MOST_VALUES" 4) rfl)).elim fun t h => ⟨_, h, t, rfl⟩
  v_LETTERS := (He.str_ok KI G (A 19 (f := .str "LETTERS" "abcdefghijklmnopqrstuvwxyz") rfl)).elim fun t h => ⟨_, h, t, rfl⟩
  v_COUNTS := ⟨_, He.glo_ok KI G (A 20 (f := .glo "COUNTS") rfl), rfl⟩
  t_COUNTS := fun H => He.tupB_ok (B 0 rfl) H
  g_TellsError := He.glo_ok KI G (A 21 (f := .glo "TellsError") rfl)
  g_Missing := He.glo_ok KI G (A 22 (f := .glo "Missing") rfl)
  x_BadCells := { gC := He.glo_ok KI G (A 23 (f := .glo "BadCells") rfl), oex := oexB_ok (B 1 rfl) (He.eqO_ok (B 2 rfl)) (of_decide_eq_true (B 3 rfl)) (of_decide_eq_true (B 4 rfl)) (B 5 rfl), xf := xfB_ok (B 6 rfl), iC := He.eqO_ok (B 7 rfl), tI := of_decide_eq_true (B 8 rfl), te := He.exm_ok (A 24 (f := .exm "BadCells" "TellsError" true) rfl), fd := (c.def_ 0 (d := d0) rfl), nc := He.noat_ok (A 25 (f := .noat "BadCells" "code") rfl) }
  n_BadCells_at := (He.noat_ok (A 26 (f := .noat "BadCells" "at") rfl))
  x_BadSeed := { gC := He.glo_ok KI G (A 27 (f := .glo "BadSeed") rfl), oex := oexB_ok (B 9 rfl) (He.eqO_ok (B 10 rfl)) (of_decide_eq_true (B 11 rfl)) (of_decide_eq_true (B 12 rfl)) (B 13 rfl), xf := xfB_ok (B 14 rfl), iC := He.eqO_ok (B 15 rfl), tI := of_decide_eq_true (B 16 rfl), te := He.exm_ok (A 28 (f := .exm "BadSeed" "TellsError" true) rfl), fd := (c.def_ 1 (d := d1) rfl), nc := He.noat_ok (A 29 (f := .noat "BadSeed" "code") rfl) }
  n_BadSeed_at := (He.noat_ok (A 30 (f := .noat "BadSeed" "at") rfl))
  x_TooMany := { gC := He.glo_ok KI G (A 31 (f := .glo "TooMany") rfl), oex := oexB_ok (B 17 rfl) (He.eqO_ok (B 18 rfl)) (of_decide_eq_true (B 19 rfl)) (of_decide_eq_true (B 20 rfl)) (B 21 rfl), xf := xfB_ok (B 22 rfl), iC := He.eqO_ok (B 23 rfl), tI := of_decide_eq_true (B 24 rfl), te := He.exm_ok (A 32 (f := .exm "TooMany" "TellsError" true) rfl), fd := (c.def_ 2 (d := d2) rfl), nc := He.noat_ok (A 33 (f := .noat "TooMany" "code") rfl) }
  n_TooMany_most := (He.noat_ok (A 34 (f := .noat "TooMany" "most") rfl))
  x_Untold := { gC := He.glo_ok KI G (A 35 (f := .glo "Untold") rfl), oex := oexB_ok (B 25 rfl) (He.eqO_ok (B 26 rfl)) (of_decide_eq_true (B 27 rfl)) (of_decide_eq_true (B 28 rfl)) (B 29 rfl), xf := xfB_ok (B 30 rfl), iC := He.eqO_ok (B 31 rfl), tI := of_decide_eq_true (B 32 rfl), te := He.exm_ok (A 36 (f := .exm "Untold" "TellsError" true) rfl), fd := (c.def_ 3 (d := d3) rfl), nc := He.noat_ok (A 37 (f := .noat "Untold" "code") rfl) }
  n_Untold_cell := (He.noat_ok (A 38 (f := .noat "Untold" "cell") rfl))
  x_InvalidText := { gC := He.glo_ok KI G (A 39 (f := .glo "InvalidText") rfl), oex := oexB_ok (B 33 rfl) (He.eqO_ok (B 34 rfl)) (of_decide_eq_true (B 35 rfl)) (of_decide_eq_true (B 36 rfl)) (B 37 rfl), xf := xfB_ok (B 38 rfl), iC := He.eqO_ok (B 39 rfl), tI := of_decide_eq_true (B 40 rfl), te := He.exm_ok (A 40 (f := .exm "InvalidText" "TellsError" true) rfl), fd := (c.def_ 4 (d := d4) rfl), nc := He.noat_ok (A 41 (f := .noat "InvalidText" "code") rfl) }
  n_InvalidText_line := (He.noat_ok (A 42 (f := .noat "InvalidText" "line") rfl))
  n_InvalidText_why := (He.noat_ok (A 43 (f := .noat "InvalidText" "why") rfl))
  xa_InvalidText := of_decide_eq_true (B 41 rfl)
  g_Band := He.glo_ok KI G (A 44 (f := .glo "Band") rfl)
  c_Band := He.cls_ok (A 45 (f := .cls "Band") rfl)
  mk_Band := He.mkr_ok (A 46 (f := .mkr "Band") rfl)
  i_Band := ⟨He.cls_ok (A 45 (f := .cls "Band") rfl), He.eqO_ok (B 42 rfl), He.eqO_ok (B 43 rfl), of_decide_eq_true (B 44 rfl), of_decide_eq_true (B 45 rfl), of_decide_eq_true (B 46 rfl)⟩
  k_Band_str := of_decide_eq_true (B 47 rfl)
  k_Band_list := of_decide_eq_true (B 48 rfl)
  k_Band_tuple := of_decide_eq_true (B 49 rfl)
  k_Band_dict := of_decide_eq_true (B 50 rfl)
  k_Band_bool := of_decide_eq_true (B 51 rfl)
  k_Band_int := of_decide_eq_true (B 52 rfl)
  n_cell_list := He.noat_ok (A 47 (f := .noat "Band" "cell_list") rfl)
  n_seed_list := He.noat_ok (A 48 (f := .noat "Band" "seed_list") rfl)
  n_row_list := He.noat_ok (A 49 (f := .noat "Band" "row_list") rfl)
  n_known_rows := He.noat_ok (A 50 (f := .noat "Band" "known_rows") rfl)
  n_lot_list := He.noat_ok (A 51 (f := .noat "Band" "lot_list") rfl)
  m_Band_cells := He.meth_ok (A 52 (f := .meth "Band" "cells") rfl)
  m_Band_seeds := He.meth_ok (A 53 (f := .meth "Band" "seeds") rfl)
  m_Band_text := He.meth_ok (A 54 (f := .meth "Band" "text") rfl)
  m_Band___eq__ := He.meth_ok (A 55 (f := .meth "Band" "__eq__") rfl)
  m_Band___len__ := He.meth_ok (A 56 (f := .meth "Band" "__len__") rfl)
  m_Band___str__ := He.meth_ok (A 57 (f := .meth "Band" "__str__") rfl)
  d_Band___init__ := (c.def_ 5 (d := d5) rfl)
  d_Band_cells := (c.def_ 6 (d := d6) rfl)
  d_Band_seeds := (c.def_ 7 (d := d7) rfl)
  d_Band_text := (c.def_ 8 (d := d8) rfl)
  d_Band___eq__ := (c.def_ 9 (d := d9) rfl)
  d_Band___len__ := (c.def_ 10 (d := d10) rfl)
  d_Band___str__ := (c.def_ 11 (d := d11) rfl)
  r_Band := ⟨(B 53 rfl), He.eqO_ok (B 54 rfl)⟩
  m_Band_read := He5.wrapB_ok (B 55 rfl)
  d_Band_read := (c.def_ 12 (d := d12) rfl)
  d_is_name := ⟨(c.def_ 13 (d := d13) rfl), He.glo_ok KI G (A 58 (f := .glo "is_name") rfl)⟩
  d_is_number := ⟨(c.def_ 14 (d := d14) rfl), He.glo_ok KI G (A 59 (f := .glo "is_number") rfl)⟩
  d_cell_of := ⟨(c.def_ 15 (d := d15) rfl), He.glo_ok KI G (A 60 (f := .glo "cell_of") rfl)⟩
  d_seed_of := ⟨(c.def_ 16 (d := d16) rfl), He.glo_ok KI G (A 61 (f := .glo "seed_of") rfl)⟩
  d_leading_cells := ⟨(c.def_ 17 (d := d17) rfl), He.glo_ok KI G (A 62 (f := .glo "leading_cells") rfl)⟩
  d_leading_seeds := ⟨(c.def_ 18 (d := d18) rfl), He.glo_ok KI G (A 63 (f := .glo "leading_seeds") rfl)⟩
  d_check_cells := ⟨(c.def_ 19 (d := d19) rfl), He.glo_ok KI G (A 64 (f := .glo "check_cells") rfl)⟩
  d_is_row := ⟨(c.def_ 20 (d := d20) rfl), He.glo_ok KI G (A 65 (f := .glo "is_row") rfl)⟩
  d_over := ⟨(c.def_ 21 (d := d21) rfl), He.glo_ok KI G (A 66 (f := .glo "over") rfl)⟩
  d_lot_of := ⟨(c.def_ 22 (d := d22) rfl), He.glo_ok KI G (A 67 (f := .glo "lot_of") rfl)⟩
  d_blank := ⟨(c.def_ 23 (d := d23) rfl), He.glo_ok KI G (A 68 (f := .glo "blank") rfl)⟩
  d_lot_size := ⟨(c.def_ 24 (d := d24) rfl), He.glo_ok KI G (A 69 (f := .glo "lot_size") rfl)⟩
  d_ordered_lots := ⟨(c.def_ 25 (d := d25) rfl), He.glo_ok KI G (A 70 (f := .glo "ordered_lots") rfl)⟩
  d_check_seeds := ⟨(c.def_ 26 (d := d26) rfl), He.glo_ok KI G (A 71 (f := .glo "check_seeds") rfl)⟩
  d_grown_rows := ⟨(c.def_ 27 (d := d27) rfl), He.glo_ok KI G (A 72 (f := .glo "grown_rows") rfl)⟩
  d__law_bag := ⟨(c.def_ 28 (d := d28) rfl), He.glo_ok KI G (A 73 (f := .glo "_law_bag") rfl)⟩
  d__law_draw := ⟨(c.def_ 29 (d := d29) rfl), He.glo_ok KI G (A 74 (f := .glo "_law_draw") rfl)⟩
  d__law_of := ⟨(c.def_ 30 (d := d30) rfl), He.glo_ok KI G (A 75 (f := .glo "_law_of") rfl)⟩
  d__law_same := ⟨(c.def_ 31 (d := d31) rfl), He.glo_ok KI G (A 76 (f := .glo "_law_same") rfl)⟩
  d__law_field := ⟨(c.def_ 32 (d := d32) rfl), He.glo_ok KI G (A 77 (f := .glo "_law_field") rfl)⟩
  d__law_try := ⟨(c.def_ 33 (d := d33) rfl), He.glo_ok KI G (A 78 (f := .glo "_law_try") rfl)⟩
  d__law_title := ⟨(c.def_ 34 (d := d34) rfl), He.glo_ok KI G (A 79 (f := .glo "_law_title") rfl)⟩
  d__law_frame := ⟨(c.def_ 35 (d := d35) rfl), He.glo_ok KI G (A 80 (f := .glo "_law_frame") rfl)⟩
  d__law_row := ⟨(c.def_ 36 (d := d36) rfl), He.glo_ok KI G (A 81 (f := .glo "_law_row") rfl)⟩
  d__law_once := ⟨(c.def_ 37 (d := d37) rfl), He.glo_ok KI G (A 82 (f := .glo "_law_once") rfl)⟩
  d__law_stack := ⟨(c.def_ 38 (d := d38) rfl), He.glo_ok KI G (A 83 (f := .glo "_law_stack") rfl)⟩
  d__law_size := ⟨(c.def_ 39 (d := d39) rfl), He.glo_ok KI G (A 84 (f := .glo "_law_size") rfl)⟩
  d__law_lay := ⟨(c.def_ 40 (d := d40) rfl), He.glo_ok KI G (A 85 (f := .glo "_law_lay") rfl)⟩
  d__law_lot := ⟨(c.def_ 41 (d := d41) rfl), He.glo_ok KI G (A 86 (f := .glo "_law_lot") rfl)⟩
  d__law_blank := ⟨(c.def_ 42 (d := d42) rfl), He.glo_ok KI G (A 87 (f := .glo "_law_blank") rfl)⟩
  d__law_rows := ⟨(c.def_ 43 (d := d43) rfl), He.glo_ok KI G (A 88 (f := .glo "_law_rows") rfl)⟩
  d__law_is_row := ⟨(c.def_ 44 (d := d44) rfl), He.glo_ok KI G (A 89 (f := .glo "_law_is_row") rfl)⟩
  d__law_text := ⟨(c.def_ 45 (d := d45) rfl), He.glo_ok KI G (A 90 (f := .glo "_law_text") rfl)⟩
  d__law_cell_of := ⟨(c.def_ 46 (d := d46) rfl), He.glo_ok KI G (A 91 (f := .glo "_law_cell_of") rfl)⟩
  d__law_seed_of := ⟨(c.def_ 47 (d := d47) rfl), He.glo_ok KI G (A 92 (f := .glo "_law_seed_of") rfl)⟩
  d__law_refused := ⟨(c.def_ 48 (d := d48) rfl), He.glo_ok KI G (A 93 (f := .glo "_law_refused") rfl)⟩
  d__law_read := ⟨(c.def_ 49 (d := d49) rfl), He.glo_ok KI G (A 94 (f := .glo "_law_read") rfl)⟩
  d__law_line := ⟨(c.def_ 50 (d := d50) rfl), He.glo_ok KI G (A 95 (f := .glo "_law_line") rfl)⟩
  d__law_bent := ⟨(c.def_ 51 (d := d51) rfl), He.glo_ok KI G (A 96 (f := .glo "_law_bent") rfl)⟩
  d__law_text_so := ⟨(c.def_ 52 (d := d52) rfl), He.glo_ok KI G (A 97 (f := .glo "_law_text_so") rfl)⟩
  d__law_wide_texts_so := ⟨(c.def_ 53 (d := d53) rfl), He.glo_ok KI G (A 98 (f := .glo "_law_wide_texts_so") rfl)⟩
  }
end NT
-- law: (c.def_ 54 (d := d54) rfl) glo: (A (f := .glo "law") 99) ne: (B 56)
namespace NT
open PySem PySem.Spec PyProof.Rows L2 LamX
structure LawSays (h : Heap) (K : PySem.W.Frag) : Prop where
  a : He5.SaysA faL fnL K
  x : exB K = true
  hd : ∀ p ∈ tfL, PySem.W.codeHdIn K (He.cT K p).1 (He.cT K p).2 = true
  out : ∀ p ∈ tfL, K.lookup (He.cT K p).2 = none
  empty : ∀ p ∈ tfL, h.get? (He.cT K p).2 = some { cls := .none, data := .fields #[] }
abbrev AlL : Type := He.AlD × Bool
def obsL (g : Addr → Option Obj) : AlL := (He5.obsA faL fnL (kOf g), exB (kOf g) && He.tabsB g tfL (kOf g))
def valL : AlL := (He5.valA fnL, true)
theorem says_of {h : Heap} (e : obsL h.get? = valL) : LawSays h (kOf h.get?) := by
  have e1 : He5.obsA faL fnL (kOf h.get?) = He5.valA fnL := congrArg (fun z : AlL => z.1) e
  have e2 : (exB (kOf h.get?) && He.tabsB h.get? tfL (kOf h.get?)) = true := congrArg (fun z : AlL => z.2) e
  obtain ⟨h1, h2⟩ := Bool.and_eq_true_iff.mp e2
  have key : ∀ p ∈ tfL, PySem.W.codeHdIn (kOf h.get?) (He.cT (kOf h.get?) p).1 (He.cT (kOf h.get?) p).2 = true ∧ ∃ o, h.get? (He.cT (kOf h.get?) p).2 = some o ∧ He.emptyTab o = true := fun p hp => by
    obtain ⟨h3, h4⟩ := Bool.and_eq_true_iff.mp (List.all_eq_true.mp h2 p hp)
    refine ⟨h3, ?_⟩
    cases q : h.get? (He.cT (kOf h.get?) p).2 with
    | none =>
      rw [q] at h4
      cases h4
    | some o =>
      rw [q] at h4
      exact ⟨o, rfl, h4⟩
  exact ⟨e1, h1, fun p hp => (key p hp).1, fun p hp => by
    obtain ⟨_, o, q, z⟩ := key p hp
    exact He.frT_none q z, fun p hp => by
    obtain ⟨_, o, q, z⟩ := key p hp
    rw [q, He.emptyTab_eq z]⟩
def hkL : PySem.W.Hook where
  α := AlL
  obs := fun s => obsL s.heap.get?
  val := fun _ => valL
  says := fun _ h => ∃ K : PySem.W.Frag, K.In h ∧ LawSays h K
  of := fun _ _ e => ⟨_, He.frT_in, says_of e⟩
  keeps := fun _ _ _ ⟨K, hK, c⟩ k => ⟨K, PySem.W.Frag.In.keeps hK k, ⟨c.a, c.x, c.hd, c.out, fun p hp => k _ _ (c.empty p hp)⟩⟩
def obT (s : PySem.W.SharedT) : AlL := obsL (HandSHeadRun.getT s)
theorem obT_eq (s : PySem.W.SharedT) : obT s = hkL.obs s.abs := by
  have e : HandSHeadRun.getT s = s.abs.heap.get? := funext (HandSHeadRun.getT_eq s)
  show obsL (HandSHeadRun.getT s) = obsL s.abs.heap.get?
  rw [e]
theorem law_at {w : World} {l : PySem.W.OpenLaw} {n : Nat} {K : PySem.W.Frag} {mg : Str → Option Value} {fa : Addr} {h : Heap} (KI : K.In h) (G : h.Ns mainGlobals mg) (c : LawSays h K) (hfa : mg ("law" : Str) = some (.ref fa)) : LawAtS l w K CX0 12 n "_law_script" mg fa h := by
  have T := txt_of KI G c.a c.x
  have ne : (cT1 K).2 ≠ (cT2 K).2 := of_decide_eq_true (exB_at c.x 56 rfl)
  obtain ⟨fd, F⟩ := c.a.def_ 54 (d := d54) rfl
  have e := hfa.symm.trans (He.glo_ok KI G (c.a.fact 99 (f := .glo "law") rfl))
  cases e
  have b := FunD.bindsA (ps := ["_law_script"]) F fun _ _ _ _ _ _ us hl => match us, hl with | [_], _ => rfl
  have mem : ∀ p ∈ [cT1 K, cT2 K], ∃ d ∈ tfL, p = He.cT K d := by
    intro p hp
    rcases List.mem_cons.mp hp with h | h
    · exact ⟨_, List.mem_cons_self, h⟩
    · exact ⟨_, List.mem_cons_of_mem _ List.mem_cons_self, List.mem_singleton.mp h⟩
  refine ⟨fd, [cT1 K, cT2 K], spLaw K, fun p hp => ?_, fun p hp => ?_, fun p hp => ?_, fun s u => b s [u] rfl, fun H a ns _ _ hT hS => ?_, fun base _ _ hTB => ?_⟩
  · obtain ⟨d, hd, rfl⟩ := mem p hp; exact c.empty d hd
  · obtain ⟨d, hd, rfl⟩ := mem p hp; exact c.out d hd
  · obtain ⟨d, hd, rfl⟩ := mem p hp; exact PySem.W.codeHd_of_K KI (c.hd d hd)
  · refine ⟨a, ns, rfl, hS, fun p hp => ?_, fun H' => rfl⟩
    rcases List.mem_cons.mp hp with h | h
    · rw [h]; exact TabS.nil (hT _ List.mem_cons_self)
    · rw [List.mem_singleton.mp h]; exact TabS.nil (hT _ (List.mem_cons_of_mem _ List.mem_cons_self))
  · exact fn_law ⟨T, hTB _ List.mem_cons_self, hTB _ (List.mem_cons_of_mem _ List.mem_cons_self), ne⟩ F
end NT
namespace NT
open PySem PySem.W PySem.Calls PyProof.Rows
theorem run (w : World) : HandSHeadRun.RunEq RL (view RL.prog [73]) hkL obT 8000 names w := by
  intro os
  obtain ⟨s, hs, e0⟩ := Option.map_eq_some_iff.mp (run0 w os)
  have on : ∀ {α : Type} {f : PySem.W.SharedT → α} {a : α}, (endL w os).map f = some a → f s = a := fun {α f a} e => by
    have e' : (some s).map f = some a := (congrArg (Option.map f) hs).symm.trans e
    exact Option.some.inj e'
  have e1 := on (run1 w os)
  have e2 := on (run2 w os)
  have e3 := on (run3 w os)
  have e4 := on (run4 w os)
  obtain ⟨l1, l2⟩ := Prod.mk.inj e0
  have ob : obT s = valL := Prod.ext (Prod.ext (Bool.and_eq_true_iff.mpr ⟨e1, e2⟩) e3) e4
  exact (congrArg (Option.map _) hs).trans (congrArg some (Prod.ext l1 (Prod.ext (Prod.mk.inj l2).1 ob)))
end NT
open PySem PySem.W PySem.Calls PyProof.Rows
theorem PySem.Challenge.cw_newesttells_k11_whole_texts_of_bands_holds : PySem.Challenge.rw_newesttells_k11_whole_texts_of_bands.Holds := by
  w_on; o_law
  refine HandSHeadRun.head_any (r := OpenLaw.row PySem.Challenge.rw_newesttells_k11_whole_texts_of_bands) (q := view (OpenLaw.row PySem.Challenge.rw_newesttells_k11_whole_texts_of_bands).prog [73]) (H := NT.hkL) (ob := NT.obT) (M := 8000) (loose := NT.names) (d := HandSHeadRun.topDef (OpenLaw.row PySem.Challenge.rw_newesttells_k11_whole_texts_of_bands).prog 73) (kwd := []) NT.obT_eq
    (by kernel_rfl) (fun s => by kernel_rfl) NT.run (by kernel_rfl) (by kernel_rfl) (by kernel_rfl) (by rfl) (by first | assumption | decide +kernel) (by decide +kernel) ⟨rfl, rfl, rfl, rfl, rfl, by decide +kernel⟩ ?hw ?hc
  case hw => w_witness2
  case hc =>
    refine LamX.walk_ofTsE (l := PySem.Challenge.rw_newesttells_k11_whole_texts_of_bands) (n := 63) (k := 12) (x := "_law_script") (CX := fun _ => L2.CX0) rfl (by decide) (by kernel_rfl) ⟨rfl, by decide, by decide⟩ ?F (fun _ _ _ _ _ z => z)
    intro w mg fa h Y G hmg0
    obtain ⟨K, KX, c⟩ := Y
    have hmg : mg ("law" : PySem.Str) = some (.ref fa) := by
      have e : (HandSHeadRun.topDef (OpenLaw.row PySem.Challenge.rw_newesttells_k11_whole_texts_of_bands).prog 73).name = ("law" : PySem.Str) := by kernel_rfl
      rw [← e]
      exact hmg0
    exact ⟨K, KX, NT.law_at KX G c hmg⟩
