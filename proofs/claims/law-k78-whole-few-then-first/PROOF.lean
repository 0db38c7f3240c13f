import PyProof.Rows.All
import Wide.All
import OpenK.AllK
import Wide.FinOn
import HandS.ForMost
import HandS.Walk
import HandS.Conv
import HandS.Deep
import HandS.IsInst
import HandS.TupAny
import HandS.TupLen
import HandS.Style
import HandS.NoneIn
import HandS.Exc
import HandS.ExcOwn
import HandS.TryOnly
import HandS.WordsExc
import HandS.Wide
import HandS.Rev
import HandS.SetFor
import HandS.SortInts
import HandS.SortOrd
import HandS.DictTup
import HandS.Strs
import HandS.SetKeys
import HandS.TupSets
import HandS.WrittenGet
import HandS.Small
import HandS.CallSlots
import HandS.HeadEnd
import HandS.HeadHook4
import HandS.Head2
import HandS.ExcInit
import HandS.ExcField
import PySem.Challenge.RW_triesagain_k78_whole_few_then_first
import KE.KDictPairs
import KE.GoesEnum
import PyProof.TupleOfSeq
set_option Elab.async false
set_option linter.all false
set_option maxRecDepth 100000
set_option maxHeartbeats 0
namespace Ta
open PySem PySem.Spec PyProof.Rows L2
def tp (i : Nat) : Stmt := PySem.Challenge.pw_triesagain_k78_whole_few_then_first.main.body.getD i (.Pass ⟨0, 0, 0, 0⟩)
abbrev dOf (at_ : Str × Option Str) (n q : Str) (s : Stmt) : He.DefD := ⟨at_, n, q, defArgs s, defBody s, defScope s, [], []⟩
abbrev s_is_name : Stmt := (tp 3)
abbrev s_is_whole : Stmt := (tp 4)
abbrev s_is_number : Stmt := (tp 5)
abbrev s_is_row : Stmt := (tp 6)
abbrev s_as_tuples : Stmt := (tp 7)
abbrev s_are_names : Stmt := (tp 14)
abbrev s_fits : Stmt := (tp 15)
abbrev s_has_shape : Stmt := (tp 16)
abbrev s_parts_of : Stmt := (tp 17)
abbrev s_size_within : Stmt := (tp 18)
abbrev s_is_expression : Stmt := (tp 19)
abbrev s_all_names : Stmt := (tp 23)
abbrev s_is_place : Stmt := (tp 24)
abbrev s_is_looks : Stmt := (tp 25)
abbrev s_is_file : Stmt := (tp 26)
abbrev s_is_content : Stmt := (tp 27)
abbrev s_is_place_row : Stmt := (tp 28)
abbrev s_wrong_row : Stmt := (tp 29)
abbrev s_is_told : Stmt := (tp 32)
abbrev s_is_book : Stmt := (tp 33)
abbrev s_fallen : Stmt := (tp 34)
abbrev s_stands : Stmt := (tp 35)
abbrev s_ask_books : Stmt := (tp 46)
abbrev s_places_by_book : Stmt := (tp 47)
abbrev s_all_places : Stmt := (tp 48)
abbrev s_touched : Stmt := (tp 49)
abbrev s_is_had : Stmt := (tp 50)
abbrev s_have_all : Stmt := (tp 51)
abbrev s_are_indexes : Stmt := (tp 52)
abbrev s_is_keeping : Stmt := (tp 53)
abbrev s_gain : Stmt := (tp 55)
abbrev s_picked : Stmt := (tp 56)
abbrev s_few_of : Stmt := (tp 57)
abbrev s_few_kept : Stmt := (tp 58)
abbrev s_is_chance : Stmt := (tp 63)
abbrev s_ask_chances : Stmt := (tp 64)
abbrev s_is_order : Stmt := (tp 65)
abbrev s_common : Stmt := (tp 66)
abbrev s_lowest : Stmt := (tp 67)
abbrev s_expected : Stmt := (tp 68)
abbrev s_World___init__ : Stmt := (inClass (tp 71) 0)
abbrev s_World_content : Stmt := (inClass (tp 71) 1)
abbrev s_sorted_rows : Stmt := (tp 72)
abbrev s_differing : Stmt := (tp 74)
abbrev s_ask_level : Stmt := (tp 78)
abbrev s_middle_whole : Stmt := (tp 79)
abbrev s_whole : Stmt := (tp 80)
abbrev s_wholes_of : Stmt := (tp 81)
abbrev s_wholes : Stmt := (tp 82)
abbrev s_chosen : Stmt := (tp 83)
abbrev s_is_above : Stmt := (tp 85)
abbrev s_is_best_order : Stmt := (tp 86)
abbrev s_best_order : Stmt := (tp 87)
abbrev s_WorldAsker___init__ : Stmt := (inClass (tp 89) 0)
abbrev s_WorldAsker_ask : Stmt := (inClass (tp 89) 1)
abbrev s_WorldAsker_all_asked : Stmt := (inClass (tp 89) 2)
abbrev s_met_from : Stmt := (tp 90)
abbrev s_Ended___init__ : Stmt := (inClass (tp 93) 0)
abbrev s_Walk___init__ : Stmt := (inClass (tp 94) 0)
abbrev s_Walk_call : Stmt := (inClass (tp 94) 1)
abbrev s_Walk_work : Stmt := (inClass (tp 94) 2)
abbrev s_Walk_work_all : Stmt := (inClass (tp 94) 3)
abbrev s_Walk_reckon : Stmt := (inClass (tp 94) 4)
abbrev s_Walk_go_on : Stmt := (inClass (tp 94) 5)
abbrev s_Walk_look : Stmt := (inClass (tp 94) 6)
abbrev s_Walk_told_at : Stmt := (inClass (tp 94) 7)
abbrev s_Walk_all_cells : Stmt := (inClass (tp 94) 8)
abbrev s_walked : Stmt := (tp 98)
abbrev s_run : Stmt := (tp 99)
abbrev s__law_stream : Stmt := (tp 101)
abbrev s__law_take : Stmt := (tp 102)
abbrev s__law_calling : Stmt := (tp 103)
abbrev s__law_asking : Stmt := (tp 104)
abbrev s__law_expression : Stmt := (tp 105)
abbrev s__law_looks : Stmt := (tp 106)
abbrev s__law_contents : Stmt := (tp 107)
abbrev s__law_put_in : Stmt := (tp 108)
abbrev s__law_try : Stmt := (tp 109)
abbrev s__law_chance : Stmt := (tp 110)
abbrev s__law_orders : Stmt := (tp 111)
abbrev s__law_first : Stmt := (tp 112)
abbrev s__law_met : Stmt := (tp 113)
abbrev s_law : Stmt := (tp 114)
def fn0 : List He.DefD := [dOf ("is_name", none) "is_name" "is_name" s_is_name,
  dOf ("is_whole", none) "is_whole" "is_whole" s_is_whole,
  dOf ("is_number", none) "is_number" "is_number" s_is_number,
  dOf ("is_row", none) "is_row" "is_row" s_is_row,
  dOf ("as_tuples", none) "as_tuples" "as_tuples" s_as_tuples,
  dOf ("are_names", none) "are_names" "are_names" s_are_names,
  dOf ("fits", none) "fits" "fits" s_fits,
  dOf ("has_shape", none) "has_shape" "has_shape" s_has_shape,
  dOf ("parts_of", none) "parts_of" "parts_of" s_parts_of,
  dOf ("size_within", none) "size_within" "size_within" s_size_within,
  dOf ("is_expression", none) "is_expression" "is_expression" s_is_expression,
  dOf ("all_names", none) "all_names" "all_names" s_all_names,
  dOf ("is_place", none) "is_place" "is_place" s_is_place,
  dOf ("is_looks", none) "is_looks" "is_looks" s_is_looks,
  dOf ("is_file", none) "is_file" "is_file" s_is_file,
  dOf ("is_content", none) "is_content" "is_content" s_is_content,
  dOf ("is_place_row", none) "is_place_row" "is_place_row" s_is_place_row,
  dOf ("wrong_row", none) "wrong_row" "wrong_row" s_wrong_row,
  dOf ("is_told", none) "is_told" "is_told" s_is_told,
  dOf ("is_book", none) "is_book" "is_book" s_is_book,
  dOf ("fallen", none) "fallen" "fallen" s_fallen,
  dOf ("stands", none) "stands" "stands" s_stands,
  dOf ("ask_books", none) "ask_books" "ask_books" s_ask_books,
  dOf ("places_by_book", none) "places_by_book" "places_by_book" s_places_by_book,
  dOf ("all_places", none) "all_places" "all_places" s_all_places,
  dOf ("touched", none) "touched" "touched" s_touched,
  dOf ("is_had", none) "is_had" "is_had" s_is_had,
  dOf ("have_all", none) "have_all" "have_all" s_have_all,
  dOf ("are_indexes", none) "are_indexes" "are_indexes" s_are_indexes,
  dOf ("is_keeping", none) "is_keeping" "is_keeping" s_is_keeping,
  dOf ("gain", none) "gain" "gain" s_gain,
  dOf ("picked", none) "picked" "picked" s_picked,
  dOf ("few_of", none) "few_of" "few_of" s_few_of,
  dOf ("few_kept", none) "few_kept" "few_kept" s_few_kept,
  dOf ("is_chance", none) "is_chance" "is_chance" s_is_chance,
  dOf ("ask_chances", none) "ask_chances" "ask_chances" s_ask_chances,
  dOf ("is_order", none) "is_order" "is_order" s_is_order,
  dOf ("common", none) "common" "common" s_common,
  dOf ("lowest", none) "lowest" "lowest" s_lowest,
  dOf ("expected", none) "expected" "expected" s_expected]
def fn1 : List He.DefD := [dOf ("World", some "__init__") "__init__" "World.__init__" s_World___init__,
  dOf ("World", some "content") "content" "World.content" s_World_content,
  dOf ("sorted_rows", none) "sorted_rows" "sorted_rows" s_sorted_rows,
  dOf ("differing", none) "differing" "differing" s_differing,
  dOf ("ask_level", none) "ask_level" "ask_level" s_ask_level,
  dOf ("middle_whole", none) "middle_whole" "middle_whole" s_middle_whole,
  dOf ("whole", none) "whole" "whole" s_whole,
  dOf ("wholes_of", none) "wholes_of" "wholes_of" s_wholes_of,
  dOf ("wholes", none) "wholes" "wholes" s_wholes,
  dOf ("chosen", none) "chosen" "chosen" s_chosen,
  dOf ("is_above", none) "is_above" "is_above" s_is_above,
  dOf ("is_best_order", none) "is_best_order" "is_best_order" s_is_best_order,
  dOf ("best_order", none) "best_order" "best_order" s_best_order,
  dOf ("WorldAsker", some "__init__") "__init__" "WorldAsker.__init__" s_WorldAsker___init__,
  dOf ("WorldAsker", some "ask") "ask" "WorldAsker.ask" s_WorldAsker_ask,
  dOf ("WorldAsker", some "all_asked") "all_asked" "WorldAsker.all_asked" s_WorldAsker_all_asked,
  dOf ("met_from", none) "met_from" "met_from" s_met_from,
  dOf ("Ended", some "__init__") "__init__" "Ended.__init__" s_Ended___init__,
  dOf ("Walk", some "__init__") "__init__" "Walk.__init__" s_Walk___init__,
  dOf ("Walk", some "call") "call" "Walk.call" s_Walk_call,
  dOf ("Walk", some "work") "work" "Walk.work" s_Walk_work,
  dOf ("Walk", some "work_all") "work_all" "Walk.work_all" s_Walk_work_all,
  dOf ("Walk", some "reckon") "reckon" "Walk.reckon" s_Walk_reckon,
  dOf ("Walk", some "go_on") "go_on" "Walk.go_on" s_Walk_go_on,
  dOf ("Walk", some "look") "look" "Walk.look" s_Walk_look,
  dOf ("Walk", some "told_at") "told_at" "Walk.told_at" s_Walk_told_at,
  dOf ("Walk", some "all_cells") "all_cells" "Walk.all_cells" s_Walk_all_cells,
  dOf ("walked", none) "walked" "walked" s_walked,
  dOf ("run", none) "run" "run" s_run,
  dOf ("_law_stream", none) "_law_stream" "_law_stream" s__law_stream,
  dOf ("_law_take", none) "_law_take" "_law_take" s__law_take,
  dOf ("_law_calling", none) "_law_calling" "_law_calling" s__law_calling,
  dOf ("_law_asking", none) "_law_asking" "_law_asking" s__law_asking,
  dOf ("_law_expression", none) "_law_expression" "_law_expression" s__law_expression,
  dOf ("_law_looks", none) "_law_looks" "_law_looks" s__law_looks,
  dOf ("_law_contents", none) "_law_contents" "_law_contents" s__law_contents,
  dOf ("_law_put_in", none) "_law_put_in" "_law_put_in" s__law_put_in,
  dOf ("_law_try", none) "_law_try" "_law_try" s__law_try,
  dOf ("_law_chance", none) "_law_chance" "_law_chance" s__law_chance,
  dOf ("_law_orders", none) "_law_orders" "_law_orders" s__law_orders]
def fn2 : List He.DefD := [dOf ("_law_first", none) "_law_first" "_law_first" s__law_first,
  dOf ("_law_met", none) "_law_met" "_law_met" s__law_met,
  dOf ("law", none) "law" "law" s_law]
def fn : List He.DefD := fn0 ++ fn1 ++ fn2
def fa0 : List He.Fa := [.glo "is_name",
  .glo "is_whole",
  .glo "is_number",
  .glo "is_row",
  .glo "as_tuples",
  .glo "are_names",
  .glo "fits",
  .glo "has_shape",
  .glo "parts_of",
  .glo "size_within",
  .glo "is_expression",
  .glo "all_names",
  .glo "is_place",
  .glo "is_looks",
  .glo "is_file",
  .glo "is_content",
  .glo "is_place_row",
  .glo "wrong_row",
  .glo "is_told",
  .glo "is_book",
  .glo "fallen",
  .glo "stands",
  .glo "ask_books",
  .glo "places_by_book",
  .glo "all_places",
  .glo "touched",
  .glo "is_had",
  .glo "have_all",
  .glo "are_indexes",
  .glo "is_keeping",
  .glo "gain",
  .glo "picked",
  .glo "few_of",
  .glo "few_kept",
  .glo "is_chance",
  .glo "ask_chances",
  .glo "is_order",
  .glo "common",
  .glo "lowest",
  .glo "expected"]
def fa1 : List He.Fa := [.glo "sorted_rows",
  .glo "differing",
  .glo "ask_level",
  .glo "middle_whole",
  .glo "whole",
  .glo "wholes_of",
  .glo "wholes",
  .glo "chosen",
  .glo "is_above",
  .glo "is_best_order",
  .glo "best_order",
  .glo "met_from",
  .glo "walked",
  .glo "run",
  .glo "_law_stream",
  .glo "_law_take",
  .glo "_law_calling",
  .glo "_law_asking",
  .glo "_law_expression",
  .glo "_law_looks",
  .glo "_law_contents",
  .glo "_law_put_in",
  .glo "_law_try",
  .glo "_law_chance",
  .glo "_law_orders",
  .glo "_law_first",
  .glo "_law_met",
  .glo "law",
  .glo "World",
  .glo "WorldAsker",
  .glo "Walk",
  .glo "Ended",
  .glo "SHAPES",
  .glo "WIDEST",
  .free "isinstance",
  .free "len",
  .free "str",
  .free "int",
  .free "bool",
  .free "list"]
def fa2 : List He.Fa := [.free "tuple",
  .free "all",
  .free "range",
  .free "set",
  .free "enumerate",
  .free "max",
  .free "sorted",
  .free "dict",
  .free "reversed",
  .int "MOST_NUMBER" 999999,
  .int "MOST_NAME" 8,
  .int "MOST_SIZE" 60,
  .int "MOST_DEPTH" 8,
  .int "MOST_ARGUMENTS" 4,
  .int "MOST_NAMES" 4,
  .int "MOST_LOOKS" 6,
  .int "MOST_FILE" 12,
  .int "MOST_ROWS" 4000,
  .int "MOST_BOOKS" 40,
  .int "MOST_CHANCES" 40,
  .int "MOST_RUNS" 1000,
  .int "MOST_COST" 100000,
  .int "MOST_PLACES" 200,
  .int "MOST_LEVEL" 2,
  .int "ROUND" 1000000,
  .int "MOST_STEPS" 400,
  .int "MOST_OPEN" 12,
  .cls "World",
  .mkr "World",
  .meth "World" "content",
  .noat "World" "contents",
  .noat "World" "rows",
  .cls "WorldAsker",
  .mkr "WorldAsker",
  .meth "WorldAsker" "ask",
  .meth "WorldAsker" "all_asked",
  .noat "WorldAsker" "world",
  .noat "WorldAsker" "known",
  .cls "Walk",
  .mkr "Walk"]
def fa3 : List He.Fa := [.meth "Walk" "call",
  .meth "Walk" "work",
  .meth "Walk" "work_all",
  .meth "Walk" "reckon",
  .meth "Walk" "go_on",
  .meth "Walk" "look",
  .meth "Walk" "told_at",
  .meth "Walk" "all_cells",
  .noat "Walk" "asker",
  .noat "Walk" "most_steps",
  .noat "Walk" "most_open",
  .noat "Walk" "cells",
  .noat "Walk" "steps",
  .noat "Walk" "opened",
  .noat "Ended" "outcome",
  .exm "Ended" "Ended" true,
  .keep "Ended"]
def fa : List He.Fa := fa0 ++ fa1 ++ fa2 ++ fa3
def shapes : List (Str × List Str) := [("num", ["number"]), ("arg", ["index"]), ("clock", []), ("add", ["part", "part"]), ("sub", ["part", "part"]), ("mul", ["part", "part"]), ("less", ["part", "part"]), ("same", ["part", "part"]), ("if", ["part", "part", "part"]), ("stop", ["part"]), ("call", ["name", "args"]), ("pick", ["part", "names", "args"]), ("cell", ["name", "part", "part"]), ("put", ["name", "part", "part"]), ("file", ["name", "part", "part"])]
def widest : List (Str × List Str) := [("def", ["modules"]), ("looks", ["modules"]), ("cell", ["tables"]), ("file", ["files"]), ("clock", ["clock"])]
def lo0 : List Str := ["MOST_NUMBER", "MOST_NAME", "is_name", "is_whole", "is_number", "is_row", "as_tuples", "MOST_SIZE", "MOST_DEPTH", "MOST_ARGUMENTS", "MOST_NAMES", "SHAPES", "are_names", "fits", "has_shape"]
def lo1 : List Str := ["parts_of", "size_within", "is_expression", "MOST_LOOKS", "MOST_FILE", "all_names", "is_place", "is_looks", "is_file", "is_content", "is_place_row", "wrong_row", "MOST_ROWS", "is_told", "is_book"]
def lo2 : List Str := ["fallen", "stands", "TryError", "TooMany", "NoRow", "NoLevel", "NoBook", "NoChance", "NoOrder", "MOST_BOOKS", "ask_books", "places_by_book", "all_places", "touched", "is_had"]
def lo3 : List Str := ["have_all", "are_indexes", "is_keeping", "gain", "picked", "few_of", "few_kept", "MOST_CHANCES", "MOST_RUNS", "MOST_COST", "is_chance", "ask_chances", "is_order", "common", "lowest"]
def lo4 : List Str := ["expected", "MOST_PLACES", "World", "sorted_rows", "differing", "MOST_LEVEL", "WIDEST", "ask_level", "middle_whole", "whole", "wholes_of", "wholes", "chosen", "is_above", "is_best_order"]
def lo5 : List Str := ["best_order", "WorldAsker", "met_from", "ROUND", "Ended", "Walk", "MOST_STEPS", "MOST_OPEN", "walked", "run", "_law_stream", "_law_take", "_law_calling", "_law_asking", "_law_expression"]
def lo6 : List Str := ["_law_looks", "_law_contents", "_law_put_in", "_law_try", "_law_chance", "_law_orders", "_law_first", "_law_met"]
def lo : List Str := lo0 ++ lo1 ++ lo2 ++ lo3 ++ lo4 ++ lo5 ++ lo6
/-- the tuple of texts that stands at the key k of the top's dict x -/
def kvA (K : PySem.W.Frag) (x k : Str) : Addr := match PySem.W.nsIn K (He.ga K x) k with
  | some (some (.ref a)) => a
  | _ => 0
def kvB (K : PySem.W.Frag) (x : Str) (q : Str × List Str) : Bool :=
  (match PySem.W.nsIn K (He.ga K x) q.1 with
    | some (some (.ref a)) => true
    | _ => false) &&
  (match K.lookup (kvA K x q.1) with
    | some ⟨.type c, _, .seq its _, _⟩ => decide (c = "tuple") && (decide (its.size ≤ sizeLine) && He.relAll (q.2.map V.str) its.toList)
    | _ => false)
/-- what is asked of the own error's class -/
def endC (K : PySem.W.Frag) (C : Addr) : Bool := match K.lookup C with
  | some ⟨.type t, _, .cls cd, sl⟩ => (match cd.mro, sl.toList with
    | .ref C' :: bm, [_, _, _, _, some (.builtin n), _] => decide (t = "type") && (decide (C' = C) && (decide (n = "ValueError.__new__") && (PySem.HandSPX.refsVE bm && (cd.hasDict && !cd.hasDel))))
    | _, _ => false)
  | _ => false
def endB (K : PySem.W.Frag) : Bool := endC K (He.ga K "Ended") && (decide (PySem.W.findIn K (.ref (He.ga K "Ended")) "__setattr__" = some (some (.builtin "object.__setattr__"))) && (decide (PySem.W.typeIn K (.ref (He.ga K "Ended")) = some (.type "type")) &&
  (L2.xfB K (He.ga K "Ended") && (decide (PySem.W.findIn K (.ref (He.ga K "Ended")) "__init__" = some (some (.ref (He.fAd K ("Ended", some "__init__"))))) && decide (PySem.W.typeIn K (.ref (He.fAd K ("Ended", some "__init__"))) = some (.type "function"))))))
def exB (K : PySem.W.Frag) : Bool := (shapes.all (kvB K "SHAPES") && widest.all (kvB K "WIDEST")) && endB K
def ts : List He.Tab := [(fun K => He.ga K "SHAPES", shapes.map (·.1)), (fun K => He.ga K "WIDEST", widest.map (·.1))]
/-- what one looks at: the module's names, its functions and classes, the codes, the methods, the tables -/
def refsZ (o : Obj) : List Addr := match o.data with
  | .func fd => He.refV fd.code
  | .cls cd => [cd.ns]
  | .dict es _ => es.toList.flatMap fun e => He.refV e.val
  | _ => []
def stZ (g : Addr → Option Obj) (as : List Addr) : List Addr := as.flatMap fun a => match g a with
  | some o => refsZ o
  | none => []
def asZ (g : Addr → Option Obj) : Nat → List Addr → List Addr
  | 0, as => as
  | n + 1, as => as ++ asZ g n (stZ g as)
abbrev AlZ : Type := He.AlT × Bool
abbrev KZ (g : Addr → Option Obj) : PySem.W.Frag := He.frG g (asZ g 4 [mainGlobals])
def obsZ (g : Addr → Option Obj) : AlZ := (He.obsT fa fn ts (KZ g), exB (KZ g))
def valZ (w : World) : AlZ := (He.valT fn ts w, true)
structure Says (w : World) (K : PySem.W.Frag) : Prop where
  t : He.SaysT fa fn ts w K
  ex : exB K = true
def hk : PySem.W.Hook where
  α := AlZ
  obs := fun s => obsZ s.heap.get?
  val := fun w => valZ w
  says := fun w h => ∃ K : PySem.W.Frag, K.In h ∧ Says w K
  of := fun _ _ e => ⟨_, He.frG_in, congrArg (fun z : AlZ => z.1) e, congrArg (fun z : AlZ => z.2) e⟩
  keeps := fun _ _ _ ⟨K, hK, c⟩ k => ⟨K, PySem.W.Frag.In.keeps hK k, c⟩

/-- what the top has written -/
structure Tx (w : World) (K : PySem.W.Frag) (mg : Str → Option Value) : Prop where
  c : Says w K
  h : ∃ h : Heap, K.In h ∧ h.Ns mainGlobals mg
section
variable {w : World} {K : PySem.W.Frag} {mg : Str → Option Value}
theorem Tx.f (T : Tx w K mg) (i : Nat) {f : He.Fa} (h : fa[i]? = some f) : f.ok K = true := T.c.t.d.fact i h
theorem Tx.glo (T : Tx w K mg) {x : Str} (i : Nat) (h : fa[i]? = some (.glo x)) : mg x = some (.ref (He.ga K x)) := by
  obtain ⟨hp, X, G⟩ := T.h
  exact He.glo_ok X G (T.f i h)
theorem Tx.free (T : Tx w K mg) {x : Str} (i : Nat) (h : fa[i]? = some (.free x)) : mg x = none := by
  obtain ⟨hp, X, G⟩ := T.h
  exact He.free_ok X G (T.f i h)
theorem Tx.int (T : Tx w K mg) {x : Str} {n : Int} (i : Nat) (h : fa[i]? = some (.int x n)) : ∃ t, mg x = some (.int n t) := by
  obtain ⟨hp, X, G⟩ := T.h
  exact He.int_ok X G (T.f i h)
theorem Tx.g_is_name (T : Tx w K mg) : mg "is_name" = some (.ref (He.ga K "is_name")) := T.glo 0 rfl
theorem Tx.g_is_whole (T : Tx w K mg) : mg "is_whole" = some (.ref (He.ga K "is_whole")) := T.glo 1 rfl
theorem Tx.g_is_number (T : Tx w K mg) : mg "is_number" = some (.ref (He.ga K "is_number")) := T.glo 2 rfl
theorem Tx.g_is_row (T : Tx w K mg) : mg "is_row" = some (.ref (He.ga K "is_row")) := T.glo 3 rfl
theorem Tx.g_as_tuples (T : Tx w K mg) : mg "as_tuples" = some (.ref (He.ga K "as_tuples")) := T.glo 4 rfl
theorem Tx.g_are_names (T : Tx w K mg) : mg "are_names" = some (.ref (He.ga K "are_names")) := T.glo 5 rfl
theorem Tx.g_fits (T : Tx w K mg) : mg "fits" = some (.ref (He.ga K "fits")) := T.glo 6 rfl
theorem Tx.g_has_shape (T : Tx w K mg) : mg "has_shape" = some (.ref (He.ga K "has_shape")) := T.glo 7 rfl
theorem Tx.g_parts_of (T : Tx w K mg) : mg "parts_of" = some (.ref (He.ga K "parts_of")) := T.glo 8 rfl
theorem Tx.g_size_within (T : Tx w K mg) : mg "size_within" = some (.ref (He.ga K "size_within")) := T.glo 9 rfl
theorem Tx.g_is_expression (T : Tx w K mg) : mg "is_expression" = some (.ref (He.ga K "is_expression")) := T.glo 10 rfl
theorem Tx.g_all_names (T : Tx w K mg) : mg "all_names" = some (.ref (He.ga K "all_names")) := T.glo 11 rfl
theorem Tx.g_is_place (T : Tx w K mg) : mg "is_place" = some (.ref (He.ga K "is_place")) := T.glo 12 rfl
theorem Tx.g_is_looks (T : Tx w K mg) : mg "is_looks" = some (.ref (He.ga K "is_looks")) := T.glo 13 rfl
theorem Tx.g_is_file (T : Tx w K mg) : mg "is_file" = some (.ref (He.ga K "is_file")) := T.glo 14 rfl
theorem Tx.g_is_content (T : Tx w K mg) : mg "is_content" = some (.ref (He.ga K "is_content")) := T.glo 15 rfl
theorem Tx.g_is_place_row (T : Tx w K mg) : mg "is_place_row" = some (.ref (He.ga K "is_place_row")) := T.glo 16 rfl
theorem Tx.g_wrong_row (T : Tx w K mg) : mg "wrong_row" = some (.ref (He.ga K "wrong_row")) := T.glo 17 rfl
theorem Tx.g_is_told (T : Tx w K mg) : mg "is_told" = some (.ref (He.ga K "is_told")) := T.glo 18 rfl
theorem Tx.g_is_book (T : Tx w K mg) : mg "is_book" = some (.ref (He.ga K "is_book")) := T.glo 19 rfl
theorem Tx.g_fallen (T : Tx w K mg) : mg "fallen" = some (.ref (He.ga K "fallen")) := T.glo 20 rfl
theorem Tx.g_stands (T : Tx w K mg) : mg "stands" = some (.ref (He.ga K "stands")) := T.glo 21 rfl
theorem Tx.g_ask_books (T : Tx w K mg) : mg "ask_books" = some (.ref (He.ga K "ask_books")) := T.glo 22 rfl
theorem Tx.g_places_by_book (T : Tx w K mg) : mg "places_by_book" = some (.ref (He.ga K "places_by_book")) := T.glo 23 rfl
theorem Tx.g_all_places (T : Tx w K mg) : mg "all_places" = some (.ref (He.ga K "all_places")) := T.glo 24 rfl
theorem Tx.g_touched (T : Tx w K mg) : mg "touched" = some (.ref (He.ga K "touched")) := T.glo 25 rfl
theorem Tx.g_is_had (T : Tx w K mg) : mg "is_had" = some (.ref (He.ga K "is_had")) := T.glo 26 rfl
theorem Tx.g_have_all (T : Tx w K mg) : mg "have_all" = some (.ref (He.ga K "have_all")) := T.glo 27 rfl
theorem Tx.g_are_indexes (T : Tx w K mg) : mg "are_indexes" = some (.ref (He.ga K "are_indexes")) := T.glo 28 rfl
theorem Tx.g_is_keeping (T : Tx w K mg) : mg "is_keeping" = some (.ref (He.ga K "is_keeping")) := T.glo 29 rfl
theorem Tx.g_gain (T : Tx w K mg) : mg "gain" = some (.ref (He.ga K "gain")) := T.glo 30 rfl
theorem Tx.g_picked (T : Tx w K mg) : mg "picked" = some (.ref (He.ga K "picked")) := T.glo 31 rfl
theorem Tx.g_few_of (T : Tx w K mg) : mg "few_of" = some (.ref (He.ga K "few_of")) := T.glo 32 rfl
theorem Tx.g_few_kept (T : Tx w K mg) : mg "few_kept" = some (.ref (He.ga K "few_kept")) := T.glo 33 rfl
theorem Tx.g_is_chance (T : Tx w K mg) : mg "is_chance" = some (.ref (He.ga K "is_chance")) := T.glo 34 rfl
theorem Tx.g_ask_chances (T : Tx w K mg) : mg "ask_chances" = some (.ref (He.ga K "ask_chances")) := T.glo 35 rfl
theorem Tx.g_is_order (T : Tx w K mg) : mg "is_order" = some (.ref (He.ga K "is_order")) := T.glo 36 rfl
theorem Tx.g_common (T : Tx w K mg) : mg "common" = some (.ref (He.ga K "common")) := T.glo 37 rfl
theorem Tx.g_lowest (T : Tx w K mg) : mg "lowest" = some (.ref (He.ga K "lowest")) := T.glo 38 rfl
theorem Tx.g_expected (T : Tx w K mg) : mg "expected" = some (.ref (He.ga K "expected")) := T.glo 39 rfl
theorem Tx.g_sorted_rows (T : Tx w K mg) : mg "sorted_rows" = some (.ref (He.ga K "sorted_rows")) := T.glo 40 rfl
theorem Tx.g_differing (T : Tx w K mg) : mg "differing" = some (.ref (He.ga K "differing")) := T.glo 41 rfl
theorem Tx.g_ask_level (T : Tx w K mg) : mg "ask_level" = some (.ref (He.ga K "ask_level")) := T.glo 42 rfl
theorem Tx.g_middle_whole (T : Tx w K mg) : mg "middle_whole" = some (.ref (He.ga K "middle_whole")) := T.glo 43 rfl
theorem Tx.g_whole (T : Tx w K mg) : mg "whole" = some (.ref (He.ga K "whole")) := T.glo 44 rfl
theorem Tx.g_wholes_of (T : Tx w K mg) : mg "wholes_of" = some (.ref (He.ga K "wholes_of")) := T.glo 45 rfl
theorem Tx.g_wholes (T : Tx w K mg) : mg "wholes" = some (.ref (He.ga K "wholes")) := T.glo 46 rfl
theorem Tx.g_chosen (T : Tx w K mg) : mg "chosen" = some (.ref (He.ga K "chosen")) := T.glo 47 rfl
theorem Tx.g_is_above (T : Tx w K mg) : mg "is_above" = some (.ref (He.ga K "is_above")) := T.glo 48 rfl
theorem Tx.g_is_best_order (T : Tx w K mg) : mg "is_best_order" = some (.ref (He.ga K "is_best_order")) := T.glo 49 rfl
theorem Tx.g_best_order (T : Tx w K mg) : mg "best_order" = some (.ref (He.ga K "best_order")) := T.glo 50 rfl
theorem Tx.g_met_from (T : Tx w K mg) : mg "met_from" = some (.ref (He.ga K "met_from")) := T.glo 51 rfl
theorem Tx.g_walked (T : Tx w K mg) : mg "walked" = some (.ref (He.ga K "walked")) := T.glo 52 rfl
theorem Tx.g_run (T : Tx w K mg) : mg "run" = some (.ref (He.ga K "run")) := T.glo 53 rfl
theorem Tx.g__law_stream (T : Tx w K mg) : mg "_law_stream" = some (.ref (He.ga K "_law_stream")) := T.glo 54 rfl
theorem Tx.g__law_take (T : Tx w K mg) : mg "_law_take" = some (.ref (He.ga K "_law_take")) := T.glo 55 rfl
theorem Tx.g__law_calling (T : Tx w K mg) : mg "_law_calling" = some (.ref (He.ga K "_law_calling")) := T.glo 56 rfl
theorem Tx.g__law_asking (T : Tx w K mg) : mg "_law_asking" = some (.ref (He.ga K "_law_asking")) := T.glo 57 rfl
theorem Tx.g__law_expression (T : Tx w K mg) : mg "_law_expression" = some (.ref (He.ga K "_law_expression")) := T.glo 58 rfl
theorem Tx.g__law_looks (T : Tx w K mg) : mg "_law_looks" = some (.ref (He.ga K "_law_looks")) := T.glo 59 rfl
theorem Tx.g__law_contents (T : Tx w K mg) : mg "_law_contents" = some (.ref (He.ga K "_law_contents")) := T.glo 60 rfl
theorem Tx.g__law_put_in (T : Tx w K mg) : mg "_law_put_in" = some (.ref (He.ga K "_law_put_in")) := T.glo 61 rfl
theorem Tx.g__law_try (T : Tx w K mg) : mg "_law_try" = some (.ref (He.ga K "_law_try")) := T.glo 62 rfl
theorem Tx.g__law_chance (T : Tx w K mg) : mg "_law_chance" = some (.ref (He.ga K "_law_chance")) := T.glo 63 rfl
theorem Tx.g__law_orders (T : Tx w K mg) : mg "_law_orders" = some (.ref (He.ga K "_law_orders")) := T.glo 64 rfl
theorem Tx.g__law_first (T : Tx w K mg) : mg "_law_first" = some (.ref (He.ga K "_law_first")) := T.glo 65 rfl
theorem Tx.g__law_met (T : Tx w K mg) : mg "_law_met" = some (.ref (He.ga K "_law_met")) := T.glo 66 rfl
theorem Tx.g_law (T : Tx w K mg) : mg "law" = some (.ref (He.ga K "law")) := T.glo 67 rfl
theorem Tx.g_World (T : Tx w K mg) : mg "World" = some (.ref (He.ga K "World")) := T.glo 68 rfl
theorem Tx.g_WorldAsker (T : Tx w K mg) : mg "WorldAsker" = some (.ref (He.ga K "WorldAsker")) := T.glo 69 rfl
theorem Tx.g_Walk (T : Tx w K mg) : mg "Walk" = some (.ref (He.ga K "Walk")) := T.glo 70 rfl
theorem Tx.g_Ended (T : Tx w K mg) : mg "Ended" = some (.ref (He.ga K "Ended")) := T.glo 71 rfl
theorem Tx.g_SHAPES (T : Tx w K mg) : mg "SHAPES" = some (.ref (He.ga K "SHAPES")) := T.glo 72 rfl
theorem Tx.g_WIDEST (T : Tx w K mg) : mg "WIDEST" = some (.ref (He.ga K "WIDEST")) := T.glo 73 rfl
theorem Tx.n_isinstance (T : Tx w K mg) : mg "isinstance" = none := T.free 74 rfl
theorem Tx.n_len (T : Tx w K mg) : mg "len" = none := T.free 75 rfl
theorem Tx.n_str (T : Tx w K mg) : mg "str" = none := T.free 76 rfl
theorem Tx.n_int (T : Tx w K mg) : mg "int" = none := T.free 77 rfl
theorem Tx.n_bool (T : Tx w K mg) : mg "bool" = none := T.free 78 rfl
theorem Tx.n_list (T : Tx w K mg) : mg "list" = none := T.free 79 rfl
theorem Tx.n_tuple (T : Tx w K mg) : mg "tuple" = none := T.free 80 rfl
theorem Tx.n_all (T : Tx w K mg) : mg "all" = none := T.free 81 rfl
theorem Tx.n_range (T : Tx w K mg) : mg "range" = none := T.free 82 rfl
theorem Tx.n_set (T : Tx w K mg) : mg "set" = none := T.free 83 rfl
theorem Tx.n_enumerate (T : Tx w K mg) : mg "enumerate" = none := T.free 84 rfl
theorem Tx.n_max (T : Tx w K mg) : mg "max" = none := T.free 85 rfl
theorem Tx.n_sorted (T : Tx w K mg) : mg "sorted" = none := T.free 86 rfl
theorem Tx.n_dict (T : Tx w K mg) : mg "dict" = none := T.free 87 rfl
theorem Tx.n_reversed (T : Tx w K mg) : mg "reversed" = none := T.free 88 rfl
theorem Tx.i_MOST_NUMBER (T : Tx w K mg) : ∃ t, mg "MOST_NUMBER" = some (.int 999999 t) := T.int 89 rfl
theorem Tx.i_MOST_NAME (T : Tx w K mg) : ∃ t, mg "MOST_NAME" = some (.int 8 t) := T.int 90 rfl
theorem Tx.i_MOST_SIZE (T : Tx w K mg) : ∃ t, mg "MOST_SIZE" = some (.int 60 t) := T.int 91 rfl
theorem Tx.i_MOST_DEPTH (T : Tx w K mg) : ∃ t, mg "MOST_DEPTH" = some (.int 8 t) := T.int 92 rfl
theorem Tx.i_MOST_ARGUMENTS (T : Tx w K mg) : ∃ t, mg "MOST_ARGUMENTS" = some (.int 4 t) := T.int 93 rfl
theorem Tx.i_MOST_NAMES (T : Tx w K mg) : ∃ t, mg "MOST_NAMES" = some (.int 4 t) := T.int 94 rfl
theorem Tx.i_MOST_LOOKS (T : Tx w K mg) : ∃ t, mg "MOST_LOOKS" = some (.int 6 t) := T.int 95 rfl
theorem Tx.i_MOST_FILE (T : Tx w K mg) : ∃ t, mg "MOST_FILE" = some (.int 12 t) := T.int 96 rfl
theorem Tx.i_MOST_ROWS (T : Tx w K mg) : ∃ t, mg "MOST_ROWS" = some (.int 4000 t) := T.int 97 rfl
theorem Tx.i_MOST_BOOKS (T : Tx w K mg) : ∃ t, mg "MOST_BOOKS" = some (.int 40 t) := T.int 98 rfl
theorem Tx.i_MOST_CHANCES (T : Tx w K mg) : ∃ t, mg "MOST_CHANCES" = some (.int 40 t) := T.int 99 rfl
theorem Tx.i_MOST_RUNS (T : Tx w K mg) : ∃ t, mg "MOST_RUNS" = some (.int 1000 t) := T.int 100 rfl
theorem Tx.i_MOST_COST (T : Tx w K mg) : ∃ t, mg "MOST_COST" = some (.int 100000 t) := T.int 101 rfl
theorem Tx.i_MOST_PLACES (T : Tx w K mg) : ∃ t, mg "MOST_PLACES" = some (.int 200 t) := T.int 102 rfl
theorem Tx.i_MOST_LEVEL (T : Tx w K mg) : ∃ t, mg "MOST_LEVEL" = some (.int 2 t) := T.int 103 rfl
theorem Tx.i_ROUND (T : Tx w K mg) : ∃ t, mg "ROUND" = some (.int 1000000 t) := T.int 104 rfl
theorem Tx.i_MOST_STEPS (T : Tx w K mg) : ∃ t, mg "MOST_STEPS" = some (.int 400 t) := T.int 105 rfl
theorem Tx.i_MOST_OPEN (T : Tx w K mg) : ∃ t, mg "MOST_OPEN" = some (.int 12 t) := T.int 106 rfl
theorem Tx.cls_World (T : Tx w K mg) : Cls K (He.ga K "World") := He.cls_ok (T.f 107 rfl)
theorem Tx.mk_World (T : Tx w K mg) : Mk K (He.ga K "World") (He.fAd K ("World", some "__init__")) := He.mkr_ok (T.f 108 rfl)
theorem Tx.m_World_content (T : Tx w K mg) : Meth K (He.ga K "World") "content" (He.fAd K ("World", some "content")) := He.meth_ok (T.f 109 rfl)
theorem Tx.a_World_contents (T : Tx w K mg) : NoAttr K (He.ga K "World") "contents" := He.noat_ok (T.f 110 rfl)
theorem Tx.a_World_rows (T : Tx w K mg) : NoAttr K (He.ga K "World") "rows" := He.noat_ok (T.f 111 rfl)
theorem Tx.cls_WorldAsker (T : Tx w K mg) : Cls K (He.ga K "WorldAsker") := He.cls_ok (T.f 112 rfl)
theorem Tx.mk_WorldAsker (T : Tx w K mg) : Mk K (He.ga K "WorldAsker") (He.fAd K ("WorldAsker", some "__init__")) := He.mkr_ok (T.f 113 rfl)
theorem Tx.m_WorldAsker_ask (T : Tx w K mg) : Meth K (He.ga K "WorldAsker") "ask" (He.fAd K ("WorldAsker", some "ask")) := He.meth_ok (T.f 114 rfl)
theorem Tx.m_WorldAsker_all_asked (T : Tx w K mg) : Meth K (He.ga K "WorldAsker") "all_asked" (He.fAd K ("WorldAsker", some "all_asked")) := He.meth_ok (T.f 115 rfl)
theorem Tx.a_WorldAsker_world (T : Tx w K mg) : NoAttr K (He.ga K "WorldAsker") "world" := He.noat_ok (T.f 116 rfl)
theorem Tx.a_WorldAsker_known (T : Tx w K mg) : NoAttr K (He.ga K "WorldAsker") "known" := He.noat_ok (T.f 117 rfl)
theorem Tx.cls_Walk (T : Tx w K mg) : Cls K (He.ga K "Walk") := He.cls_ok (T.f 118 rfl)
theorem Tx.mk_Walk (T : Tx w K mg) : Mk K (He.ga K "Walk") (He.fAd K ("Walk", some "__init__")) := He.mkr_ok (T.f 119 rfl)
theorem Tx.m_Walk_call (T : Tx w K mg) : Meth K (He.ga K "Walk") "call" (He.fAd K ("Walk", some "call")) := He.meth_ok (T.f 120 rfl)
theorem Tx.m_Walk_work (T : Tx w K mg) : Meth K (He.ga K "Walk") "work" (He.fAd K ("Walk", some "work")) := He.meth_ok (T.f 121 rfl)
theorem Tx.m_Walk_work_all (T : Tx w K mg) : Meth K (He.ga K "Walk") "work_all" (He.fAd K ("Walk", some "work_all")) := He.meth_ok (T.f 122 rfl)
theorem Tx.m_Walk_reckon (T : Tx w K mg) : Meth K (He.ga K "Walk") "reckon" (He.fAd K ("Walk", some "reckon")) := He.meth_ok (T.f 123 rfl)
theorem Tx.m_Walk_go_on (T : Tx w K mg) : Meth K (He.ga K "Walk") "go_on" (He.fAd K ("Walk", some "go_on")) := He.meth_ok (T.f 124 rfl)
theorem Tx.m_Walk_look (T : Tx w K mg) : Meth K (He.ga K "Walk") "look" (He.fAd K ("Walk", some "look")) := He.meth_ok (T.f 125 rfl)
theorem Tx.m_Walk_told_at (T : Tx w K mg) : Meth K (He.ga K "Walk") "told_at" (He.fAd K ("Walk", some "told_at")) := He.meth_ok (T.f 126 rfl)
theorem Tx.m_Walk_all_cells (T : Tx w K mg) : Meth K (He.ga K "Walk") "all_cells" (He.fAd K ("Walk", some "all_cells")) := He.meth_ok (T.f 127 rfl)
theorem Tx.a_Walk_asker (T : Tx w K mg) : NoAttr K (He.ga K "Walk") "asker" := He.noat_ok (T.f 128 rfl)
theorem Tx.a_Walk_most_steps (T : Tx w K mg) : NoAttr K (He.ga K "Walk") "most_steps" := He.noat_ok (T.f 129 rfl)
theorem Tx.a_Walk_most_open (T : Tx w K mg) : NoAttr K (He.ga K "Walk") "most_open" := He.noat_ok (T.f 130 rfl)
theorem Tx.a_Walk_cells (T : Tx w K mg) : NoAttr K (He.ga K "Walk") "cells" := He.noat_ok (T.f 131 rfl)
theorem Tx.a_Walk_steps (T : Tx w K mg) : NoAttr K (He.ga K "Walk") "steps" := He.noat_ok (T.f 132 rfl)
theorem Tx.a_Walk_opened (T : Tx w K mg) : NoAttr K (He.ga K "Walk") "opened" := He.noat_ok (T.f 133 rfl)
theorem Tx.a_Ended_outcome (T : Tx w K mg) : NoAttr K (He.ga K "Ended") "outcome" := He.noat_ok (T.f 134 rfl)
theorem Tx.exm (T : Tx w K mg) : PySem.W.exmOne K (.ref (He.ga K "Ended")) (.ref (He.ga K "Ended")) = some true := He.exm_ok (T.f 135 rfl)
theorem Tx.kp_Ended (T : Tx w K mg) : PySem.W.keepIn K (.ref (He.ga K "Ended")) = true := He.keep_ok (T.f 136 rfl)
theorem Tx.d_is_name (T : Tx w K mg) : ∃ fd, FunD K "is_name" "is_name" (defArgs s_is_name) (defBody s_is_name) (defScope s_is_name) [] [] (He.fAd K ("is_name", none)) fd := T.c.t.d.def_ 0 rfl
theorem Tx.d_is_whole (T : Tx w K mg) : ∃ fd, FunD K "is_whole" "is_whole" (defArgs s_is_whole) (defBody s_is_whole) (defScope s_is_whole) [] [] (He.fAd K ("is_whole", none)) fd := T.c.t.d.def_ 1 rfl
theorem Tx.d_is_number (T : Tx w K mg) : ∃ fd, FunD K "is_number" "is_number" (defArgs s_is_number) (defBody s_is_number) (defScope s_is_number) [] [] (He.fAd K ("is_number", none)) fd := T.c.t.d.def_ 2 rfl
theorem Tx.d_is_row (T : Tx w K mg) : ∃ fd, FunD K "is_row" "is_row" (defArgs s_is_row) (defBody s_is_row) (defScope s_is_row) [] [] (He.fAd K ("is_row", none)) fd := T.c.t.d.def_ 3 rfl
theorem Tx.d_as_tuples (T : Tx w K mg) : ∃ fd, FunD K "as_tuples" "as_tuples" (defArgs s_as_tuples) (defBody s_as_tuples) (defScope s_as_tuples) [] [] (He.fAd K ("as_tuples", none)) fd := T.c.t.d.def_ 4 rfl
theorem Tx.d_are_names (T : Tx w K mg) : ∃ fd, FunD K "are_names" "are_names" (defArgs s_are_names) (defBody s_are_names) (defScope s_are_names) [] [] (He.fAd K ("are_names", none)) fd := T.c.t.d.def_ 5 rfl
theorem Tx.d_fits (T : Tx w K mg) : ∃ fd, FunD K "fits" "fits" (defArgs s_fits) (defBody s_fits) (defScope s_fits) [] [] (He.fAd K ("fits", none)) fd := T.c.t.d.def_ 6 rfl
theorem Tx.d_has_shape (T : Tx w K mg) : ∃ fd, FunD K "has_shape" "has_shape" (defArgs s_has_shape) (defBody s_has_shape) (defScope s_has_shape) [] [] (He.fAd K ("has_shape", none)) fd := T.c.t.d.def_ 7 rfl
theorem Tx.d_parts_of (T : Tx w K mg) : ∃ fd, FunD K "parts_of" "parts_of" (defArgs s_parts_of) (defBody s_parts_of) (defScope s_parts_of) [] [] (He.fAd K ("parts_of", none)) fd := T.c.t.d.def_ 8 rfl
theorem Tx.d_size_within (T : Tx w K mg) : ∃ fd, FunD K "size_within" "size_within" (defArgs s_size_within) (defBody s_size_within) (defScope s_size_within) [] [] (He.fAd K ("size_within", none)) fd := T.c.t.d.def_ 9 rfl
theorem Tx.d_is_expression (T : Tx w K mg) : ∃ fd, FunD K "is_expression" "is_expression" (defArgs s_is_expression) (defBody s_is_expression) (defScope s_is_expression) [] [] (He.fAd K ("is_expression", none)) fd := T.c.t.d.def_ 10 rfl
theorem Tx.d_all_names (T : Tx w K mg) : ∃ fd, FunD K "all_names" "all_names" (defArgs s_all_names) (defBody s_all_names) (defScope s_all_names) [] [] (He.fAd K ("all_names", none)) fd := T.c.t.d.def_ 11 rfl
theorem Tx.d_is_place (T : Tx w K mg) : ∃ fd, FunD K "is_place" "is_place" (defArgs s_is_place) (defBody s_is_place) (defScope s_is_place) [] [] (He.fAd K ("is_place", none)) fd := T.c.t.d.def_ 12 rfl
theorem Tx.d_is_looks (T : Tx w K mg) : ∃ fd, FunD K "is_looks" "is_looks" (defArgs s_is_looks) (defBody s_is_looks) (defScope s_is_looks) [] [] (He.fAd K ("is_looks", none)) fd := T.c.t.d.def_ 13 rfl
theorem Tx.d_is_file (T : Tx w K mg) : ∃ fd, FunD K "is_file" "is_file" (defArgs s_is_file) (defBody s_is_file) (defScope s_is_file) [] [] (He.fAd K ("is_file", none)) fd := T.c.t.d.def_ 14 rfl
theorem Tx.d_is_content (T : Tx w K mg) : ∃ fd, FunD K "is_content" "is_content" (defArgs s_is_content) (defBody s_is_content) (defScope s_is_content) [] [] (He.fAd K ("is_content", none)) fd := T.c.t.d.def_ 15 rfl
theorem Tx.d_is_place_row (T : Tx w K mg) : ∃ fd, FunD K "is_place_row" "is_place_row" (defArgs s_is_place_row) (defBody s_is_place_row) (defScope s_is_place_row) [] [] (He.fAd K ("is_place_row", none)) fd := T.c.t.d.def_ 16 rfl
theorem Tx.d_wrong_row (T : Tx w K mg) : ∃ fd, FunD K "wrong_row" "wrong_row" (defArgs s_wrong_row) (defBody s_wrong_row) (defScope s_wrong_row) [] [] (He.fAd K ("wrong_row", none)) fd := T.c.t.d.def_ 17 rfl
theorem Tx.d_is_told (T : Tx w K mg) : ∃ fd, FunD K "is_told" "is_told" (defArgs s_is_told) (defBody s_is_told) (defScope s_is_told) [] [] (He.fAd K ("is_told", none)) fd := T.c.t.d.def_ 18 rfl
theorem Tx.d_is_book (T : Tx w K mg) : ∃ fd, FunD K "is_book" "is_book" (defArgs s_is_book) (defBody s_is_book) (defScope s_is_book) [] [] (He.fAd K ("is_book", none)) fd := T.c.t.d.def_ 19 rfl
theorem Tx.d_fallen (T : Tx w K mg) : ∃ fd, FunD K "fallen" "fallen" (defArgs s_fallen) (defBody s_fallen) (defScope s_fallen) [] [] (He.fAd K ("fallen", none)) fd := T.c.t.d.def_ 20 rfl
theorem Tx.d_stands (T : Tx w K mg) : ∃ fd, FunD K "stands" "stands" (defArgs s_stands) (defBody s_stands) (defScope s_stands) [] [] (He.fAd K ("stands", none)) fd := T.c.t.d.def_ 21 rfl
theorem Tx.d_ask_books (T : Tx w K mg) : ∃ fd, FunD K "ask_books" "ask_books" (defArgs s_ask_books) (defBody s_ask_books) (defScope s_ask_books) [] [] (He.fAd K ("ask_books", none)) fd := T.c.t.d.def_ 22 rfl
theorem Tx.d_places_by_book (T : Tx w K mg) : ∃ fd, FunD K "places_by_book" "places_by_book" (defArgs s_places_by_book) (defBody s_places_by_book) (defScope s_places_by_book) [] [] (He.fAd K ("places_by_book", none)) fd := T.c.t.d.def_ 23 rfl
theorem Tx.d_all_places (T : Tx w K mg) : ∃ fd, FunD K "all_places" "all_places" (defArgs s_all_places) (defBody s_all_places) (defScope s_all_places) [] [] (He.fAd K ("all_places", none)) fd := T.c.t.d.def_ 24 rfl
theorem Tx.d_touched (T : Tx w K mg) : ∃ fd, FunD K "touched" "touched" (defArgs s_touched) (defBody s_touched) (defScope s_touched) [] [] (He.fAd K ("touched", none)) fd := T.c.t.d.def_ 25 rfl
theorem Tx.d_is_had (T : Tx w K mg) : ∃ fd, FunD K "is_had" "is_had" (defArgs s_is_had) (defBody s_is_had) (defScope s_is_had) [] [] (He.fAd K ("is_had", none)) fd := T.c.t.d.def_ 26 rfl
theorem Tx.d_have_all (T : Tx w K mg) : ∃ fd, FunD K "have_all" "have_all" (defArgs s_have_all) (defBody s_have_all) (defScope s_have_all) [] [] (He.fAd K ("have_all", none)) fd := T.c.t.d.def_ 27 rfl
theorem Tx.d_are_indexes (T : Tx w K mg) : ∃ fd, FunD K "are_indexes" "are_indexes" (defArgs s_are_indexes) (defBody s_are_indexes) (defScope s_are_indexes) [] [] (He.fAd K ("are_indexes", none)) fd := T.c.t.d.def_ 28 rfl
theorem Tx.d_is_keeping (T : Tx w K mg) : ∃ fd, FunD K "is_keeping" "is_keeping" (defArgs s_is_keeping) (defBody s_is_keeping) (defScope s_is_keeping) [] [] (He.fAd K ("is_keeping", none)) fd := T.c.t.d.def_ 29 rfl
theorem Tx.d_gain (T : Tx w K mg) : ∃ fd, FunD K "gain" "gain" (defArgs s_gain) (defBody s_gain) (defScope s_gain) [] [] (He.fAd K ("gain", none)) fd := T.c.t.d.def_ 30 rfl
theorem Tx.d_picked (T : Tx w K mg) : ∃ fd, FunD K "picked" "picked" (defArgs s_picked) (defBody s_picked) (defScope s_picked) [] [] (He.fAd K ("picked", none)) fd := T.c.t.d.def_ 31 rfl
theorem Tx.d_few_of (T : Tx w K mg) : ∃ fd, FunD K "few_of" "few_of" (defArgs s_few_of) (defBody s_few_of) (defScope s_few_of) [] [] (He.fAd K ("few_of", none)) fd := T.c.t.d.def_ 32 rfl
theorem Tx.d_few_kept (T : Tx w K mg) : ∃ fd, FunD K "few_kept" "few_kept" (defArgs s_few_kept) (defBody s_few_kept) (defScope s_few_kept) [] [] (He.fAd K ("few_kept", none)) fd := T.c.t.d.def_ 33 rfl
theorem Tx.d_is_chance (T : Tx w K mg) : ∃ fd, FunD K "is_chance" "is_chance" (defArgs s_is_chance) (defBody s_is_chance) (defScope s_is_chance) [] [] (He.fAd K ("is_chance", none)) fd := T.c.t.d.def_ 34 rfl
theorem Tx.d_ask_chances (T : Tx w K mg) : ∃ fd, FunD K "ask_chances" "ask_chances" (defArgs s_ask_chances) (defBody s_ask_chances) (defScope s_ask_chances) [] [] (He.fAd K ("ask_chances", none)) fd := T.c.t.d.def_ 35 rfl
theorem Tx.d_is_order (T : Tx w K mg) : ∃ fd, FunD K "is_order" "is_order" (defArgs s_is_order) (defBody s_is_order) (defScope s_is_order) [] [] (He.fAd K ("is_order", none)) fd := T.c.t.d.def_ 36 rfl
theorem Tx.d_common (T : Tx w K mg) : ∃ fd, FunD K "common" "common" (defArgs s_common) (defBody s_common) (defScope s_common) [] [] (He.fAd K ("common", none)) fd := T.c.t.d.def_ 37 rfl
theorem Tx.d_lowest (T : Tx w K mg) : ∃ fd, FunD K "lowest" "lowest" (defArgs s_lowest) (defBody s_lowest) (defScope s_lowest) [] [] (He.fAd K ("lowest", none)) fd := T.c.t.d.def_ 38 rfl
theorem Tx.d_expected (T : Tx w K mg) : ∃ fd, FunD K "expected" "expected" (defArgs s_expected) (defBody s_expected) (defScope s_expected) [] [] (He.fAd K ("expected", none)) fd := T.c.t.d.def_ 39 rfl
theorem Tx.d_World___init__ (T : Tx w K mg) : ∃ fd, FunD K "__init__" "World.__init__" (defArgs s_World___init__) (defBody s_World___init__) (defScope s_World___init__) [] [] (He.fAd K ("World", some "__init__")) fd := T.c.t.d.def_ 40 rfl
theorem Tx.d_World_content (T : Tx w K mg) : ∃ fd, FunD K "content" "World.content" (defArgs s_World_content) (defBody s_World_content) (defScope s_World_content) [] [] (He.fAd K ("World", some "content")) fd := T.c.t.d.def_ 41 rfl
theorem Tx.d_sorted_rows (T : Tx w K mg) : ∃ fd, FunD K "sorted_rows" "sorted_rows" (defArgs s_sorted_rows) (defBody s_sorted_rows) (defScope s_sorted_rows) [] [] (He.fAd K ("sorted_rows", none)) fd := T.c.t.d.def_ 42 rfl
theorem Tx.d_differing (T : Tx w K mg) : ∃ fd, FunD K "differing" "differing" (defArgs s_differing) (defBody s_differing) (defScope s_differing) [] [] (He.fAd K ("differing", none)) fd := T.c.t.d.def_ 43 rfl
theorem Tx.d_ask_level (T : Tx w K mg) : ∃ fd, FunD K "ask_level" "ask_level" (defArgs s_ask_level) (defBody s_ask_level) (defScope s_ask_level) [] [] (He.fAd K ("ask_level", none)) fd := T.c.t.d.def_ 44 rfl
theorem Tx.d_middle_whole (T : Tx w K mg) : ∃ fd, FunD K "middle_whole" "middle_whole" (defArgs s_middle_whole) (defBody s_middle_whole) (defScope s_middle_whole) [] [] (He.fAd K ("middle_whole", none)) fd := T.c.t.d.def_ 45 rfl
theorem Tx.d_whole (T : Tx w K mg) : ∃ fd, FunD K "whole" "whole" (defArgs s_whole) (defBody s_whole) (defScope s_whole) [] [] (He.fAd K ("whole", none)) fd := T.c.t.d.def_ 46 rfl
theorem Tx.d_wholes_of (T : Tx w K mg) : ∃ fd, FunD K "wholes_of" "wholes_of" (defArgs s_wholes_of) (defBody s_wholes_of) (defScope s_wholes_of) [] [] (He.fAd K ("wholes_of", none)) fd := T.c.t.d.def_ 47 rfl
theorem Tx.d_wholes (T : Tx w K mg) : ∃ fd, FunD K "wholes" "wholes" (defArgs s_wholes) (defBody s_wholes) (defScope s_wholes) [] [] (He.fAd K ("wholes", none)) fd := T.c.t.d.def_ 48 rfl
theorem Tx.d_chosen (T : Tx w K mg) : ∃ fd, FunD K "chosen" "chosen" (defArgs s_chosen) (defBody s_chosen) (defScope s_chosen) [] [] (He.fAd K ("chosen", none)) fd := T.c.t.d.def_ 49 rfl
theorem Tx.d_is_above (T : Tx w K mg) : ∃ fd, FunD K "is_above" "is_above" (defArgs s_is_above) (defBody s_is_above) (defScope s_is_above) [] [] (He.fAd K ("is_above", none)) fd := T.c.t.d.def_ 50 rfl
theorem Tx.d_is_best_order (T : Tx w K mg) : ∃ fd, FunD K "is_best_order" "is_best_order" (defArgs s_is_best_order) (defBody s_is_best_order) (defScope s_is_best_order) [] [] (He.fAd K ("is_best_order", none)) fd := T.c.t.d.def_ 51 rfl
theorem Tx.d_best_order (T : Tx w K mg) : ∃ fd, FunD K "best_order" "best_order" (defArgs s_best_order) (defBody s_best_order) (defScope s_best_order) [] [] (He.fAd K ("best_order", none)) fd := T.c.t.d.def_ 52 rfl
theorem Tx.d_WorldAsker___init__ (T : Tx w K mg) : ∃ fd, FunD K "__init__" "WorldAsker.__init__" (defArgs s_WorldAsker___init__) (defBody s_WorldAsker___init__) (defScope s_WorldAsker___init__) [] [] (He.fAd K ("WorldAsker", some "__init__")) fd := T.c.t.d.def_ 53 rfl
theorem Tx.d_WorldAsker_ask (T : Tx w K mg) : ∃ fd, FunD K "ask" "WorldAsker.ask" (defArgs s_WorldAsker_ask) (defBody s_WorldAsker_ask) (defScope s_WorldAsker_ask) [] [] (He.fAd K ("WorldAsker", some "ask")) fd := T.c.t.d.def_ 54 rfl
theorem Tx.d_WorldAsker_all_asked (T : Tx w K mg) : ∃ fd, FunD K "all_asked" "WorldAsker.all_asked" (defArgs s_WorldAsker_all_asked) (defBody s_WorldAsker_all_asked) (defScope s_WorldAsker_all_asked) [] [] (He.fAd K ("WorldAsker", some "all_asked")) fd := T.c.t.d.def_ 55 rfl
theorem Tx.d_met_from (T : Tx w K mg) : ∃ fd, FunD K "met_from" "met_from" (defArgs s_met_from) (defBody s_met_from) (defScope s_met_from) [] [] (He.fAd K ("met_from", none)) fd := T.c.t.d.def_ 56 rfl
theorem Tx.d_Ended___init__ (T : Tx w K mg) : ∃ fd, FunD K "__init__" "Ended.__init__" (defArgs s_Ended___init__) (defBody s_Ended___init__) (defScope s_Ended___init__) [] [] (He.fAd K ("Ended", some "__init__")) fd := T.c.t.d.def_ 57 rfl
theorem Tx.d_Walk___init__ (T : Tx w K mg) : ∃ fd, FunD K "__init__" "Walk.__init__" (defArgs s_Walk___init__) (defBody s_Walk___init__) (defScope s_Walk___init__) [] [] (He.fAd K ("Walk", some "__init__")) fd := T.c.t.d.def_ 58 rfl
theorem Tx.d_Walk_call (T : Tx w K mg) : ∃ fd, FunD K "call" "Walk.call" (defArgs s_Walk_call) (defBody s_Walk_call) (defScope s_Walk_call) [] [] (He.fAd K ("Walk", some "call")) fd := T.c.t.d.def_ 59 rfl
theorem Tx.d_Walk_work (T : Tx w K mg) : ∃ fd, FunD K "work" "Walk.work" (defArgs s_Walk_work) (defBody s_Walk_work) (defScope s_Walk_work) [] [] (He.fAd K ("Walk", some "work")) fd := T.c.t.d.def_ 60 rfl
theorem Tx.d_Walk_work_all (T : Tx w K mg) : ∃ fd, FunD K "work_all" "Walk.work_all" (defArgs s_Walk_work_all) (defBody s_Walk_work_all) (defScope s_Walk_work_all) [] [] (He.fAd K ("Walk", some "work_all")) fd := T.c.t.d.def_ 61 rfl
theorem Tx.d_Walk_reckon (T : Tx w K mg) : ∃ fd, FunD K "reckon" "Walk.reckon" (defArgs s_Walk_reckon) (defBody s_Walk_reckon) (defScope s_Walk_reckon) [] [] (He.fAd K ("Walk", some "reckon")) fd := T.c.t.d.def_ 62 rfl
theorem Tx.d_Walk_go_on (T : Tx w K mg) : ∃ fd, FunD K "go_on" "Walk.go_on" (defArgs s_Walk_go_on) (defBody s_Walk_go_on) (defScope s_Walk_go_on) [] [] (He.fAd K ("Walk", some "go_on")) fd := T.c.t.d.def_ 63 rfl
theorem Tx.d_Walk_look (T : Tx w K mg) : ∃ fd, FunD K "look" "Walk.look" (defArgs s_Walk_look) (defBody s_Walk_look) (defScope s_Walk_look) [] [] (He.fAd K ("Walk", some "look")) fd := T.c.t.d.def_ 64 rfl
theorem Tx.d_Walk_told_at (T : Tx w K mg) : ∃ fd, FunD K "told_at" "Walk.told_at" (defArgs s_Walk_told_at) (defBody s_Walk_told_at) (defScope s_Walk_told_at) [] [] (He.fAd K ("Walk", some "told_at")) fd := T.c.t.d.def_ 65 rfl
theorem Tx.d_Walk_all_cells (T : Tx w K mg) : ∃ fd, FunD K "all_cells" "Walk.all_cells" (defArgs s_Walk_all_cells) (defBody s_Walk_all_cells) (defScope s_Walk_all_cells) [] [] (He.fAd K ("Walk", some "all_cells")) fd := T.c.t.d.def_ 66 rfl
theorem Tx.d_walked (T : Tx w K mg) : ∃ fd, FunD K "walked" "walked" (defArgs s_walked) (defBody s_walked) (defScope s_walked) [] [] (He.fAd K ("walked", none)) fd := T.c.t.d.def_ 67 rfl
theorem Tx.d_run (T : Tx w K mg) : ∃ fd, FunD K "run" "run" (defArgs s_run) (defBody s_run) (defScope s_run) [] [] (He.fAd K ("run", none)) fd := T.c.t.d.def_ 68 rfl
theorem Tx.d__law_stream (T : Tx w K mg) : ∃ fd, FunD K "_law_stream" "_law_stream" (defArgs s__law_stream) (defBody s__law_stream) (defScope s__law_stream) [] [] (He.fAd K ("_law_stream", none)) fd := T.c.t.d.def_ 69 rfl
theorem Tx.d__law_take (T : Tx w K mg) : ∃ fd, FunD K "_law_take" "_law_take" (defArgs s__law_take) (defBody s__law_take) (defScope s__law_take) [] [] (He.fAd K ("_law_take", none)) fd := T.c.t.d.def_ 70 rfl
theorem Tx.d__law_calling (T : Tx w K mg) : ∃ fd, FunD K "_law_calling" "_law_calling" (defArgs s__law_calling) (defBody s__law_calling) (defScope s__law_calling) [] [] (He.fAd K ("_law_calling", none)) fd := T.c.t.d.def_ 71 rfl
theorem Tx.d__law_asking (T : Tx w K mg) : ∃ fd, FunD K "_law_asking" "_law_asking" (defArgs s__law_asking) (defBody s__law_asking) (defScope s__law_asking) [] [] (He.fAd K ("_law_asking", none)) fd := T.c.t.d.def_ 72 rfl
theorem Tx.d__law_expression (T : Tx w K mg) : ∃ fd, FunD K "_law_expression" "_law_expression" (defArgs s__law_expression) (defBody s__law_expression) (defScope s__law_expression) [] [] (He.fAd K ("_law_expression", none)) fd := T.c.t.d.def_ 73 rfl
theorem Tx.d__law_looks (T : Tx w K mg) : ∃ fd, FunD K "_law_looks" "_law_looks" (defArgs s__law_looks) (defBody s__law_looks) (defScope s__law_looks) [] [] (He.fAd K ("_law_looks", none)) fd := T.c.t.d.def_ 74 rfl
theorem Tx.d__law_contents (T : Tx w K mg) : ∃ fd, FunD K "_law_contents" "_law_contents" (defArgs s__law_contents) (defBody s__law_contents) (defScope s__law_contents) [] [] (He.fAd K ("_law_contents", none)) fd := T.c.t.d.def_ 75 rfl
theorem Tx.d__law_put_in (T : Tx w K mg) : ∃ fd, FunD K "_law_put_in" "_law_put_in" (defArgs s__law_put_in) (defBody s__law_put_in) (defScope s__law_put_in) [] [] (He.fAd K ("_law_put_in", none)) fd := T.c.t.d.def_ 76 rfl
theorem Tx.d__law_try (T : Tx w K mg) : ∃ fd, FunD K "_law_try" "_law_try" (defArgs s__law_try) (defBody s__law_try) (defScope s__law_try) [] [] (He.fAd K ("_law_try", none)) fd := T.c.t.d.def_ 77 rfl
theorem Tx.d__law_chance (T : Tx w K mg) : ∃ fd, FunD K "_law_chance" "_law_chance" (defArgs s__law_chance) (defBody s__law_chance) (defScope s__law_chance) [] [] (He.fAd K ("_law_chance", none)) fd := T.c.t.d.def_ 78 rfl
theorem Tx.d__law_orders (T : Tx w K mg) : ∃ fd, FunD K "_law_orders" "_law_orders" (defArgs s__law_orders) (defBody s__law_orders) (defScope s__law_orders) [] [] (He.fAd K ("_law_orders", none)) fd := T.c.t.d.def_ 79 rfl
theorem Tx.d__law_first (T : Tx w K mg) : ∃ fd, FunD K "_law_first" "_law_first" (defArgs s__law_first) (defBody s__law_first) (defScope s__law_first) [] [] (He.fAd K ("_law_first", none)) fd := T.c.t.d.def_ 80 rfl
theorem Tx.d__law_met (T : Tx w K mg) : ∃ fd, FunD K "_law_met" "_law_met" (defArgs s__law_met) (defBody s__law_met) (defScope s__law_met) [] [] (He.fAd K ("_law_met", none)) fd := T.c.t.d.def_ 81 rfl
theorem Tx.d_law (T : Tx w K mg) : ∃ fd, FunD K "law" "law" (defArgs s_law) (defBody s_law) (defScope s_law) [] [] (He.fAd K ("law", none)) fd := T.c.t.d.def_ 82 rfl
end
/-! ### the own error -/
theorem endC_ok {K : PySem.W.Frag} {C : Addr} (h : endC K C = true) : ∃ nm q N bs bm sn sub ab col dd k0 k1 k2 k3 k5, K.lookup C = some (excClassObj nm q C N bs bm true sn sub ab col dd k0 k1 k2 k3 k5 "ValueError.__new__") ∧ PySem.HandSPX.refsVE bm = true := by
  unfold endC at h
  cases hk : K.lookup C with
  | none => rw [hk] at h; cases h
  | some o =>
    rw [hk] at h
    obtain ⟨cls, dd, dt, sl⟩ := o
    cases cls with
    | type t =>
      cases dt with
      | cls cd =>
        simp only at h
        obtain ⟨nm, bs, mro, N, q, hd, sn, sub, ab, col, del⟩ := cd
        obtain ⟨sll⟩ := sl
        simp only at h
        match mro, sll, h with
        | .ref C' :: bm, [k0, k1, k2, k3, some (.builtin n), k5], h =>
          obtain ⟨h1, h⟩ := He.ba h
          obtain ⟨h2, h⟩ := He.ba h
          obtain ⟨h3, h⟩ := He.ba h
          obtain ⟨h4, h⟩ := He.ba h
          obtain ⟨h5, h6⟩ := He.ba h
          have e1 := of_decide_eq_true h1
          have e2 := of_decide_eq_true h2
          have e3 := of_decide_eq_true h3
          have e6 : del = false := by
            cases del with
            | false => rfl
            | true => cases h6
          subst e1 e2 e3 e6
          have e5 : hd = true := h5
          subst e5
          exact ⟨_, _, _, _, bm, _, _, _, _, _, _, _, _, _, _, rfl, h4⟩
      | _ => cases h
    | _ => cases h
section
variable {w : World} {K : PySem.W.Frag} {mg : Str → Option Value}
theorem Tx.endAll (T : Tx w K mg) : endB K = true := (He.ba (show ((shapes.all (kvB K "SHAPES") && widest.all (kvB K "WIDEST")) && endB K) = true from T.c.ex)).2
theorem Tx.oex (T : Tx w K mg) : OexC K (He.ga K "Ended") := by
  obtain ⟨h1, h⟩ := He.ba T.endAll
  obtain ⟨h2, h⟩ := He.ba h
  obtain ⟨h3, h⟩ := He.ba h
  obtain ⟨h4, h⟩ := He.ba h
  exact ⟨endC_ok h1, of_decide_eq_true h2, (xfB_ok h4).exC, of_decide_eq_true h3, T.kp_Ended⟩
theorem Tx.xf (T : Tx w K mg) : XfC K (He.ga K "Ended") := by
  obtain ⟨h1, h⟩ := He.ba T.endAll
  obtain ⟨h2, h⟩ := He.ba h
  obtain ⟨h3, h⟩ := He.ba h
  obtain ⟨h4, h⟩ := He.ba h
  exact xfB_ok h4
theorem Tx.i_init (T : Tx w K mg) : PySem.W.findIn K (.ref (He.ga K "Ended")) "__init__" = some (some (.ref (He.fAd K ("Ended", some "__init__")))) ∧ PySem.W.typeIn K (.ref (He.fAd K ("Ended", some "__init__"))) = some (.type "function") := by
  obtain ⟨h1, h⟩ := He.ba T.endAll
  obtain ⟨h2, h⟩ := He.ba h
  obtain ⟨h3, h⟩ := He.ba h
  obtain ⟨h4, h⟩ := He.ba h
  obtain ⟨h5, h6⟩ := He.ba h
  exact ⟨of_decide_eq_true h5, of_decide_eq_true h6⟩
end
end Ta
namespace Ta
open PySem PySem.Spec PyProof.Rows L2
abbrev R : PySem.W.OpenRow := PySem.W.OpenLaw.row PySem.Challenge.rw_triesagain_k78_whole_few_then_first
def ob (s : PySem.W.SharedT) : AlZ := obsZ (HandSHeadRun.getT s)
theorem ob_eq (s : PySem.W.SharedT) : ob s = hk.obs s.abs := by
  have e : HandSHeadRun.getT s = s.abs.heap.get? := funext (HandSHeadRun.getT_eq s)
  unfold ob
  rw [e]
  rfl
theorem run_f (w : World) : HandSHeadRun.RunEq R (PySem.W.view R.prog [114]) hk ob 6000 lo (w.withFollow "special-get-raises" false) := by
  intro os
  kernel_rfl
theorem run_t (w : World) : HandSHeadRun.RunEq R (PySem.W.view R.prog [114]) hk ob 6000 lo (w.withFollow "special-get-raises" true) := by
  intro os
  kernel_rfl
theorem run (w : World) : HandSHeadRun.RunEq R (PySem.W.view R.prog [114]) hk ob 6000 lo w :=
  PySem.W.byRow2 "special-get-raises" (P := fun w => HandSHeadRun.RunEq R (PySem.W.view R.prog [114]) hk ob 6000 lo w) run_f run_t w
end Ta
namespace Ta
open PySem PySem.Spec PyProof.Rows L2
/-! ### heaps -/
theorem _root_.L2.Same.up {H0 H : Hp} {p : Addr} {o : HO} (s : Same H0 H) (n : H p = none) : Same H0 (upd H p o) := fun b u e => by
  rw [upd_ne (ne_of_none (s b u e) n)]
  exact s b u e
/-- what stands at an address that was free at the beginning may change -/
theorem _root_.L2.Same.at0 {H0 H : Hp} {p : Addr} {o : HO} (s : Same H0 H) (n : H0 p = none) : Same H0 (upd H p o) := fun b u e => by
  rw [upd_ne (ne_of_none e n)]
  exact s b u e
/-- all but the addresses of S is as it was -/
def Keep (S : List Addr) (H H' : Hp) : Prop := ∀ b o, b ∉ S → H b = some o → H' b = some o
theorem Keep.refl (S : List Addr) (H : Hp) : Keep S H H := fun _ _ _ e => e
theorem Keep.trans {S : List Addr} {A B C : Hp} (h : Keep S A B) (k : Keep S B C) : Keep S A C := fun b o n e => k b o n (h b o n e)
theorem Keep.of {S : List Addr} {H H' : Hp} (h : Same H H') : Keep S H H' := fun b o _ e => h b o e
theorem Keep.mono {S T : List Addr} {H H' : Hp} (h : Keep S H H') (s : ∀ a, a ∈ S → a ∈ T) : Keep T H H' := fun b o n e => h b o (fun z => n (s b z)) e
theorem Keep.up {S : List Addr} {H0 H : Hp} {p : Addr} {o : HO} (s : Keep S H0 H) (n : H p = none) : Keep S H0 (upd H p o) := fun b u nb e => by
  rw [upd_ne (ne_of_none (s b u nb e) n)]
  exact s b u nb e
theorem Keep.at {S : List Addr} {H0 H : Hp} {p : Addr} {o : HO} (s : Keep S H0 H) (n : p ∈ S) : Keep S H0 (upd H p o) := fun b u nb e => by
  rw [upd_ne (fun z => nb (by rw [z]; exact n))]
  exact s b u nb e
theorem Keep.at0 {S : List Addr} {H0 H : Hp} {p : Addr} {o : HO} (s : Keep S H0 H) (n : H0 p = none) : Keep S H0 (upd H p o) := fun b u nb e => by
  rw [upd_ne (ne_of_none e n)]
  exact s b u nb e
theorem upd_of {H : Hp} {a p : Addr} {o u : HO} (e : H a = some o) (n : H p = none) : upd H p u a = some o := by
  rw [upd_ne (ne_of_none e n)]
  exact e
theorem upd_no {H : Hp} {a p : Addr} {u : HO} (e : H a = none) (n : a ≠ p) : upd H p u a = none := by
  rw [upd_ne n]
  exact e
/-- a new address is none of those that were there -/
theorem fresh_ne {H H' : Hp} {a p : Addr} {o : HO} (s : Same H H') (e : H a = some o) (n : H' p = none) : a ≠ p := ne_of_none (s a o e) n
/-- tuples stay -/
def Tups (H H' : Hp) : Prop := ∀ a xs, H a = some (.tup xs) → H' a = some (.tup xs)
theorem Tups.refl (H : Hp) : Tups H H := fun _ _ e => e
theorem Tups.of {H H' : Hp} (s : Same H H') : Tups H H' := fun a _ e => s a _ e
theorem Tups.trans {A B C : Hp} (h : Tups A B) (k : Tups B C) : Tups A C := fun a xs e => k a xs (h a xs e)
theorem Tups.keep {S : List Addr} {H H' : Hp} (s : Keep S H H') (n : ∀ a ∈ S, ∀ xs, H a ≠ some (.tup xs)) : Tups H H' := fun a xs e => s a _ (fun z => n a z xs e) e
theorem Tups.up {H0 H : Hp} {p : Addr} {o : HO} (s : Tups H0 H) (n : H p = none) : Tups H0 (upd H p o) := fun a xs e => by
  rw [upd_ne (ne_of_none (s a xs e) n)]
  exact s a xs e
theorem Tups.upd {H : Hp} {p : Addr} {o : HO} (n : ∀ xs, H p ≠ some (.tup xs)) : Tups H (upd H p o) := fun a xs e => by
  rw [upd_ne (fun z => n xs (by rw [← z]; exact e))]
  exact e
/-! ### data -/
mutual
inductive Dq (H : Hp) : V → PyData → Prop
  | non : Dq H .non .none
  | int (i : Int) : Dq H (.int i) (.int i)
  | str (x : Str) : Dq H (.str x) (.str x)
  | tup {a : Addr} {xs : List V} {ds : List PyData} : H a = some (.tup xs) → DqAll H xs ds → Dq H (.ref a) (.tuple ds)
inductive DqAll (H : Hp) : List V → List PyData → Prop
  | nil : DqAll H [] []
  | cons {v : V} {vs : List V} {d : PyData} {ds : List PyData} : Dq H v d → DqAll H vs ds → DqAll H (v :: vs) (d :: ds)
end
mutual
theorem Dq.mono {H H' : Hp} (t : Tups H H') : ∀ {v : V} {d : PyData}, Dq H v d → Dq H' v d
  | _, _, .non => .non
  | _, _, .int i => .int i
  | _, _, .str x => .str x
  | _, _, .tup e h => .tup (t _ _ e) (DqAll.mono t h)
theorem DqAll.mono {H H' : Hp} (t : Tups H H') : ∀ {vs : List V} {ds : List PyData}, DqAll H vs ds → DqAll H' vs ds
  | _, _, .nil => .nil
  | _, _, .cons h r => .cons (Dq.mono t h) (DqAll.mono t r)
end
mutual
theorem Dq.dp {H : Hp} {K : PySem.W.Frag} : ∀ {v : V} {d : PyData}, Dq H v d → Dp K H v d
  | _, _, .non => .non
  | _, _, .int i => .int i
  | _, _, .str x => .str x
  | _, _, .tup e h => .tup (SqT.of e) (DqAll.dp h)
theorem DqAll.dp {H : Hp} {K : PySem.W.Frag} : ∀ {vs : List V} {ds : List PyData}, DqAll H vs ds → DpAll K H vs ds
  | _, _, .nil => .nil
  | _, _, .cons h r => .cons (Dq.dp h) (DqAll.dp r)
end
theorem DqAll.length {H : Hp} : ∀ {vs : List V} {ds : List PyData}, DqAll H vs ds → vs.length = ds.length
  | _, _, .nil => rfl
  | _, _, .cons _ r => by rw [List.length_cons, List.length_cons, DqAll.length r]
theorem DqAll.get {H : Hp} : ∀ {vs : List V} {ds : List PyData} {i : Nat} {d : PyData}, DqAll H vs ds → ds[i]? = some d → ∃ v, vs[i]? = some v ∧ Dq H v d
  | _, _, i, _, .nil, e => by simp at e
  | _, _, 0, _, .cons h _, e => by
    simp at e
    subst e
    exact ⟨_, rfl, h⟩
  | _, _, i + 1, d, .cons _ r, e => by
    obtain ⟨v, e1, h⟩ := DqAll.get (i := i) (d := d) r (by simpa using e)
    exact ⟨v, by simpa using e1, h⟩
theorem DqAll.getV {H : Hp} : ∀ {vs : List V} {ds : List PyData} {i : Nat} {v : V}, DqAll H vs ds → vs[i]? = some v → ∃ d, ds[i]? = some d ∧ Dq H v d
  | _, _, i, _, .nil, e => by simp at e
  | _, _, 0, _, .cons h _, e => by
    simp at e
    subst e
    exact ⟨_, rfl, h⟩
  | _, _, i + 1, v, .cons _ r, e => by
    obtain ⟨d, e1, h⟩ := DqAll.getV (i := i) (v := v) r (by simpa using e)
    exact ⟨d, by simpa using e1, h⟩
theorem DqAll.snoc {H : Hp} {v : V} {d : PyData} : ∀ {vs : List V} {ds : List PyData}, DqAll H vs ds → Dq H v d → DqAll H (vs ++ [v]) (ds ++ [d])
  | _, _, .nil, h => .cons h .nil
  | _, _, .cons q r, h => .cons q (DqAll.snoc r h)
theorem DqAll.drop {H : Hp} : ∀ {vs : List V} {ds : List PyData} (n : Nat), DqAll H vs ds → DqAll H (vs.drop n) (ds.drop n)
  | _, _, 0, h => h
  | _, _, _ + 1, .nil => .nil
  | _, _, n + 1, .cons _ r => DqAll.drop n r
mutual
theorem Dq.inj {H : Hp} : ∀ {v : V} {d e : PyData}, Dq H v d → Dq H v e → d = e
  | _, _, _, .non, .non => rfl
  | _, _, _, .int _, .int _ => rfl
  | _, _, _, .str _, .str _ => rfl
  | _, _, _, .tup e h, .tup e' h' => by
    rw [e] at e'
    cases e'
    rw [DqAll.inj h h']
theorem DqAll.inj {H : Hp} : ∀ {vs : List V} {ds es : List PyData}, DqAll H vs ds → DqAll H vs es → ds = es
  | _, _, _, .nil, .nil => rfl
  | _, _, _, .cons h r, .cons h' r' => by rw [Dq.inj h h', DqAll.inj r r']
end
theorem Dq.tupI {H : Hp} {v : V} {ds : List PyData} (h : Dq H v (.tuple ds)) : ∃ a xs, v = .ref a ∧ H a = some (.tup xs) ∧ DqAll H xs ds := by
  cases h with
  | tup e r => exact ⟨_, _, rfl, e, r⟩
theorem Dq.strI {H : Hp} {v : V} {x : Str} (h : Dq H v (.str x)) : v = .str x := by
  cases h
  rfl
theorem Dq.intI {H : Hp} {v : V} {x : Int} (h : Dq H v (.int x)) : v = .int x := by
  cases h
  rfl
/-! ### places -/
def kD : Key → PyData
  | .inl i => .int i
  | .inr x => .str x
abbrev plD (k : List Key) : PyData := .tuple (k.map kD)
theorem kD_dq (H : Hp) (k : Key) : Dq H (kV k) (kD k) := by
  cases k with
  | inl i => exact .int i
  | inr x => exact .str x
theorem kDs_dq (H : Hp) : ∀ k : List Key, DqAll H (k.map kV) (k.map kD)
  | [] => .nil
  | a :: r => .cons (kD_dq H a) (kDs_dq H r)
theorem kD_v {H : Hp} {v : V} {k : Key} (h : Dq H v (kD k)) : v = kV k := by
  cases k with
  | inl i =>
    cases h
    rfl
  | inr x =>
    cases h
    rfl
theorem kDs_v {H : Hp} : ∀ {k : List Key} {vs : List V}, DqAll H vs (k.map kD) → vs = k.map kV
  | [], _, .nil => rfl
  | a :: r, _, .cons h t => by rw [kD_v h, kDs_v t]; rfl
theorem plD_dq {H : Hp} {a : Addr} {k : List Key} (e : H a = some (.tup (k.map kV))) : Dq H (.ref a) (plD k) := .tup e (kDs_dq H k)
theorem plD_v {H : Hp} {v : V} {k : List Key} (h : Dq H v (plD k)) : ∃ a, v = .ref a ∧ H a = some (.tup (k.map kV)) := by
  obtain ⟨a, xs, rfl, e, r⟩ := h.tupI
  exact ⟨a, rfl, by rw [e, kDs_v r]⟩
/-! ### the layer's words for this program -/
/-- a def keeps its promise at a level -/
def Ok (P : Program) (w : World) (K : PySem.W.Frag) (mg : Str → Option Value) (base : Heap) (CX : CXT) (k : Nat) (at_ : Str × Option Str) (ps : List Str) (sp : Sp) : Prop :=
  ∃ fd, FnOk P w K mg base CX k (He.fAd K at_) fd ps sp ∧ Binds K fd ps [] ∧ PySem.W.keepIn K (.ref (He.fAd K at_)) = true
section
variable {P : Program} {w : World} {K : PySem.W.Frag} {mg : Str → Option Value} {base : Heap}
theorem Ok.mono {CX : CXT} {j k : Nat} {at_ : Str × Option Str} {ps : List Str} {sp : Sp} (o : Ok P w K mg base CX j at_ ps sp) (h : j ≤ k) : Ok P w K mg base CX k at_ ps sp :=
  let ⟨fd, F, b, kp⟩ := o
  ⟨fd, F.mono h, b, kp⟩
/-- a def that lets nothing out -/
theorem mkOk {x qual : Str} {st : Stmt} {at_ : Str × Option Str} {N ps : List Str} {k : Nat} {sp : Sp} (F : ∃ fd, FunD K x qual (defArgs st) (defBody st) (defScope st) [] [] (He.fAd K at_) fd)
    (S : FnScope N ps (defScope st)) (len : ∀ vs H Q E, sp vs H Q E → vs.length = ps.length)
    (bd : ∀ (kV doc pm : Value) (an : Option Addr) (cdv ct : Value) (us : List Value), us.length = ps.length → bindArgs (PySem.W.fnOf x qual (defArgs st) (defBody st) (defScope st) .none kV doc pm an cdv ct) ⟨us, []⟩ = pure (ps.zip us))
    (hbody : ∀ (cdv : Value) (A : Around) (outer : List Env) (s : Shared) (H : Hp) (vs : List V) (Q : VK) (E : XK), Room k (A.deeper (envOfC qual (defScope st) s.heap.objs.size (He.fAd K at_) cdv)) → sp vs H Q E →
      ∃ t, PSs (cxOf CX0 P w K mg base N qual (defScope st) (He.fAd K at_) cdv A outer s H E).nox (defBody st) t ∧ t { nx := fun _ H' => Q .non H', rt := Q } (start N vs) H) :
    Ok P w K mg base CX0 (k + 1) at_ ps sp := by
  obtain ⟨fd, F⟩ := F
  refine ⟨fd, F.ok S len fun cdv A outer s H vs Q E hr h => ?_, F.bindsN bd, F.kp⟩
  obtain ⟨t, h1, h2⟩ := hbody cdv A outer s H vs Q E hr h
  exact ⟨t, h1.nox, h2⟩
/-- a def that may let an exception out -/
theorem mkOkX {x qual : Str} {st : Stmt} {at_ : Str × Option Str} {N ps : List Str} {k : Nat} {sp : Sp} (F : ∃ fd, FunD K x qual (defArgs st) (defBody st) (defScope st) [] [] (He.fAd K at_) fd)
    (S : FnScope N ps (defScope st)) (len : ∀ vs H Q E, sp vs H Q E → vs.length = ps.length)
    (bd : ∀ (kV doc pm : Value) (an : Option Addr) (cdv ct : Value) (us : List Value), us.length = ps.length → bindArgs (PySem.W.fnOf x qual (defArgs st) (defBody st) (defScope st) .none kV doc pm an cdv ct) ⟨us, []⟩ = pure (ps.zip us))
    (hbody : ∀ (cdv : Value) (A : Around) (outer : List Env) (s : Shared) (H : Hp) (vs : List V) (Q : VK) (E : XK), Room k (A.deeper (envOfC qual (defScope st) s.heap.objs.size (He.fAd K at_) cdv)) → sp vs H Q E →
      ∃ t, PSs (cxOf (L2.CX P w) P w K mg base N qual (defScope st) (He.fAd K at_) cdv A outer s H E) (defBody st) t ∧ t { nx := fun _ H' => Q .non H', rt := Q } (start N vs) H) :
    Ok P w K mg base (L2.CX P w) (k + 1) at_ ps sp := by
  obtain ⟨fd, F⟩ := F
  exact ⟨fd, F.ok S len hbody, F.bindsN bd, F.kp⟩
end
section
variable {X : Cx}
/-- a whole number of the top -/
theorem pe_gi {x : Str} {n : Int} {pos : Pos} (h : ∃ t, X.mg x = some (.int n t)) (hg : Gl X x := by rfl) (hd : (x == ("__debug__" : Str)) = false := by decide) : PE X (.Name x pos) (tC (.int n)) := by
  obtain ⟨t, e⟩ := h
  exact pe_glob hg e ⟨t, rfl⟩ hd
end
theorem decT {p : Prop} [Decidable p] {A B : Prop} (h : p) (k : A) : if decide p = true then A else B := by
  rw [decide_eq_true h, if_pos rfl]
  exact k
theorem decF {p : Prop} [Decidable p] {A B : Prop} (h : ¬ p) (k : B) : if decide p = true then A else B := by
  rw [decide_eq_false h, if_neg Bool.false_ne_true]
  exact k
theorem ifT {b : Bool} {A B : Prop} (h : b = true) (k : A) : if b = true then A else B := by
  rw [h, if_pos rfl]
  exact k
theorem ifF {b : Bool} {A B : Prop} (h : b = false) (k : B) : if b = true then A else B := by
  rw [h, if_neg Bool.false_ne_true]
  exact k
/-- within a comprehension that only makes new things -/
def GP (H1 : Hp) (D : Addr) (R : Nat → List V → Hp → Prop) (i : Nat) (H : Hp) : Prop := Same H1 H ∧ ∃ acc, H D = some (.lst acc) ∧ R i acc H
theorem GP.start {H1 : Hp} {D : Addr} {R : Nat → List V → Hp → Prop} (nD : H1 D = none) (h0 : R 0 [] (upd H1 D (.lst []))) : GP H1 D R 0 (upd H1 D (.lst [])) := ⟨(Same.refl H1).up nD, [], upd_same, h0⟩
theorem GP.push {H1 H H4 : Hp} {D : Addr} {R : Nat → List V → Hp → Prop} {i : Nat} {acc : List V} {y : V} (nD : H1 D = none) (p : Same H1 H) (e : H D = some (.lst acc)) (s : Same H H4) (l : acc.length < sizeLine)
    (r : R (i + 1) (acc ++ [y]) (upd H4 D (.lst (acc ++ [y])))) : ∃ acc, H4 D = some (.lst acc) ∧ acc.length < sizeLine ∧ GP H1 D R (i + 1) (upd H4 D (.lst (acc ++ [y]))) :=
  ⟨acc, s _ _ e, l, (p.trans s).at0 nD, _, upd_same, r⟩
theorem GP.skip {H1 H H4 : Hp} {D : Addr} {R : Nat → List V → Hp → Prop} {i : Nat} {acc : List V} (p : Same H1 H) (e : H D = some (.lst acc)) (s : Same H H4) (r : R (i + 1) acc H4) : GP H1 D R (i + 1) H4 := ⟨p.trans s, acc, s _ _ e, r⟩
end Ta
namespace Ta
open PySem PySem.Spec PyProof.Rows L2
theorem bt_len : bootBuiltins "len" = some (.builtin "len") := PySem.boot_len
theorem bt_isinstance : bootBuiltins "isinstance" = some (.builtin "isinstance") := by decide +kernel
theorem bt_all : bootBuiltins "all" = some (.builtin "all") := by decide +kernel
theorem bt_max : bootBuiltins "max" = some (.builtin "max") := by decide +kernel
theorem bt_sorted : bootBuiltins "sorted" = some (.builtin "sorted") := by decide +kernel
theorem bt_int : bootBuiltins "int" = some (.type "int") := by decide +kernel
theorem bt_str : bootBuiltins "str" = some (.type "str") := by decide +kernel
theorem bt_bool : bootBuiltins "bool" = some (.type "bool") := by decide +kernel
theorem bt_list : bootBuiltins "list" = some (.type "list") := by decide +kernel
theorem bt_tuple : bootBuiltins "tuple" = some (.type "tuple") := by decide +kernel
theorem bt_dict : bootBuiltins "dict" = some (.type "dict") := by decide +kernel
theorem bt_set : bootBuiltins "set" = some (.type "set") := by decide +kernel
section
variable {K : PySem.W.Frag}
theorem ki_ss : PySem.W.kitOne K (.type "str") (.type "str") = some true := kit_ty (by decide +kernel)
theorem ki_ii : PySem.W.kitOne K (.type "int") (.type "int") = some true := kit_ty (by decide +kernel)
theorem ki_ib : PySem.W.kitOne K (.type "int") (.type "bool") = some false := kit_ty (by decide +kernel)
theorem ki_lr : PySem.W.kitAny K (.type "list") [.type "list", .type "tuple"] = some true := kitAny_cons (b := true) (kit_ty (by decide +kernel)) (fun h => Bool.noConfusion h) (fun _ => rfl)
theorem ki_no {n : String} (h1 : kitB n "list" = some false) (h2 : kitB n "tuple" = some false) : PySem.W.kitAny K (.type n) [.type "list", .type "tuple"] = some false :=
  kitAny_cons (b := false) (kit_ty h1) (fun _ => kitAny_cons (b := false) (kit_ty h2) (fun _ => rfl) (fun h => Bool.noConfusion h)) (fun h => Bool.noConfusion h)
theorem ki_tr : PySem.W.kitAny K (.type "tuple") [.type "list", .type "tuple"] = some true :=
  kitAny_cons (b := false) (kit_ty (by decide +kernel)) (fun _ => kitAny_cons (b := true) (kit_ty (by decide +kernel)) (fun h => Bool.noConfusion h) (fun _ => rfl)) (fun h => Bool.noConfusion h)
end
/-! ### is_name -/
/-- a name: 1 to 8 small letters -/
def NameOk (x : Str) : Prop := 1 ≤ x.length ∧ x.length ≤ 8 ∧ ∀ (i : Nat) (c : Nat), x.cps[i]? = some c → 97 ≤ c ∧ c ≤ 122
def spIsName : Sp := fun vs H Q _ => ∃ x, vs = [.str x] ∧ NameOk x ∧ Q (.bl true) H
section
variable {P : Program} {w : World} {K : PySem.W.Frag} {mg : Str → Option Value} {base : Heap}
theorem sc_is_name : FnScope ["thing", "sign"] ["thing"] (defScope s_is_name) := ⟨rfl, rfl, rfl, by decide +kernel, rfl, by decide +kernel, by decide +kernel⟩
theorem one_lt {a b : Nat} (h : ([a] : List Nat) < [b]) : a < b := by
  rw [List.cons_lt_cons_iff] at h
  rcases h with h | ⟨_, h⟩
  · exact h
  · exact absurd h (by simp)
theorem ok_is_name (T : Tx w K mg) : Ok P w K mg base CX0 1 ("is_name", none) ["thing"] spIsName := by
  refine mkOk T.d_is_name sc_is_name (fun vs H Q E h => ?_) (fun _ _ _ _ _ _ us hl => match us, hl with | [_], _ => rfl) (fun cdv A outer s H vs Q E hr h => ?_)
  · obtain ⟨x, rfl, _⟩ := h
    rfl
  · obtain ⟨x, rfl, ⟨h1, h2, h3⟩, q⟩ := h
    refine ⟨_, (pss_cons (ps_if (PW.pt (pw_or (pt_not (pt_val (pe_callB call_isi (by rfl) T.n_isinstance bt_isinstance (pa_cons (pv 0) (pa_cons (pe_bltn (v := .ty "str") (by rfl) T.n_str bt_str rfl) pa_nil))))) (pw_or1 (pt_not (pt_chain op_le op_le pe_int (pe_callB call_len_str (by rfl) T.n_len bt_len (pa_cons (pv 0) pa_nil)) (pe_gi T.i_MOST_NAME)))))) (pss_one (ps_ret pe_bl)) pss_nil)
      (pss_cons (ps_for PassesOwn.never rfl (pi_str (pv 0)) (pg_name (i := 1) sc_is_name.nd (by rfl) (Or.inl rfl)) (pss_one (ps_if (pt_not (pt_chain op_le_str op_le_str pe_str (pv 1) pe_str)) (pss_one (ps_ret pe_bl)) pss_nil)))
      (pss_one (ps_ret pe_bl)))), ?_⟩
    refine ⟨_, rfl, _, _, _, _, true, rfl, .ty "str", .base (.str _), ki_ss, _, rfl, ?_⟩
    refine ifF rfl ?_
    refine ⟨_, rfl, _, rfl, (by have := sizeLine_eq; omega), _, _, rfl, rfl, _, rfl, ?_⟩
    refine decT (by omega) ⟨_, _, rfl, rfl, _, rfl, ?_⟩
    rw [decide_eq_true (show ((x.length : Nat) : Int) ≤ 8 by omega)]
    refine ifF rfl ?_
    refine ⟨_, rfl, x, rfl, for_it walk_str (fun i σ H' => (∃ v, σ = [some (.str x), v]) ∧ H' = H) ⟨⟨none, rfl⟩, rfl⟩ (fun _ _ _ _ _ => trivial) ?_ ?_⟩
    · rintro i v σ H' H2 hi ⟨⟨v0, rfl⟩, rfl⟩ ⟨rfl, c, hc, rfl⟩
      obtain ⟨c1, c2⟩ := h3 i c hc
      refine ⟨_, rfl, _, _, rfl, rfl, _, rfl, ?_⟩
      have e1 : (!decide ((⟨#[c]⟩ : Str).cps.toList < ("a" : Str).cps.toList)) = true := by
        have : ¬ (⟨#[c]⟩ : Str).cps.toList < ("a" : Str).cps.toList := by
          intro h
          have := one_lt (show ([c] : List Nat) < [97] from h)
          omega
        simp [this]
      have e2 : (!decide (("z" : Str).cps.toList < (⟨#[c]⟩ : Str).cps.toList)) = true := by
        have : ¬ ("z" : Str).cps.toList < (⟨#[c]⟩ : Str).cps.toList := by
          intro h
          have := one_lt (show ([122] : List Nat) < [c] from h)
          omega
        simp [this]
      rw [e1]
      refine ifT rfl ⟨_, _, rfl, rfl, _, rfl, ?_⟩
      rw [e2]
      refine ifF rfl ?_
      exact ⟨⟨_, rfl⟩, rfl⟩
    · rintro σ H' ⟨⟨v0, rfl⟩, rfl⟩
      exact q
/-! ### is_whole, is_number -/
def spIsWhole : Sp := fun vs H Q _ => ∃ i a b : Int, vs = [.int i, .int a, .int b] ∧ Q (.bl (decide (a ≤ i) && decide (i ≤ b))) H
theorem sc_is_whole : FnScope ["thing", "least", "most"] ["thing", "least", "most"] (defScope s_is_whole) := ⟨rfl, rfl, rfl, by decide +kernel, rfl, by decide +kernel, by decide +kernel⟩
theorem ok_is_whole (T : Tx w K mg) : Ok P w K mg base CX0 1 ("is_whole", none) ["thing", "least", "most"] spIsWhole := by
  refine mkOk T.d_is_whole sc_is_whole (fun vs H Q E h => ?_) (fun _ _ _ _ _ _ us hl => match us, hl with | [_, _, _], _ => rfl) (fun cdv A outer s H vs Q E hr h => ?_)
  · obtain ⟨i, a, b, rfl, _⟩ := h
    rfl
  · obtain ⟨i, a, b, rfl, q⟩ := h
    refine ⟨_, (pss_one (ps_ret (pe_and (pe_callB call_isi (by rfl) T.n_isinstance bt_isinstance (pa_cons (pv 0) (pa_cons (pe_bltn (v := .ty "int") (by rfl) T.n_int bt_int rfl) pa_nil))) (pe_and (pe_not (pe_callB call_isi (by rfl) T.n_isinstance bt_isinstance (pa_cons (pv 0) (pa_cons (pe_bltn (v := .ty "bool") (by rfl) T.n_bool bt_bool rfl) pa_nil)))) (pe_one (pe_chain op_le op_le (pv 1) (pv 0) (pv 2))))))), ?_⟩
    refine ⟨_, rfl, _, _, _, _, true, rfl, .ty "int", .base (.int _), ki_ii, _, rfl, ?_⟩
    refine ifT rfl ⟨_, rfl, _, _, _, _, false, rfl, .ty "bool", .base (.int _), ki_ib, _, rfl, _, rfl, ?_⟩
    refine ifT rfl ⟨_, rfl, _, rfl, _, _, rfl, rfl, _, rfl, ?_⟩
    by_cases c : a ≤ i
    · refine decT c ⟨_, rfl, _, _, rfl, rfl, ?_⟩
      rw [decide_eq_true c] at q
      exact q
    · refine decF c ?_
      rw [decide_eq_false c] at q
      exact q
def spIsNumber : Sp := fun vs H Q _ => ∃ i : Int, vs = [.int i] ∧ Q (.bl (decide (0 ≤ i) && decide (i ≤ 999999))) H
theorem sc_is_number : FnScope ["thing"] ["thing"] (defScope s_is_number) := ⟨rfl, rfl, rfl, by decide +kernel, rfl, by decide +kernel, by decide +kernel⟩
theorem ok_is_number (T : Tx w K mg) : Ok P w K mg base CX0 2 ("is_number", none) ["thing"] spIsNumber := by
  obtain ⟨_, G_is_whole, b_is_whole, kp_is_whole⟩ := ok_is_whole (P := P) (base := base) T
  refine mkOk T.d_is_number sc_is_number (fun vs H Q E h => ?_) (fun _ _ _ _ _ _ us hl => match us, hl with | [_], _ => rfl) (fun cdv A outer s H vs Q E hr h => ?_)
  · obtain ⟨i, rfl, _⟩ := h
    rfl
  · obtain ⟨i, rfl, q⟩ := h
    refine ⟨_, (pss_one (ps_ret (pe_call G_is_whole (hr.mono (by omega)) (by rfl) T.g_is_whole kp_is_whole b_is_whole .nil pass0 (pa_cons (pv 0) (pa_cons pe_int (pa_cons (pe_gi T.i_MOST_NUMBER) pa_nil)))))), ?_⟩
    exact ⟨_, rfl, _, _, _, rfl, q⟩
/-! ### is_row, as_tuples -/
/-- what is no row -/
inductive NoRowV : V → Prop
  | non : NoRowV .non
  | int (i : Int) : NoRowV (.int i)
  | str (x : Str) : NoRowV (.str x)
def spIsRow : Sp := fun vs H Q _ => ∃ x b, vs = [x] ∧ ((b = true ∧ ∃ a, x = .ref a ∧ ((∃ xs, H a = some (.lst xs)) ∨ ∃ xs, H a = some (.tup xs))) ∨ (b = false ∧ NoRowV x)) ∧
  ∀ p o, H p = none → Q (.bl b) (upd H p o)
theorem sc_is_row : FnScope ["thing"] ["thing"] (defScope s_is_row) := ⟨rfl, rfl, rfl, by decide +kernel, rfl, by decide +kernel, by decide +kernel⟩
theorem ok_is_row (T : Tx w K mg) : Ok P w K mg base CX0 1 ("is_row", none) ["thing"] spIsRow := by
  refine mkOk T.d_is_row sc_is_row (fun vs H Q E h => ?_) (fun _ _ _ _ _ _ us hl => match us, hl with | [_], _ => rfl) (fun cdv A outer s H vs Q E hr h => ?_)
  · obtain ⟨x, b, rfl, _⟩ := h
    rfl
  · obtain ⟨x, b, rfl, h, q⟩ := h
    refine ⟨_, (pss_one (ps_ret (pe_callB call_isiT (by rfl) T.n_isinstance bt_isinstance (pa_cons (pv 0) (pa_cons (pe_tup (pa_cons (pe_bltn (v := .ty "list") (by rfl) T.n_list bt_list rfl) (pa_cons (pe_bltn (v := .ty "tuple") (by rfl) T.n_tuple bt_tuple rfl) pa_nil))) pa_nil))))), ?_⟩
    refine ⟨_, rfl, (by show 2 ≤ sizeLine; decide), fun p np => ?_⟩
    have pc : Paired ClsV [V.ty "list", V.ty "tuple"] [Value.type "list", Value.type "tuple"] := .cons (.ty _) (.cons (.ty _) .nil)
    rcases h with ⟨rfl, a, rfl, ⟨xs, e⟩ | ⟨xs, e⟩⟩ | ⟨rfl, h⟩
    · exact ⟨_, p, _, _, _, _, rfl, upd_same, pc, .base (.lst (upd_of e np)), ki_lr, q p _ np⟩
    · exact ⟨_, p, _, _, _, _, rfl, upd_same, pc, .base (.tup (upd_of e np)), ki_tr, q p _ np⟩
    · cases h with
      | non => exact ⟨_, p, _, _, _, _, rfl, upd_same, pc, .base .non, ki_no (by decide +kernel) (by decide +kernel), q p _ np⟩
      | int i => exact ⟨_, p, _, _, _, _, rfl, upd_same, pc, .base (.int _), ki_no (by decide +kernel) (by decide +kernel), q p _ np⟩
      | str i => exact ⟨_, p, _, _, _, _, rfl, upd_same, pc, .base (.str _), ki_no (by decide +kernel) (by decide +kernel), q p _ np⟩
end
end Ta
namespace Ta
open PySem PySem.Spec PyProof.Rows L2
theorem DqAll.ofSnoc {H : Hp} {vs : List V} {ds : List PyData} {i : Nat} {v : V} {d : PyData} (h : DqAll H vs (ds.take i)) (e : ds[i]? = some d) (q : Dq H v d) : DqAll H (vs ++ [v]) (ds.take (i + 1)) := by
  rw [List.take_add_one, e]
  exact h.snoc q
theorem depth_mem : ∀ {ds : List PyData} {i : Nat} {d : PyData}, ds[i]? = some d → d.depth ≤ PyData.depthAll ds
  | [], i, d, e => by simp at e
  | x :: xs, 0, d, e => by
    simp at e
    subst e
    simp only [PyData.depthAll]
    omega
  | x :: xs, i + 1, d, e => by
    have := depth_mem (ds := xs) (i := i) (d := d) (by simpa using e)
    simp only [PyData.depthAll]
    omega
mutual
/-- the longest row -/
def _root_.PySem.PyData.big : PyData → Nat
  | .tuple xs => max xs.length (bigAll xs)
  | _ => 0
def bigAll : List PyData → Nat
  | [] => 0
  | x :: xs => max x.big (bigAll xs)
end
theorem big_mem : ∀ {ds : List PyData} {i : Nat} {d : PyData}, ds[i]? = some d → d.big ≤ bigAll ds
  | [], i, d, e => by simp at e
  | x :: xs, 0, d, e => by
    simp at e
    subst e
    simp only [bigAll]
    omega
  | x :: xs, i + 1, d, e => by
    have := big_mem (ds := xs) (i := i) (d := d) (by simpa using e)
    simp only [bigAll]
    omega
theorem get_lt {α : Type} {l : List α} {i : Nat} {x : α} (e : l[i]? = some x) : i < l.length := (List.getElem?_eq_some_iff.mp e).1
/-- whose rows are tuples -/
def spAsTuples (n : Nat) : Sp := fun vs H Q _ => ∃ v d, vs = [v] ∧ Dq H v d ∧ d.depth < n ∧ d.big ≤ 1000 ∧ ∀ H' v', Same H H' → Dq H' v' d → Q v' H'
section
variable {P : Program} {w : World} {K : PySem.W.Frag} {mg : Str → Option Value} {base : Heap}
theorem sc_as_tuples : FnScope ["thing", "part"] ["thing"] (defScope s_as_tuples) := ⟨rfl, rfl, rfl, by decide +kernel, rfl, by decide +kernel, by decide +kernel⟩
theorem ok_as_tuples (T : Tx w K mg) : ∀ n, Ok P w K mg base CX0 (n + 1) ("as_tuples", none) ["thing"] (spAsTuples n)
  | 0 => by
    refine mkOk T.d_as_tuples sc_as_tuples (fun vs H Q E h => ?_) (fun _ _ _ _ _ _ us hl => match us, hl with | [_], _ => rfl) (fun cdv A outer s H vs Q E hr h => ?_)
    · obtain ⟨v, d, rfl, _⟩ := h
      rfl
    · obtain ⟨v, d, rfl, _, h, _⟩ := h
      exact absurd h (Nat.not_lt_zero _)
  | n + 1 => by
    obtain ⟨_, G_as_tuples, b_as_tuples, kp_as_tuples⟩ := ok_as_tuples T n
    obtain ⟨_, G_is_row, b_is_row, kp_is_row⟩ := ok_is_row (P := P) (base := base) T
    refine mkOk T.d_as_tuples sc_as_tuples (fun vs H Q E h => ?_) (fun _ _ _ _ _ _ us hl => match us, hl with | [_], _ => rfl) (fun cdv A outer s H vs Q E hr h => ?_)
    · obtain ⟨v, d, rfl, _⟩ := h
      rfl
    · obtain ⟨v, d, rfl, hd, hn, hb, q⟩ := h
      refine ⟨_, (pss_cons (ps_if (pt_not (pt_val (pe_call G_is_row (hr.mono (by omega)) (by rfl) T.g_is_row kp_is_row b_is_row .nil pass0 (pa_cons (pv 0) pa_nil)))) (pss_one (ps_ret (pv 0))) pss_nil)
      (pss_one (ps_ret (pe_tupleOf (by rfl) T.n_tuple (pe_lc (own := [("part", 1)]) (g := gName 1) (tt := tYes) rfl sc_as_tuples.nd (pi_tup (pv 0)) (blkOk_by (own := [("part", 1)]) (N := ["thing", "part"]) (sc := defScope s_as_tuples) (by decide +kernel)) (fun _ _ _ _ _ => (pg_name (i := 1) sc_as_tuples.nd (by rfl) (Or.inl rfl))) (fun _ _ _ _ _ => pts_nil) (fun _ _ _ _ _ => (pe_call G_as_tuples (hr.mono (by omega)) (by rfl) T.g_as_tuples kp_as_tuples b_as_tuples .nil pass0 (pa_cons (pv 1) pa_nil)))))))), ?_⟩
      cases hd with
      | non => exact ⟨_, rfl, _, _, rfl, .inr ⟨rfl, .non⟩, fun p o np => ⟨_, rfl, ifT rfl ⟨_, rfl, q _ _ ((Same.refl H).up np) .non⟩⟩⟩
      | int i => exact ⟨_, rfl, _, _, rfl, .inr ⟨rfl, .int i⟩, fun p o np => ⟨_, rfl, ifT rfl ⟨_, rfl, q _ _ ((Same.refl H).up np) (.int i)⟩⟩⟩
      | str x => exact ⟨_, rfl, _, _, rfl, .inr ⟨rfl, .str x⟩, fun p o np => ⟨_, rfl, ifT rfl ⟨_, rfl, q _ _ ((Same.refl H).up np) (.str x)⟩⟩⟩
      | @tup a xs ds e hs =>
        refine ⟨_, rfl, _, _, rfl, .inl ⟨rfl, a, rfl, .inr ⟨xs, e⟩⟩, fun p o np => ⟨_, rfl, ifF rfl ?_⟩⟩
        have s1 : Same H (upd H p o) := (Same.refl H).up np
        have len := hs.length
        refine ⟨_, rfl, a, rfl, ⟨xs, SqT.of (s1 _ _ e)⟩, fun D nD => lc_it (walk_tup (K := K) (a := a) (xs := xs)) (GP (upd H p o) D fun i acc H' => DqAll H' acc (ds.take i)) (GP.start nD .nil) (fun i H' _ g => SqT.of (g.1 _ _ (s1 _ _ e))) ?_ ?_⟩
        · rintro i x H1 H2 hi ⟨g1, acc, g2, g3⟩ ⟨rfl, hx⟩
          obtain ⟨d, hd, dx⟩ := hs.getV hx
          have t1 : Tups H H2 := Tups.of (s1.trans g1)
          refine ⟨rfl, ?_⟩
          refine ⟨_, rfl, x, d, rfl, dx.mono t1, ?_, ?_, fun H' v' sm dv => GP.push nD g1 g2 sm ?_ ?_⟩
          · have h1 := depth_mem hd
            simp only [PyData.depth] at hn
            omega
          · exact Nat.le_trans (big_mem hd) (by simp only [PyData.big] at hb; omega)
          · have h1 := g3.length
            rw [List.length_take] at h1
            have h2 := sizeLine_eq
            simp only [PyData.big] at hb
            omega
          · have nt : ∀ ys, H' D ≠ some (.tup ys) := fun ys z => by
              rw [sm _ _ g2] at z
              cases z
            exact DqAll.ofSnoc ((g3.mono (Tups.of sm)).mono (Tups.upd nt)) hd (dv.mono (Tups.upd nt))
        · rintro H1 ⟨g1, acc, g2, g3⟩
          rw [len, List.take_length] at g3
          exact .inl ⟨_, _, rfl, SqL.of g2, fun q' nq => q _ _ ((s1.trans g1).up nq) (.tup upd_same (g3.mono (Tups.of ((Same.refl _).up nq))))⟩
end
end Ta
namespace Ta
open PySem PySem.Spec PyProof.Rows L2
/-! ### the two tables of the top -/
theorem kvB_ok {K : PySem.W.Frag} {x : Str} {q : Str × List Str} (h : kvB K x q = true) :
    PySem.W.nsIn K (He.ga K x) q.1 = some (some (.ref (kvA K x q.1))) ∧ ∀ H, SqT K H (kvA K x q.1) (q.2.map V.str) := by
  obtain ⟨h1, h2⟩ := He.ba h
  constructor
  · unfold kvA
    split at h1
    · rename_i a e
      rw [e]
    · cases h1
  · intro H
    cases e : K.lookup (kvA K x q.1) with
    | none =>
      rw [e] at h2
      cases h2
    | some o =>
      obtain ⟨oc, od, dt, osl⟩ := o
      rw [e] at h2
      cases oc with
      | type c =>
        cases dt with
        | seq its n =>
          obtain ⟨h3, h4⟩ := He.ba (show (decide (c = "tuple") && (decide (its.size ≤ sizeLine) && He.relAll (q.2.map V.str) its.toList)) = true from h2)
          obtain ⟨h5, h6⟩ := He.ba h4
          exact .inr ⟨_, its, n, e, congrArg Value.type (of_decide_eq_true h3), rfl, of_decide_eq_true h5, He.relAll_ok h6⟩
        | _ => cases h2
      | _ => cases dt <;> cases h2
section
variable {w : World} {K : PySem.W.Frag} {mg : Str → Option Value}
theorem Tx.shape (T : Tx w K mg) {q : Str × List Str} (h : q ∈ shapes) : KDct K w (He.ga K "SHAPES") q.1 (.ref (kvA K "SHAPES" q.1)) ∧ ∀ H, SqT K H (kvA K "SHAPES" q.1) (q.2.map V.str) := by
  have e := (He.ba (show ((shapes.all (kvB K "SHAPES") && Ta.widest.all (kvB K "WIDEST")) && endB K) = true from T.c.ex)).1
  obtain ⟨e1, _⟩ := He.ba (show (shapes.all (kvB K "SHAPES") && widest.all (kvB K "WIDEST")) = true from e)
  obtain ⟨h1, h2⟩ := kvB_ok (List.all_eq_true.mp e1 q h)
  obtain ⟨es, n, D⟩ := T.c.t.tab 0 (t := (fun K => He.ga K "SHAPES", shapes.map (·.1))) rfl
  exact ⟨⟨es, n, _, D.at_, D.lit, h1, rfl⟩, h2⟩
theorem Tx.widest (T : Tx w K mg) {q : Str × List Str} (h : q ∈ widest) : KDct K w (He.ga K "WIDEST") q.1 (.ref (kvA K "WIDEST" q.1)) ∧ ∀ H, SqT K H (kvA K "WIDEST" q.1) (q.2.map V.str) := by
  have e := (He.ba (show ((shapes.all (kvB K "SHAPES") && Ta.widest.all (kvB K "WIDEST")) && endB K) = true from T.c.ex)).1
  obtain ⟨_, e1⟩ := He.ba (show (shapes.all (kvB K "SHAPES") && Ta.widest.all (kvB K "WIDEST")) = true from e)
  obtain ⟨h1, h2⟩ := kvB_ok (List.all_eq_true.mp e1 q h)
  obtain ⟨es, n, D⟩ := T.c.t.tab 1 (t := (fun K => He.ga K "WIDEST", Ta.widest.map (·.1))) rfl
  exact ⟨⟨es, n, _, D.at_, D.lit, h1, rfl⟩, h2⟩
theorem Tx.shapeD (T : Tx w K mg) : ∃ es n, KDict K w (He.ga K "SHAPES") es n := T.c.t.tab 0 (t := (fun K => He.ga K "SHAPES", shapes.map (·.1))) rfl
end
/-! ### expressions as data -/
/-- what may stand at a slot, E telling the parts -/
inductive Fit (E : PyData → Prop) : Str → PyData → Prop
  | number {i : Int} : 0 ≤ i → i ≤ 999999 → Fit E "number" (.int i)
  | index {i : Int} : 0 ≤ i → i ≤ 3 → Fit E "index" (.int i)
  | name {x : Str} : NameOk x → Fit E "name" (.str x)
  | names {xs : List Str} : 1 ≤ xs.length → xs.length ≤ 4 → (∀ x ∈ xs, NameOk x) → Fit E "names" (.tuple (xs.map .str))
  | args {ds : List PyData} : ds.length ≤ 4 → (∀ d ∈ ds, E d) → Fit E "args" (.tuple ds)
  | part {d : PyData} : E d → Fit E "part" d
/-- an expression of a depth of at most n -/
def Ex : Nat → PyData → Prop
  | 0, _ => False
  | n + 1, d => ∃ q ∈ shapes, ∃ ds, d = .tuple (.str q.1 :: ds) ∧ Paired (Fit (Ex n)) q.2 ds
/-- how many parts slots have, at most -/
def cntS : List Str → Nat
  | [] => 0
  | s :: r => (if s = "part" then 1 else if s = "args" then 4 else 0) + cntS r
theorem shapes_cnt : ∀ q ∈ shapes, cntS q.2 ≤ 5 ∧ q.2.length ≤ 3 := by decide +kernel
theorem pget2 {α β : Type} {F : α → β → Prop} : ∀ {l₁ : List α} {l₂ : List β} {j : Nat} {x : α}, Paired F l₁ l₂ → l₁[j]? = some x → ∃ y, l₂[j]? = some y ∧ F x y
  | _, _, _, _, .nil, h => by simp at h
  | _, _, 0, x, .cons h _, e => by
    simp at e
    subst e
    exact ⟨_, rfl, h⟩
  | _, _, j + 1, x, .cons _ r, e => by
    obtain ⟨y, e1, h⟩ := pget2 (j := j) (x := x) r (by simpa using e)
    exact ⟨y, by simpa using e1, h⟩
theorem cntS_take : ∀ (l : List Str) (i : Nat) (s : Str), l[i]? = some s → cntS (l.take (i + 1)) = cntS (l.take i) + (if s = "part" then 1 else if s = "args" then 4 else 0)
  | [], i, s, h => by simp at h
  | a :: l, 0, s, h => by
    simp at h
    subst h
    simp [cntS]
  | a :: l, i + 1, s, h => by
    have ih := cntS_take l i s (by simpa using h)
    show cntS (a :: l.take (i + 1)) = cntS (a :: l.take i) + _
    unfold cntS
    rw [ih]
    omega
theorem cntS_le (l : List Str) : ∀ i, cntS (l.take i) ≤ cntS l := by
  induction l with
  | nil =>
    intro i
    simp [cntS]
  | cons a l ih =>
    intro i
    cases i with
    | zero => simp [cntS]
    | succ i =>
      show cntS (a :: l.take i) ≤ cntS (a :: l)
      unfold cntS
      have := ih i
      omega
/-! ### are_names -/
def spAreNames : Sp := fun vs H Q _ => ∃ (a : Addr) (xs : List Str), vs = [.ref a] ∧ H a = some (.tup (xs.map V.str)) ∧ 1 ≤ xs.length ∧ xs.length ≤ 4 ∧ (∀ x ∈ xs, NameOk x) ∧ ∀ H', Same H H' → Q (.bl true) H'
section
variable {P : Program} {w : World} {K : PySem.W.Frag} {mg : Str → Option Value} {base : Heap}
theorem sc_are_names : FnScope ["thing", "name"] ["thing"] (defScope s_are_names) := ⟨rfl, rfl, rfl, by decide +kernel, rfl, by decide +kernel, by decide +kernel⟩
theorem ok_are_names (T : Tx w K mg) : Ok P w K mg base CX0 2 ("are_names", none) ["thing"] spAreNames := by
  obtain ⟨_, G_is_row, b_is_row, kp_is_row⟩ := ok_is_row (P := P) (base := base) T
  obtain ⟨_, G_is_name, b_is_name, kp_is_name⟩ := ok_is_name (P := P) (base := base) T
  refine mkOk T.d_are_names sc_are_names (fun vs H Q E h => ?_) (fun _ _ _ _ _ _ us hl => match us, hl with | [_], _ => rfl) (fun cdv A outer s H vs Q E hr h => ?_)
  · obtain ⟨a, xs, rfl, _⟩ := h
    rfl
  · obtain ⟨a, xs, rfl, e, h1, h4, hn, q⟩ := h
    refine ⟨_, (pss_cons (ps_if (PW.pt (pw_or (pt_not (pt_val (pe_call G_is_row (hr.mono (by omega)) (by rfl) T.g_is_row kp_is_row b_is_row .nil pass0 (pa_cons (pv 0) pa_nil)))) (pw_or1 (pt_not (pt_chain op_le op_le pe_int (pe_callB call_len_seq (by rfl) T.n_len bt_len (pa_cons (pv 0) pa_nil)) (pe_gi T.i_MOST_NAMES)))))) (pss_one (ps_ret pe_bl)) pss_nil)
      (pss_cons (ps_for PassesOwn.never rfl (pi_tup (pv 0)) (pg_name (i := 1) sc_are_names.nd (by rfl) (Or.inl rfl)) (pss_one (ps_if (pt_not (pt_val (pe_call G_is_name (hr.mono (by omega)) (by rfl) T.g_is_name kp_is_name b_is_name .nil pass0 (pa_cons (pv 1) pa_nil)))) (pss_one (ps_ret pe_bl)) pss_nil)))
      (pss_one (ps_ret pe_bl)))), ?_⟩
    refine ⟨_, rfl, _, _, rfl, .inl ⟨rfl, a, rfl, .inr ⟨_, e⟩⟩, fun p o np => ?_⟩
    have s1 : Same H (upd H p o) := (Same.refl H).up np
    refine ⟨_, rfl, _, rfl, a, _, rfl, .inr (SqT.of (s1 _ _ e)), _, _, rfl, rfl, _, rfl, ?_⟩
    rw [List.length_map]
    refine decT (by omega) ⟨_, _, rfl, rfl, _, rfl, ?_⟩
    rw [decide_eq_true (show ((xs.length : Nat) : Int) ≤ 4 by omega)]
    refine ifF rfl ?_
    refine ⟨_, rfl, a, rfl, ⟨_, SqT.of (s1 _ _ e)⟩, for_it (walk_tup (K := K) (a := a) (xs := xs.map V.str)) (fun i σ H' => (∃ v, σ = [some (.ref a), v]) ∧ H' = upd H p o) ⟨⟨none, rfl⟩, rfl⟩ (fun i σ H' _ g => by rw [g.2]; exact SqT.of (s1 _ _ e)) ?_ ?_⟩
    · rintro i v σ H1 H2 hi ⟨⟨v0, rfl⟩, rfl⟩ ⟨rfl, hx⟩
      obtain ⟨x, hx1, rfl⟩ : ∃ x, xs[i]? = some x ∧ v = V.str x := by
        rw [List.getElem?_map] at hx
        cases ex : xs[i]? with
        | none =>
          rw [ex] at hx
          cases hx
        | some x =>
          rw [ex] at hx
          exact ⟨x, rfl, (Option.some.inj hx).symm⟩
      refine ⟨_, rfl, x, rfl, hn x (List.mem_of_getElem? hx1), _, rfl, ?_⟩
      exact ⟨⟨_, rfl⟩, rfl⟩
    · rintro σ H1 ⟨⟨v0, rfl⟩, rfl⟩
      exact q _ s1
/-! ### fits -/
def spFits (E0 : PyData → Prop) : Sp := fun vs H Q _ => ∃ sl v d, vs = [.str sl, v] ∧ Dq H v d ∧ Fit E0 sl d ∧ ∀ H', Same H H' → Q (.bl true) H'
theorem strs_v : ∀ {H : Hp} {xs : List Str} {vs : List V}, DqAll H vs (xs.map .str) → vs = xs.map V.str
  | _, [], _, .nil => rfl
  | _, x :: xs, _, .cons h t => by rw [h.strI, strs_v t]; rfl
theorem sc_fits : FnScope ["slot", "thing"] ["slot", "thing"] (defScope s_fits) := ⟨rfl, rfl, rfl, by decide +kernel, rfl, by decide +kernel, by decide +kernel⟩
theorem ok_fits (T : Tx w K mg) (E0 : PyData → Prop) : Ok P w K mg base CX0 3 ("fits", none) ["slot", "thing"] (spFits E0) := by
  obtain ⟨_, G_is_row, b_is_row, kp_is_row⟩ := ok_is_row (P := P) (base := base) T
  obtain ⟨_, G_is_name, b_is_name, kp_is_name⟩ := ok_is_name (P := P) (base := base) T
  obtain ⟨_, G_is_number, b_is_number, kp_is_number⟩ := ok_is_number (P := P) (base := base) T
  obtain ⟨_, G_is_whole, b_is_whole, kp_is_whole⟩ := ok_is_whole (P := P) (base := base) T
  obtain ⟨_, G_are_names, b_are_names, kp_are_names⟩ := ok_are_names (P := P) (base := base) T
  refine mkOk T.d_fits sc_fits (fun vs H Q E h => ?_) (fun _ _ _ _ _ _ us hl => match us, hl with | [_, _], _ => rfl) (fun cdv A outer s H vs Q E hr h => ?_)
  · obtain ⟨sl, v, d, rfl, _⟩ := h
    rfl
  · obtain ⟨sl, v, d, rfl, hd, hf, q⟩ := h
    refine ⟨_, (pss_cons (ps_if (pt_cmpR op_eq (pv 0) pe_str (nomark _)) (pss_one (ps_ret (pe_call G_is_number (hr.mono (by omega)) (by rfl) T.g_is_number kp_is_number b_is_number .nil pass0 (pa_cons (pv 1) pa_nil)))) pss_nil)
      (pss_cons (ps_if (pt_cmpR op_eq (pv 0) pe_str (nomark _)) (pss_one (ps_ret (pe_call G_is_whole (hr.mono (by omega)) (by rfl) T.g_is_whole kp_is_whole b_is_whole .nil pass0 (pa_cons (pv 1) (pa_cons pe_int (pa_cons (pe_op op_sub (pe_gi T.i_MOST_ARGUMENTS) pe_int) pa_nil)))))) pss_nil)
      (pss_cons (ps_if (pt_cmpR op_eq (pv 0) pe_str (nomark _)) (pss_one (ps_ret (pe_call G_is_name (hr.mono (by omega)) (by rfl) T.g_is_name kp_is_name b_is_name .nil pass0 (pa_cons (pv 1) pa_nil)))) pss_nil)
      (pss_cons (ps_if (pt_cmpR op_eq (pv 0) pe_str (nomark _)) (pss_one (ps_ret (pe_call G_are_names (hr.mono (by omega)) (by rfl) T.g_are_names kp_are_names b_are_names .nil pass0 (pa_cons (pv 1) pa_nil)))) pss_nil)
      (pss_cons (ps_if (pt_cmpR op_eq (pv 0) pe_str (nomark _)) (pss_one (ps_ret (pe_and (pe_call G_is_row (hr.mono (by omega)) (by rfl) T.g_is_row kp_is_row b_is_row .nil pass0 (pa_cons (pv 1) pa_nil)) (pe_one (pe_cmpR op_le (pe_callB call_len_seq (by rfl) T.n_len bt_len (pa_cons (pv 1) pa_nil)) (pe_gi T.i_MOST_ARGUMENTS) (nomark _)))))) pss_nil)
      (pss_one (ps_ret pe_bl))))))), ?_⟩
    cases hf with
    | @number i h1 h2 =>
      rw [hd.intI]
      refine ⟨_, rfl, rfl, _, rfl, decT rfl ⟨_, rfl, i, rfl, ?_⟩⟩
      rw [decide_eq_true h1, decide_eq_true h2]
      exact q H (Same.refl H)
    | @index i h1 h2 =>
      rw [hd.intI]
      refine ⟨_, rfl, rfl, _, rfl, decF (by decide +kernel) ⟨_, rfl, rfl, _, rfl, decT rfl ⟨_, rfl, _, _, rfl, rfl, i, _, _, rfl, ?_⟩⟩⟩
      rw [decide_eq_true h1, decide_eq_true (show i ≤ 4 - 1 by omega)]
      exact q H (Same.refl H)
    | @name x h1 =>
      rw [hd.strI]
      refine ⟨_, rfl, rfl, _, rfl, decF (by decide +kernel) ⟨_, rfl, rfl, _, rfl, decF (by decide +kernel) ⟨_, rfl, rfl, _, rfl, decT rfl ⟨_, rfl, x, rfl, h1, ?_⟩⟩⟩⟩
      exact q H (Same.refl H)
    | @names xs h1 h2 h3 =>
      obtain ⟨a, ys, rfl, e, r⟩ := hd.tupI
      rw [strs_v r] at e
      refine ⟨_, rfl, rfl, _, rfl, decF (by decide +kernel) ⟨_, rfl, rfl, _, rfl, decF (by decide +kernel) ⟨_, rfl, rfl, _, rfl, decF (by decide +kernel) ⟨_, rfl, rfl, _, rfl, decT rfl ⟨_, rfl, a, xs, rfl, e, h1, h2, h3, q⟩⟩⟩⟩⟩
    | @args ds h1 h2 =>
      obtain ⟨a, ys, rfl, e, r⟩ := hd.tupI
      refine ⟨_, rfl, rfl, _, rfl, decF (by decide +kernel) ⟨_, rfl, rfl, _, rfl, decF (by decide +kernel) ⟨_, rfl, rfl, _, rfl, decF (by decide +kernel) ⟨_, rfl, rfl, _, rfl, decF (by decide +kernel) ⟨_, rfl, rfl, _, rfl, decT rfl ?_⟩⟩⟩⟩⟩
      refine ⟨_, rfl, _, _, rfl, .inl ⟨rfl, a, rfl, .inr ⟨_, e⟩⟩, fun p o np => ⟨_, rfl, ?_⟩⟩
      have s1 : Same H (upd H p o) := (Same.refl H).up np
      refine ⟨_, rfl, a, _, rfl, .inr (SqT.of (s1 _ _ e)), _, _, rfl, rfl, ?_⟩
      have l := r.length
      show Q (V.bl (decide (((ys.length : Nat) : Int) ≤ 4))) _
      rw [decide_eq_true (show ((ys.length : Nat) : Int) ≤ 4 by omega)]
      exact q _ s1
    | part h1 =>
      refine ⟨_, rfl, rfl, _, rfl, decF (by decide +kernel) ⟨_, rfl, rfl, _, rfl, decF (by decide +kernel) ⟨_, rfl, rfl, _, rfl, decF (by decide +kernel) ⟨_, rfl, rfl, _, rfl, decF (by decide +kernel) ⟨_, rfl, rfl, _, rfl, decF (by decide +kernel) ?_⟩⟩⟩⟩⟩
      exact q H (Same.refl H)
/-! ### has_shape -/
def spHasShape (n : Nat) : Sp := fun vs H Q _ => ∃ v d, vs = [v] ∧ Dq H v d ∧ Ex (n + 1) d ∧ ∀ H', Same H H' → Q (.bl true) H'
theorem sc_has_shape : FnScope ["thing", "slots", "k"] ["thing"] (defScope s_has_shape) := ⟨rfl, rfl, rfl, by decide +kernel, rfl, by decide +kernel, by decide +kernel⟩
theorem ok_has_shape (T : Tx w K mg) (n : Nat) : Ok P w K mg base CX0 4 ("has_shape", none) ["thing"] (spHasShape n) := by
  obtain ⟨_, G_is_row, b_is_row, kp_is_row⟩ := ok_is_row (P := P) (base := base) T
  obtain ⟨_, G_fits, b_fits, kp_fits⟩ := ok_fits (P := P) (base := base) T (Ex n)
  obtain ⟨es, nn, D⟩ := T.shapeD
  refine mkOk T.d_has_shape sc_has_shape (fun vs H Q E h => ?_) (fun _ _ _ _ _ _ us hl => match us, hl with | [_], _ => rfl) (fun cdv A outer s H vs Q E hr h => ?_)
  · obtain ⟨v, d, rfl, _⟩ := h
    rfl
  · obtain ⟨v, d, rfl, hd, ⟨qs, hq, ds, rfl, hp⟩, q⟩ := h
    obtain ⟨a, xs, rfl, e, r⟩ := hd.tupI
    obtain ⟨w0, slots⟩ := qs
    cases r with
    | @cons v0 vs _ _ r0 r =>
    rw [r0.strI] at e
    obtain ⟨kd, kt⟩ := T.shape hq
    have c3 := (shapes_cnt _ hq).2
    have lp := hp.length
    have lr := r.length
    simp only at kd kt c3 lp
    refine ⟨_, (pss_cons (ps_if (PW.pt (pw_or (pt_not (pt_val (pe_call G_is_row (hr.mono (by omega)) (by rfl) T.g_is_row kp_is_row b_is_row .nil pass0 (pa_cons (pv 0) pa_nil)))) (pw_or (pt_cmpR op_eq (pe_callB call_len_seq (by rfl) T.n_len bt_len (pa_cons (pv 0) pa_nil)) pe_int (nomark _)) (pw_or (pt_not (pt_val (pe_callB call_isi (by rfl) T.n_isinstance bt_isinstance (pa_cons (pe_ix ix_tup (pv 0) pe_int (fun _ _ => rfl)) (pa_cons (pe_bltn (v := .ty "str") (by rfl) T.n_str bt_str rfl) pa_nil))))) (pw_or1 (pt_cmpR (op_notIn_kd D) (pe_ix ix_tup (pv 0) pe_int (fun _ _ => rfl)) (pe_glob (v := .ref (He.ga K "SHAPES")) (by rfl) T.g_SHAPES rfl) (by rfl))))))) (pss_one (ps_ret pe_bl)) pss_nil)
      (pss_cons (ps_set (i := 1) sc_has_shape.nd (by rfl) (Or.inl rfl) (pe_ix ix_kdict (pe_glob (v := .ref (He.ga K "SHAPES")) (by rfl) T.g_SHAPES rfl) (pe_ix ix_tup (pv 0) pe_int (fun _ _ => rfl)) (fun _ _ => rfl)))
      (pss_cons (ps_if (pt_cmpR op_ne (pe_callB call_len_seq (by rfl) T.n_len bt_len (pa_cons (pv 0) pa_nil)) (pe_op op_add pe_int (pe_callB call_len_seq (by rfl) T.n_len bt_len (pa_cons (pv 1) pa_nil))) (nomark _)) (pss_one (ps_ret pe_bl)) pss_nil)
      (pss_cons (ps_for PassesOwn.never rfl (pi_range1 (by rfl) T.n_range (pa_cons (pe_callB call_len_seq (by rfl) T.n_len bt_len (pa_cons (pv 1) pa_nil)) pa_nil)) (pg_name (i := 2) sc_has_shape.nd (by rfl) (Or.inl rfl)) (pss_one (ps_if (pt_not (pt_val (pe_call G_fits (hr.mono (by omega)) (by rfl) T.g_fits kp_fits b_fits .nil pass0 (pa_cons (pe_ix ix_tup (pv 1) (pv 2) (fun _ _ => rfl)) (pa_cons (pe_ix ix_tup (pv 0) (pe_op op_add pe_int (pv 2)) (fun _ _ => rfl)) pa_nil))))) (pss_one (ps_ret pe_bl)) pss_nil)))
      (pss_one (ps_ret pe_bl)))))), ?_⟩
    refine ⟨_, rfl, _, _, rfl, .inl ⟨rfl, a, rfl, .inr ⟨_, e⟩⟩, fun p o np => ⟨_, rfl, ?_⟩⟩
    have s1 : Same H (upd H p o) := (Same.refl H).up np
    have e1 : SqT K (upd H p o) a (V.str w0 :: vs) := SqT.of (s1 _ _ e)
    refine ⟨_, rfl, a, _, rfl, .inr e1, rfl, _, rfl, ?_⟩
    rw [decide_eq_false (show ¬ V.int (((V.str w0 :: vs).length : Nat) : Int) = V.int 0 by simp; omega)]
    refine ⟨_, rfl, a, _, 0, _, rfl, rfl, e1, at_of (j := 0) rfl rfl, _, _, _, _, true, rfl, .ty "str", .base (.str _), ki_ss, _, rfl, ?_⟩
    have hk : PySem.W.nsIn K (He.ga K "SHAPES") w0 = some (some (.ref (kvA K "SHAPES" w0))) := by
      obtain ⟨_, _, u, _, _, h3, h4⟩ := kd
      rw [h3, show u = Value.ref (kvA K "SHAPES" w0) from h4]
    refine ⟨_, rfl, a, _, 0, _, rfl, rfl, e1, at_of (j := 0) rfl rfl, w0, _, rfl, rfl, hk, _, rfl, ?_⟩
    -- slots = SHAPES[thing[0]]
    refine ⟨_, rfl, a, _, 0, _, rfl, rfl, e1, at_of (j := 0) rfl rfl, _, _, _, rfl, rfl, kd, ?_⟩
    refine ⟨_, rfl, a, _, rfl, .inr e1, _, rfl, _, _, rfl, .inr (kt _), _, _, rfl, rfl, rfl, _, rfl, ?_⟩
    have e2 : V.int (((V.str w0 :: vs).length : Nat) : Int) = V.int (1 + (((slots.map V.str).length : Nat) : Int)) := by
      rw [List.length_map, List.length_cons]
      congr 1
      omega
    rw [e2, decide_eq_true rfl]
    refine ifF rfl ?_
    refine ⟨_, rfl, _, _, rfl, .inr (kt _), _, rfl, by rw [List.length_map]; omega, by rw [List.length_map]; omega, for_range (n := (((slots.map V.str).length : Nat) : Int).toNat) (fun i σ H' => (∃ v, σ = [some (.ref a), some (.ref (kvA K "SHAPES" w0)), v]) ∧ Same H H') ⟨⟨none, rfl⟩, s1⟩ ?_ ?_⟩
    · rintro i σ H1 hi ⟨⟨v0, rfl⟩, s2⟩
      have hi2 : i < slots.length := by
        rw [List.length_map] at hi
        omega
      obtain ⟨sl, hsl⟩ : ∃ sl, slots[i]? = some sl := ⟨_, List.getElem?_eq_getElem hi2⟩
      obtain ⟨di, hdi, fi⟩ := pget2 hp hsl
      obtain ⟨vi, hvi, ri⟩ := r.get hdi
      refine ⟨_, rfl, _, rfl, _, _, _, _, rfl, rfl, kt _, at_of (j := i) (v := V.str sl) (by omega) (by rw [List.getElem?_map, hsl]; rfl), ?_⟩
      refine ⟨_, rfl, _, rfl, _, _, rfl, rfl, a, _, _, _, rfl, rfl, SqT.of (s2 _ _ e), at_of (j := i + 1) (v := vi) (by omega) (by simpa using hvi), ?_⟩
      refine ⟨sl, vi, di, rfl, ri.mono (Tups.of s2), fi, fun H2 s3 => ⟨_, rfl, ?_⟩⟩
      exact ⟨⟨_, rfl⟩, s2.trans s3⟩
    · rintro σ H1 ⟨⟨v0, rfl⟩, s2⟩
      exact q _ s2
/-! ### parts_of -/
def spPartsOf (n : Nat) : Sp := fun vs H Q _ => ∃ v d, vs = [v] ∧ Dq H v d ∧ Ex (n + 1) d ∧ ∀ H' L ps, Same H H' → H' L = some (.lst ps) → ps.length ≤ 5 → (∀ p ∈ ps, ∃ d, Dq H' p d ∧ Ex n d) → Q (.ref L) H'
theorem sc_parts_of : FnScope ["expression", "slots", "found", "k"] ["expression"] (defScope s_parts_of) := ⟨rfl, rfl, rfl, by decide +kernel, rfl, by decide +kernel, by decide +kernel⟩
theorem ok_parts_of (T : Tx w K mg) (n : Nat) : Ok P w K mg base CX0 1 ("parts_of", none) ["expression"] (spPartsOf n) := by
  refine mkOk T.d_parts_of sc_parts_of (fun vs H Q E h => ?_) (fun _ _ _ _ _ _ us hl => match us, hl with | [_], _ => rfl) (fun cdv A outer s H vs Q E hr h => ?_)
  · obtain ⟨v, d, rfl, _⟩ := h
    rfl
  · obtain ⟨v, d, rfl, hd, ⟨qs, hq, ds, rfl, hp⟩, q⟩ := h
    obtain ⟨a, xs, rfl, e, r⟩ := hd.tupI
    obtain ⟨w0, slots⟩ := qs
    cases r with
    | @cons v0 vs _ _ r0 r =>
    rw [r0.strI] at e
    obtain ⟨kd, kt⟩ := T.shape hq
    have c3 := shapes_cnt _ hq
    have lp := hp.length
    have lr := r.length
    simp only at kd kt c3 lp
    refine ⟨_, (pss_cons (ps_set (i := 1) sc_parts_of.nd (by rfl) (Or.inl rfl) (pe_ix ix_kdict (pe_glob (v := .ref (He.ga K "SHAPES")) (by rfl) T.g_SHAPES rfl) (pe_ix ix_tup (pv 0) pe_int (fun _ _ => rfl)) (fun _ _ => rfl)))
      (pss_cons (ps_set (i := 2) sc_parts_of.nd (by rfl) (Or.inl rfl) (pe_lst pa_nil))
      (pss_cons (ps_for PassesOwn.never rfl (pi_range1 (by rfl) T.n_range (pa_cons (pe_callB call_len_seq (by rfl) T.n_len bt_len (pa_cons (pv 1) pa_nil)) pa_nil)) (pg_name (i := 3) sc_parts_of.nd (by rfl) (Or.inl rfl)) (pss_one (ps_if (pt_cmpR op_eq (pe_ix ix_tup (pv 1) (pv 3) (fun _ _ => rfl)) pe_str (nomark _)) (pss_one (ps_expr (pe_bm PySem.F.plainAttrs_list PySem.F.slot_list_append PySem.F.type_list_append mt_append (pv 2) (pa_cons (pe_ix ix_tup (pv 0) (pe_op op_add pe_int (pv 3)) (fun _ _ => rfl)) pa_nil)))) (pss_one (ps_if (pt_cmpR op_eq (pe_ix ix_tup (pv 1) (pv 3) (fun _ _ => rfl)) pe_str (nomark _)) (pss_one (ps_set (i := 2) sc_parts_of.nd (by rfl) (Or.inl rfl) (pe_op op_cat (pv 2) (pe_callTy call_list_of (by rfl) T.n_list bt_list (pa_cons (pe_ix ix_tup (pv 0) (pe_op op_add pe_int (pv 3)) (fun _ _ => rfl)) pa_nil))))) pss_nil)))))
      (pss_one (ps_ret (pv 2)))))), ?_⟩
    refine ⟨_, rfl, a, _, 0, _, rfl, rfl, SqT.of e, at_of (j := 0) rfl rfl, _, _, _, rfl, rfl, kd, ?_⟩
    refine ⟨Nat.zero_le _, fun L nL => ?_⟩
    have s1 : Same H (upd H L (.lst [])) := (Same.refl H).up nL
    refine ⟨_, rfl, _, _, rfl, .inr (kt _), _, rfl, by rw [List.length_map]; omega, by rw [List.length_map]; omega, for_range (n := (((slots.map V.str).length : Nat) : Int).toNat)
      (fun i σ H' => ∃ L ps v, σ = [some (.ref a), some (.ref (kvA K "SHAPES" w0)), some (.ref L), v] ∧ Same H H' ∧ H L = none ∧ H' L = some (.lst ps) ∧ ps.length ≤ cntS (slots.take i) ∧ ∀ p ∈ ps, ∃ d, Dq H' p d ∧ Ex n d)
      ⟨L, [], none, rfl, s1, nL, upd_same, Nat.zero_le _, fun p hp => by cases hp⟩ ?_ ?_⟩
    · rintro i σ H1 hi ⟨L, ps, v0, rfl, s2, nL, eL, lps, aps⟩
      have hi2 : i < slots.length := by
        rw [List.length_map] at hi
        omega
      obtain ⟨sl, hsl⟩ : ∃ sl, slots[i]? = some sl := ⟨_, List.getElem?_eq_getElem hi2⟩
      obtain ⟨di, hdi, fi⟩ := pget2 hp hsl
      obtain ⟨vi, hvi, ri⟩ := r.get hdi
      have cs := cntS_take slots i sl hsl
      have cle := cntS_le slots i
      have line := sizeLine_eq
      have es : atI (slots.map V.str) (0 + (i : Int)) = some (V.str sl) := at_of (j := i) (by omega) (by rw [List.getElem?_map, hsl]; rfl)
      have ev : atI (V.str w0 :: vs) (1 + (0 + (i : Int))) = some vi := at_of (j := i + 1) (by omega) (by simpa using hvi)
      refine ⟨_, rfl, _, rfl, _, _, _, _, rfl, rfl, kt _, es, rfl, _, rfl, ?_⟩
      have rest : ∀ {sl' : Str}, sl' ≠ "part" → sl' ≠ "args" → sl = sl' → ps.length ≤ cntS (slots.take (i + 1)) := fun {sl'} h1 h2 h3 => by
        subst h3
        rw [if_neg h1, if_neg h2] at cs
        omega
      cases fi with
      | part h1 =>
        refine decT rfl ?_
        refine ⟨_, rfl, .inl ⟨rfl, _, Or.inl (Or.inl eL)⟩, _, rfl, _, rfl, _, _, rfl, rfl, a, _, _, _, rfl, rfl, SqT.of (s2 _ _ e), ev, L, ps, vi, rfl, rfl, eL, by omega, ?_⟩
        have nt : ∀ ys, H1 L ≠ some (.tup ys) := fun ys z => by
          rw [eL] at z
          cases z
        refine ⟨L, _, _, rfl, s2.at0 nL, nL, upd_same, ?_, fun p hp => ?_⟩
        · rw [List.length_append, List.length_singleton]
          rw [if_pos rfl] at cs
          omega
        · rcases List.mem_append.mp hp with hp | hp
          · obtain ⟨d, h2, h3⟩ := aps p hp
            exact ⟨d, h2.mono (Tups.upd nt), h3⟩
          · rw [List.mem_singleton.mp hp]
            exact ⟨di, (ri.mono (Tups.of s2)).mono (Tups.upd nt), h1⟩
      | @args ds2 h1 h2 =>
        obtain ⟨b, ys, rfl, eb, rb⟩ := (ri.mono (Tups.of s2)).tupI
        have lb := rb.length
        refine decF (by decide +kernel) ?_
        refine ⟨_, rfl, _, rfl, _, _, _, _, rfl, rfl, kt _, es, rfl, _, rfl, decT rfl ?_⟩
        refine ⟨_, rfl, _, rfl, _, rfl, _, _, rfl, rfl, a, _, _, _, rfl, rfl, SqT.of (s2 _ _ e), ev, b, _, rfl, .inr (SqT.of eb), fun l nl => ?_⟩
        refine ⟨L, l, ps, ys, rfl, rfl, upd_of eL nl, upd_same, by omega, fun p np => ?_⟩
        have sx : Same H1 (upd (upd H1 l (.lst ys)) p (.lst (ps ++ ys))) := ((Same.refl H1).up nl).up np
        refine ⟨p, _, _, rfl, s2.trans sx, (s2.trans ((Same.refl H1).up nl)).free np, upd_same, ?_, fun p' hp' => ?_⟩
        · rw [List.length_append]
          rw [if_neg (by decide +kernel), if_pos rfl] at cs
          omega
        · rcases List.mem_append.mp hp' with hp' | hp'
          · obtain ⟨d, h3, h4⟩ := aps p' hp'
            exact ⟨d, h3.mono (Tups.of sx), h4⟩
          · obtain ⟨j, hj⟩ := List.getElem?_of_mem hp'
            obtain ⟨d, hd1, hd2⟩ := rb.getV hj
            exact ⟨d, hd2.mono (Tups.of sx), h2 d (List.mem_of_getElem? hd1)⟩
      | number _ _ =>
        refine decF (by decide +kernel) ⟨_, rfl, _, rfl, _, _, _, _, rfl, rfl, kt _, es, rfl, _, rfl, decF (by decide +kernel) ?_⟩
        exact ⟨L, ps, _, rfl, s2, nL, eL, rest (sl' := "number") (by decide +kernel) (by decide +kernel) rfl, aps⟩
      | index _ _ =>
        refine decF (by decide +kernel) ⟨_, rfl, _, rfl, _, _, _, _, rfl, rfl, kt _, es, rfl, _, rfl, decF (by decide +kernel) ?_⟩
        exact ⟨L, ps, _, rfl, s2, nL, eL, rest (sl' := "index") (by decide +kernel) (by decide +kernel) rfl, aps⟩
      | name _ =>
        refine decF (by decide +kernel) ⟨_, rfl, _, rfl, _, _, _, _, rfl, rfl, kt _, es, rfl, _, rfl, decF (by decide +kernel) ?_⟩
        exact ⟨L, ps, _, rfl, s2, nL, eL, rest (sl' := "name") (by decide +kernel) (by decide +kernel) rfl, aps⟩
      | names _ _ _ =>
        refine decF (by decide +kernel) ⟨_, rfl, _, rfl, _, _, _, _, rfl, rfl, kt _, es, rfl, _, rfl, decF (by decide +kernel) ?_⟩
        exact ⟨L, ps, _, rfl, s2, nL, eL, rest (sl' := "names") (by decide +kernel) (by decide +kernel) rfl, aps⟩
    · rintro σ H1 ⟨L, ps, v0, rfl, s2, nL, eL, lps, aps⟩
      refine ⟨_, rfl, q _ L ps s2 eL ?_ aps⟩
      have := cntS_le slots (((slots.map V.str).length : Nat) : Int).toNat
      omega
/-! ### size_within, is_expression -/
def sizeB : Nat → Nat
  | 0 => 0
  | n + 1 => 1 + 5 * sizeB n
def spSizeWithin (n : Nat) : Sp := fun vs H Q _ => ∃ v d k, vs = [v, .int k] ∧ Dq H v d ∧ Ex n d ∧ (n : Int) ≤ k ∧ ∀ H' (m : Nat), Same H H' → 1 ≤ m → m ≤ sizeB n → Q (.int m) H'
theorem sc_size_within : FnScope ["thing", "deep", "found", "part", "size"] ["thing", "deep"] (defScope s_size_within) := ⟨rfl, rfl, rfl, by decide +kernel, rfl, by decide +kernel, by decide +kernel⟩
theorem ok_size_within (T : Tx w K mg) : ∀ n, Ok P w K mg base CX0 (n + 5) ("size_within", none) ["thing", "deep"] (spSizeWithin n)
  | 0 => by
    refine Ok.mono (j := 1) ?_ (by omega)
    refine mkOk T.d_size_within sc_size_within (fun vs H Q E h => ?_) (fun _ _ _ _ _ _ us hl => match us, hl with | [_, _], _ => rfl) (fun cdv A outer s H vs Q E hr h => ?_)
    · obtain ⟨v, d, k, rfl, _⟩ := h
      rfl
    · obtain ⟨v, d, k, rfl, _, h, _⟩ := h
      exact h.elim
  | n + 1 => by
    obtain ⟨_, G_size_within, b_size_within, kp_size_within⟩ := ok_size_within T n
    obtain ⟨_, G_has_shape, b_has_shape, kp_has_shape⟩ := ok_has_shape (P := P) (base := base) T n
    obtain ⟨_, G_parts_of, b_parts_of, kp_parts_of⟩ := ok_parts_of (P := P) (base := base) T n
    refine mkOk T.d_size_within sc_size_within (fun vs H Q E h => ?_) (fun _ _ _ _ _ _ us hl => match us, hl with | [_, _], _ => rfl) (fun cdv A outer s H vs Q E hr h => ?_)
    · obtain ⟨v, d, k, rfl, _⟩ := h
      rfl
    · obtain ⟨v, d, k, rfl, hd, hx, hk, q⟩ := h
      refine ⟨_, (pss_cons (ps_if (PW.pt (pw_or (pt_cmpR op_eq (pv 1) pe_int (nomark _)) (pw_or1 (pt_not (pt_val (pe_call G_has_shape (hr.mono (by omega)) (by rfl) T.g_has_shape kp_has_shape b_has_shape .nil pass0 (pa_cons (pv 0) pa_nil))))))) (pss_one (ps_ret pe_int)) pss_nil)
      (pss_cons (ps_set (i := 2) sc_size_within.nd (by rfl) (Or.inl rfl) pe_int)
      (pss_cons (ps_for PassesOwn.never rfl (pi_list (pe_call G_parts_of (hr.mono (by omega)) (by rfl) T.g_parts_of kp_parts_of b_parts_of .nil pass0 (pa_cons (pv 0) pa_nil))) (pg_name (i := 3) sc_size_within.nd (by rfl) (Or.inl rfl)) (pss_cons (ps_set (i := 4) sc_size_within.nd (by rfl) (Or.inl rfl) (pe_call G_size_within (hr.mono (by omega)) (by rfl) T.g_size_within kp_size_within b_size_within .nil pass0 (pa_cons (pv 3) (pa_cons (pe_op op_sub (pv 1) pe_int) pa_nil))))
      (pss_cons (ps_if (pt_cmpR op_eq (pv 4) pe_int (nomark _)) (pss_one (ps_ret pe_int)) pss_nil)
      (pss_one (ps_set (i := 2) sc_size_within.nd (by rfl) (Or.inl rfl) (pe_op op_add (pv 2) (pv 4)))))))
      (pss_one (ps_ret (pv 2)))))), ?_⟩
      refine ⟨_, rfl, rfl, _, rfl, decF (fun z => ?_) ⟨_, rfl, v, d, rfl, hd, hx, fun H1 s1 => ⟨_, rfl, ?_⟩⟩⟩
      · have := V.int.inj z
        omega
      · refine ⟨_, rfl, v, d, rfl, hd.mono (Tups.of s1), hx, fun H2 L ps s2 eL lp ap => ?_⟩
        refine ⟨L, rfl, ⟨_, SqL.of eL⟩, for_it (walk_list (K := K) (a := L) (xs := ps)) (fun i σ H' => ∃ (m : Nat) (v1 v2 : Option V), σ = [some v, some (.int k), some (.int m), v1, v2] ∧ Same H2 H' ∧ 1 ≤ m ∧ m ≤ 1 + i * sizeB n)
          ⟨1, none, none, rfl, Same.refl _, Nat.le_refl _, by omega⟩ (fun i σ H' _ ⟨_, _, _, _, g, _⟩ => SqL.of (g _ _ eL)) ?_ ?_⟩
        · rintro i x σ H3 H4 hi ⟨m, v1, v2, rfl, s3, m1, m2⟩ ⟨rfl, hx⟩
          obtain ⟨d1, dx, ex⟩ := ap x (List.mem_of_getElem? hx)
          refine ⟨_, rfl, _, rfl, _, _, rfl, rfl, x, d1, _, rfl, dx.mono (Tups.of s3), ex, by omega, fun H5 m' s5 h1 h2 => ?_⟩
          refine ⟨_, rfl, rfl, _, rfl, decF (fun z => ?_) ⟨_, rfl, _, rfl, _, _, rfl, rfl, ?_⟩⟩
          · have := V.int.inj z
            omega
          · refine ⟨m + m', _, _, rfl, s3.trans s5, by omega, ?_⟩
            rw [Nat.add_mul]
            omega
        · rintro σ H3 ⟨m, v1, v2, rfl, s3, m1, m2⟩
          refine ⟨_, rfl, q H3 m ((s1.trans s2).trans s3) m1 ?_⟩
          have h5 : ps.length * sizeB n ≤ 5 * sizeB n := Nat.mul_le_mul_right _ lp
          show m ≤ 1 + 5 * sizeB n
          omega
def spIsExpression (n : Nat) : Sp := fun vs H Q _ => ∃ v d, vs = [v] ∧ Dq H v d ∧ Ex n d ∧ ∀ H', Same H H' → Q (.bl true) H'
theorem sc_is_expression : FnScope ["thing"] ["thing"] (defScope s_is_expression) := ⟨rfl, rfl, rfl, by decide +kernel, rfl, by decide +kernel, by decide +kernel⟩
theorem ok_is_expression (T : Tx w K mg) : Ok P w K mg base CX0 9 ("is_expression", none) ["thing"] (spIsExpression 3) := by
  obtain ⟨_, G_size_within, b_size_within, kp_size_within⟩ := ok_size_within (P := P) (base := base) T 3
  refine mkOk T.d_is_expression sc_is_expression (fun vs H Q E h => ?_) (fun _ _ _ _ _ _ us hl => match us, hl with | [_], _ => rfl) (fun cdv A outer s H vs Q E hr h => ?_)
  · obtain ⟨v, d, rfl, _⟩ := h
    rfl
  · obtain ⟨v, d, rfl, hd, hx, q⟩ := h
    refine ⟨_, (pss_one (ps_ret (pe_chain op_le op_le pe_int (pe_call G_size_within (hr.mono (by omega)) (by rfl) T.g_size_within kp_size_within b_size_within .nil pass0 (pa_cons (pv 0) (pa_cons (pe_gi T.i_MOST_DEPTH) pa_nil))) (pe_gi T.i_MOST_SIZE)))), ?_⟩
    refine ⟨_, rfl, v, d, 8, rfl, hd, hx, by decide, fun H1 m s1 h1 h2 => ⟨_, _, rfl, rfl, _, rfl, decT (by omega) ⟨_, _, rfl, rfl, ?_⟩⟩⟩
    have h3 : sizeB 3 = 31 := by decide
    show Q (V.bl (decide (((m : Nat) : Int) ≤ 60))) _
    rw [decide_eq_true (show ((m : Nat) : Int) ≤ 60 by omega)]
    exact q _ s1
end
end Ta
/-! len(set(xs)), xs a tuple of unlike texts -/
namespace Ta
open PySem PySem.Spec PyProof.Rows L2
theorem mem_take_any (xs : List Str) (k : Str) : ∀ i, (xs.take i).any (· == k) = decide (k ∈ xs.take i) := fun i => by
  by_cases h : k ∈ xs.take i
  · rw [decide_eq_true h]
    exact List.any_eq_true.mpr ⟨k, h, beq_self_eq_true k⟩
  · rw [decide_eq_false h]
    cases e : (xs.take i).any (· == k) with
    | false => rfl
    | true =>
      obtain ⟨y, hy, ey⟩ := List.any_eq_true.mp e
      rw [eq_of_beq ey] at hy
      exact absurd hy h
theorem not_in_take {xs : List Str} (nd : xs.Nodup) {i : Nat} {x : Str} (h : xs[i]? = some x) : x ∉ xs.take i := fun hm => by
  obtain ⟨j, hj, e⟩ := List.getElem_of_mem hm
  rw [List.length_take] at hj
  obtain ⟨hi, ei⟩ := List.getElem?_eq_some_iff.mp h
  have hji : j < i := by omega
  rw [List.getElem_take] at e
  exact (List.pairwise_iff_getElem.mp nd j i (by omega) hi hji) (e.trans ei.symm)
section
variable {prog : Program} {w : World} {A : Around} {R : Result → Shared → Prop} {I : Addr} {fp wr : List Addr} {G : Array GenState → Array GenState → Prop} {n : Nat} {P : Nat → Value → Prop} {St : Nat → Shared → Prop}
/-- the set's own loop, over unlike texts -/
theorem upd_texts (W : WalksS prog w A.in1 I fp wr G n P St) (S : Addr) (out : S ∉ fp) (xs : List Str) (nd : xs.Nodup) (len : xs.length = n) (few : n ≤ 1000)
    (val : ∀ i v, P i v → ∃ x t, xs[i]? = some x ∧ v = .str x t) :
    ∀ (m i : Nat) (s : Shared), n - i = m → i ≤ n → St i s → s.heap.SetOf (PySem.strKind prog w) S (fun k => (xs.take i).any (· == k)) i →
      (∀ s', Moved (S :: wr) G s s' → s'.heap.SetOf (PySem.strKind prog w) S (fun k => (xs.take n).any (· == k)) n → R (.ok (.ret .none)) s') →
      codeAny (model prog w) A (.builtin "set.update.loop" ⟨[.ref S, .ref I], []⟩) R s := by
  have outw : S ∉ wr := fun h => out (W.sub _ h)
  have sub : ∀ b ∈ wr, b ∈ S :: wr := fun b hb => List.mem_cons_of_mem _ hb
  have still : ∀ {i : Nat} {s s' : Shared}, Moved wr G s s' → s.heap.SetOf (PySem.strKind prog w) S (fun k => (xs.take i).any (· == k)) i → s'.heap.SetOf (PySem.strKind prog w) S (fun k => (xs.take i).any (· == k)) i := by
    rintro i s s' mv ⟨o, es, ep, t, ho, more⟩
    exact ⟨o, es, ep, t, mv.heap S _ outw ho, more⟩
  intro m
  induction m with
  | zero =>
    intro i s hm hi st hS fin
    obtain rfl : i = n := by omega
    refine codeAny_builtin PyProof.Rows.F.entry_set_update_loop ?_
    rw [Around.under_plainId PyProof.Rows.F.plain_set_update_loop _]
    show wpAny _ A.in1 (pyNext (.ref I) >>= _) _ _ s
    refine wpAny_bind (W.done s _ _ st fun s' mv => ?_)
    exact wpAny_pure (fin s' (mv.mono sub) (still mv hS))
  | succ m ih =>
    intro i s hm hi st hS fin
    have lt : i < n := by omega
    refine codeAny_builtin PyProof.Rows.F.entry_set_update_loop ?_
    rw [Around.under_plainId PyProof.Rows.F.plain_set_update_loop _]
    show wpAny _ A.in1 (pyNext (.ref I) >>= _) _ _ s
    refine wpAny_bind (W.item i s _ _ lt st fun v s' hP st' mv => ?_)
    obtain ⟨x, t, hx, rfl⟩ := val i v hP
    have hS' := still mv hS
    show wpAny _ A.in1 (holding [Value.str x t] (setAdd S (.str x t)) >>= _) _ _ s'
    refine wpAny_bind (wpAny_holding ?_)
    unfold setAdd
    refine wpAny_holding ?_
    refine wpAny_bind ((PySem.strKind prog w).pyHash (k := x) (strKind_is _ _ _ _) ?_)
    refine wpAny_setAddHashed_of (knd := PySem.strKind prog w) (s := { s' with toks := s'.toks + 1 }) (strKind_is _ _ _ _) rfl hS' (by unfold scanBound; omega) fun h' sb hS2 => ?_
    have ni := not_in_take nd hx
    have e0 : ((xs.take i).any fun y => y == x) = false := by
      rw [mem_take_any]
      exact decide_eq_false ni
    have next : h'.SetOf (PySem.strKind prog w) S (fun k => (xs.take (i + 1)).any (· == k)) (i + 1) := by
      refine SetOf_congr hS2 (fun k => ?_) (by rw [e0]; rfl)
      rw [mem_take_any, mem_take_any, List.take_add_one, hx]
      show (decide (k ∈ xs.take i) || decide (k = x)) = decide (k ∈ xs.take i ++ [x])
      rw [← Bool.decide_or]
      congr 1
      rw [List.mem_append, List.mem_singleton]
    refine wpAny_pure ⟨plainId_quiet PyProof.Rows.F.plain_set_update_loop _, ih (i + 1) _ (by omega) lt (W.frame _ s' _ _ st' (Nat.le_succ _) fun b hb o e => ?_) next fun s'' mv2 hS'' => ?_⟩
    · rw [sb.2 b (fun z : b = S => out (by rw [← z]; exact hb))]
      exact e
    · refine fin s'' (Moved.trans W.gtrans ((mv.mono sub).then_heap (Nat.le_succ _) fun b o hb e => ?_) mv2) hS''
      rw [sb.2 b (fun z : b = S => hb (by rw [z]; exact List.mem_cons_self))]
      exact e
end
theorem strs_get : ∀ {us : List Value} {xs : List Str}, Vals (xs.map V.str) us → ∀ (i : Nat) (v : Value), us[i]? = some v → ∃ x t, xs[i]? = some x ∧ v = .str x t
  | _, [], .nil, i, v, h => by simp at h
  | _, x :: xs, .cons r _, 0, v, h => by
    obtain ⟨t, rfl⟩ := r
    simp at h
    exact ⟨x, t, rfl, h.symm⟩
  | _, x :: xs, .cons _ t, i + 1, v, h => by
    obtain ⟨y, k, h1, h2⟩ := strs_get t i v (by simpa using h)
    exact ⟨y, k, by simpa using h1, h2⟩
section
variable {prog : Program} {w : World} {A : Around} {E : Value → Shared → Prop} {s : Shared}
abbrev newSet (led : Bool) : Obj := { cls := .type "set", dict := none, data := .set #[] 0 (.fresh 0 0 led) }
/-- set(t), t a tuple: up to the loop, which is given -/
theorem set_of_tuple {l : Addr} {items : Array Value} {T : Heap → Nat → Prop} {Q : Value → Shared → Prop} (hh : A.handled = none) (hl : s.heap.IsTuple l items)
    (loop : ∀ (led : Bool) (A' : Around) (R : Result → Shared → Prop), A'.in1.handled = none → l ≠ (s.heap.push (newSet led)).objs.size →
      (∀ (s' : Shared) h' tk, s' = { s with heap := h', toks := tk } → T h' tk → R (.ok (.ret .none)) s') →
      codeAny (model prog w) A' (.builtin "set.update.loop" ⟨[.ref s.heap.objs.size, .ref (s.heap.push (newSet led)).objs.size], []⟩) R
        { s with heap := (s.heap.push (newSet led)).push { cls := .type "tuple_iterator", data := .fields #[.ref l, .int 0 0] } })
    (h : ∀ h' tk, T h' tk → Q (.ref s.heap.objs.size) { s with heap := h', toks := tk }) : wpAny (model prog w) A (call (.type "set") [.ref l]) Q E s := by
  obtain ⟨c, tl, hmro⟩ := PySem.F.called_set.mro
  have hmade := PySem.F.called_set.made
  have hsub := PySem.F.called_set.sub
  refine wpAny_call (codeAny_of_tree ?_)
  show wpAny _ _ (callAny (.type "set") _) _ _ _
  refine wpAny_pure ⟨Code.quiet_builtin _ (by decide +kernel), codeAny_builtin PySem.F.entry_type_call ?_⟩
  rw [Around.under_plain (weight_type_call_type "set" [.ref l] []) rfl]
  have h1 := PySem.F.called_set.notType
  have h2 := PySem.F.called_set.canCreate
  have hct := PySem.F.typeCall_set_1 (.ref l)
  repeat (any_goals (first | assumption | wp_step))
  refine codeAny_mono (code_set_new_1 (.ref l) (E := E) (Q₁ := fun obj s₁ => ∃ led : Bool, obj = .ref s.heap.objs.size ∧ s₁ = { s with heap := s.heap.push (newSet led) }) fun led => ⟨led, rfl, rfl⟩) fun r s₁ hr => ?_
  cases r with
  | error e => exact hr
  | ok fl =>
    cases fl with
    | ret obj =>
      obtain ⟨led, rfl, rfl⟩ := hr
      have hS : (s.heap.push (newSet led)).get? s.heap.objs.size = some (newSet led) := Heap.get?_push_size _ rfl
      have hT : Shared.TypeIs { s with heap := s.heap.push (newSet led) } (.ref s.heap.objs.size) "set" := ⟨_, hS, rfl⟩
      have hli := PySem.F.called_set.init.lookup
      have hbi := PySem.F.called_set.init.bind (.ref s.heap.objs.size)
      repeat (any_goals (first | assumption | wp_step))
      refine codeAny_mono (codeAny_call_builtin (R := wants (fun r s₂ => r = .none ∧ ∃ h' tk, s₂ = { s with heap := h', toks := tk } ∧ T h' tk) E) PySem.F.called_set.init.plain PySem.F.entry_set_init (check_set_init_1 hT ?_)) fun r₂ s₂ hr₂ => ?_
      · obtain ⟨ol, hol, hcl, nl, hdl⟩ := hl
        obtain ⟨ocls, odict, odata, oslots⟩ := ol
        simp only at hcl hdl
        subst hcl
        subst hdl
        have hol' : (s.heap.push (newSet led)).get? l = some { cls := .type "tuple", dict := odict, data := .seq items nl, slots := oslots } := Heap.get?_push_of_some _ hol
        have hsls := PySem.F.sub_tuple_set
        have hslf := PySem.F.sub_tuple_frozenset
        have hne : (Value.type "tuple" == Value.type "dict") = false := by decide
        have hl1 : (s.heap.push (newSet led)).IsTuple l items := ⟨_, hol', rfl, nl, rfl⟩
        unfold Builtin.«set.__init__» noKeywords Builtin.Frozenset.updateFrom
        generalize hPI : pyIter = PI
        wp_walk
        subst hPI
        refine wpAny_pyIter_tuple hl1 ?_
        refine wpAny_bind (wpAny_runValue ?_)
        have low : l < s.heap.objs.size := Heap.lt_size hol
        refine loop led _ _ (by simp [hh]) (by rw [Heap.size_push]; exact Nat.ne_of_lt (Nat.lt_succ_of_lt low)) fun s' h' tk es ht => ?_
        subst es
        show wpAny _ _ _ _ _ _
        refine wpAny_pure ?_
        show wpAny _ _ (ret Value.none) _ _ _
        exact wpAny_pure ⟨rfl, h', tk, rfl, ht⟩
      · cases r₂ with
        | error e => exact hr₂
        | ok fl₂ =>
          cases fl₂ with
          | ret r =>
            obtain ⟨rfl, h', tk, rfl, ht⟩ := hr₂
            repeat (any_goals (first | assumption | wp_step))
            exact h _ _ ht
          | _ => exact hr₂.elim
    | _ => exact hr.elim
/-- set(t) of unlike texts -/
theorem set_texts {l : Addr} {items : List Value} {xs : List Str} {Q : Value → Shared → Prop} (hh : A.handled = none) (hl : s.heap.IsTuple l items.toArray) (r : Vals (xs.map V.str) items) (nd : xs.Nodup) (few : xs.length ≤ 1000)
    (h : ∀ h' tk, h'.SetOf (PySem.strKind prog w) s.heap.objs.size (fun k => (xs.take xs.length).any (· == k)) xs.length →
      (∀ b o, s.heap.get? b = some o → h'.get? b = some o) → Q (.ref s.heap.objs.size) { s with heap := h', toks := tk }) : wpAny (model prog w) A (call (.type "set") [.ref l]) Q E s := by
  have len : items.toArray.size = xs.length := by rw [List.size_toArray, ← r.length, List.length_map]
  refine set_of_tuple (T := fun h' _ => h'.SetOf (PySem.strKind prog w) s.heap.objs.size (fun k => (xs.take xs.length).any (· == k)) xs.length ∧ ∀ b o, s.heap.get? b = some o → h'.get? b = some o) hh hl (fun led A' R ha ne fin => ?_) fun h' tk ⟨a, b⟩ => h h' tk a b
  have low : l < s.heap.objs.size := by
    obtain ⟨o, ho, _⟩ := hl
    exact Heap.lt_size ho
  have out : s.heap.objs.size ∉ [(s.heap.push (newSet led)).objs.size, l] := by
    rw [Heap.size_push]
    simp only [List.mem_cons, List.not_mem_nil, or_false, not_or]
    exact ⟨Nat.ne_of_lt (Nat.lt_succ_self _), Nat.ne_of_gt low⟩
  have got : ((s.heap.push (newSet led)).push { cls := .type "tuple_iterator", data := .fields #[.ref l, .int 0 0] }).get? s.heap.objs.size = some (newSet led) := Heap.get?_push_of_some _ (Heap.get?_push_size _ rfl)
  refine upd_texts ((Walks.tuple ha _ l ne items.toArray).toS) s.heap.objs.size out xs nd len.symm (by rw [len]; exact few) (fun i v hv => strs_get r i v (by simpa using hv)) (items.toArray.size - 0) 0 _ (by omega) (Nat.zero_le _)
    ⟨⟨_, Heap.get?_push_size _ rfl, rfl, rfl⟩, ?_⟩ ?_ ?_
  · obtain ⟨o, ho, hc, n, hd⟩ := hl
    exact ⟨o, Heap.get?_push_of_some _ (Heap.get?_push_of_some _ ho), hc, n, hd⟩
  · exact SetOf_congr ((setObjOf_fresh (knd := PySem.strKind prog w) led).setOf got (by unfold scanBound; omega)) (fun _ => rfl) rfl
  · intro s' mv hS'
    obtain ⟨h', g', d', tk', os'⟩ := s'
    have eg : g' = s.gens := mv.gens
    have ed : d' = s.drawn := mv.drawn
    have eo : os' = s.os := mv.os
    subst eg ed eo
    rw [len] at hS'
    refine fin _ h' tk' rfl ⟨hS', fun b o e => ?_⟩
    have hb := Heap.lt_size e
    refine mv.heap b o ?_ (Heap.get?_push_of_some _ (Heap.get?_push_of_some _ e))
    rw [Heap.size_push]
    simp only [List.mem_cons, List.not_mem_nil, or_false, not_or]
    exact ⟨Nat.ne_of_lt hb, Nat.ne_of_lt (Nat.lt_succ_of_lt hb)⟩
end
section
variable {X : Cx}
def tLenSetS (K : PySem.W.Frag) (ta : TE) : TE := fun σ H Q => ta σ H fun x H1 => ∃ l, ∃ xs : List Str, x = .ref l ∧ SqT K H1 l (xs.map V.str) ∧ xs.Nodup ∧ xs.length ≤ 1000 ∧ Q (.int xs.length) H1
theorem pe_lenSetS {a : Expr} {ta : TE} {p p2 q pos : Pos} (hc : X.calm = true) (hg : Gl X "len") (hm : X.mg "len" = none) (hg2 : Gl X "set") (hm2 : X.mg "set" = none) (ha : PE X a ta)
    (na : starEach [a] X.env = (false, eval a X.env) :: starEach [] X.env := by rfl) : PE X (.Call (.Name "len" p) [.Call (.Name "set" p2) [a] [] q] [] pos) (tLenSetS X.K ta) := by
  refine ⟨fun pins s σ H Q I h => ?_⟩
  refine Call_ (ld_blt I hg hm PySem.boot_len ?_)
  refine PyProof.Rows.callWith_builtin1 (PyProof.Rows.args_cons ?_ rfl) rfl rfl
  refine Call_ (ld_blt I hg2 hm2 PyProof.Rows.boot_set ?_)
  refine PyProof.Rows.callWith_type1 (PyProof.Rows.args_cons (thn (ha.run pins s σ H _ I h) fun v s1 ⟨x, H1, I1, r1, q1⟩ => PyProof.Rows.args_nil ?_) na) na rfl
  obtain ⟨l, xs, rfl, hq, nd, few, q1⟩ := q1
  cases r1
  obtain ⟨its, r, pl, hz⟩ := I1.tuple hq
  refine set_texts (I1.ok.hd hc) pl r nd few fun h' tk hS hk => ?_
  refine PyProof.Rows.args_nil ?_
  obtain ⟨o, es, ep, t, ho, hex, hd, _, _, _, hf, hn⟩ := hS
  have I2 : Inv X pins σ H1 { s1 with heap := h', toks := tk } := I1.kept hk
  exact call_len_set ho hex hd hf (by rw [hn] <;> omega) ⟨.int xs.length, H1, I2.tok _, ⟨_, by rw [hn]⟩, q1⟩
end
end Ta
namespace Ta
open PySem PySem.Spec PyProof.Rows L2
/-! ### places and what may stand there -/
inductive PlaceOk : List Key → Prop
  | clock : PlaceOk [.inr "clock"]
  | looks {m : Str} : NameOk m → PlaceOk [.inr "looks", .inr m]
  | file {f : Str} : NameOk f → PlaceOk [.inr "file", .inr f]
  | df {m f : Str} : NameOk m → NameOk f → PlaceOk [.inr "def", .inr m, .inr f]
  | cell {t : Str} {k : Int} : NameOk t → 0 ≤ k → k ≤ 999999 → PlaceOk [.inr "cell", .inr t, .inl k]
inductive ContOk : List Key → PyData → Prop
  | df {m f : Str} {d : PyData} : Ex 3 d → ContOk [.inr "def", .inr m, .inr f] d
  | looks {m : Str} {xs : List Str} : xs.length ≤ 6 → (∀ x ∈ xs, NameOk x) → xs.Nodup → m ∉ xs → ContOk [.inr "looks", .inr m] (.tuple (xs.map .str))
  | file {f : Str} {is : List Int} : is.length ≤ 12 → (∀ i ∈ is, 0 ≤ i ∧ i ≤ 999999) → ContOk [.inr "file", .inr f] (.tuple (is.map .int))
  | cell {t : Str} {k i : Int} : 0 ≤ i → i ≤ 999999 → ContOk [.inr "cell", .inr t, .inl k] (.int i)
  | clock {i : Int} : 0 ≤ i → i ≤ 999999 → ContOk [.inr "clock"] (.int i)
def nameB (x : Str) : Bool := decide (1 ≤ x.length) && decide (x.length ≤ 8) && x.cps.toList.all fun c => decide (97 ≤ c) && decide (c ≤ 122)
theorem nameB_ok {x : Str} (h : nameB x = true) : NameOk x := by
  unfold nameB at h
  simp only [Bool.and_eq_true, decide_eq_true_eq, List.all_eq_true] at h
  refine ⟨h.1.1, h.1.2, fun i c e => h.2 c ?_⟩
  rw [← Array.getElem?_toList] at e
  exact List.mem_of_getElem? e
theorem nm_def : NameOk "def" := nameB_ok (by decide +kernel)
theorem nm_looks : NameOk "looks" := nameB_ok (by decide +kernel)
theorem nm_file : NameOk "file" := nameB_ok (by decide +kernel)
theorem nm_cell : NameOk "cell" := nameB_ok (by decide +kernel)
theorem nm_clock : NameOk "clock" := nameB_ok (by decide +kernel)
/-! ### all_names -/
def spAllNames : Sp := fun vs H Q _ => ∃ (a : Addr) (xs : List Str), vs = [.ref a] ∧ H a = some (.tup (xs.map V.str)) ∧ xs.length ≤ 1000 ∧ (∀ x ∈ xs, NameOk x) ∧ ∀ H', Same H H' → Q (.bl true) H'
theorem map_get {α : Type} {f : α → V} {xs : List α} {i : Nat} {v : V} (h : (xs.map f)[i]? = some v) : ∃ x, xs[i]? = some x ∧ v = f x := by
  rw [List.getElem?_map] at h
  cases e : xs[i]? with
  | none =>
    rw [e] at h
    cases h
  | some x =>
    rw [e] at h
    exact ⟨x, rfl, (Option.some.inj h).symm⟩
theorem rep_snoc (n : Nat) : List.replicate (n + 1) true = List.replicate n true ++ [true] := by rw [List.replicate_succ']
theorem all_rep : ∀ n : Nat, (List.replicate n true).all id = true
  | 0 => rfl
  | n + 1 => by rw [List.replicate_succ, List.all_cons, all_rep n]; rfl
section
variable {P : Program} {w : World} {K : PySem.W.Frag} {mg : Str → Option Value} {base : Heap}
theorem sc_all_names : FnScope ["some", "one"] ["some"] (defScope s_all_names) := ⟨rfl, rfl, rfl, by decide +kernel, rfl, by decide +kernel, by decide +kernel⟩
theorem ok_all_names (T : Tx w K mg) : Ok P w K mg base CX0 2 ("all_names", none) ["some"] spAllNames := by
  obtain ⟨_, G_is_name, b_is_name, kp_is_name⟩ := ok_is_name (P := P) (base := base) T
  refine mkOk T.d_all_names sc_all_names (fun vs H Q E h => ?_) (fun _ _ _ _ _ _ us hl => match us, hl with | [_], _ => rfl) (fun cdv A outer s H vs Q E hr h => ?_)
  · obtain ⟨a, xs, rfl, _⟩ := h
    rfl
  · obtain ⟨a, xs, rfl, e, hl, hn, q⟩ := h
    refine ⟨_, (pss_one (ps_ret (pe_callB (cr_all rfl) (by rfl) T.n_all bt_all (pa_cons (pe_lc (own := [("one", 1)]) (g := gName 1) (tt := tYes) rfl sc_all_names.nd (pi_tup (pv 0)) (blkOk_by (own := [("one", 1)]) (N := ["some", "one"]) (sc := defScope s_all_names) (by decide +kernel)) (fun _ _ _ _ _ => (pg_name (i := 1) sc_all_names.nd (by rfl) (Or.inl rfl))) (fun _ _ _ _ _ => pts_nil) (fun _ _ _ _ _ => (pe_call G_is_name (hr.mono (by omega)) (by rfl) T.g_is_name kp_is_name b_is_name .nil pass0 (pa_cons (pv 1) pa_nil)))) pa_nil)))), ?_⟩
    refine ⟨_, rfl, a, rfl, ⟨_, SqT.of e⟩, fun D nD => lc_it (walk_tup (K := K) (a := a) (xs := xs.map V.str)) (GP H D fun i acc _ => acc = (List.replicate i true).map V.bl) (GP.start nD rfl) (fun i H' _ g => SqT.of (g.1 _ _ e)) ?_ ?_⟩
    · rintro i v H1 H2 hi ⟨g1, acc, g2, g3⟩ ⟨rfl, hx⟩
      obtain ⟨x, hx1, rfl⟩ := map_get hx
      refine ⟨rfl, _, rfl, x, rfl, hn x (List.mem_of_getElem? hx1), GP.push nD g1 g2 (Same.refl _) ?_ ?_⟩
      · have h1 := get_lt hx1
        have h2 := sizeLine_eq
        rw [g3, List.length_map, List.length_replicate]
        omega
      · rw [g3, rep_snoc, List.map_append] <;> rfl
    · rintro H1 ⟨g1, acc, g2, g3⟩
      refine ⟨D, _, rfl, SqL.of (by rw [g2, g3]), ?_⟩
      rw [all_rep]
      exact q _ g1
/-! ### is_place -/
def spIsPlace : Sp := fun vs H Q _ => ∃ (a : Addr) (k : List Key), vs = [.ref a] ∧ H a = some (.tup (k.map kV)) ∧ PlaceOk k ∧ ∀ H', Same H H' → Q (.bl true) H'
theorem sc_is_place : FnScope ["thing", "word"] ["thing"] (defScope s_is_place) := ⟨rfl, rfl, rfl, by decide +kernel, rfl, by decide +kernel, by decide +kernel⟩
theorem ok_is_place (T : Tx w K mg) : Ok P w K mg base CX0 3 ("is_place", none) ["thing"] spIsPlace := by
  obtain ⟨_, G_is_row, b_is_row, kp_is_row⟩ := ok_is_row (P := P) (base := base) T
  obtain ⟨_, G_is_name, b_is_name, kp_is_name⟩ := ok_is_name (P := P) (base := base) T
  obtain ⟨_, G_is_number, b_is_number, kp_is_number⟩ := ok_is_number (P := P) (base := base) T
  obtain ⟨_, G_all_names, b_all_names, kp_all_names⟩ := ok_all_names (P := P) (base := base) T
  refine mkOk T.d_is_place sc_is_place (fun vs H Q E h => ?_) (fun _ _ _ _ _ _ us hl => match us, hl with | [_], _ => rfl) (fun cdv A outer s H vs Q E hr h => ?_)
  · obtain ⟨a, k, rfl, _⟩ := h
    rfl
  · obtain ⟨a, k, rfl, e, hp, q⟩ := h
    refine ⟨_, (pss_cons (ps_if (PW.pt (pw_or (pt_not (pt_val (pe_call G_is_row (hr.mono (by omega)) (by rfl) T.g_is_row kp_is_row b_is_row .nil pass0 (pa_cons (pv 0) pa_nil)))) (pw_or (pt_cmpR op_eq (pe_callB call_len_seq (by rfl) T.n_len bt_len (pa_cons (pv 0) pa_nil)) pe_int (nomark _)) (pw_or1 (pt_not (pt_val (pe_call G_is_name (hr.mono (by omega)) (by rfl) T.g_is_name kp_is_name b_is_name .nil pass0 (pa_cons (pe_ix ix_tup (pv 0) pe_int (fun _ _ => rfl)) pa_nil)))))))) (pss_one (ps_ret pe_bl)) pss_nil)
      (pss_cons (ps_set (i := 1) sc_is_place.nd (by rfl) (Or.inl rfl) (pe_ix ix_tup (pv 0) pe_int (fun _ _ => rfl)))
      (pss_cons (ps_if (pt_cmpR op_eq (pv 1) pe_str (nomark _)) (pss_one (ps_ret (pe_cmpR op_eq (pe_callB call_len_seq (by rfl) T.n_len bt_len (pa_cons (pv 0) pa_nil)) pe_int (nomark _)))) pss_nil)
      (pss_cons (ps_if (PW.pt (pw_or (pt_cmpR op_eq (pv 1) pe_str (nomark _)) (pw_or1 (pt_cmpR op_eq (pv 1) pe_str (nomark _))))) (pss_one (ps_ret (pe_and (pe_cmpR op_eq (pe_callB call_len_seq (by rfl) T.n_len bt_len (pa_cons (pv 0) pa_nil)) pe_int (nomark _)) (pe_one (pe_call G_is_name (hr.mono (by omega)) (by rfl) T.g_is_name kp_is_name b_is_name .nil pass0 (pa_cons (pe_ix ix_tup (pv 0) pe_int (fun _ _ => rfl)) pa_nil)))))) pss_nil)
      (pss_cons (ps_if (pt_cmpR op_eq (pv 1) pe_str (nomark _)) (pss_one (ps_ret (pe_and (pe_cmpR op_eq (pe_callB call_len_seq (by rfl) T.n_len bt_len (pa_cons (pv 0) pa_nil)) pe_int (nomark _)) (pe_one (pe_call G_all_names (hr.mono (by omega)) (by rfl) T.g_all_names kp_all_names b_all_names .nil pass0 (pa_cons (pe_slice sl_tup (pv 0) (po_some pe_int) po_none) pa_nil)))))) pss_nil)
      (pss_one (ps_ret (pe_and (pe_cmpR op_eq (pv 1) pe_str (nomark _)) (pe_and (pe_cmpR op_eq (pe_callB call_len_seq (by rfl) T.n_len bt_len (pa_cons (pv 0) pa_nil)) pe_int (nomark _)) (pe_and (pe_call G_is_name (hr.mono (by omega)) (by rfl) T.g_is_name kp_is_name b_is_name .nil pass0 (pa_cons (pe_ix ix_tup (pv 0) pe_int (fun _ _ => rfl)) pa_nil)) (pe_one (pe_call G_is_number (hr.mono (by omega)) (by rfl) T.g_is_number kp_is_number b_is_number .nil pass0 (pa_cons (pe_ix ix_tup (pv 0) pe_int (fun _ _ => rfl)) pa_nil))))))))))))), ?_⟩
    refine ⟨_, rfl, _, _, rfl, .inl ⟨rfl, a, rfl, .inr ⟨_, e⟩⟩, fun p o np => ⟨_, rfl, ?_⟩⟩
    have s1 : Same H (upd H p o) := (Same.refl H).up np
    have e1 : SqT K (upd H p o) a (k.map kV) := SqT.of (s1 _ _ e)
    refine ⟨_, rfl, a, _, rfl, .inr e1, rfl, _, rfl, ?_⟩
    cases hp with
    | clock =>
      refine decF (show ¬ V.int (1 : Int) = V.int 0 by decide) ?_
      refine ⟨_, rfl, a, _, 0, _, rfl, rfl, e1, at_of (j := 0) rfl rfl, _, rfl, nm_clock, _, rfl, ?_⟩
      refine ⟨_, rfl, a, _, 0, _, rfl, rfl, e1, at_of (j := 0) rfl rfl, ?_⟩
      refine ⟨_, rfl, rfl, _, rfl, decT rfl ⟨_, rfl, a, _, rfl, .inr e1, rfl, ?_⟩⟩
      exact q _ s1
    | @looks m hm =>
      refine decF (show ¬ V.int (2 : Int) = V.int 0 by decide) ?_
      refine ⟨_, rfl, a, _, 0, _, rfl, rfl, e1, at_of (j := 0) rfl rfl, _, rfl, nm_looks, _, rfl, ?_⟩
      refine ⟨_, rfl, a, _, 0, _, rfl, rfl, e1, at_of (j := 0) rfl rfl, ?_⟩
      refine ⟨_, rfl, rfl, _, rfl, decF (by decide +kernel) ⟨_, rfl, rfl, _, rfl, decT rfl ⟨_, rfl, a, _, rfl, .inr e1, rfl, _, rfl, ?_⟩⟩⟩
      refine ⟨_, rfl, a, _, 1, _, rfl, rfl, e1, at_of (j := 1) rfl rfl, m, rfl, hm, ?_⟩
      exact q _ s1
    | @file m hm =>
      refine decF (show ¬ V.int (2 : Int) = V.int 0 by decide) ?_
      refine ⟨_, rfl, a, _, 0, _, rfl, rfl, e1, at_of (j := 0) rfl rfl, _, rfl, nm_file, _, rfl, ?_⟩
      refine ⟨_, rfl, a, _, 0, _, rfl, rfl, e1, at_of (j := 0) rfl rfl, ?_⟩
      refine ⟨_, rfl, rfl, _, rfl, decF (by decide +kernel) ⟨_, rfl, rfl, _, rfl, decF (by decide +kernel) ⟨_, rfl, rfl, _, rfl, decT rfl ⟨_, rfl, a, _, rfl, .inr e1, rfl, _, rfl, ?_⟩⟩⟩⟩
      refine ⟨_, rfl, a, _, 1, _, rfl, rfl, e1, at_of (j := 1) rfl rfl, m, rfl, hm, ?_⟩
      exact q _ s1
    | @df m f hm hf =>
      refine decF (show ¬ V.int (3 : Int) = V.int 0 by decide) ?_
      refine ⟨_, rfl, a, _, 0, _, rfl, rfl, e1, at_of (j := 0) rfl rfl, _, rfl, nm_def, _, rfl, ?_⟩
      refine ⟨_, rfl, a, _, 0, _, rfl, rfl, e1, at_of (j := 0) rfl rfl, ?_⟩
      refine ⟨_, rfl, rfl, _, rfl, decF (by decide +kernel) ⟨_, rfl, rfl, _, rfl, decF (by decide +kernel) ⟨_, rfl, rfl, _, rfl, decF (by decide +kernel) ⟨_, rfl, rfl, _, rfl, decT rfl ⟨_, rfl, a, _, rfl, .inr e1, rfl, _, rfl, ?_⟩⟩⟩⟩⟩
      refine ⟨_, rfl, _, rfl, a, _, rfl, e1, ?_, fun p2 np2 => ?_⟩
      · rintro ⟨z, _⟩
        exact absurd z (show ¬ (1 : Nat) = 0 by decide)
      · refine ⟨p2, [m, f], rfl, upd_same, (show 2 ≤ 1000 by decide), ?_, fun H3 s3 => q _ ((s1.up np2).trans s3)⟩
        intro x hx
        rcases List.mem_cons.mp hx with rfl | hx
        · exact hm
        · rw [List.mem_singleton.mp hx]
          exact hf
    | @cell t n ht h0 h9 =>
      refine decF (show ¬ V.int (3 : Int) = V.int 0 by decide) ?_
      refine ⟨_, rfl, a, _, 0, _, rfl, rfl, e1, at_of (j := 0) rfl rfl, _, rfl, nm_cell, _, rfl, ?_⟩
      refine ⟨_, rfl, a, _, 0, _, rfl, rfl, e1, at_of (j := 0) rfl rfl, ?_⟩
      refine ⟨_, rfl, rfl, _, rfl, decF (by decide +kernel) ⟨_, rfl, rfl, _, rfl, decF (by decide +kernel) ⟨_, rfl, rfl, _, rfl, decF (by decide +kernel) ⟨_, rfl, rfl, _, rfl, decF (by decide +kernel) ?_⟩⟩⟩⟩
      refine ⟨_, rfl, rfl, _, rfl, decT rfl ⟨_, rfl, a, _, rfl, .inr e1, rfl, _, rfl, ?_⟩⟩
      refine ⟨_, rfl, a, _, 1, _, rfl, rfl, e1, at_of (j := 1) rfl rfl, t, rfl, ht, _, rfl, ?_⟩
      refine ⟨_, rfl, a, _, 2, _, rfl, rfl, e1, at_of (j := 2) rfl rfl, n, rfl, ?_⟩
      rw [decide_eq_true h0, decide_eq_true h9]
      exact q _ s1
/-! ### is_looks, is_file, is_content -/
def spIsLooks : Sp := fun vs H Q _ => ∃ (m : Str) (a : Addr) (xs : List Str), vs = [.str m, .ref a] ∧ H a = some (.tup (xs.map V.str)) ∧ xs.length ≤ 6 ∧ (∀ x ∈ xs, NameOk x) ∧ xs.Nodup ∧ m ∉ xs ∧ ∀ H', Same H H' → Q (.bl true) H'
theorem inV_str {m : Str} : ∀ {xs : List Str}, m ∉ xs → inV (V.str m) (xs.map V.str) = false
  | [], _ => rfl
  | x :: xs, h => by
    have h1 : ¬ x = m := fun e => h (by rw [e]; exact List.mem_cons_self)
    have h2 : m ∉ xs := fun e => h (List.mem_cons_of_mem _ e)
    have ih := inV_str h2
    unfold inV at ih ⊢
    rw [List.map_cons, List.any_cons, ih, Bool.or_false]
    simp [eqV, h1]
theorem flat_strs : ∀ xs : List Str, (xs.map V.str).all flatV = true
  | [] => rfl
  | x :: xs => by
    rw [List.map_cons, List.all_cons, flat_strs xs] <;> rfl
theorem sc_is_looks : FnScope ["module", "thing"] ["module", "thing"] (defScope s_is_looks) := ⟨rfl, rfl, rfl, by decide +kernel, rfl, by decide +kernel, by decide +kernel⟩
theorem ok_is_looks (T : Tx w K mg) : Ok P w K mg base CX0 3 ("is_looks", none) ["module", "thing"] spIsLooks := by
  obtain ⟨_, G_is_row, b_is_row, kp_is_row⟩ := ok_is_row (P := P) (base := base) T
  obtain ⟨_, G_all_names, b_all_names, kp_all_names⟩ := ok_all_names (P := P) (base := base) T
  refine mkOk T.d_is_looks sc_is_looks (fun vs H Q E h => ?_) (fun _ _ _ _ _ _ us hl => match us, hl with | [_, _], _ => rfl) (fun cdv A outer s H vs Q E hr h => ?_)
  · obtain ⟨m, a, xs, rfl, _⟩ := h
    rfl
  · obtain ⟨m, a, xs, rfl, e, h6, hn, nd, nm, q⟩ := h
    refine ⟨_, (pss_cons (ps_if (PW.pt (pw_or (pt_not (pt_val (pe_call G_is_row (hr.mono (by omega)) (by rfl) T.g_is_row kp_is_row b_is_row .nil pass0 (pa_cons (pv 1) pa_nil)))) (pw_or (pt_cmpR op_gt (pe_callB call_len_seq (by rfl) T.n_len bt_len (pa_cons (pv 1) pa_nil)) (pe_gi T.i_MOST_LOOKS) (nomark _)) (pw_or1 (pt_not (pt_val (pe_call G_all_names (hr.mono (by omega)) (by rfl) T.g_all_names kp_all_names b_all_names .nil pass0 (pa_cons (pv 1) pa_nil)))))))) (pss_one (ps_ret pe_bl)) pss_nil)
      (pss_one (ps_ret (pe_and (pe_cmpR op_notIn_seq (pv 0) (pv 1) (by rfl)) (pe_one (pe_cmpR op_eq (pe_lenSetS rfl (by rfl) T.n_len (by rfl) T.n_set (pv 1)) (pe_callB call_len_seq (by rfl) T.n_len bt_len (pa_cons (pv 1) pa_nil)) (nomark _))))))), ?_⟩
    refine ⟨_, rfl, _, _, rfl, .inl ⟨rfl, a, rfl, .inr ⟨_, e⟩⟩, fun p o np => ⟨_, rfl, ?_⟩⟩
    have s1 : Same H (upd H p o) := (Same.refl H).up np
    refine ⟨_, rfl, a, _, rfl, .inr (SqT.of (s1 _ _ e)), _, _, rfl, rfl, _, rfl, ?_⟩
    rw [decide_eq_false (show ¬ ((6 : Int) < (((xs.map V.str).length : Nat) : Int)) by rw [List.length_map]; omega)]
    refine ⟨_, rfl, a, xs, rfl, s1 _ _ e, by omega, hn, fun H2 s2 => ⟨_, rfl, ?_⟩⟩
    have e2 := s2 _ _ (s1 _ _ e)
    refine ⟨_, rfl, _, rfl, a, _, rfl, .inr (SqT.of e2), rfl, flat_strs xs, _, rfl, ?_⟩
    have e3 : (if true = true then !inV (V.str m) (xs.map V.str) else inV (V.str m) (xs.map V.str)) = true := by
      rw [inV_str nm] <;> rfl
    rw [e3]
    refine ⟨_, rfl, a, xs, rfl, SqT.of e2, nd, by omega, _, rfl, a, _, rfl, .inr (SqT.of e2), rfl, ?_⟩
    have e4 : decide (V.int ((xs.length : Nat) : Int) = V.int (((xs.map V.str).length : Nat) : Int)) = true := decide_eq_true (by rw [List.length_map])
    show Q (V.bl (decide (V.int ((xs.length : Nat) : Int) = V.int (((xs.map V.str).length : Nat) : Int)))) _
    rw [e4]
    exact q _ (s1.trans s2)
def spIsFile : Sp := fun vs H Q _ => ∃ (a : Addr) (is : List Int), vs = [.ref a] ∧ H a = some (.tup (is.map V.int)) ∧ is.length ≤ 12 ∧ (∀ i ∈ is, 0 ≤ i ∧ i ≤ 999999) ∧ ∀ H', Same H H' → Q (.bl true) H'
theorem sc_is_file : FnScope ["thing", "one"] ["thing"] (defScope s_is_file) := ⟨rfl, rfl, rfl, by decide +kernel, rfl, by decide +kernel, by decide +kernel⟩
theorem ok_is_file (T : Tx w K mg) : Ok P w K mg base CX0 3 ("is_file", none) ["thing"] spIsFile := by
  obtain ⟨_, G_is_row, b_is_row, kp_is_row⟩ := ok_is_row (P := P) (base := base) T
  obtain ⟨_, G_is_number, b_is_number, kp_is_number⟩ := ok_is_number (P := P) (base := base) T
  refine mkOk T.d_is_file sc_is_file (fun vs H Q E h => ?_) (fun _ _ _ _ _ _ us hl => match us, hl with | [_], _ => rfl) (fun cdv A outer s H vs Q E hr h => ?_)
  · obtain ⟨a, xs, rfl, _⟩ := h
    rfl
  · obtain ⟨a, is, rfl, e, h12, hn, q⟩ := h
    refine ⟨_, (pss_one (ps_ret (pe_and (pe_call G_is_row (hr.mono (by omega)) (by rfl) T.g_is_row kp_is_row b_is_row .nil pass0 (pa_cons (pv 0) pa_nil)) (pe_and (pe_cmpR op_le (pe_callB call_len_seq (by rfl) T.n_len bt_len (pa_cons (pv 0) pa_nil)) (pe_gi T.i_MOST_FILE) (nomark _)) (pe_one (pe_callB (cr_all rfl) (by rfl) T.n_all bt_all (pa_cons (pe_lc (own := [("one", 1)]) (g := gName 1) (tt := tYes) rfl sc_is_file.nd (pi_tup (pv 0)) (blkOk_by (own := [("one", 1)]) (N := ["thing", "one"]) (sc := defScope s_is_file) (by decide +kernel)) (fun _ _ _ _ _ => (pg_name (i := 1) sc_is_file.nd (by rfl) (Or.inl rfl))) (fun _ _ _ _ _ => pts_nil) (fun _ _ _ _ _ => (pe_call G_is_number (hr.mono (by omega)) (by rfl) T.g_is_number kp_is_number b_is_number .nil pass0 (pa_cons (pv 1) pa_nil)))) pa_nil))))))), ?_⟩
    refine ⟨_, rfl, _, _, rfl, .inl ⟨rfl, a, rfl, .inr ⟨_, e⟩⟩, fun p o np => ⟨_, rfl, ?_⟩⟩
    have s1 : Same H (upd H p o) := (Same.refl H).up np
    refine ⟨_, rfl, a, _, rfl, .inr (SqT.of (s1 _ _ e)), _, _, rfl, rfl, _, rfl, ?_⟩
    rw [decide_eq_true (show ((((is.map V.int).length : Nat) : Int) ≤ 12) by rw [List.length_map]; omega)]
    refine ⟨_, rfl, a, rfl, ⟨_, SqT.of (s1 _ _ e)⟩, fun D nD => lc_it (walk_tup (K := K) (a := a) (xs := is.map V.int)) (GP (upd H p o) D fun i acc _ => acc = (List.replicate i true).map V.bl) (GP.start nD rfl) (fun i H' _ g => SqT.of (g.1 _ _ (s1 _ _ e))) ?_ ?_⟩
    · rintro i v H1 H2 hi ⟨g1, acc, g2, g3⟩ ⟨rfl, hx⟩
      obtain ⟨x, hx1, rfl⟩ := map_get hx
      obtain ⟨x0, x9⟩ := hn x (List.mem_of_getElem? hx1)
      refine ⟨rfl, _, rfl, x, rfl, ?_⟩
      rw [decide_eq_true x0, decide_eq_true x9]
      refine GP.push nD g1 g2 (Same.refl _) ?_ ?_
      · have h1 := get_lt hx1
        have h2 := sizeLine_eq
        rw [g3, List.length_map, List.length_replicate]
        omega
      · rw [g3, rep_snoc, List.map_append] <;> rfl
    · rintro H1 ⟨g1, acc, g2, g3⟩
      refine ⟨D, _, rfl, SqL.of (by rw [g2, g3]), ?_⟩
      rw [all_rep]
      exact q _ (s1.trans g1)
def spIsContent : Sp := fun vs H Q _ => ∃ (a : Addr) (k : List Key) (v : V) (d : PyData), vs = [.ref a, v] ∧ H a = some (.tup (k.map kV)) ∧ ContOk k d ∧ Dq H v d ∧ ∀ H', Same H H' → Q (.bl true) H'
theorem ints_v : ∀ {H : Hp} {xs : List Int} {vs : List V}, DqAll H vs (xs.map .int) → vs = xs.map V.int
  | _, [], _, .nil => rfl
  | _, x :: xs, _, .cons h t => by rw [h.intI, ints_v t]; rfl
theorem sc_is_content : FnScope ["place", "thing"] ["place", "thing"] (defScope s_is_content) := ⟨rfl, rfl, rfl, by decide +kernel, rfl, by decide +kernel, by decide +kernel⟩
theorem ok_is_content (T : Tx w K mg) : Ok P w K mg base CX0 10 ("is_content", none) ["place", "thing"] spIsContent := by
  obtain ⟨_, G_is_expression, b_is_expression, kp_is_expression⟩ := ok_is_expression (P := P) (base := base) T
  obtain ⟨_, G_is_looks, b_is_looks, kp_is_looks⟩ := ok_is_looks (P := P) (base := base) T
  obtain ⟨_, G_is_file, b_is_file, kp_is_file⟩ := ok_is_file (P := P) (base := base) T
  obtain ⟨_, G_is_number, b_is_number, kp_is_number⟩ := ok_is_number (P := P) (base := base) T
  refine mkOk T.d_is_content sc_is_content (fun vs H Q E h => ?_) (fun _ _ _ _ _ _ us hl => match us, hl with | [_, _], _ => rfl) (fun cdv A outer s H vs Q E hr h => ?_)
  · obtain ⟨a, k, v, d, rfl, _⟩ := h
    rfl
  · obtain ⟨a, k, v, d, rfl, e, hc, hd, q⟩ := h
    have e1 : SqT K H a (k.map kV) := SqT.of e
    refine ⟨_, (pss_cons (ps_if (pt_cmpR op_eq (pe_ix ix_tup (pv 0) pe_int (fun _ _ => rfl)) pe_str (nomark _)) (pss_one (ps_ret (pe_call G_is_expression (hr.mono (by omega)) (by rfl) T.g_is_expression kp_is_expression b_is_expression .nil pass0 (pa_cons (pv 1) pa_nil)))) pss_nil)
      (pss_cons (ps_if (pt_cmpR op_eq (pe_ix ix_tup (pv 0) pe_int (fun _ _ => rfl)) pe_str (nomark _)) (pss_one (ps_ret (pe_call G_is_looks (hr.mono (by omega)) (by rfl) T.g_is_looks kp_is_looks b_is_looks .nil pass0 (pa_cons (pe_ix ix_tup (pv 0) pe_int (fun _ _ => rfl)) (pa_cons (pv 1) pa_nil))))) pss_nil)
      (pss_cons (ps_if (pt_cmpR op_eq (pe_ix ix_tup (pv 0) pe_int (fun _ _ => rfl)) pe_str (nomark _)) (pss_one (ps_ret (pe_call G_is_file (hr.mono (by omega)) (by rfl) T.g_is_file kp_is_file b_is_file .nil pass0 (pa_cons (pv 1) pa_nil)))) pss_nil)
      (pss_one (ps_ret (pe_call G_is_number (hr.mono (by omega)) (by rfl) T.g_is_number kp_is_number b_is_number .nil pass0 (pa_cons (pv 1) pa_nil))))))), ?_⟩
    refine ⟨_, rfl, _, _, 0, _, rfl, rfl, e1, at_of (j := 0) (v := ((k.map kV)[0]?).getD .non) rfl (by cases hc <;> rfl), ?_⟩
    cases hc with
    | df hx => exact ⟨rfl, _, rfl, decT rfl ⟨_, rfl, v, d, rfl, hd, hx, q⟩⟩
    | @looks m xs h6 hn nd nm =>
      obtain ⟨b, ys, rfl, eb, r⟩ := hd.tupI
      rw [strs_v r] at eb
      exact ⟨rfl, _, rfl, decF (show ¬ V.str "looks" = V.str "def" by decide +kernel) ⟨_, rfl, _, _, 0, _, rfl, rfl, e1, at_of (j := 0) rfl rfl, rfl, _, rfl, decT rfl ⟨_, rfl, _, _, 1, _, rfl, rfl, e1, at_of (j := 1) rfl rfl, _, rfl, m, b, xs, rfl, eb, h6, hn, nd, nm, q⟩⟩⟩
    | @file f is h12 hn =>
      obtain ⟨b, ys, rfl, eb, r⟩ := hd.tupI
      rw [ints_v r] at eb
      exact ⟨rfl, _, rfl, decF (show ¬ V.str "file" = V.str "def" by decide +kernel) ⟨_, rfl, _, _, 0, _, rfl, rfl, e1, at_of (j := 0) rfl rfl, rfl, _, rfl, decF (show ¬ V.str "file" = V.str "looks" by decide +kernel)
        ⟨_, rfl, _, _, 0, _, rfl, rfl, e1, at_of (j := 0) rfl rfl, rfl, _, rfl, decT rfl ⟨_, rfl, b, is, rfl, eb, h12, hn, q⟩⟩⟩⟩
    | @cell t n i h0 h9 =>
      rw [hd.intI]
      refine ⟨rfl, _, rfl, decF (show ¬ V.str "cell" = V.str "def" by decide +kernel) ⟨_, rfl, _, _, 0, _, rfl, rfl, e1, at_of (j := 0) rfl rfl, rfl, _, rfl, decF (show ¬ V.str "cell" = V.str "looks" by decide +kernel)
        ⟨_, rfl, _, _, 0, _, rfl, rfl, e1, at_of (j := 0) rfl rfl, rfl, _, rfl, decF (show ¬ V.str "cell" = V.str "file" by decide +kernel) ⟨_, rfl, i, rfl, ?_⟩⟩⟩⟩
      rw [decide_eq_true h0, decide_eq_true h9]
      exact q _ (Same.refl H)
    | @clock i h0 h9 =>
      rw [hd.intI]
      refine ⟨rfl, _, rfl, decF (show ¬ V.str "clock" = V.str "def" by decide +kernel) ⟨_, rfl, _, _, 0, _, rfl, rfl, e1, at_of (j := 0) rfl rfl, rfl, _, rfl, decF (show ¬ V.str "clock" = V.str "looks" by decide +kernel)
        ⟨_, rfl, _, _, 0, _, rfl, rfl, e1, at_of (j := 0) rfl rfl, rfl, _, rfl, decF (show ¬ V.str "clock" = V.str "file" by decide +kernel) ⟨_, rfl, i, rfl, ?_⟩⟩⟩⟩
      rw [decide_eq_true h0, decide_eq_true h9]
      exact q _ (Same.refl H)
/-! ### is_place_row, is_told -/
/-- a row (place, content) of the heap: at T the pair of the place k (at p) and the content d -/
def RowAt (H : Hp) (v : V) (k : List Key) (c : Option PyData) : Prop := ∃ T p u, v = .ref T ∧ H T = some (.tup [.ref p, u]) ∧ H p = some (.tup (k.map kV)) ∧
  match c with
  | some d => ContOk k d ∧ Dq H u d
  | none => u = .non
theorem RowAt.mono {H H' : Hp} {v : V} {k : List Key} {c : Option PyData} (r : RowAt H v k c) (t : Tups H H') : RowAt H' v k c := by
  obtain ⟨T, p, u, rfl, h1, h2, h3⟩ := r
  refine ⟨T, p, u, rfl, t _ _ h1, t _ _ h2, ?_⟩
  cases c with
  | none => exact h3
  | some d => exact ⟨h3.1, h3.2.mono t⟩
theorem ContOk.notNone {k : List Key} {d : PyData} (h : ContOk k d) : d ≠ .none := by
  cases h with
  | df h =>
    rintro rfl
    exact (show Ex 3 .none → False by rintro ⟨_, _, _, z, _⟩; cases z) h
  | _ => intro z; cases z
theorem Dq.notNon {H : Hp} {v : V} {d : PyData} (h : Dq H v d) (n : d ≠ .none) : v ≠ .non := by
  cases h with
  | non => exact absurd rfl n
  | _ => intro z; cases z
def spIsPlaceRow : Sp := fun vs H Q _ => ∃ v k d, vs = [v, .bl false] ∧ RowAt H v k (some d) ∧ PlaceOk k ∧ ∀ H', Same H H' → Q (.bl true) H'
theorem sc_is_place_row : FnScope ["thing", "may_be_none"] ["thing", "may_be_none"] (defScope s_is_place_row) := ⟨rfl, rfl, rfl, by decide +kernel, rfl, by decide +kernel, by decide +kernel⟩
theorem ok_is_place_row (T : Tx w K mg) : Ok P w K mg base CX0 11 ("is_place_row", none) ["thing", "may_be_none"] spIsPlaceRow := by
  obtain ⟨_, G_is_row, b_is_row, kp_is_row⟩ := ok_is_row (P := P) (base := base) T
  obtain ⟨_, G_is_place, b_is_place, kp_is_place⟩ := ok_is_place (P := P) (base := base) T
  obtain ⟨_, G_is_content, b_is_content, kp_is_content⟩ := ok_is_content (P := P) (base := base) T
  refine mkOk T.d_is_place_row sc_is_place_row (fun vs H Q E h => ?_) (fun _ _ _ _ _ _ us hl => match us, hl with | [_, _], _ => rfl) (fun cdv A outer s H vs Q E hr h => ?_)
  · obtain ⟨v, k, d, rfl, _⟩ := h
    rfl
  · obtain ⟨v, k, d, rfl, ⟨t, a, u, rfl, e1, e2, hc, hd⟩, hp, q⟩ := h
    refine ⟨_, (pss_cons (ps_if (PW.pt (pw_or (pt_not (pt_val (pe_call G_is_row (hr.mono (by omega)) (by rfl) T.g_is_row kp_is_row b_is_row .nil pass0 (pa_cons (pv 0) pa_nil)))) (pw_or (pt_cmpR op_ne (pe_callB call_len_seq (by rfl) T.n_len bt_len (pa_cons (pv 0) pa_nil)) pe_int (nomark _)) (pw_or1 (pt_not (pt_val (pe_call G_is_place (hr.mono (by omega)) (by rfl) T.g_is_place kp_is_place b_is_place .nil pass0 (pa_cons (pe_ix ix_tup (pv 0) pe_int (fun _ _ => rfl)) pa_nil)))))))) (pss_one (ps_ret pe_bl)) pss_nil)
      (pss_cons (ps_if (pt_cmpR op_isN (pe_ix ix_tup (pv 0) pe_int (fun _ _ => rfl)) pe_non (nomark _)) (pss_one (ps_ret (pv 1))) pss_nil)
      (pss_one (ps_ret (pe_call G_is_content (hr.mono (by omega)) (by rfl) T.g_is_content kp_is_content b_is_content .nil pass0 (pa_cons (pe_ix ix_tup (pv 0) pe_int (fun _ _ => rfl)) (pa_cons (pe_ix ix_tup (pv 0) pe_int (fun _ _ => rfl)) pa_nil))))))), ?_⟩
    refine ⟨_, rfl, _, _, rfl, .inl ⟨rfl, t, rfl, .inr ⟨_, e1⟩⟩, fun p o np => ⟨_, rfl, ?_⟩⟩
    have s1 : Same H (upd H p o) := (Same.refl H).up np
    have t1 : SqT K (upd H p o) t [.ref a, u] := SqT.of (s1 _ _ e1)
    refine ⟨_, rfl, t, _, rfl, .inr t1, rfl, _, rfl, ?_⟩
    refine ⟨_, rfl, t, _, 0, _, rfl, rfl, t1, at_of (j := 0) rfl rfl, a, k, rfl, s1 _ _ e2, hp, fun H2 s2 => ⟨_, rfl, ?_⟩⟩
    have s3 := s1.trans s2
    have t2 : SqT K H2 t [.ref a, u] := SqT.of (s3 _ _ e1)
    refine ⟨_, rfl, t, _, 1, _, rfl, rfl, t2, at_of (j := 1) rfl rfl, rfl, _, rfl, decF (hd.notNon hc.notNone) ?_⟩
    refine ⟨_, rfl, t, _, 0, _, rfl, rfl, t2, at_of (j := 0) rfl rfl, _, rfl, t, _, 1, _, rfl, rfl, t2, at_of (j := 1) rfl rfl, ?_⟩
    exact ⟨a, k, u, d, rfl, s3 _ _ e2, hc, hd.mono (Tups.of s3), fun H3 s4 => q _ (s3.trans s4)⟩
def spIsTold : Sp := fun vs H Q _ => ∃ v k c, vs = [v] ∧ RowAt H v k c ∧ PlaceOk k ∧ ∀ H', Same H H' → Q (.bl true) H'
theorem sc_is_told : FnScope ["row"] ["row"] (defScope s_is_told) := ⟨rfl, rfl, rfl, by decide +kernel, rfl, by decide +kernel, by decide +kernel⟩
theorem ok_is_told (T : Tx w K mg) : Ok P w K mg base CX0 11 ("is_told", none) ["row"] spIsTold := by
  obtain ⟨_, G_is_row, b_is_row, kp_is_row⟩ := ok_is_row (P := P) (base := base) T
  obtain ⟨_, G_is_place, b_is_place, kp_is_place⟩ := ok_is_place (P := P) (base := base) T
  obtain ⟨_, G_is_content, b_is_content, kp_is_content⟩ := ok_is_content (P := P) (base := base) T
  refine mkOk T.d_is_told sc_is_told (fun vs H Q E h => ?_) (fun _ _ _ _ _ _ us hl => match us, hl with | [_], _ => rfl) (fun cdv A outer s H vs Q E hr h => ?_)
  · obtain ⟨v, k, d, rfl, _⟩ := h
    rfl
  · obtain ⟨v, k, c, rfl, ⟨t, a, u, rfl, e1, e2, hcd⟩, hp, q⟩ := h
    refine ⟨_, (pss_cons (ps_if (PW.pt (pw_or (pt_not (pt_val (pe_call G_is_row (hr.mono (by omega)) (by rfl) T.g_is_row kp_is_row b_is_row .nil pass0 (pa_cons (pv 0) pa_nil)))) (pw_or (pt_cmpR op_ne (pe_callB call_len_seq (by rfl) T.n_len bt_len (pa_cons (pv 0) pa_nil)) pe_int (nomark _)) (pw_or1 (pt_not (pt_val (pe_call G_is_place (hr.mono (by omega)) (by rfl) T.g_is_place kp_is_place b_is_place .nil pass0 (pa_cons (pe_ix ix_tup (pv 0) pe_int (fun _ _ => rfl)) pa_nil)))))))) (pss_one (ps_ret pe_bl)) pss_nil)
      (pss_one (ps_ret (pe_or (pe_cmpR op_isN (pe_ix ix_tup (pv 0) pe_int (fun _ _ => rfl)) pe_non (nomark _)) (pe_one (pe_call G_is_content (hr.mono (by omega)) (by rfl) T.g_is_content kp_is_content b_is_content .nil pass0 (pa_cons (pe_ix ix_tup (pv 0) pe_int (fun _ _ => rfl)) (pa_cons (pe_ix ix_tup (pv 0) pe_int (fun _ _ => rfl)) pa_nil)))))))), ?_⟩
    refine ⟨_, rfl, _, _, rfl, .inl ⟨rfl, t, rfl, .inr ⟨_, e1⟩⟩, fun p o np => ⟨_, rfl, ?_⟩⟩
    have s1 : Same H (upd H p o) := (Same.refl H).up np
    have t1 : SqT K (upd H p o) t [.ref a, u] := SqT.of (s1 _ _ e1)
    refine ⟨_, rfl, t, _, rfl, .inr t1, rfl, _, rfl, ?_⟩
    refine ⟨_, rfl, t, _, 0, _, rfl, rfl, t1, at_of (j := 0) rfl rfl, a, k, rfl, s1 _ _ e2, hp, fun H2 s2 => ⟨_, rfl, ?_⟩⟩
    have s3 := s1.trans s2
    have t2 : SqT K H2 t [.ref a, u] := SqT.of (s3 _ _ e1)
    refine ⟨_, rfl, t, _, 1, _, rfl, rfl, t2, at_of (j := 1) rfl rfl, rfl, _, rfl, ?_⟩
    cases c with
    | none =>
      have z : u = .non := hcd
      rw [z]
      exact decT rfl (q _ s3)
    | some d =>
      obtain ⟨hc, hd⟩ := hcd
      refine decF (hd.notNon hc.notNone) ?_
      refine ⟨_, rfl, t, _, 0, _, rfl, rfl, t2, at_of (j := 0) rfl rfl, _, rfl, t, _, 1, _, rfl, rfl, t2, at_of (j := 1) rfl rfl, ?_⟩
      exact ⟨a, k, u, d, rfl, s3 _ _ e2, hc, hd.mono (Tups.of s3), fun H3 s4 => q _ (s3.trans s4)⟩
end
end Ta
namespace Ta
open PySem PySem.Spec PyProof.Rows L2
/-! ### rows, books -/
theorem plD_depth (k : List Key) : (plD k).depth = 1 := by
  have h : ∀ k : List Key, PyData.depthAll (k.map kD) = 0 := by
    intro k
    induction k with
    | nil => rfl
    | cons a r ih =>
      cases a <;> simp only [List.map_cons, kD, PyData.depthAll, PyData.depth, ih, Nat.max_self]
  simp only [PyData.depth, h]
theorem plD_big (k : List Key) (h : k.length ≤ 1000) : (plD k).big ≤ 1000 := by
  have h2 : ∀ k : List Key, bigAll (k.map kD) = 0 := by
    intro k
    induction k with
    | nil => rfl
    | cons a r ih =>
      cases a <;> simp only [List.map_cons, kD, bigAll, PyData.big, ih, Nat.max_self]
  simp only [PyData.big, h2, List.length_map]
  omega
theorem PlaceOk.len {k : List Key} (h : PlaceOk k) : k.length ≤ 3 := by cases h <;> (simp only [List.length_cons, List.length_nil]; omega)
theorem valV_out {kvs : List (List Key × V)} {k : List Key} (h : k ∉ kvs.map (·.1)) : valV kvs k = none := by
  induction kvs with
  | nil => rfl
  | cons p r ih =>
    rw [valV_neg (fun e => h (by rw [← e]; exact List.mem_cons_self))]
    exact ih fun z => h (List.mem_cons_of_mem _ z)
theorem valV_in {kvs : List (List Key × V)} {k : List Key} (h : k ∈ kvs.map (·.1)) : (valV kvs k).isSome = true := by
  induction kvs with
  | nil => cases h
  | cons p r ih =>
    by_cases e : p.1 = k
    · rw [valV_pos e] <;> rfl
    · rw [valV_neg e]
      refine ih ?_
      rcases List.mem_cons.mp h with z | z
      · exact absurd z.symm e
      · exact z
/-- whether a key is among some -/
def hasK (ks : List (List Key)) (k : List Key) : Bool := ks.any fun x => decide (x = k)
theorem hasK_iff {ks : List (List Key)} {k : List Key} : hasK ks k = true ↔ k ∈ ks := by
  unfold hasK
  rw [List.any_eq_true]
  exact ⟨fun ⟨x, h, e⟩ => by rw [← of_decide_eq_true e]; exact h, fun h => ⟨k, h, decide_eq_true rfl⟩⟩
theorem hasK_no {ks : List (List Key)} {k : List Key} (h : k ∉ ks) : hasK ks k = false := by
  cases e : hasK ks k with
  | false => rfl
  | true => exact absurd (hasK_iff.mp e) h
theorem valV_isSome (kvs : List (List Key × V)) (k : List Key) : (valV kvs k).isSome = hasK (kvs.map (·.1)) k := by
  cases e : hasK (kvs.map (·.1)) k with
  | true => exact valV_in (hasK_iff.mp e)
  | false => rw [valV_out fun z => by rw [hasK_iff.mpr z] at e; cases e] <;> rfl
/-- keys put in, each once -/
def addK (ks : List (List Key)) (k : List Key) : List (List Key) := if hasK ks k = true then ks else ks ++ [k]
theorem putK_keys (kvs : List (List Key × V)) (k : List Key) (v : V) : (putK kvs k v).map (·.1) = addK (kvs.map (·.1)) k := by
  cases e : hasK (kvs.map (·.1)) k with
  | true =>
    unfold addK putK
    rw [if_pos e, valV_any, valV_isSome, e, if_pos rfl, List.map_map]
    refine List.map_congr_left fun p _ => ?_
    show (if p.1 = k then (p.1, v) else p).1 = p.1
    by_cases e : p.1 = k
    · rw [if_pos e]
    · rw [if_neg e]
  | false =>
    unfold addK
    rw [e, if_neg Bool.false_ne_true, putK_new v (valV_out fun z => by rw [hasK_iff.mpr z] at e; cases e), List.map_append] <;> rfl
/-- a list's first i, none of which is the next -/
theorem nd_take {α : Type} {xs : List α} (nd : xs.Nodup) {i : Nat} {x : α} (h : xs[i]? = some x) : x ∉ xs.take i := fun hm => by
  obtain ⟨j, hj, e⟩ := List.getElem_of_mem hm
  rw [List.length_take] at hj
  obtain ⟨hi, ei⟩ := List.getElem?_eq_some_iff.mp h
  have hji : j < i := by omega
  rw [List.getElem_take] at e
  exact (List.pairwise_iff_getElem.mp nd j i (by omega) hi hji) (e.trans ei.symm)
theorem addK_next {ks : List (List Key)} (nd : ks.Nodup) {i : Nat} {k : List Key} (h : ks[i]? = some k) : addK (ks.take i) k = ks.take (i + 1) := by
  unfold addK
  rw [hasK_no (nd_take nd h), if_neg Bool.false_ne_true, List.take_add_one, h] <;> rfl
theorem take_sub {α : Type} (xs : List α) (i : Nat) : ∀ x ∈ xs.take i, x ∈ xs := fun _ h => List.mem_of_mem_take h
/-- a book in the heap -/
abbrev Bk : Type := List (List Key × Option PyData)
def BookAt (H : Hp) (B : Addr) (bk : Bk) : Prop := ∃ vs, H B = some (.tup vs) ∧ Paired (fun v kc => RowAt H v kc.1 kc.2) vs bk
structure BookOk (bk : Bk) : Prop where
  pl : ∀ kc ∈ bk, PlaceOk kc.1
  nd : (bk.map (·.1)).Nodup
  few : bk.length ≤ 4000
theorem BookAt.mono {H H' : Hp} {B : Addr} {bk : Bk} (b : BookAt H B bk) (t : Tups H H') : BookAt H' B bk := by
  obtain ⟨vs, e, r⟩ := b
  exact ⟨vs, t _ _ e, Paired.mapP r fun _ _ z => z.mono t⟩
/-- rows of a world in a list -/
def RowsAt (H : Hp) (vs : List V) (rs : List (List Key × PyData)) : Prop := Paired (fun v kd => RowAt H v kd.1 (some kd.2)) vs rs
theorem RowsAt.mono {H H' : Hp} {vs : List V} {rs : List (List Key × PyData)} (b : RowsAt H vs rs) (t : Tups H H') : RowsAt H' vs rs := Paired.mapP b fun _ _ z => z.mono t
section
variable {P : Program} {w : World} {K : PySem.W.Frag} {mg : Str → Option Value} {base : Heap}
/-! ### wrong_row -/
def spWrongRow : Sp := fun vs H Q _ => ∃ (L : Addr) (us : List V) (rs : List (List Key × PyData)), vs = [.ref L, .bl false] ∧ H L = some (.lst us) ∧ RowsAt H us rs ∧ (∀ kd ∈ rs, PlaceOk kd.1) ∧ (rs.map (·.1)).Nodup ∧ rs.length ≤ 1000 ∧
  ∀ H', Same H H' → Q .non H'
theorem sc_wrong_row : FnScope ["rows", "may_be_none", "known", "at", "row"] ["rows", "may_be_none"] (defScope s_wrong_row) := ⟨rfl, rfl, rfl, by decide +kernel, rfl, by decide +kernel, by decide +kernel⟩
theorem ok_wrong_row (T : Tx w K mg) : Ok P w K mg base CX0 12 ("wrong_row", none) ["rows", "may_be_none"] spWrongRow := by
  obtain ⟨_, G_is_row, b_is_row, kp_is_row⟩ := ok_is_row (P := P) (base := base) T
  obtain ⟨_, G_is_place_row, b_is_place_row, kp_is_place_row⟩ := ok_is_place_row (P := P) (base := base) T
  obtain ⟨_, G_as_tuples, b_as_tuples, kp_as_tuples⟩ := ok_as_tuples (P := P) (base := base) T 2
  refine mkOk T.d_wrong_row sc_wrong_row (fun vs H Q E h => ?_) (fun _ _ _ _ _ _ us hl => match us, hl with | [_, _], _ => rfl) (fun cdv A outer s H vs Q E hr h => ?_)
  · obtain ⟨L, us, rs, rfl, _⟩ := h
    rfl
  · obtain ⟨L, us, rs, rfl, e, hrs, hpl, nd, few, q⟩ := h
    have line := sizeLine_eq
    have len := hrs.length
    refine ⟨_, (pss_cons (ps_if (pt_not (pt_val (pe_call G_is_row (hr.mono (by omega)) (by rfl) T.g_is_row kp_is_row b_is_row .nil pass0 (pa_cons (pv 0) pa_nil)))) (pss_one (ps_ret pe_int)) pss_nil)
      (pss_cons (ps_set (i := 2) sc_wrong_row.nd (by rfl) (Or.inl rfl) pe_dnewT)
      (pss_cons (ps_for PassesOwn.never rfl (pi_enum (by rfl) T.n_enumerate (pa_cons (pv 0) pa_nil)) (pg_tup rfl (pgs_cons (pg_name (i := 3) sc_wrong_row.nd (by rfl) (Or.inl rfl)) (pgs_cons (pg_name (i := 4) sc_wrong_row.nd (by rfl) (Or.inl rfl)) pgs_nil))) (pss_cons (ps_if (PW.pt (pw_or (pt_not (pt_val (pe_call G_is_place_row (hr.mono (by omega)) (by rfl) T.g_is_place_row kp_is_place_row b_is_place_row .nil pass0 (pa_cons (pv 4) (pa_cons (pv 1) pa_nil))))) (pw_or1 (pt_cmp (pc_din (hu_of hr) (pe_call G_as_tuples (hr.mono (by omega)) (by rfl) T.g_as_tuples kp_as_tuples b_as_tuples .nil pass0 (pa_cons (pe_ix ix_tup (pv 4) pe_int (fun _ _ => rfl)) pa_nil)) (pv 2)) (by rfl))))) (pss_one (ps_ret (pv 3))) pss_nil)
      (pss_one (ps_dput (hu_of hr) (pv 2) (pe_call G_as_tuples (hr.mono (by omega)) (by rfl) T.g_as_tuples kp_as_tuples b_as_tuples .nil pass0 (pa_cons (pe_ix ix_tup (pv 4) pe_int (fun _ _ => rfl)) pa_nil)) pe_bl rfl))))
      (pss_one (ps_ret pe_non))))), ?_⟩
    refine ⟨_, rfl, _, _, rfl, .inl ⟨rfl, L, rfl, .inl ⟨_, e⟩⟩, fun p o np => ⟨_, rfl, ?_⟩⟩
    have s1 : Same H (upd H p o) := (Same.refl H).up np
    intro D nD
    refine ⟨_, rfl, L, us, rfl, SqL.of (upd_of (s1 _ _ e) nD), for_it (walk_enum (K := K) (a := L) (xs := us))
      (fun i σ H' => ∃ kvs v1 v2, σ = [some (.ref L), some (.bl false), some (.ref D), v1, v2] ∧ Same H H' ∧ H' D = some (.dT kvs) ∧ kvs.map (·.1) = (rs.map (·.1)).take i)
      ⟨[], none, none, rfl, s1.up nD, upd_same, rfl⟩ (fun i σ H' _ ⟨_, _, _, _, g, _⟩ => SqL.of (g _ _ e)) ?_ ?_⟩
    · rintro i v σ H1 H2 hi ⟨kvs, v1, v2, rfl, s2, eD, ek⟩ ⟨t, x, y, rfl, nt, rfl, ex, ey⟩
      cases ex
      refine ⟨t, _, rfl, SqT.of upd_same, rfl, _, _, rfl, _, _, rfl, rfl, ?_⟩
      have s3 : Same H (upd H1 t (.tup [.int i, y])) := s2.up nt
      have hi2 : i < rs.length := by omega
      obtain ⟨kd, hkd⟩ : ∃ kd, rs[i]? = some kd := ⟨_, List.getElem?_eq_getElem hi2⟩
      obtain ⟨y', hy', ry⟩ := DX.pget hrs hkd
      obtain rfl : y = y' := Option.some.inj (ey.symm.trans hy')
      have kp := hpl kd (List.mem_of_getElem? hkd)
      have kl := kp.len
      have hk : (rs.map (·.1))[i]? = some kd.1 := by rw [List.getElem?_map, hkd]; rfl
      refine ⟨_, rfl, _, rfl, y, kd.1, kd.2, rfl, ry.mono (Tups.of s3), kp, fun H4 s4 => ⟨_, rfl, ?_⟩⟩
      have s5 := s3.trans s4
      obtain ⟨T0, a, u, rfl, r1, r2, r3⟩ := ry.mono (Tups.of s5)
      refine ⟨_, rfl, T0, _, 0, _, rfl, rfl, SqT.of r1, at_of (j := 0) rfl rfl, .ref a, plD kd.1, rfl, plD_dq r2, by rw [plD_depth]; decide, plD_big _ (by omega), fun H6 v6 s6 d6 => ?_⟩
      obtain ⟨a6, rfl, e6⟩ := plD_v d6
      have eD6 : H6 D = some (.dT kvs) := s6 _ _ (s4 _ _ (upd_of eD nt))
      refine ⟨_, rfl, D, _, rfl, DGet.t eD6 e6, _, rfl, ?_⟩
      have nk : kd.1 ∉ kvs.map (·.1) := by
        rw [ek]
        exact nd_take nd hk
      rw [valV_isSome, hasK_no nk]
      refine ifF rfl ?_
      have s7 := s5.trans s6
      refine ⟨_, rfl, _, rfl, T0, _, 0, _, rfl, rfl, SqT.of (s6 _ _ r1), at_of (j := 0) rfl rfl, .ref a, plD kd.1, rfl, plD_dq (s6 _ _ r2), by rw [plD_depth]; decide, plD_big _ (by omega), fun H8 v8 s8 d8 => ?_⟩
      obtain ⟨a8, rfl, e8⟩ := plD_v d8
      have lk : kvs.length = i := by
        have := congrArg List.length ek
        rw [List.length_map, List.length_take, List.length_map] at this
        omega
      have nD0 : H D = none := by
        cases z : H D with
        | none => rfl
        | some o' =>
          have := s1 _ _ z
          rw [nD] at this
          cases this
      refine ⟨D, _, rfl, DPut.t (s8 _ _ eD6) e8 (by omega), ?_⟩
      refine ⟨_, _, _, rfl, (s7.trans s8).at0 nD0, upd_same, ?_⟩
      rw [putK_keys, ek]
      exact addK_next nd hk
    · rintro σ H1 ⟨kvs, v1, v2, rfl, s2, _⟩
      exact q _ s2
/-! ### is_book, ask_books -/
def spIsBook : Sp := fun vs H Q _ => ∃ (B : Addr) (bk : Bk), vs = [.ref B] ∧ BookAt H B bk ∧ BookOk bk ∧ ∀ H', Same H H' → Q (.bl true) H'
theorem sc_is_book : FnScope ["thing", "known", "row"] ["thing"] (defScope s_is_book) := ⟨rfl, rfl, rfl, by decide +kernel, rfl, by decide +kernel, by decide +kernel⟩
theorem ok_is_book (T : Tx w K mg) : Ok P w K mg base CX0 12 ("is_book", none) ["thing"] spIsBook := by
  obtain ⟨_, G_is_row, b_is_row, kp_is_row⟩ := ok_is_row (P := P) (base := base) T
  obtain ⟨_, G_is_told, b_is_told, kp_is_told⟩ := ok_is_told (P := P) (base := base) T
  obtain ⟨_, G_as_tuples, b_as_tuples, kp_as_tuples⟩ := ok_as_tuples (P := P) (base := base) T 2
  refine mkOk T.d_is_book sc_is_book (fun vs H Q E h => ?_) (fun _ _ _ _ _ _ us hl => match us, hl with | [_], _ => rfl) (fun cdv A outer s H vs Q E hr h => ?_)
  · obtain ⟨B, bk, rfl, _⟩ := h
    rfl
  · obtain ⟨B, bk, rfl, ⟨us, e, hrs⟩, ok, q⟩ := h
    have line := sizeLine_eq
    have len := hrs.length
    have few := ok.few
    refine ⟨_, (pss_cons (ps_if (PW.pt (pw_or (pt_not (pt_val (pe_call G_is_row (hr.mono (by omega)) (by rfl) T.g_is_row kp_is_row b_is_row .nil pass0 (pa_cons (pv 0) pa_nil)))) (pw_or1 (pt_cmpR op_gt (pe_callB call_len_seq (by rfl) T.n_len bt_len (pa_cons (pv 0) pa_nil)) (pe_gi T.i_MOST_ROWS) (nomark _))))) (pss_one (ps_ret pe_bl)) pss_nil)
      (pss_cons (ps_set (i := 1) sc_is_book.nd (by rfl) (Or.inl rfl) pe_dnewT)
      (pss_cons (ps_for PassesOwn.never rfl (pi_tup (pv 0)) (pg_name (i := 2) sc_is_book.nd (by rfl) (Or.inl rfl)) (pss_cons (ps_if (PW.pt (pw_or (pt_not (pt_val (pe_call G_is_told (hr.mono (by omega)) (by rfl) T.g_is_told kp_is_told b_is_told .nil pass0 (pa_cons (pv 2) pa_nil)))) (pw_or1 (pt_cmp (pc_din (hu_of hr) (pe_call G_as_tuples (hr.mono (by omega)) (by rfl) T.g_as_tuples kp_as_tuples b_as_tuples .nil pass0 (pa_cons (pe_ix ix_tup (pv 2) pe_int (fun _ _ => rfl)) pa_nil)) (pv 1)) (by rfl))))) (pss_one (ps_ret pe_bl)) pss_nil)
      (pss_one (ps_dput (hu_of hr) (pv 1) (pe_call G_as_tuples (hr.mono (by omega)) (by rfl) T.g_as_tuples kp_as_tuples b_as_tuples .nil pass0 (pa_cons (pe_ix ix_tup (pv 2) pe_int (fun _ _ => rfl)) pa_nil)) pe_bl rfl))))
      (pss_one (ps_ret pe_bl))))), ?_⟩
    refine ⟨_, rfl, _, _, rfl, .inl ⟨rfl, B, rfl, .inr ⟨_, e⟩⟩, fun p o np => ⟨_, rfl, ?_⟩⟩
    have s1 : Same H (upd H p o) := (Same.refl H).up np
    refine ⟨_, rfl, B, _, rfl, .inr (SqT.of (s1 _ _ e)), _, _, rfl, rfl, _, rfl, ?_⟩
    refine decF (by omega) ?_
    intro D nD
    have nD0 : H D = none := s1.free nD
    refine ⟨_, rfl, B, rfl, ⟨us, SqT.of (upd_of (s1 _ _ e) nD)⟩, for_it (walk_tup (K := K) (a := B) (xs := us))
      (fun i σ H' => ∃ kvs v2, σ = [some (.ref B), some (.ref D), v2] ∧ Same H H' ∧ H' D = some (.dT kvs) ∧ kvs.map (·.1) = (bk.map (·.1)).take i)
      ⟨[], none, rfl, s1.up nD, upd_same, rfl⟩ (fun i σ H' _ ⟨_, _, _, g, _⟩ => SqT.of (g _ _ e)) ?_ ?_⟩
    · rintro i y σ H1 H2 hi ⟨kvs, v2, rfl, s3, eD, ek⟩ ⟨rfl, ey⟩
      have hi2 : i < bk.length := by omega
      obtain ⟨kd, hkd⟩ : ∃ kd, bk[i]? = some kd := ⟨_, List.getElem?_eq_getElem hi2⟩
      obtain ⟨y', hy', ry⟩ := DX.pget hrs hkd
      obtain rfl : y = y' := Option.some.inj (ey.symm.trans hy')
      have kp := ok.pl kd (List.mem_of_getElem? hkd)
      have kl := kp.len
      have hk : (bk.map (·.1))[i]? = some kd.1 := by rw [List.getElem?_map, hkd]; rfl
      refine ⟨_, rfl, y, kd.1, kd.2, rfl, ry.mono (Tups.of s3), kp, fun H4 s4 => ⟨_, rfl, ?_⟩⟩
      have s5 := s3.trans s4
      obtain ⟨T0, a, u, rfl, r1, r2, r3⟩ := ry.mono (Tups.of s5)
      refine ⟨_, rfl, T0, _, 0, _, rfl, rfl, SqT.of r1, at_of (j := 0) rfl rfl, .ref a, plD kd.1, rfl, plD_dq r2, by rw [plD_depth]; decide, plD_big _ (by omega), fun H6 v6 s6 d6 => ?_⟩
      obtain ⟨a6, rfl, e6⟩ := plD_v d6
      have eD6 : H6 D = some (.dT kvs) := s6 _ _ (s4 _ _ eD)
      refine ⟨_, rfl, D, _, rfl, DGet.t eD6 e6, _, rfl, ?_⟩
      have nk : kd.1 ∉ kvs.map (·.1) := by
        rw [ek]
        exact nd_take ok.nd hk
      rw [valV_isSome, hasK_no nk]
      refine ifF rfl ?_
      have s7 := s5.trans s6
      refine ⟨_, rfl, _, rfl, T0, _, 0, _, rfl, rfl, SqT.of (s6 _ _ r1), at_of (j := 0) rfl rfl, .ref a, plD kd.1, rfl, plD_dq (s6 _ _ r2), by rw [plD_depth]; decide, plD_big _ (by omega), fun H8 v8 s8 d8 => ?_⟩
      obtain ⟨a8, rfl, e8⟩ := plD_v d8
      have lk : kvs.length = i := by
        have := congrArg List.length ek
        rw [List.length_map, List.length_take, List.length_map] at this
        omega
      refine ⟨D, _, rfl, DPut.t (s8 _ _ eD6) e8 (by omega), ?_⟩
      refine ⟨_, _, rfl, (s7.trans s8).at0 nD0, upd_same, ?_⟩
      rw [putK_keys, ek]
      exact addK_next ok.nd hk
    · rintro σ H1 ⟨kvs, v2, rfl, s2, _⟩
      exact q _ s2
/-- a list of books -/
def BooksAt (H : Hp) (L : Addr) (bks : List Bk) : Prop := ∃ Bs, H L = some (.lst (Bs.map V.ref)) ∧ Paired (BookAt H) Bs bks
theorem BooksAt.mono {H H' : Hp} {L : Addr} {bks : List Bk} (b : BooksAt H L bks) (s : Same H H') : BooksAt H' L bks := by
  obtain ⟨Bs, e, r⟩ := b
  exact ⟨Bs, s _ _ e, Paired.mapP r fun _ _ z => z.mono (Tups.of s)⟩
def spAskBooks : Sp := fun vs H Q _ => ∃ (L : Addr) (bks : List Bk), vs = [.ref L] ∧ BooksAt H L bks ∧ bks.length ≤ 40 ∧ (∀ bk ∈ bks, BookOk bk) ∧ ∀ H', Same H H' → Q .non H'
theorem ref_get {Bs : List Addr} {i : Nat} {v : V} (h : (Bs.map V.ref)[i]? = some v) : ∃ B, Bs[i]? = some B ∧ v = .ref B := map_get h
theorem pair_get {α β : Type} {F : α → β → Prop} {l : List α} {m : List β} {i : Nat} {x : α} {y : β} (p : Paired F l m) (hx : l[i]? = some x) (hy : m[i]? = some y) : F x y := by
  obtain ⟨x', h1, h2⟩ := DX.pget p hy
  rw [hx] at h1
  cases h1
  exact h2
theorem sc_ask_books : FnScope ["books", "at", "book"] ["books"] (defScope s_ask_books) := ⟨rfl, rfl, rfl, by decide +kernel, rfl, by decide +kernel, by decide +kernel⟩
theorem ok_ask_books (T : Tx w K mg) : Ok P w K mg base CX0 13 ("ask_books", none) ["books"] spAskBooks := by
  obtain ⟨_, G_is_book, b_is_book, kp_is_book⟩ := ok_is_book (P := P) (base := base) T
  refine mkOk T.d_ask_books sc_ask_books (fun vs H Q E h => ?_) (fun _ _ _ _ _ _ us hl => match us, hl with | [_], _ => rfl) (fun cdv A outer s H vs Q E hr h => ?_)
  · obtain ⟨L, bks, rfl, _⟩ := h
    rfl
  · obtain ⟨L, bks, rfl, ⟨Bs, e, hb⟩, few, ok, q⟩ := h
    have len := hb.length
    refine ⟨_, (pss_cons (ps_if (pt_cmpR op_gt (pe_callB call_len_seq (by rfl) T.n_len bt_len (pa_cons (pv 0) pa_nil)) (pe_gi T.i_MOST_BOOKS) (nomark _)) pss_never pss_nil)
      (pss_one (ps_for PassesOwn.never rfl (pi_enum (by rfl) T.n_enumerate (pa_cons (pv 0) pa_nil)) (pg_tup rfl (pgs_cons (pg_name (i := 1) sc_ask_books.nd (by rfl) (Or.inl rfl)) (pgs_cons (pg_name (i := 2) sc_ask_books.nd (by rfl) (Or.inl rfl)) pgs_nil))) (pss_one (ps_if (pt_not (pt_val (pe_call G_is_book (hr.mono (by omega)) (by rfl) T.g_is_book kp_is_book b_is_book .nil pass0 (pa_cons (pv 2) pa_nil)))) pss_never pss_nil))))), ?_⟩
    refine ⟨_, rfl, L, _, rfl, .inl (SqL.of e), _, _, rfl, rfl, _, rfl, ?_⟩
    refine decF (by rw [List.length_map]; omega) ?_
    refine ⟨_, rfl, L, _, rfl, SqL.of e, for_it (walk_enum (K := K) (a := L) (xs := Bs.map V.ref)) (fun i σ H' => (∃ v1 v2, σ = [some (.ref L), v1, v2]) ∧ Same H H') ⟨⟨none, none, rfl⟩, Same.refl H⟩ (fun i σ H' _ g => SqL.of (g.2 _ _ e)) ?_ ?_⟩
    · rintro i v σ H1 H2 hi ⟨⟨v1, v2, rfl⟩, s2⟩ ⟨t, x, y, rfl, nt, rfl, ex, ey⟩
      cases ex
      obtain ⟨B, hB, rfl⟩ := ref_get ey
      refine ⟨t, _, rfl, SqT.of upd_same, rfl, _, _, rfl, _, _, rfl, rfl, ?_⟩
      have s3 : Same H (upd H1 t (.tup [.int i, .ref B])) := s2.up nt
      have hi2 : i < bks.length := by
        have := get_lt hB
        omega
      obtain ⟨bk, hbk⟩ : ∃ bk, bks[i]? = some bk := ⟨_, List.getElem?_eq_getElem hi2⟩
      refine ⟨_, rfl, B, bk, rfl, (pair_get hb hB hbk).mono (Tups.of s3), ok bk (List.mem_of_getElem? hbk), fun H4 s4 => ⟨_, rfl, ?_⟩⟩
      exact ⟨⟨_, _, rfl⟩, s3.trans s4⟩
    · rintro σ H1 ⟨_, s2⟩
      exact q _ s2
/-! ### places_by_book -/
/-- a list of dicts, by their keys; a dict may be locked -/
def HasAt (H : Hp) (L : Addr) (kss : List (List (List Key))) : Prop := ∃ ds, H L = some (.lst (ds.map V.ref)) ∧ Paired (fun d ks => ∃ kvs, Rd H d (.dT kvs) ∧ kvs.map (·.1) = ks) ds kss
theorem HasAt.mono {H H' : Hp} {L : Addr} {kss : List (List (List Key))} (b : HasAt H L kss) (s : Same H H') : HasAt H' L kss := by
  obtain ⟨ds, e, r⟩ := b
  refine ⟨ds, s _ _ e, Paired.mapP r fun d ks ⟨kvs, h1, h2⟩ => ⟨kvs, ?_, h2⟩⟩
  rcases h1 with h1 | ⟨o, h1⟩
  · exact .inl (s _ _ h1)
  · exact .inr ⟨o, s _ _ h1⟩
def keysOf (bks : List Bk) : List (List (List Key)) := bks.map fun bk => bk.map (·.1)
/-- as places_by_book gives it: no dict locked -/
def HasNew (H : Hp) (L : Addr) (kss : List (List (List Key))) : Prop := ∃ ds, H L = some (.lst (ds.map V.ref)) ∧ Paired (fun d ks => ∃ kvs, H d = some (.dT kvs) ∧ kvs.map (·.1) = ks) ds kss
theorem HasNew.at {H : Hp} {L : Addr} {kss : List (List (List Key))} (b : HasNew H L kss) : HasAt H L kss := by
  obtain ⟨ds, e, r⟩ := b
  exact ⟨ds, e, Paired.mapP r fun d ks ⟨kvs, h1, h2⟩ => ⟨kvs, .inl h1, h2⟩⟩
theorem HasNew.mono {H H' : Hp} {L : Addr} {kss : List (List (List Key))} (b : HasNew H L kss) (s : Same H H') : HasNew H' L kss := by
  obtain ⟨ds, e, r⟩ := b
  exact ⟨ds, s _ _ e, Paired.mapP r fun d ks ⟨kvs, h1, h2⟩ => ⟨kvs, s _ _ h1, h2⟩⟩
def spPlacesByBook : Sp := fun vs H Q _ => ∃ (L : Addr) (bks : List Bk), vs = [.ref L] ∧ BooksAt H L bks ∧ bks.length ≤ 40 ∧ (∀ bk ∈ bks, BookOk bk) ∧ ∀ H' F, Same H H' → HasNew H' F (keysOf bks) → Q (.ref F) H'
theorem sc_places_by_book : FnScope ["books", "found", "book", "places", "row"] ["books"] (defScope s_places_by_book) := ⟨rfl, rfl, rfl, by decide +kernel, rfl, by decide +kernel, by decide +kernel⟩
theorem ok_places_by_book (T : Tx w K mg) : Ok P w K mg base CX0 4 ("places_by_book", none) ["books"] spPlacesByBook := by
  obtain ⟨_, G_as_tuples, b_as_tuples, kp_as_tuples⟩ := ok_as_tuples (P := P) (base := base) T 2
  refine mkOk T.d_places_by_book sc_places_by_book (fun vs H Q E h => ?_) (fun _ _ _ _ _ _ us hl => match us, hl with | [_], _ => rfl) (fun cdv A outer s H vs Q E hr h => ?_)
  · obtain ⟨L, bks, rfl, _⟩ := h
    rfl
  · obtain ⟨L, bks, rfl, ⟨Bs, e, hb⟩, few, ok, q⟩ := h
    have len := hb.length
    have line := sizeLine_eq
    refine ⟨_, (pss_cons (ps_set (i := 1) sc_places_by_book.nd (by rfl) (Or.inl rfl) (pe_lst pa_nil))
      (pss_cons (ps_for PassesOwn.never rfl (pi_list (pv 0)) (pg_name (i := 2) sc_places_by_book.nd (by rfl) (Or.inl rfl)) (pss_cons (ps_set (i := 3) sc_places_by_book.nd (by rfl) (Or.inl rfl) pe_dnewT)
      (pss_cons (ps_for PassesOwn.never rfl (pi_tup (pv 2)) (pg_name (i := 4) sc_places_by_book.nd (by rfl) (Or.inl rfl)) (pss_one (ps_dput (hu_of hr) (pv 3) (pe_call G_as_tuples (hr.mono (by omega)) (by rfl) T.g_as_tuples kp_as_tuples b_as_tuples .nil pass0 (pa_cons (pe_ix ix_tup (pv 4) pe_int (fun _ _ => rfl)) pa_nil)) pe_bl rfl)))
      (pss_one (ps_expr (pe_bm PySem.F.plainAttrs_list PySem.F.slot_list_append PySem.F.type_list_append mt_append (pv 1) (pa_cons (pv 3) pa_nil)))))))
      (pss_one (ps_ret (pv 1))))), ?_⟩
    refine ⟨Nat.zero_le _, fun F nF => ?_⟩
    refine ⟨_, rfl, L, rfl, ⟨_, SqL.of (upd_of e nF)⟩, for_it (walk_list (K := K) (a := L) (xs := Bs.map V.ref))
      (fun i σ H' => ∃ ds v1 v2 v3, σ = [some (.ref L), some (.ref F), v1, v2, v3] ∧ Same H H' ∧ H' F = some (.lst (ds.map V.ref)) ∧ Paired (fun d ks => ∃ kvs, H' d = some (.dT kvs) ∧ kvs.map (·.1) = ks) ds ((keysOf bks).take i))
      ⟨[], none, none, none, rfl, (Same.refl H).up nF, upd_same, .nil⟩ (fun i σ H' _ ⟨_, _, _, _, _, g, _⟩ => SqL.of (g _ _ e)) ?_ ?_⟩
    · rintro i v σ H1 H2 hi ⟨ds, v1, v2, v3, rfl, s2, eF, pd⟩ ⟨rfl, ey⟩
      obtain ⟨B, hB, rfl⟩ := ref_get ey
      have hi2 : i < bks.length := by
        have := get_lt hB
        omega
      obtain ⟨bk, hbk⟩ : ∃ bk, bks[i]? = some bk := ⟨_, List.getElem?_eq_getElem hi2⟩
      have okb := ok bk (List.mem_of_getElem? hbk)
      have few4 := okb.few
      obtain ⟨us, eB, hrs⟩ := (pair_get hb hB hbk).mono (Tups.of s2)
      have lenB := hrs.length
      intro D nD
      refine ⟨_, rfl, B, rfl, ⟨us, SqT.of (upd_of eB nD)⟩, for_it (walk_tup (K := K) (a := B) (xs := us))
        (fun j σ H' => ∃ kvs v3, σ = [some (.ref L), some (.ref F), some (.ref B), some (.ref D), v3] ∧ Same H2 H' ∧ H' D = some (.dT kvs) ∧ kvs.map (·.1) = (bk.map (·.1)).take j)
        ⟨[], _, rfl, (Same.refl H2).up nD, upd_same, rfl⟩ (fun j σ H' _ ⟨_, _, _, g, _⟩ => SqT.of (g _ _ eB)) ?_ ?_⟩
      · rintro j y σ H3 H4 hj ⟨kvs, v3, rfl, s3, eD, ek⟩ ⟨rfl, ey⟩
        have hj2 : j < bk.length := by omega
        obtain ⟨kd, hkd⟩ : ∃ kd, bk[j]? = some kd := ⟨_, List.getElem?_eq_getElem hj2⟩
        have ry := (pair_get hrs ey hkd).mono (Tups.of s3)
        have kl := (okb.pl kd (List.mem_of_getElem? hkd)).len
        have hk : (bk.map (·.1))[j]? = some kd.1 := by rw [List.getElem?_map, hkd]; rfl
        obtain ⟨T0, a, u, rfl, r1, r2, r3⟩ := ry
        refine ⟨_, rfl, _, rfl, T0, _, 0, _, rfl, rfl, SqT.of r1, at_of (j := 0) rfl rfl, .ref a, plD kd.1, rfl, plD_dq r2, by rw [plD_depth]; decide, plD_big _ (by omega), fun H6 v6 s6 d6 => ?_⟩
        obtain ⟨a6, rfl, e6⟩ := plD_v d6
        have lk : kvs.length = j := by
          have := congrArg List.length ek
          rw [List.length_map, List.length_take, List.length_map] at this
          omega
        refine ⟨D, _, rfl, DPut.t (s6 _ _ eD) e6 (by omega), ?_⟩
        refine ⟨_, _, rfl, (s3.trans s6).at0 nD, upd_same, ?_⟩
        rw [putK_keys, ek]
        exact addK_next okb.nd hk
      · rintro σ H3 ⟨kvs, v3, rfl, s3, eD, ek⟩
        have eF3 := s3 _ _ eF
        have lds : ds.length ≤ 40 := by
          have := pd.length
          rw [List.length_take] at this
          have : (keysOf bks).length = bks.length := List.length_map _
          omega
        have nDF : D ≠ F := ne_of eD eF3 (by intro z; cases z)
        refine ⟨_, rfl, .inl ⟨rfl, _, Or.inl (Or.inl eF3)⟩, _, rfl, F, _, _, rfl, rfl, eF3, by rw [List.length_map]; omega, ?_⟩
        have nF0 : H F = none := nF
        refine ⟨ds ++ [D], _, _, _, rfl, (s2.trans s3).at0 nF0, ?_, ?_⟩
        · rw [upd_same, List.map_append] <;> rfl
        · have hk : (keysOf bks)[i]? = some (bk.map (·.1)) := by
            unfold keysOf
            rw [List.getElem?_map, hbk]
            rfl
          rw [List.take_add_one, hk]
          refine Paired.snoc (Paired.mapP pd fun d ks ⟨kvs', h1, h2⟩ => ⟨kvs', ?_, h2⟩) ⟨kvs, ?_, ?_⟩
          · have z := s3 _ _ h1
            rw [upd_ne (ne_of z eF3 (by intro z; cases z))]
            exact z
          · rw [upd_ne nDF]
            exact eD
          · rw [ek, lenB, List.take_of_length_le (by rw [List.length_map]; omega)]
    · rintro σ H1 ⟨ds, v1, v2, v3, rfl, s2, eF, pd⟩
      refine ⟨_, rfl, q H1 F s2 ⟨ds, eF, ?_⟩⟩
      rw [List.length_map, len, List.take_of_length_le (by rw [keysOf, List.length_map]; exact Nat.le_refl _)] at pd
      exact pd
end
end Ta
/-! the order of keys that are rows of texts and whole numbers -/
namespace Ta
open PySem PySem.Spec PyProof.Rows L2
def kl1 : Key → Key → Bool
  | .inl a, .inl b => decide (a < b)
  | .inr a, .inr b => decide (a.cps.toList < b.cps.toList)
  | .inl _, .inr _ => true
  | .inr _, .inl _ => false
def klt : List Key → List Key → Bool
  | [], [] => false
  | [], _ :: _ => true
  | _ :: _, [] => false
  | x :: xs, y :: ys => if x = y then klt xs ys else kl1 x y
theorem str_ext {a b : Str} (h : a.cps.toList = b.cps.toList) : a = b := by
  obtain ⟨a⟩ := a
  obtain ⟨b⟩ := b
  have : a = b := by
    have := congrArg List.toArray h
    simpa using this
  rw [this]
theorem kl1_irr (x : Key) : kl1 x x = false := by
  cases x with
  | inl a => exact decide_eq_false (Int.lt_irrefl a)
  | inr a => exact decide_eq_false (List.lt_irrefl _)
theorem kl1_tri {x y : Key} (h : x ≠ y) (h1 : kl1 x y = false) : kl1 y x = true := by
  cases x with
  | inl a =>
    cases y with
    | inl b =>
      have h2 : ¬ a < b := of_decide_eq_false h1
      have h3 : a ≠ b := fun e => h (by rw [e])
      exact decide_eq_true (by omega)
    | inr b => cases h1
  | inr a =>
    cases y with
    | inl b => rfl
    | inr b =>
      have h2 : ¬ a.cps.toList < b.cps.toList := of_decide_eq_false h1
      refine decide_eq_true ?_
      rcases Decidable.em (b.cps.toList < a.cps.toList) with h3 | h3
      · exact h3
      · exact absurd (str_ext (List.le_antisymm (List.not_lt.mp h3) (List.not_lt.mp h2))) fun e => h (by rw [e])
theorem kl1_asym {x y : Key} (h : kl1 x y = true) : kl1 y x = false := by
  cases x with
  | inl a =>
    cases y with
    | inl b =>
      have h1 : a < b := of_decide_eq_true h
      exact decide_eq_false (by omega)
    | inr b => rfl
  | inr a =>
    cases y with
    | inl b => cases h
    | inr b =>
      have h1 : a.cps.toList < b.cps.toList := of_decide_eq_true h
      exact decide_eq_false (List.lt_asymm h1)
theorem kl1_tr {x y z : Key} (h1 : kl1 x y = true) (h2 : kl1 y z = true) : kl1 x z = true := by
  cases x with
  | inl a =>
    cases y with
    | inl b =>
      cases z with
      | inl c =>
        have h3 : a < b := of_decide_eq_true h1
        have h4 : b < c := of_decide_eq_true h2
        exact decide_eq_true (by omega)
      | inr c => rfl
    | inr b =>
      cases z with
      | inl c => cases h2
      | inr c => rfl
  | inr a =>
    cases y with
    | inl b => cases h1
    | inr b =>
      cases z with
      | inl c => cases h2
      | inr c =>
        have h3 : a.cps.toList < b.cps.toList := of_decide_eq_true h1
        have h4 : b.cps.toList < c.cps.toList := of_decide_eq_true h2
        exact decide_eq_true (List.lt_trans h3 h4)
theorem klt_irr : ∀ x : List Key, klt x x = false
  | [] => rfl
  | a :: r => by
    unfold klt
    rw [if_pos rfl]
    exact klt_irr r
theorem klt_tri : ∀ {x y : List Key}, x ≠ y → klt x y = false → klt y x = true
  | [], [], h, _ => absurd rfl h
  | [], _ :: _, _, h => by cases h
  | _ :: _, [], _, _ => rfl
  | a :: x, b :: y, h, h1 => by
    unfold klt at h1 ⊢
    by_cases e : a = b
    · subst e
      rw [if_pos rfl] at h1 ⊢
      exact klt_tri (fun z => h (by rw [z])) h1
    · rw [if_neg e] at h1
      rw [if_neg (fun z => e z.symm)]
      exact kl1_tri e h1
theorem klt_asym : ∀ {x y : List Key}, klt x y = true → klt y x = false
  | [], [], h => by cases h
  | [], _ :: _, _ => rfl
  | _ :: _, [], h => by cases h
  | a :: x, b :: y, h => by
    unfold klt at h ⊢
    by_cases e : a = b
    · subst e
      rw [if_pos rfl] at h ⊢
      exact klt_asym h
    · rw [if_neg e] at h
      rw [if_neg (fun z => e z.symm)]
      exact kl1_asym h
theorem klt_tr : ∀ {x y z : List Key}, klt x y = true → klt y z = true → klt x z = true
  | [], [], _, h, _ => by cases h
  | [], _ :: _, [], _, h => by cases h
  | [], _ :: _, _ :: _, _, _ => rfl
  | _ :: _, [], _, h, _ => by cases h
  | _ :: _, _ :: _, [], _, h => by cases h
  | a :: x, b :: y, c :: z, h1, h2 => by
    unfold klt at h1 h2 ⊢
    by_cases e1 : a = b
    · subst e1
      rw [if_pos rfl] at h1
      by_cases e2 : a = c
      · subst e2
        rw [if_pos rfl] at h2 ⊢
        exact klt_tr h1 h2
      · rw [if_neg e2] at h2 ⊢
        exact h2
    · rw [if_neg e1] at h1
      by_cases e2 : b = c
      · subst e2
        rw [if_neg e1]
        exact h1
      · rw [if_neg e2] at h2
        have h3 := kl1_tr h1 h2
        have e3 : a ≠ c := fun e => by
          subst e
          rw [kl1_irr] at h3
          cases h3
        rw [if_neg e3]
        exact h3
theorem klt_ntr {x y z : List Key} (h1 : klt x y = false) (h2 : klt y z = false) : klt x z = false := by
  cases h : klt x z with
  | false => rfl
  | true =>
    by_cases e1 : x = y
    · rw [e1, h2] at h
      cases h
    · by_cases e2 : y = z
      · rw [← e2, h1] at h
        cases h
      · have h3 := klt_tr (klt_tri e2 h2) (klt_tri e1 h1)
        have h4 := klt_asym h3
        rw [h] at h4
        cases h4
/-- of two lists of which each is sorted strictly: the same members, the same list -/
theorem sorted_uniq : ∀ {l m : List (List Key)}, l.Pairwise (fun a b => klt a b = true) → m.Pairwise (fun a b => klt a b = true) → (∀ k, k ∈ l ↔ k ∈ m) → l = m
  | [], [], _, _, _ => rfl
  | [], b :: m, _, _, h => absurd ((h b).mpr List.mem_cons_self) (by simp)
  | a :: l, [], _, _, h => absurd ((h a).mp List.mem_cons_self) (by simp)
  | a :: l, b :: m, hl, hm, h => by
    obtain ⟨l1, l2⟩ := List.pairwise_cons.mp hl
    obtain ⟨m1, m2⟩ := List.pairwise_cons.mp hm
    have e : a = b := by
      rcases List.mem_cons.mp ((h a).mp List.mem_cons_self) with e | e
      · exact e
      · rcases List.mem_cons.mp ((h b).mpr List.mem_cons_self) with e2 | e2
        · exact e2.symm
        · have h3 := klt_asym (m1 a e)
          rw [l1 b e2] at h3
          cases h3
    subst e
    have : l = m := sorted_uniq l2 m2 fun k => by
      constructor
      · intro hk
        rcases List.mem_cons.mp ((h k).mp (List.mem_cons_of_mem _ hk)) with e | e
        · rw [e] at hk
          have := l1 a hk
          rw [klt_irr] at this
          cases this
        · exact e
      · intro hk
        rcases List.mem_cons.mp ((h k).mpr (List.mem_cons_of_mem _ hk)) with e | e
        · rw [e] at hk
          have := m1 a hk
          rw [klt_irr] at this
          cases this
        · exact e
    rw [this]
/-- sorted, unlike: strictly -/
theorem strict_of {l : List (List Key)} (h : l.Pairwise (fun a b => klt b a = false)) (nd : l.Nodup) : l.Pairwise (fun a b => klt a b = true) :=
  (h.and nd).imp fun ⟨h1, h2⟩ => klt_tri (fun e => h2 e.symm) h1
/-- two keys that Python compares: where they part, texts or whole numbers both -/
def Cmpb : List Key → List Key → Prop
  | x :: xs, y :: ys => if x = y then Cmpb xs ys else (∃ a b, x = .inr a ∧ y = .inr b) ∨ ∃ a b, x = .inl a ∧ y = .inl b
  | _, _ => True
/-- a key that begins with a text -/
def Hd (k : List Key) : Prop := ∃ x r, k = .inr x :: r
theorem PlaceOk.hd {k : List Key} (h : PlaceOk k) : Hd k := by cases h <;> exact ⟨_, _, rfl⟩
theorem cmpb_eq {x : Key} {xs ys : List Key} (h : Cmpb xs ys) : Cmpb (x :: xs) (x :: ys) := by
  unfold Cmpb
  rw [if_pos rfl]
  exact h
theorem cmpb_ss {a b : Str} {xs ys : List Key} (h : a = b → Cmpb xs ys) : Cmpb (.inr a :: xs) (.inr b :: ys) := by
  unfold Cmpb
  by_cases e : a = b
  · rw [if_pos (by rw [e])]
    exact h e
  · rw [if_neg (fun z => e (Sum.inr.inj z))]
    exact .inl ⟨a, b, rfl, rfl⟩
theorem cmpb_ii {a b : Int} {xs ys : List Key} (h : a = b → Cmpb xs ys) : Cmpb (.inl a :: xs) (.inl b :: ys) := by
  unfold Cmpb
  by_cases e : a = b
  · rw [if_pos (by rw [e])]
    exact h e
  · rw [if_neg (fun z => e (Sum.inl.inj z))]
    exact .inr ⟨a, b, rfl, rfl⟩
theorem PlaceOk.cmp {k l : List Key} (hk : PlaceOk k) (hl : PlaceOk l) : Cmpb k l := by
  cases hk <;> cases hl <;> (refine cmpb_ss fun e => ?_) <;> first
    | exact absurd e (by decide +kernel)
    | trivial
    | (refine cmpb_ss fun _ => ?_; first | trivial | (refine cmpb_ss fun _ => ?_; trivial) | (refine cmpb_ii fun _ => ?_; trivial))
/-- texts alone -/
theorem cmpb_strs : ∀ {xs ys : List Str}, Cmpb (xs.map .inr) (ys.map .inr)
  | [], _ => by unfold Cmpb; cases ‹List Str› <;> trivial
  | _ :: _, [] => trivial
  | a :: xs, b :: ys => cmpb_ss fun _ => cmpb_strs
end Ta
/-! sorted of rows of texts and whole numbers -/
namespace Ta
open PySem PySem.Spec PyProof.Rows L2
def vKey : Value → Key
  | .int i _ => .inl i
  | .str x _ => .inr x
  | _ => .inl 0
def keyAt (h : Heap) : Value → List Key
  | .ref a => (match h.get? a with
    | some ⟨_, _, .seq its _, _⟩ => its.toList.map vKey
    | _ => [])
  | _ => []
section
variable {prog : Program} {w : World} {A : Around} {E : Value → Shared → Prop} {s : Shared}
theorem vKeys_of : ∀ {k : List Key} {us : List Value}, ItemsAre (mixKind prog w) k us → us.map vKey = k
  | _, _, .nil => rfl
  | _, _, .cons h t => by
    rcases keyIs_shape h with ⟨i, u, rfl, rfl⟩ | ⟨x, u, rfl, rfl⟩
    · rw [List.map_cons, vKeys_of t] <;> rfl
    · rw [List.map_cons, vKeys_of t] <;> rfl
theorem kis {k : Key} {v : Value} (h : (mixKind prog w).is k v = true) : (∃ i t, k = Sum.inl i ∧ v = Value.int i t) ∨ (∃ x t, k = Sum.inr x ∧ v = Value.str x t) := keyIs_shape (show keyIs k v = true from h)
/-- v is a row of the key's texts and whole numbers -/
def KeyIn (prog : Program) (w : World) (h : Heap) (v : Value) (k : List Key) : Prop := ∃ a, v = .ref a ∧ IsTupleKey (mixKind prog w) h k a
theorem KeyIn.key {h : Heap} {v : Value} {k : List Key} (x : KeyIn prog w h v k) : keyAt h v = k := by
  obtain ⟨a, rfl, ⟨oc, od, dt, sl⟩, its, n, ho, hc, hd, it⟩ := x
  simp only at hd
  subst hd
  unfold keyAt
  simp only [ho]
  exact vKeys_of it
theorem KeyIn.keeps {h h' : Heap} {v : Value} {k : List Key} (x : KeyIn prog w h v k) (kp : ∀ b o, h.get? b = some o → o.cls = .type "tuple" → h'.get? b = some o) : KeyIn prog w h' v k := by
  obtain ⟨a, rfl, o, its, n, ho, hc, hd, it⟩ := x
  exact ⟨a, rfl, o, its, n, kp a o ho hc, hc, hd, it⟩
/-- the comparison, item by item -/
theorem lex_keys {fin : Bool} {Q : Bool → Shared → Prop} : ∀ {k l : List Key} {xs ys : List Value} (i : Nat), ItemsAre (mixKind prog w) k xs → ItemsAre (mixKind prog w) l ys → Cmpb k l → fin = decide (k.length < l.length) → Q (klt k l) s →
    PySem.W.KatLex prog w A true fin Q (xs.zip ys) i s
  | [], [], _, _, i, .nil, .nil, _, hf, h => by
    subst hf
    exact PySem.W.kat_nil h
  | [], _ :: _, _, _, i, .nil, .cons _ _, _, hf, h => by
    subst hf
    refine PySem.W.kat_nil ?_
    rw [decide_eq_true (by simp)]
    exact h
  | _ :: _, [], _, _, i, .cons _ _, .nil, _, hf, h => by
    subst hf
    refine PySem.W.kat_nil ?_
    rw [decide_eq_false (by simp)]
    exact h
  | a :: k, b :: l, _, _, i, .cons (v := v) (vs := vs) hv tv, .cons (v := u) (vs := us) hu tu, hc, hf, h => by
    show PySem.W.KatLex prog w A true fin Q ((v, u) :: vs.zip us) i s
    have hf2 : fin = decide (k.length < l.length) := by
      rw [hf, List.length_cons, List.length_cons]
      congr 1
      simp
    unfold Cmpb at hc
    unfold klt at h
    by_cases e : a = b
    · subst e
      rw [if_pos rfl] at hc h
      have ih : PySem.W.KatLex prog w A true fin Q (vs.zip us) (i + 1) s := lex_keys (i + 1) tv tu hc hf2 h
      rcases kis hv with ⟨x, t, rfl, rfl⟩ | ⟨x, t, rfl, rfl⟩
      · rcases kis hu with ⟨y, t2, ey, rfl⟩ | ⟨y, t2, ey, rfl⟩
        · cases ey
          refine PySem.W.kat_cons (SeqAt.EqAt.int_int x t x t2 prog w _ _ ?_)
          rw [beq_self_eq_true]
          exact PySem.W.kat_yes ih
        · cases ey
      · rcases kis hu with ⟨y, t2, ey, rfl⟩ | ⟨y, t2, ey, rfl⟩
        · cases ey
        · cases ey
          refine PySem.W.kat_cons (SeqAt.EqAt.str_str x t x t2 prog w _ _ ?_)
          rw [beq_self_eq_true]
          exact PySem.W.kat_yes ih
    · rw [if_neg e] at hc h
      rcases hc with ⟨x, y, rfl, rfl⟩ | ⟨x, y, rfl, rfl⟩
      · rcases kis hv with ⟨z, t, ez, rfl⟩ | ⟨z, t, ez, rfl⟩
        · cases ez
        · cases ez
          rcases kis hu with ⟨z, t2, ez, rfl⟩ | ⟨z, t2, ez, rfl⟩
          · cases ez
          · cases ez
            refine PySem.W.kat_cons (SeqAt.EqAt.str_str x t y t2 prog w _ _ ?_)
            rw [show (x == y) = false from beq_eq_false_iff_ne.mpr fun z => e (by rw [z])]
            refine PySem.W.kat_no ?_
            cases i with
            | zero => exact oneLt_str h
            | succ i => exact PySem.W.kat_one _ _ (lt_str h)
      · rcases kis hv with ⟨z, t, ez, rfl⟩ | ⟨z, t, ez, rfl⟩
        · cases ez
          rcases kis hu with ⟨z, t2, ez, rfl⟩ | ⟨z, t2, ez, rfl⟩
          · cases ez
            refine PySem.W.kat_cons (SeqAt.EqAt.int_int x t y t2 prog w _ _ ?_)
            rw [show (x == y) = false from beq_eq_false_iff_ne.mpr fun z => e (by rw [z])]
            refine PySem.W.kat_no ?_
            cases i with
            | zero => exact oneLt_int h
            | succ i => exact PySem.W.kat_one _ _ (lt_int h)
          · cases ez
        · cases ez
abbrev ltH (h : Heap) : Value → Value → Bool := fun v u => klt (keyAt h v) (keyAt h u)
theorem swo_keys (h : Heap) : SrtO.Swo (ltH h) := ⟨fun _ _ e => klt_asym e, fun _ _ _ a b => klt_ntr b a⟩
/-- rows that are compared with one another -/
structure KeysOk (prog : Program) (w : World) (h : Heap) (vs : List Value) : Prop where
  is : ∀ v ∈ vs, KeyIn prog w h v (keyAt h v)
  hd : ∀ v ∈ vs, Hd (keyAt h v)
  cmp : ∀ v ∈ vs, ∀ u ∈ vs, Cmpb (keyAt h v) (keyAt h u)
theorem keys_cmp {h0 : Heap} {vs : List Value} (ok : KeysOk prog w h0 vs) (is : ∀ v ∈ vs, KeyIn prog w s.heap v (keyAt h0 v)) : SrtO.Cmp prog w A s (tuples' true) (fun p => p.1 ∈ vs) (SrtO.lt2 (ltH h0)) := by
  intro p q hp hq
  have c := ok.cmp _ hp _ hq
  show wpAny (model prog w) A (keyLt' (tuples' true) p.1 q.1) (fun r s' => s' = s ∧ r = klt (keyAt h0 p.1) (keyAt h0 q.1)) (fun _ _ => False) s
  obtain ⟨a, ea, o, its, n, ho, hc, hd, it⟩ := is _ hp
  obtain ⟨b, eb, o', its', n', ho', hc', hd', it'⟩ := is _ hq
  generalize keyAt h0 p.1 = k at *
  generalize keyAt h0 q.1 = l at *
  rw [ea, eb]
  refine PySem.W.kat_lt ho hd ho' hd' (lex_keys 0 it it' c ?_ ⟨rfl, rfl⟩)
  have l1 : ∀ {k : List Key} {us : List Value}, ItemsAre (mixKind prog w) k us → us.length = k.length := by
    intro k us z
    induction z with
    | nil => rfl
    | cons _ _ ih => rw [List.length_cons, List.length_cons, ih]
  rw [← l1 it, ← l1 it', Array.length_toList, Array.length_toList]
theorem key_firsts {h : Heap} : ∀ {vs : List Value}, (∀ v ∈ vs, ∃ k, KeyIn prog w h v k ∧ Hd k) → ∃ fs : List Value, PySem.W.KatTups h vs fs ∧ fs.length = vs.length ∧ ∀ f ∈ fs, ∃ x t, f = Value.str x t
  | [], _ => ⟨[], PySem.W.KatTups.nil, rfl, fun f hf => by cases hf⟩
  | v :: vs, hp => by
    obtain ⟨fs, h1, h2, h3⟩ := key_firsts (vs := vs) fun u hu => hp u (List.mem_cons_of_mem _ hu)
    obtain ⟨k, ⟨a, rfl, o, its, n, ho, hc, hd, it⟩, y, r, rfl⟩ := hp v List.mem_cons_self
    obtain ⟨u, us, t, ei, eu⟩ : ∃ u us t, its.toList = u :: us ∧ u = Value.str y t := by
      generalize its.toList = l at it
      cases it with
      | @cons _ u _ us hu tu =>
        rcases kis hu with ⟨x, t, ex, _⟩ | ⟨x, t, ex, e2⟩
        · cases ex
        · cases ex
          exact ⟨u, us, t, rfl, e2⟩
    subst eu
    refine ⟨.str y t :: fs, PySem.W.KatTups.cons ho hc hd ?_ h1, by rw [List.length_cons, List.length_cons, h2], fun f hf => ?_⟩
    · rw [← Array.getElem?_toList, ei] <;> rfl
    · rcases List.mem_cons.mp hf with rfl | hf
      · exact ⟨y, t, rfl⟩
      · exact h3 f hf
theorem keys_sortable {h0 : Heap} {a : Addr} {vs : List Value} (ok : KeysOk prog w h0 vs) (h1 : 0 < vs.length) (is : ∀ v ∈ vs, KeyIn prog w s.heap v (keyAt h0 v)) (ha : ∀ o, s.heap.get? a = some o → o.cls ≠ .type "tuple") :
    SrtO.SortableO prog w A s a vs (ltH h0) := by
  intro h' keep
  have is' : ∀ v ∈ vs, KeyIn prog w h' v (keyAt h0 v) := fun v hv => (is v hv).keeps fun b o e c => keep b o (fun z => ha o (by rw [← z]; exact e) c) e
  obtain ⟨fs, f1, f2, f3⟩ := key_firsts fun v hv => ⟨_, is' v hv, ok.hd v hv⟩
  refine ⟨tuples' true, fun Q E hq => ?_, keys_cmp ok is'⟩
  refine PySem.W.kat_kind (T := .type "str") f1 (by omega) (fun f hf => ?_) (by rfl) ?_
  · obtain ⟨x, t, rfl⟩ := f3 f hf
    exact PySem.W.Looks.now
  · rw [show (Value.type "str" != Value.type "tuple") = true by decide]
    exact hq
/-- sorted(x), what x gives being collected so -/
theorem sorted_col {r : Addr} {vs : List Value} {h0 : Heap} {Q : Value → Shared → Prop} (ok : KeysOk prog w s.heap vs) (hz : vs.length ≤ sizeLine)
    (col : ∀ (R : List Value → Shared → Prop), (∀ (h' : Heap) (tk : Nat), (∀ b o, s.heap.get? b = some o → h'.get? b = some o) → R vs { s with heap := h', toks := tk }) → wpAny (model prog w) A.in1 (collect (.ref r)) R E s)
    (h : ∀ (h1 h2 : Heap) (tk : Nat) (out : List Value), SrtO.Srtd (ltH s.heap) out → out.Perm vs → (∀ b o, s.heap.get? b = some o → h1.get? b = some o) → (∀ b o, h1.get? b = some o → h2.get? b = some o) →
      (∃ n, h2.get? h1.objs.size = some (seqObj "list" out.toArray n)) → Q (.ref h1.objs.size) { s with heap := h2, toks := tk }) : wpAny (model prog w) A (call (.builtin "sorted") [.ref r]) Q E s := by
  refine Calls.call_function_entry kind_sorted plain_sorted entry_sorted (args_sorted1 _) ?_
  unfold Builtin.«sorted»
  refine wpAny_bind (m := checkCount "sorted" 1 1 _) (wpAny_pure ?_)
  refine wpAny_bind (col _ fun h' tk hk => ?_)
  refine wpAny_bind (wpAny_newList ?_ hz)
  have hoL : (h'.push (seqObj "list" vs.toArray 0)).get? h'.objs.size = some (seqObj "list" vs.toArray 0) := Heap.get?_push_size _ rfl
  show wpAny _ _ _ _ _ { s with heap := h'.push (seqObj "list" vs.toArray 0), toks := tk }
  have kp : ∀ b o, s.heap.get? b = some o → (h'.push (seqObj "list" vs.toArray 0)).get? b = some o := fun b o e => Heap.get?_push_of_some _ (hk b o e)
  refine wpAny_bind (wpAny_holding (wpAny_call_entry slot_list_sort ⟨_, hoL, rfl⟩ entry_list_sort
    (SrtO.list_sort_ord (s := { s with heap := h'.push (seqObj "list" vs.toArray 0), toks := tk }) (swo_keys s.heap) hoL hz
      (fun h2 => keys_sortable ok (by omega) (fun v hv => (ok.is v hv).keeps fun b o e _ => kp b o e) fun o e => ?_) fun out hs hb => ⟨_, rfl, ?_⟩) (args_list_sort _)))
  · have e' : some o = some (seqObj "list" vs.toArray 0) := e.symm.trans hoL
    cases e'
    intro c
    exact absurd (Value.type.inj c) (by decide)
  · refine wpAny_pure ⟨_, rfl, h h' _ tk out hs hb.perm hk (fun b o e => ?_) (sortedHeap_at hoL)⟩
    have lt : b < h'.objs.size := Heap.lt_size e
    rw [sortedHeap_old (Nat.ne_of_lt lt) (by rw [size_push']; exact Nat.lt_succ_of_lt lt)]
    exact Heap.get?_push_of_some _ e
/-- what a dict gives, collected -/
theorem dict_col {d : Addr} {o : Obj} {es : Array DictEntry} {ep : Nat} (lo : (d == sysModules) = false) (ho : s.heap.get? d = some o) (hx : o.ExactDict) (hd : o.data = .dict es ep) (hh : A.handled = none) (hz : es.size ≤ sizeLine)
    (R : List Value → Shared → Prop) (h : ∀ (h' : Heap) (tk : Nat), (∀ b o, s.heap.get? b = some o → h'.get? b = some o) → R (es.toList.map (·.key)) { s with heap := h', toks := tk }) : wpAny (model prog w) A (collect (.ref d)) R E s := by
  refine PySem.W.kdu_collect (A := A) (kdl_raw lo hx hd) hh ho hz fun h' tk acc hk it => ?_
  have el : acc.toList = es.toList.map (·.key) := by
    have hl : acc.toList.length = es.size := by
      rw [Array.length_toList]
      exact it.1
    apply List.ext_getElem?
    intro j
    rw [List.getElem?_map, Array.getElem?_toList]
    cases hj : acc.toList[j]? with
    | none =>
      have h1 := List.getElem?_eq_none_iff.mp hj
      rw [Array.getElem?_toList] at hj
      rw [hj, Array.getElem?_toList, Array.getElem?_eq_none (by omega)]
      all_goals rfl
    | some v =>
      rw [Array.getElem?_toList] at hj
      obtain ⟨en, hen, hv⟩ := it.2 j v hj
      rw [hj, Array.getElem?_toList, hen, hv] <;> rfl
  rw [el]
  exact h h' tk hk
end
section
variable {X : Cx}
theorem keyIn_of {pins : List (Addr × Obj)} {σ : L2.St} {H : Hp} {s : Shared} {a : Addr} {k : List Key} (I : Inv X pins σ H s) (e : H a = some (.tup (k.map kV))) : KeyIn X.prog X.w s.heap (.ref a) k :=
  ⟨a, rfl, key_of I.hok e⟩
def adr : Value → Addr
  | .ref a => a
  | _ => 0
theorem vals_adr : ∀ {us : List Value}, (∀ u ∈ us, ∃ a, u = Value.ref a) → Vals (us.map fun u => V.ref (adr u)) us
  | [], _ => .nil
  | u :: us, h => by
    obtain ⟨a, rfl⟩ := h u List.mem_cons_self
    exact .cons rfl (vals_adr fun v hv => h v (List.mem_cons_of_mem _ hv))
theorem kt_mem {H : Hp} {kvs : List (List Key × V)} {ks : List (List Key × Addr × Value)} (pr : KT H kvs ks) : ∀ x ∈ ks, x.1 ∈ kvs.map (·.1) ∧ H x.2.1 = some (.tup (x.1.map kV)) := by
  induction pr with
  | nil => intro x hx; cases hx
  | @cons p q' ps qs hp t ih =>
    intro x hx
    rcases List.mem_cons.mp hx with rfl | hx
    · refine ⟨?_, ?_⟩
      · rw [← hp.1]
        exact List.mem_cons_self
      · rw [← hp.1]
        exact hp.2.1
    · obtain ⟨i1, i2⟩ := ih x hx
      exact ⟨List.mem_cons_of_mem _ i1, i2⟩
theorem kt_keys {H : Hp} {kvs : List (List Key × V)} {ks : List (List Key × Addr × Value)} (pr : KT H kvs ks) : kvs.map (·.1) = ks.map (·.1) := by
  induction pr with
  | nil => rfl
  | @cons p q' ps qs hp t ih => rw [List.map_cons, List.map_cons, ih, hp.1]
/-- rows of a list of addresses and keys, sorted: the end of such a rule -/
theorem sort_end {pins : List (Addr × Obj)} {σ : L2.St} {H : Hp} {s : Shared} {r : Addr} {L0 : List (Addr × List Key)} {Q : VK} (I : Inv X pins σ H s) (hT : ∀ q ∈ L0, KeyIn X.prog X.w s.heap (.ref q.1) q.2) (h1 : ∀ q ∈ L0, Hd q.2) (h2 : ∀ q ∈ L0, ∀ q' ∈ L0, Cmpb q.2 q'.2)
    (hz : L0.length ≤ sizeLine)
    (col : ∀ (R : List Value → Shared → Prop), (∀ (h' : Heap) (tk : Nat), (∀ b o, s.heap.get? b = some o → h'.get? b = some o) → R (L0.map fun q => Value.ref q.1) { s with heap := h', toks := tk }) → wpAny (model X.prog X.w) X.A.in1 (collect (.ref r)) R X.xe s)
    (q : ∀ (L : List (Addr × List Key)) (p : Addr), (L.map (·.2)).Perm (L0.map (·.2)) → (L.map (·.2)).Pairwise (fun a b => klt b a = false) → (∀ q ∈ L, q ∈ L0) → H p = none → Q (.ref p) (upd H p (.lst (L.map fun q => V.ref q.1)))) :
    wpAny (model X.prog X.w) X.A (call (.builtin "sorted") [.ref r]) (EP X pins σ Q) X.xe s := by
  have kA : ∀ q ∈ L0, keyAt s.heap (.ref q.1) = q.2 := fun q hq => (hT q hq).key
  have mem : ∀ v ∈ L0.map (fun q => Value.ref q.1), ∃ q ∈ L0, v = Value.ref q.1 ∧ keyAt s.heap v = q.2 := fun v hv => by
    obtain ⟨q, hq, rfl⟩ := List.mem_map.mp hv
    exact ⟨q, hq, rfl, kA q hq⟩
  have ok : KeysOk X.prog X.w s.heap (L0.map fun q => Value.ref q.1) := {
    is := fun v hv => by
      obtain ⟨q, hq, rfl, e⟩ := mem v hv
      rw [e]
      exact hT q hq
    hd := fun v hv => by
      obtain ⟨q, hq, rfl, e⟩ := mem v hv
      rw [e]
      exact h1 q hq
    cmp := fun v hv u hu => by
      obtain ⟨q, hq, rfl, e⟩ := mem v hv
      obtain ⟨q', hq', rfl, e'⟩ := mem u hu
      rw [e, e']
      exact h2 q hq q' hq' }
  refine sorted_col (h0 := s.heap) ok (by rw [List.length_map]; exact hz) col fun g1 g2 tk out hs hp k1 k2 hn => ?_
  have I1 : Inv X pins σ H { s with heap := g1, toks := tk } := I.kept k1
  have omem : ∀ v ∈ out, ∃ q ∈ L0, v = Value.ref q.1 ∧ keyAt s.heap v = q.2 := fun v hv => mem v (hp.mem_iff.mp hv)
  have len : out.length = L0.length := by rw [hp.length_eq, List.length_map]
  have eL : (out.map fun v => (adr v, keyAt s.heap v)).map (·.2) = out.map (keyAt s.heap) := by rw [List.map_map] <;> rfl
  have e0 : (L0.map fun q => Value.ref q.1).map (keyAt s.heap) = L0.map (·.2) := by
    rw [List.map_map]
    exact List.map_congr_left fun q hq => kA q hq
  have eV : (out.map fun v => (adr v, keyAt s.heap v)).map (fun q => V.ref q.1) = out.map fun u => V.ref (adr u) := by rw [List.map_map] <;> rfl
  obtain ⟨n, hn⟩ := hn
  refine ⟨.ref g1.objs.size, upd H g1.objs.size (.lst ((out.map fun v => (adr v, keyAt s.heap v)).map fun q => V.ref q.1)), I1.laid (h' := g2) (t' := tk) k2 (Nat.le_refl _) ?_, rfl, q _ _ ?_ ?_ ?_ (I1.hok.fresh (Nat.le_refl _))⟩
  · refine ⟨by rw [List.length_map, List.length_map, len]; exact hz, out, n, ?_, hn⟩
    rw [eV]
    exact vals_adr fun u hu => by
      obtain ⟨q, _, e, _⟩ := omem u hu
      exact ⟨_, e⟩
  · rw [eL, ← e0]
    exact hp.map _
  · rw [eL]
    exact List.pairwise_map.mpr hs
  · intro z hz'
    obtain ⟨v, hv, rfl⟩ := List.mem_map.mp hz'
    obtain ⟨q, hq, e, e2⟩ := omem v hv
    subst e
    rw [e2]
    exact hq
/-- sorted(d), d a dict whose keys are rows that Python compares -/
def rSortD : List V → Hp → VK → Prop := fun vs H Q => ∃ (d : Addr) (kvs : List (List Key × V)), vs = [.ref d] ∧ Rd H d (.dT kvs) ∧ (∀ k ∈ kvs.map (·.1), Hd k) ∧ (∀ k ∈ kvs.map (·.1), ∀ l ∈ kvs.map (·.1), Cmpb k l) ∧
  ∀ (L : List (Addr × List Key)) (p : Addr), (L.map (·.2)).Perm (kvs.map (·.1)) → (L.map (·.2)).Pairwise (fun a b => klt b a = false) → (∀ q ∈ L, H q.1 = some (.tup (q.2.map kV))) → H p = none → Q (.ref p) (upd H p (.lst (L.map fun q => V.ref q.1)))
theorem cr_sortD (hc : X.calm = true) : CallR X (.builtin "sorted") rSortD := by
  intro pins s σ H xs us Q I r h
  obtain ⟨d, kvs, rfl, hd, h1, h2, q⟩ := h
  obtain ⟨u, rfl, rx⟩ := vals1 r
  cases rx
  obtain ⟨z, lo, ks, pr, o, es, ep, ho, hx, hdt, he, hn⟩ := (show ObjOk X.prog X.w H s.heap d (.dT kvs) from hd.ok I.hok)
  have hsz : es.size = ks.length := by rw [← Array.length_toList, he, List.length_map]
  have hkl : kvs.length = ks.length := Paired.length pr
  have km := kt_mem pr
  have kk := kt_keys pr
  have ek : es.toList.map (·.key) = (ks.map fun x => (x.2.1, x.1)).map fun q => Value.ref q.1 := by
    rw [he, List.map_map, List.map_map] <;> rfl
  have m2 : ∀ q ∈ ks.map (fun x => (x.2.1, x.1)), q.2 ∈ kvs.map (·.1) ∧ H q.1 = some (.tup (q.2.map kV)) := fun q hq => by
    obtain ⟨x, hx, rfl⟩ := List.mem_map.mp hq
    exact km x hx
  have e2 : (ks.map fun x => (x.2.1, x.1)).map (·.2) = kvs.map (·.1) := by
    rw [kk, List.map_map] <;> rfl
  refine sort_end (L0 := ks.map fun x => (x.2.1, x.1)) I (fun q hq => keyIn_of I (m2 q hq).2) (fun q hq => h1 _ (m2 q hq).1) (fun q hq q' hq' => h2 _ (m2 q hq).1 _ (m2 q' hq').1) (by rw [List.length_map]; omega)
    (fun R hR => dict_col (A := X.A.in1) lo ho hx hdt (show X.A.in1.handled = none from I.ok.hd hc) (by omega) R fun h' tk k => by rw [ek]; exact hR h' tk k) fun L p p1 p2 p3 p4 => q L p (by rw [← e2]; exact p1) p2 (fun z hz => (m2 z (p3 z hz)).2) p4
end
end Ta
namespace Ta
open PySem PySem.Spec PyProof.Rows L2 DX
/-! ### rows of keys and values -/
def RowP (H : Hp) (r : Addr) (kv : List Key × V) : Prop := ∃ b, H r = some (.tup [.ref b, kv.2]) ∧ H b = some (.tup (kv.1.map kV))
theorem pairs_at {α β : Type} {F : α → β → Prop} : ∀ {l : List α} {m : List β}, l.length = m.length → (∀ (j : Nat) (a : α) (b : β), l[j]? = some a → m[j]? = some b → F a b) → Paired F l m
  | [], [], _, _ => .nil
  | a :: l, b :: m, h, f => .cons (f 0 a b rfl rfl) (pairs_at (by simpa using h) fun j x y hx hy => f (j + 1) x y hx hy)
section
variable {prog : Program} {w : World} {A : Around} {E : Value → Shared → Prop} {s : Shared}
theorem items_init {R : Result → Shared → Prop} {r d S : Addr} {es : Array DictEntry} {ep : Nat} (hh : A.handled = none) (hv : s.heap.IsItemsView r d) (hm : DT.Raw s.heap d es ep) (hn : es.size ≤ sizeLine) (hSr : S ≠ r) (hSd : d ≠ S)
    (hS : s.heap.get? S = some { cls := .type "list", data := .seq #[] })
    (hR : ∀ h' tk acc c as, (∀ b o, b ≠ S → s.heap.get? b = some o → h'.get? b = some o) → h'.get? S = some { cls := .type "list", dict := none, data := .seq acc c, slots := #[] } → as.length = es.size → DT.Made es S h' as →
      acc.toList = as.map Value.ref → R (.ok (.ret .none)) { s with heap := h', toks := tk }) :
    wpAny (model prog w) A.in1 (Builtin.«list.__init__» ⟨[.ref S, .ref r], []⟩)
      (fun fin s' => match fin with | .done f => R (.ok f) s' | .again c' => c'.quiet = true ∧ codeAny (model prog w) A c' R s') (fun e s' => R (.error e) s') s := by
  show wpAny _ _ (do let old ← Builtin.List.listItems (.ref S); Builtin.List.listUpdate (.ref S) (fun _ => #[]); letGo old.toList.reverse; Builtin.List.listExtendWith (.ref S) (.ref r) .none) _ _ s
  refine wpAny_bind ?_
  unfold Builtin.List.listItems
  refine wpAny_bind (wpAny_seqItems hS rfl (wpAny_pure ?_))
  show wpAny _ _ (updateSeq S (fun _ => #[]) >>= fun _ => letGo (#[] : Array Value).toList.reverse >>= fun _ => Builtin.List.listExtendWith (.ref S) (.ref r) .none) _ _ s
  refine wpAny_bind (wpAny_updateSeq hS rfl ?_)
  have hS1 := Heap.get?_update_self (Obj.mapSeq (fun _ => (#[] : Array Value))) hS rfl
  have oth : ∀ b o, b ≠ S → s.heap.get? b = some o → (s.heap.update S (Obj.mapSeq (fun _ => (#[] : Array Value)))).get? b = some o :=
    fun b o hb e => (Heap.get?_update_other _ _ (Ne.symm hb)).trans e
  refine wpAny_bind (wpAny_letGo ?_)
  refine DT.extI (s := { s with heap := s.heap.update S (Obj.mapSeq (fun _ => (#[] : Array Value))) }) (es := es) (ep := ep) hh (let ⟨o, ho, x⟩ := hv; ⟨o, oth _ _ hSr.symm ho, x⟩) (hm.at' fun o e => oth d o hSd e) S hSr hSd .none _ hS1 (fun h' tk acc c as hk hS' hl hG hacc => ?_) hn
  refine hR h' tk acc c as (fun b o hb e => hk b o hb (oth b o hb e)) hS' hl (hG.low ?_) hacc
  exact Nat.le_of_lt (Heap.lt_size hS1)
theorem items_list {Q : Value → Shared → Prop} {r d : Addr} {es : Array DictEntry} {ep : Nat} (hh : A.handled = none) (hv : s.heap.IsItemsView r d) (hm : DT.Raw s.heap d es ep) (hn : es.size ≤ sizeLine)
    (hQ : ∀ h' tk acc c as, (∀ b o, s.heap.get? b = some o → h'.get? b = some o) → h'.get? s.heap.objs.size = some { cls := .type "list", dict := none, data := .seq acc c, slots := #[] } → as.length = es.size → DT.Made es s.heap.objs.size h' as →
      acc.toList = as.map Value.ref → Q (.ref s.heap.objs.size) { s with heap := h', toks := tk }) :
    wpAny (model prog w) A (call (.type "list") [.ref r]) Q E s := by
  obtain ⟨oi, hoi, _⟩ := id hv
  have hSr : s.heap.objs.size ≠ r := Nat.ne_of_gt (Heap.lt_size hoi)
  have hSd : d ≠ s.heap.objs.size := Nat.ne_of_lt hm.lt
  refine callType_codes (Q₁ := fun obj s₁ => obj = .ref s.heap.objs.size ∧ s₁ = { s with heap := s.heap.push { cls := .type "list", data := .seq #[] } }) PySem.F.called_list (PySem.F.typeCall_list_1 _) PySem.F.entry_list_init
    (code_list_new _ ⟨rfl, rfl⟩) fun obj s₁ h₁ => ?_
  obtain ⟨rfl, rfl⟩ := h₁
  have hS : (s.heap.push { cls := .type "list", data := .seq #[] }).get? s.heap.objs.size = some { cls := .type "list", data := .seq #[] } := Heap.get?_push_size _ rfl
  refine ⟨⟨_, hS, rfl⟩, PySem.F.args_list_init_2 _ _, items_init (A := A.in1) (es := es) (ep := ep) (d := d) hh (let ⟨o, ho, x⟩ := hv; ⟨o, Heap.get?_push_of_some _ ho, x⟩) (hm.push _) hn hSr hSd hS (fun h' tk acc c as hk hS' hl hG hacc => ?_)⟩
  exact ⟨rfl, hQ h' tk acc c as (fun b o e => hk b o (Nat.ne_of_lt (Heap.lt_size e)) (Heap.get?_push_of_some _ e)) hS' hl hG hacc⟩
end
section
variable {X : Cx}
/-- list(d.items()) from the view -/
def rListI : List V → Hp → VK → Prop := fun vs H Q => ∃ (p a : Addr) (kvs : List (List Key × V)), vs = [.ref p] ∧ H p = some (itemsO p a) ∧ H a = some (.dT kvs) ∧
  ∀ (H' : Hp) (l : Addr) (rows : List Addr), Same H H' → H' l = some (.lst (rows.map V.ref)) → Paired (RowP H') rows kvs → Q (.ref l) H'
theorem call_listI (hc : X.calm = true) : CallR X (.type "list") rListI := by
  intro pins s σ H xs us Q I r h
  obtain ⟨p, a, kvs, rfl, hp, ha, q⟩ := h
  obtain rfl := Vals.ref1 r
  have view : s.heap.IsItemsView p a := (show ObjOk X.prog X.w H s.heap p (itemsO p a) from I.hok p _ hp).1
  obtain ⟨z, hd, xs', rel, o, es, ep, ho, hx, hdat, hes, his, hn⟩ := dt_of I.hok ha
  have l1 : kvs.length = xs'.length := Paired.length rel
  have l2 : es.size = xs'.length := size_of_entries hes
  refine items_list (es := es) (ep := ep) (d := a) (I.ok.hd hc) view ⟨o, ho, hx, hdat⟩ (by omega) fun h' tk acc c as hk hS' hl hG hacc => ?_
  have lak : as.length = kvs.length := by omega
  have nd : as.Nodup := List.Pairwise.imp (fun h => Nat.ne_of_lt h) hG.rise
  have pr : ∀ (j : Nat) (b : Addr), as[j]? = some b → ∃ (kv : List Key × V) (kq : Addr) (u : Value), kvs[j]? = some kv ∧ H kq = some (.tup (kv.1.map kV)) ∧ RelV kv.2 u ∧ h'.get? b = some { cls := .type "tuple", data := .seq #[Value.ref kq, u] } := by
    intro j b hj
    obtain ⟨en, he, hg⟩ := hG.pairs j b hj
    rw [entry_at hes j] at he
    cases hxj : xs'[j]? with
    | none =>
      rw [hxj] at he
      exact nomatch (show (none : Option DictEntry) = some en from he)
    | some x =>
      rw [hxj] at he
      have een : entryOfKey (tupleKind (mixKind X.prog X.w)) x = en := Option.some.inj he
      obtain ⟨e0, he0, r1, r2, r3⟩ := DX.pget rel hxj
      refine ⟨e0, x.2.1, x.2.2, he0, r2, r3, ?_⟩
      rw [hg, ← een]
      all_goals rfl
  have lz : (as.map V.ref).length ≤ sizeLine := by rw [List.length_map]; omega
  have I1 : Inv X pins σ (upd H s.heap.objs.size (.lst (as.map V.ref))) { s with heap := h', toks := tk } :=
    I.laid (t' := tk) hk (Nat.le_refl _) (show ObjOk X.prog X.w _ _ _ (.lst (as.map V.ref)) from ⟨lz, acc.toList, c, by rw [hacc]; exact vals_refs _, by rw [Array.toArray_toList]; exact hS'⟩)
  obtain ⟨H2, I2, g, tq⟩ := takeT (P := fun b vs => ∃ (j : Nat) (kv : List Key × V) (kq : Addr), as[j]? = some b ∧ kvs[j]? = some kv ∧ vs = [.ref kq, kv.2] ∧ H kq = some (.tup (kv.1.map kV))) I as _ I1 nd fun b hb => by
    obtain ⟨j, hj⟩ := List.mem_iff_getElem?.mp hb
    obtain ⟨kv, kq, u, h1, h2, h3, h4⟩ := pr j b hj
    have hlt := hG.above b hb
    refine ⟨Nat.le_of_lt hlt, ?_, [.ref kq, kv.2], ⟨j, kv, kq, hj, h1, rfl, h2⟩, fun H2 => ⟨by show 2 ≤ sizeLine; rw [sizeLine_eq]; decide, [Value.ref kq, u], .cons rfl (.cons h3 .nil), ⟨_, h4, rfl, 0, rfl⟩⟩⟩
    rw [upd_ne (Nat.ne_of_gt hlt)]
    exact I.hok.fresh (Nat.le_of_lt hlt)
  have fr : H s.heap.objs.size = none := I.hok.fresh (Nat.le_refl _)
  have sm : Same H H2 := fun b o e => g b o (upd_of e fr)
  refine ⟨.ref s.heap.objs.size, H2, I2, rfl, q H2 _ as sm (g _ _ upd_same) (pairs_at lak fun j b kv hj hkv => ?_)⟩
  obtain ⟨vs, ⟨j', kv', kq, h1, h2, h3, h4⟩, e⟩ := tq b (List.mem_of_getElem? hj)
  have ej : j' = j := by
    have hi := (List.getElem?_eq_some_iff.mp h1).1
    have hi2 := (List.getElem?_eq_some_iff.mp hj).1
    rw [List.getElem?_eq_getElem hi] at h1
    rw [List.getElem?_eq_getElem hi2] at hj
    have e5 : as[j'] = as[j] := (Option.some.inj h1).trans (Option.some.inj hj).symm
    rcases Nat.lt_trichotomy j' j with y | y | y
    · have := List.pairwise_iff_getElem.mp hG.rise j' j hi hi2 y
      rw [e5] at this
      exact absurd this (Nat.lt_irrefl _)
    · exact y
    · have := List.pairwise_iff_getElem.mp hG.rise j j' hi2 hi y
      rw [e5] at this
      exact absurd this (Nat.lt_irrefl _)
  subst ej
  rw [hkv] at h2
  cases h2
  subst h3
  exact ⟨kq, e, sm _ _ h4⟩
/-! ### d.pop(k) -/
def rPop1 : V → List V → Hp → VK → Prop := fun x xs H Q => ∃ (a : Addr) (kvs : List (List Key × V)) (k : List Key) (b : Addr), x = .ref a ∧ xs = [.ref b] ∧ H a = some (.dT kvs) ∧ H b = some (.tup (k.map kV)) ∧ ∃ v, valV kvs k = some v ∧ Q v (upd H a (.dT (dropK kvs k)))
end
section
variable {prog : Program} {w : World} {K : Type} [DecidableEq K] {knd : HeapKind prog w K}
theorem meetsPop1 {d b : Addr} {k : K} (hd : (d == sysModules) = false) :
    MeetsIn prog w (Builtin.«dict.pop» ⟨[.ref d, .ref b], []⟩) (fun A R s => ∃ xs p, knd.room A.in1 ∧ knd.is s.heap k b ∧ s.heap.DictOfH knd d xs ∧ xs.length ≤ sizeLine ∧ atKey xs k = some p ∧
      ∀ h' tk, h'.DictOfH knd d (DT.dropH xs k) → Heap.SameBut d s.heap h' → R (.ok (.ret p.2)) { s with heap := h', toks := tk }) :=
  .of_wp fun A R s ⟨xs, p, hu, hkey, hm, hsz, hat, hsome⟩ => by
    obtain ⟨o, es, ep, ho, hc, hdat, he, his, hn⟩ := id hm
    have hes : es.size = xs.length := size_of_entries he
    have hpart : (keyPart (Value.ref b)).isSome = false := rfl
    unfold Builtin.«dict.pop»
    refine wpAny_bind ?_
    unfold Builtin.Dict.keyAndDefault
    refine wpAny_bind (wpAny_notOrdered_dict hm.typeIs ?_)
    show wpAny _ _ (pure (d, Value.ref b, none)) _ _ s
    refine wpAny_pure ?_
    simp only [hpart, Bool.false_eq_true, if_false]
    refine wpAny_bind (wpAny_dictEntries ho hdat (wpAny_bind (wpAny_pure ?_)))
    cases hem : es.isEmpty with
    | true =>
      have h0 : xs = [] := by
        have z : es.size = 0 := by simpa using hem
        exact List.length_eq_zero_iff.mp (by omega)
      rw [h0] at hat
      cases hat
    | false =>
      simp only [Bool.false_eq_true, if_false]
      refine wpAny_bind (DT.takeH hu hkey hm hsz (fun hno => ?_) fun p' e hp hev h' hm' hs' => ?_)
      · rw [hat] at hno
        cases hno
      · rw [hat] at hp
        cases hp
        simp only [Option.isNone_some, Bool.false_eq_true, if_false]
        refine wpAny_bind (wpAny_letGo (wpAny_pure ⟨e.val, rfl, by rw [hev]; exact hsome h' _ hm' hs'⟩))
end
section
variable {X : Cx}
theorem mt_pop1 (hu : X.A.units + 1 < cLine) : MtR X "dict.pop" rPop1 := by
  intro pins s σ H x xs v us Q I rx rxs h
  obtain ⟨a, kvs, k, b, rfl, rfl, ha, hb, v0, ev, q1⟩ := h
  cases rx
  obtain ⟨u1, rfl, r1⟩ := rxs.one
  cases r1
  obtain ⟨z, hd, xs', rel, dd⟩ := dt_of I.hok ha
  have hz : xs'.length ≤ sizeLine := by rw [← Paired.length rel]; exact z
  have r := rel.val k
  rw [ev] at r
  cases hp : atKey xs' k with
  | none =>
    rw [hp] at r
    exact (show False from r).elim
  | some p =>
    rw [hp] at r
    refine call_meetsIn PySem.F.slot_dict_pop dd.typeIs PySem.F.entry_dict_pop (PySem.F.args_dict_pop_2 _ _) (meetsPop1 (knd := tupleKind (mixKind X.prog X.w)) (k := k) hd)
      ⟨xs', p, tupleKind_room_in1 hu, key_of I.hok hb, dd, hz, hp, fun h' tk dd' hs => ?_⟩
    obtain ⟨o, es, ep, hq, h2, h3, h4, _, h5⟩ := dd'
    have I2 : Inv X pins σ (upd H a (.dT (dropK kvs k))) { s with heap := h', toks := tk } :=
      d_write I (by rw [ha]; exact True.intro) hs ⟨o, hq⟩ ⟨Nat.le_trans (dropK_le kvs k) z, hd, _, (KT_drop k rel).keeps (fun c ys ec => (by rw [upd_ne (ne_of ec ha (fun z => nomatch z))]; exact ec)), o, es, ep, hq, h2, h3, h4, h5⟩
    show EP X pins σ Q p.2 _
    exact ⟨v0, _, I2, r, q1⟩
/-! ### dict(rows) -/
theorem rows_of {pins : List (Addr × Obj)} {σ : L2.St} {H : Hp} {s : Shared} (I : Inv X pins σ H s) : ∀ {rows : List Addr} {kvs : List (List Key × V)}, Paired (RowP H) rows kvs →
    ∃ xs : List (List Key × Addr × Value), KT H kvs xs ∧ xs.length = rows.length ∧ ∀ (j : Nat) (q : List Key × Addr × Value), xs[j]? = some q → ∃ T : Addr, rows[j]? = some T ∧ IsTup s.heap T #[Value.ref q.2.1, q.2.2]
  | _, _, .nil => ⟨[], .nil, rfl, fun j q e => by simp at e⟩
  | _, _, .cons (a := T) (b := kv) h t => by
    obtain ⟨xs, r, hl, hp⟩ := rows_of I t
    obtain ⟨b, h1, h2⟩ := h
    obtain ⟨_, its, rv, ht⟩ := (show ObjOk X.prog X.w H s.heap T (.tup [.ref b, kv.2]) from I.hok T _ h1)
    obtain ⟨u, y, ei, ru, ry⟩ := vals2 rv
    subst ei
    obtain rfl : u = Value.ref b := ru
    refine ⟨(kv.1, b, y) :: xs, .cons ⟨rfl, h2, ry⟩ r, by rw [List.length_cons, List.length_cons, hl], fun j q e => ?_⟩
    cases j with
    | zero =>
      have e' : (kv.1, b, y) = q := Option.some.inj e
      subst e'
      exact ⟨T, rfl, ht⟩
    | succ j =>
      obtain ⟨T', e1, e2⟩ := hp j q (by simpa using e)
      exact ⟨T', by simpa using e1, e2⟩
theorem stored_nd {K : Type} [DecidableEq K] : ∀ (ps acc : List (K × Addr × Value)), ((acc ++ ps).map (·.1)).Nodup → storedAllH acc ps = acc ++ ps
  | [], acc, _ => by rw [List.append_nil]; rfl
  | p :: ps, acc, nd => by
    have e : atKey acc p.1 = none := by
      unfold atKey
      rw [Option.map_eq_none_iff, List.find?_eq_none]
      intro x hx hd
      have hd' := of_decide_eq_true hd
      rw [List.map_append, List.map_cons] at nd
      have := (List.nodup_append.mp nd).2.2 x.1 (List.mem_map_of_mem hx) p.1 List.mem_cons_self
      exact this hd'
    have ih := stored_nd ps (acc ++ [p]) (by rw [List.append_assoc]; exact nd)
    show storedAllH (storedH acc p.1 p.2.1 p.2.2) ps = _
    rw [storedH_new e]
    rw [List.append_assoc] at ih
    exact ih
def rDictT (K : PySem.W.Frag) : List V → Hp → VK → Prop := fun vs H Q => ∃ (a : Addr) (rows : List Addr) (kvs : List (List Key × V)), vs = [.ref a] ∧ SqL K H a (rows.map V.ref) ∧ Paired (RowP H) rows kvs ∧ (kvs.map (·.1)).Nodup ∧ ∀ p, H p = none → Q (.ref p) (upd H p (.dT kvs))
theorem call_dictT (hc : X.calm = true) (hu : X.A.units + 2 < cLine) : CallR X (.type "dict") (rDictT X.K) := by
  intro pins s σ H xs us Q I r h
  obtain ⟨a, rows, kvs, rfl, hq, hp, nd, q⟩ := h
  obtain rfl := Vals.ref1 r
  obtain ⟨its, rv, pl, hz⟩ := I.list hq
  have ei := refs_at rv
  subst ei
  rw [List.length_map] at hz
  obtain ⟨ts, rel, hl, hpr⟩ := rows_of I hp
  obtain ⟨o, n, ho, hcl, hd, hdat⟩ := pl
  have hkeys := kt_keys rel
  have km := kt_mem rel
  have nd2 : (ts.map (·.1)).Nodup := by rw [← hkeys]; exact nd
  have hlen : (ts.map fun q => (Value.ref q.2.1, q.2.2)).length = ts.length := List.length_map _
  have tl : ts.length ≤ sizeLine := by omega
  have keyNow : ∀ x ∈ ts, IsTupleKey (mixKind X.prog X.w) s.heap x.1 x.2.1 := fun x hx => key_of I.hok (km x hx).2
  refine call_dict_pairsH (knd := tupleKind (mixKind X.prog X.w)) (ps := ts) (PairArg.list a ((rows.map Value.ref).toArray) (fun j => (rows[j]?).getD 0) (ts.map fun q => (Value.ref q.2.1, q.2.2))) (I.ok.hd hc) (tupleKind_room_in1 (A := X.A.in1) (by show X.A.units + 1 + 1 < cLine; omega)) ⟨⟨o, n, ho, hcl, hd, hdat⟩, ?_, ?_⟩ ⟨hlen.symm, ?_⟩ ?_ (by omega) ?_
  · rw [hlen, List.size_toArray, List.length_map, hl]
  · intro j k v hj
    rw [List.getElem?_map] at hj
    cases ht : ts[j]? with
    | none => rw [ht] at hj; cases hj
    | some q =>
      rw [ht] at hj
      cases hj
      obtain ⟨T, e1, e2⟩ := hpr j q ht
      have e3 : (fun j : Nat => (rows[j]?).getD 0) j = T := by show (rows[j]?).getD 0 = T; rw [e1]; rfl
      rw [e3]
      refine ⟨by rw [List.getElem?_toArray, List.getElem?_map, e1]; rfl, .inl ?_⟩
      exact e2
  · intro i k v hi
    have hi : (ts.map fun q => (Value.ref q.2.1, q.2.2))[i]? = some (k, v) := hi
    rw [List.getElem?_map] at hi
    cases ht : ts[i]? with
    | none => rw [ht] at hi; cases hi
    | some q =>
      rw [ht] at hi
      cases hi
      exact ⟨q.1, q.2.1, rfl, rfl⟩
  · intro h' hk x hx
    obtain ⟨o', its', n', g1, g2, g3, g4⟩ := keyNow x hx
    exact ⟨o', its', n', hk _ _ (Nat.ne_of_lt (Heap.lt_size g1)) (fun z => nomatch z) g1, g2, g3, g4⟩
  · intro h' tk hd' k
    rw [stored_nd ts [] (by rw [List.nil_append]; exact nd2), List.nil_append] at hd'
    obtain ⟨o', es', ep', g1, g2, g3, g4, _, g5⟩ := hd'
    have hm : (s.heap.objs.size == sysModules) = false := beq_eq_false_iff_ne.mpr (Nat.ne_of_gt I.big)
    have kl : kvs.length ≤ sizeLine := by
      have := rel.length
      omega
    have fr : H s.heap.objs.size = none := I.hok.fresh (Nat.le_refl _)
    refine ⟨.ref s.heap.objs.size, upd H s.heap.objs.size (.dT kvs), I.laid (t' := tk) (fun b o e => k b o (fun z => nomatch z) e) (Nat.le_refl _) (show ObjOk X.prog X.w _ _ _ (.dT kvs) from ⟨kl, hm, ts, rel.keeps fun c ys ec => upd_of ec fr, o', es', ep', g1, g2, g3, g4, g5⟩), rfl, q _ fr⟩
end
end Ta
/-! == and != with an empty list, an empty tuple -/
namespace Ta
open PySem PySem.Spec PyProof.Rows L2
section
variable {X : Cx}
/-- a list, and an empty one -/
def rEmp (K : PySem.W.Frag) (neg : Bool) : R2 := fun x y H Q => ∃ a b xs, x = .ref a ∧ y = .ref b ∧ SqL K H a xs ∧ SqL K H b [] ∧ Q (.bl (if neg then !xs.isEmpty else xs.isEmpty)) H
theorem op_eqE (hu : X.A.units + 1 < cLine) : OpR X (compareOp .Eq) (rEmp X.K false) := by
  intro pins s σ H x y v u Q I rx ry h
  obtain ⟨a, b, xs, rfl, rfl, ha, hb, q⟩ := h
  cases rx
  cases ry
  obtain ⟨i1, r1, p1, _⟩ := I.list ha
  obtain ⟨i2, r2, p2, _⟩ := I.list hb
  cases r2
  have l1 := r1.length
  cases xs with
  | nil =>
    cases r1
    refine SeqAt.RcAt.lists (e := fun _ => true) p1.isList p2.isList rfl (by omega) (fun j h1 _ => absurd h1 (Nat.not_lt_zero _)) X.prog X.w _ _ ?_
    exact ⟨.bl true, H, I, rfl, q⟩
  | cons z zs =>
    refine SeqAt.RcAt.lists_lengths p1.isList p2.isList ?_ (by omega) X.prog X.w _ _ ?_
    · rw [List.size_toArray, ← l1]
      rfl
    · exact ⟨.bl false, H, I, rfl, q⟩
theorem op_neE (hu : X.A.units + 1 < cLine) : OpR X (compareOp .NotEq) (rEmp X.K true) := by
  intro pins s σ H x y v u Q I rx ry h
  obtain ⟨a, b, xs, rfl, rfl, ha, hb, q⟩ := h
  cases rx
  cases ry
  obtain ⟨i1, r1, p1, _⟩ := I.list ha
  obtain ⟨i2, r2, p2, _⟩ := I.list hb
  cases r2
  have l1 := r1.length
  cases xs with
  | nil =>
    cases r1
    refine SeqAt.RcNeAt.lists (e := fun _ => true) p1.isList p2.isList rfl (by omega) (fun j h1 _ => absurd h1 (Nat.not_lt_zero _)) X.prog X.w _ _ ?_
    exact ⟨.bl false, H, I, rfl, q⟩
  | cons z zs =>
    refine SeqAt.RcNeAt.lists_lengths p1.isList p2.isList ?_ (by omega) X.prog X.w _ _ ?_
    · rw [List.size_toArray, ← l1]
      rfl
    · exact ⟨.bl true, H, I, rfl, q⟩
/-- a tuple, and an empty one -/
def rEmpT (K : PySem.W.Frag) : R2 := fun x y H Q => ∃ a b xs, x = .ref a ∧ y = .ref b ∧ SqT K H a xs ∧ SqT K H b [] ∧ Q (.bl xs.isEmpty) H
theorem op_eqET (hu : X.A.units + 1 < cLine) : OpR X (compareOp .Eq) (rEmpT X.K) := by
  intro pins s σ H x y v u Q I rx ry h
  obtain ⟨a, b, xs, rfl, rfl, ha, hb, q⟩ := h
  cases rx
  cases ry
  obtain ⟨i1, r1, p1, _⟩ := I.tuple ha
  obtain ⟨i2, r2, p2, _⟩ := I.tuple hb
  cases r2
  have l1 := r1.length
  refine SeqAt.RcAt.tuples (e := fun _ => true) p1 p2 (by omega) (fun j _ h2 => absurd h2 (Nat.not_lt_zero _)) X.prog X.w _ _ ?_
  refine ⟨.bl xs.isEmpty, H, I, ?_, q⟩
  show Value.bool _ = Value.bool _
  congr 1
  rw [List.size_toArray, ← l1]
  cases xs with
  | nil => rfl
  | cons z zs => simp
end
end Ta
namespace Ta
open PySem PySem.Spec PyProof.Rows L2 RT
section
variable {prog : Program} {w : World} {A : Around} {E : Value → Shared → Prop} {s : Shared}
/-- list.__init__ over an iterator of a list's end -/
theorem rev_init {R : Result → Shared → Prop} {it l S : Addr} {items : Array Value} (hh : A.handled = none) (hit : s.heap.IsRevIter it l ((items.size : Int) - 1)) (hl : s.heap.IsList l items) (hne : l ≠ it) (hn : items.size ≤ sizeLine) (hSi : S ≠ it) (hSl : S ≠ l)
    (hS : s.heap.get? S = some { cls := .type "list", data := .seq #[] })
    (hR : ∀ h' tk acc' c', (∀ b o, b ≠ S → b ≠ it → s.heap.get? b = some o → h'.get? b = some o) → h'.get? S = some { cls := .type "list", dict := none, data := .seq acc' c', slots := #[] } → ItemsOf (fun i v => items[items.size - 1 - i]? = some v) acc' items.size → R (.ok (.ret .none)) { s with heap := h', toks := tk }) :
    wpAny (model prog w) A.in1 (Builtin.«list.__init__» ⟨[.ref S, .ref it], []⟩)
      (fun fin s' => match fin with | .done f => R (.ok f) s' | .again c' => c'.quiet = true ∧ codeAny (model prog w) A c' R s') (fun e s' => R (.error e) s') s := by
  show wpAny _ _ (do let old ← Builtin.List.listItems (.ref S); Builtin.List.listUpdate (.ref S) (fun _ => #[]); letGo old.toList.reverse; Builtin.List.listExtendWith (.ref S) (.ref it) .none) _ _ s
  refine wpAny_bind ?_
  unfold Builtin.List.listItems
  refine wpAny_bind (wpAny_seqItems hS rfl (wpAny_pure ?_))
  show wpAny _ _ (updateSeq S (fun _ => #[]) >>= fun _ => letGo (#[] : Array Value).toList.reverse >>= fun _ => Builtin.List.listExtendWith (.ref S) (.ref it) .none) _ _ s
  refine wpAny_bind (wpAny_updateSeq hS rfl ?_)
  have hS1 := Heap.get?_update_self (Obj.mapSeq (fun _ => (#[] : Array Value))) hS rfl
  have oth : ∀ b o, b ≠ S → s.heap.get? b = some o → (s.heap.update S (Obj.mapSeq (fun _ => (#[] : Array Value)))).get? b = some o :=
    fun b o hb e => (Heap.get?_update_other _ _ (Ne.symm hb)).trans e
  refine wpAny_bind (wpAny_letGo ?_)
  have hit1 : (s.heap.update S (Obj.mapSeq (fun _ => (#[] : Array Value)))).IsRevIter it l ((items.size : Int) - 1) := hit.at fun o e => oth it o hSi.symm e
  have hl1 : (s.heap.update S (Obj.mapSeq (fun _ => (#[] : Array Value)))).IsList l items := hl.at fun o e => oth l o hSl.symm e
  have hT : ({ s with heap := s.heap.update S (Obj.mapSeq (fun _ => (#[] : Array Value))) } : Shared).TypeIs (.ref it) "list_reverseiterator" := Heap.IsRevIter.typeIs (s := { s with heap := s.heap.update S (Obj.mapSeq (fun _ => (#[] : Array Value))) }) hit1
  have W := (Walks.listRev (prog := prog) (w := w) (A := A.in1) hh it l hne items).toS
  have hSf : S ∉ [it, l] := by simp only [List.mem_cons, List.not_mem_nil, or_false, not_or]; exact ⟨hSi, hSl⟩
  have h1 : Builtin.List.listSameRef (.ref S) (.ref it) = false := by simp [Builtin.List.listSameRef, hSi]
  unfold Builtin.List.listExtendWith
  refine wpAny_bind (wpAny_typeOf hT ?_)
  rw [if_neg (by rw [h1]; decide)]
  refine wpAny_bind (wpAny_pyIter_revIter (s := { s with heap := s.heap.update S (Obj.mapSeq (fun _ => (#[] : Array Value))) }) hit1 ?_)
  refine wpAny_bind (wpAny_holding ?_)
  unfold Builtin.List.listLengthHint
  refine wpAny_bind (wpAny_specialOf hT nolen_lri ?_)
  show wpAny _ A.in1 (specialOf (Value.ref it) (Str.ofString "__length_hint__") >>= _) _ _ _
  refine wpAny_bind (wpAny_specialOf hT hint_lri ?_)
  generalize hid : ("list_reverseiterator.__length_hint__" : String) = id0
  wp_delta
  rw [show splitId id0 = some ("list_reverseiterator", "__length_hint__") from by subst hid; decide +kernel]
  subst hid
  refine wpAny_bind (wpAny_isInstance (b := true) hT (by rw [isSubtype_type]; kernel_rfl) ?_)
  refine wpAny_pure ?_
  rw [if_neg (by decide)]
  have e0 : ((items.size : Nat) : Int) - 1 - ((0 : Nat) : Int) = (items.size : Int) - 1 := by omega
  refine wpAny_pure ⟨plainId_quiet F.plain_extend_loop _, codeAny_extend_loopS W hn S hSf _ items.size 0 _ _ _ rfl (Nat.zero_le _) ⟨Nat.zero_le _, by rw [e0]; exact hit1, hl1⟩ hS1 (ItemsOf.nil _) fun s' acc' c' hm hS' hacc => ?_⟩
  rw [Moved.eq_with hm]
  refine hR s'.heap s'.toks acc' c' (fun b o hb hbi e => hm.heap b o (fun hmem => ?_) (oth b o hb e)) hS' hacc
  rcases List.mem_cons.mp hmem with e' | hmem
  · exact hb e'
  · exact hbi (List.mem_singleton.mp hmem)
theorem rev_list {it l : Addr} {items : Array Value} {Q : Value → Shared → Prop} (hh : A.handled = none) (hit : s.heap.IsRevIter it l ((items.size : Int) - 1)) (hl : s.heap.IsList l items) (hne : l ≠ it) (hn : items.size ≤ sizeLine)
    (hQ : ∀ h' tk acc' c', (∀ b o, b ≠ it → s.heap.get? b = some o → h'.get? b = some o) → h'.get? s.heap.objs.size = some { cls := .type "list", dict := none, data := .seq acc' c', slots := #[] } → ItemsOf (fun i v => items[items.size - 1 - i]? = some v) acc' items.size → Q (.ref s.heap.objs.size) { s with heap := h', toks := tk }) :
    wpAny (model prog w) A (call (.type "list") [.ref it]) Q E s := by
  obtain ⟨oi, hoi, _⟩ := id hit
  obtain ⟨ol, hol, _⟩ := id hl
  have hSi : s.heap.objs.size ≠ it := Nat.ne_of_gt (Heap.lt_size hoi)
  have hSl : s.heap.objs.size ≠ l := Nat.ne_of_gt (Heap.lt_size hol)
  refine callType_codes (Q₁ := fun obj s₁ => obj = .ref s.heap.objs.size ∧ s₁ = { s with heap := s.heap.push { cls := .type "list", data := .seq #[] } }) PySem.F.called_list (PySem.F.typeCall_list_1 _) PySem.F.entry_list_init
    (code_list_new _ ⟨rfl, rfl⟩) fun obj s₁ h₁ => ?_
  obtain ⟨rfl, rfl⟩ := h₁
  have hS : (s.heap.push { cls := .type "list", data := .seq #[] }).get? s.heap.objs.size = some { cls := .type "list", data := .seq #[] } := Heap.get?_push_size _ rfl
  refine ⟨⟨_, hS, rfl⟩, PySem.F.args_list_init_2 _ _, rev_init (A := A.in1) (l := l) (items := items) hh (hit.at fun o e => Heap.get?_push_of_some _ e) (hl.push _) hne hn hSi hSl hS (fun h' tk acc' c' hk hS' hacc => ?_)⟩
  exact ⟨rfl, hQ h' tk acc' c' (fun b o hb e => hk b o (Nat.ne_of_lt (Heap.lt_size e)) hb (Heap.get?_push_of_some _ e)) hS' hacc⟩
end
/-- list(reversed(x)), x a list: a new list -/
def tLstRev (K : PySem.W.Frag) (te : TE) : TE := fun σ H Q => te σ H fun v H1 => ∃ (a : Addr) (xs : List V), v = .ref a ∧ SqL K H1 a xs ∧ ∀ q, H1 q = none → Q (.ref q) (upd H1 q (.lst xs.reverse))
section
variable {X : Cx}
theorem pe_listRev {e : Expr} {te : TE} {p p2 pos pos2 : Pos} (hc : X.calm = true) (hg : Gl X "list") (hm : X.mg "list" = none) (hg2 : Gl X "reversed") (hm2 : X.mg "reversed" = none) (he : PE X e te)
    (hs : starEach [e] X.env = (false, eval e X.env) :: starEach [] X.env := by rfl)
    (hs2 : starEach [.Call (.Name "reversed" p2) [e] [] pos2] X.env = (false, eval (.Call (.Name "reversed" p2) [e] [] pos2) X.env) :: starEach [] X.env := by rfl) :
    PE X (.Call (.Name "list" p) [.Call (.Name "reversed" p2) [e] [] pos2] [] pos) (tLstRev X.K te) := by
  refine ⟨fun pins s σ H Q I h => ?_⟩
  refine Call_ (ld_blt I hg hm boot_list (PyProof.Rows.callWith_type1 (args_cons (Call_ (ld_blt I hg2 hm2 PyProof.Rows.boot_reversed (PyProof.Rows.callWith_type1 (args_cons (thn (he.run pins s σ H _ I h) fun u s1 ⟨v, H1, I1, r1, q1⟩ => args_nil ?_) hs) hs rfl))) hs2) hs2 rfl))
  obtain ⟨a, xs, ev, hq, q⟩ := q1
  subst ev
  obtain rfl : u = Value.ref a := r1
  obtain ⟨its, rv, p', hz⟩ := I1.list hq
  refine call_reversed_list p'.isList (args_nil ?_)
  have k0 : ∀ b o, s1.heap.get? b = some o → (s1.heap.push (revObj a ((its.toArray.size : Int) - 1))).get? b = some o := fun b o e => Heap.get?_push_of_some _ e
  have I2 : Inv X pins σ H1 { s1 with heap := s1.heap.push (revObj a ((its.toArray.size : Int) - 1)) } := I1.kept (t' := s1.toks) k0
  obtain ⟨f0, f1, f2, f3, f4, f5⟩ := I1.fpOk (H' := H1) (b := s1.heap.objs.size) (Nat.le_refl _) (I1.hok.fresh (Nat.le_refl _))
  have hl := p'.isList
  obtain ⟨ol, hol, _⟩ := id hl
  have hne : a ≠ s1.heap.objs.size := Nat.ne_of_lt (Heap.lt_size hol)
  have hn : its.toArray.size ≤ sizeLine := by rw [List.size_toArray, ← rv.length]; exact hz
  refine rev_list (s := { s1 with heap := s1.heap.push (revObj a ((its.toArray.size : Int) - 1)) }) (I1.ok.hd hc) ⟨_, Heap.get?_push_size _ rfl, rfl, rfl⟩ (hl.push _) hne hn fun h' tk acc c' hk hS' hi => ?_
  have hk1 : ∀ b o, s1.heap.get? b = some o → h'.get? b = some o := fun b o e => hk b o (Nat.ne_of_lt (Heap.lt_size e)) (Heap.get?_push_of_some _ e)
  have fr : H1 (s1.heap.push (revObj a ((its.toArray.size : Int) - 1))).objs.size = none := I2.hok.fresh (Nat.le_refl _)
  refine ⟨.ref (s1.heap.push (revObj a ((its.toArray.size : Int) - 1))).objs.size, upd H1 (s1.heap.push (revObj a ((its.toArray.size : Int) - 1))).objs.size (.lst xs.reverse), I1.laid (t' := tk) hk1 (by rw [Heap.push, Array.size_push]; exact Nat.le_succ _) (show ObjOk X.prog X.w _ _ _ (.lst xs.reverse) from ⟨by rw [List.length_reverse]; exact hz, acc.toList, c', vals_rev rv hi, ?_⟩), rfl, q _ fr⟩
  rw [Array.toArray_toList]
  exact hS'
end
end Ta
namespace Ta
open PySem PySem.Spec PyProof.Rows L2
/-! ### a list or a tuple walked -/
def iSeq (K : PySem.W.Frag) (te : TE) : TI := fun σ H R => te σ H fun v H1 => ∃ (a : Addr) (xs : List V), v = .ref a ∧ ((SqL K H1 a xs ∧ R (Itl K a) H1) ∨ (SqT K H1 a xs ∧ R (Itt K a) H1))
section
variable {X : Cx} {tg : Expr}
theorem pi_seq {l : Expr} {tl : TE} (hl : PE X l tl) : PI X tg l (iSeq X.K tl) := by
  refine ⟨fun pins s σ H R I h => ?_⟩
  refine thn (hl.run pins s σ H _ I h) fun v s1 ⟨x, H1, I1, r1, q1⟩ => ?_
  obtain ⟨a, xs, e, q⟩ := q1
  subst e
  obtain rfl : v = Value.ref a := r1
  rcases q with ⟨hq, q⟩ | ⟨hq, q⟩
  · obtain ⟨its, rv, p, hz⟩ := I1.list hq
    refine wpAny_pyIter_list p.isList ?_
    refine ⟨s1.heap.objs.size, [s1.heap.objs.size], _, _, H1, rfl, I1.kept (t' := s1.toks) fun b o e => Heap.get?_push_of_some _ e, turn_list a _, ⟨_, Heap.get?_push_size _ rfl, rfl, rfl⟩, fun b hb => ?_, q⟩
    have e : b = s1.heap.objs.size := by simpa using hb
    subst e
    exact I1.fpOk (Nat.le_refl _) (I1.hok.fresh (Nat.le_refl _))
  · obtain ⟨its, rv, p, hz⟩ := I1.tuple hq
    refine wpAny_pyIter_tuple (show s1.heap.IsTuple a its.toArray from p) ?_
    refine ⟨s1.heap.objs.size, [s1.heap.objs.size], _, _, H1, rfl, I1.kept (t' := s1.toks) fun b o e => Heap.get?_push_of_some _ e, turn_tuple a _, ⟨_, Heap.get?_push_size _ rfl, rfl, rfl⟩, fun b hb => ?_, q⟩
    have e : b = s1.heap.objs.size := by simpa using hb
    subst e
    exact I1.fpOk (Nat.le_refl _) (I1.hok.fresh (Nat.le_refl _))
end
theorem ixL {X : Cx} {K : PySem.W.Frag} (h : X.K = K) : IxR X (rIxL K) := h ▸ ix_list
theorem ixT {X : Cx} {K : PySem.W.Frag} (h : X.K = K) : IxR X (rIxT K) := h ▸ ix_tup
/-! ### keys gathered -/
theorem mem_addK {ks : List (List Key)} {x k : List Key} : k ∈ addK ks x ↔ k ∈ ks ∨ k = x := by
  unfold addK
  by_cases h : hasK ks x = true
  · rw [if_pos h]
    exact ⟨.inl, fun z => z.elim id fun e => e ▸ hasK_iff.mp h⟩
  · rw [if_neg h, List.mem_append, List.mem_singleton]
theorem addK_nd {ks : List (List Key)} {x : List Key} (nd : ks.Nodup) : (addK ks x).Nodup := by
  unfold addK
  by_cases h : hasK ks x = true
  · rw [if_pos h]
    exact nd
  · rw [if_neg h]
    refine List.nodup_append.mpr ⟨nd, List.nodup_cons.mpr ⟨List.not_mem_nil, List.nodup_nil⟩, fun a ha b hb e => h (hasK_iff.mpr ?_)⟩
    rw [← List.mem_singleton.mp hb, ← e]
    exact ha
theorem addK_len (ks : List (List Key)) (x : List Key) : (addK ks x).length ≤ ks.length + 1 := by
  unfold addK
  by_cases h : hasK ks x = true
  · rw [if_pos h]
    exact Nat.le_succ _
  · rw [if_neg h, List.length_append]
    exact Nat.le_refl _
theorem mem_take_succ {α : Type} {xs : List α} {i : Nat} {x : α} (h : xs[i]? = some x) (k : α) : k ∈ xs.take (i + 1) ↔ k ∈ xs.take i ∨ k = x := by
  rw [List.take_add_one, h, List.mem_append]
  exact or_congr Iff.rfl List.mem_singleton
theorem filt_next {α : Type} {p : α → Bool} {xs : List α} {i : Nat} {x : α} (h : xs[i]? = some x) : (xs.take (i + 1)).filter p = if p x = true then (xs.take i).filter p ++ [x] else (xs.take i).filter p := by
  rw [List.take_add_one, h, List.filter_append]
  show _ ++ List.filter p [x] = _
  rw [List.filter_cons, List.filter_nil]
  by_cases e : p x = true
  · rw [if_pos e, if_pos e]
  · rw [if_neg e, if_neg e, List.append_nil]
theorem take_all {α : Type} {xs : List α} {n : Nat} (h : xs.length ≤ n) : xs.take n = xs := List.take_of_length_le h
/-- the keys of all, in order, each once -/
structure AllP (kss : List (List (List Key))) (L : List (List Key)) : Prop where
  st : L.Pairwise fun a b => klt a b = true
  mem : ∀ k, k ∈ L ↔ ∃ ks ∈ kss, k ∈ ks
  len : L.length ≤ 160000
def PlAt (H : Hp) (p : Addr) (L : List (List Key)) : Prop := ∃ as : List (Addr × List Key), H p = some (.lst (as.map fun q => V.ref q.1)) ∧ as.map (·.2) = L ∧ ∀ q ∈ as, H q.1 = some (.tup (q.2.map kV))
def PlAtT (H : Hp) (p : Addr) (L : List (List Key)) : Prop := ∃ as : List (Addr × List Key), H p = some (.tup (as.map fun q => V.ref q.1)) ∧ as.map (·.2) = L ∧ ∀ q ∈ as, H q.1 = some (.tup (q.2.map kV))
/-- keys that are in order -/
structure KssOk (kss : List (List (List Key))) : Prop where
  few : kss.length ≤ 40
  each : ∀ ks ∈ kss, ks.length ≤ 4000
  pl : ∀ ks ∈ kss, ∀ k ∈ ks, PlaceOk k
theorem Keep.back {S H' : Hp} {d : Addr} {u x : HO} (h : Keep [d] S H') (e : S d = some u) : L2.Same S (upd H' d u) := fun b o eb => by
  by_cases z : b = d
  · subst z
    rw [upd_same, ← e, eb]
  · rw [upd_ne z]
    exact h b o (fun y => z (List.mem_singleton.mp y)) eb
theorem rd_mono {H H' : Hp} {a : Addr} {u : HO} (h : Rd H a u) (s : L2.Same H H') : Rd H' a u := by
  rcases h with h | ⟨o, h⟩
  · exact .inl (s _ _ h)
  · exact .inr ⟨o, s _ _ h⟩
section
variable {P : Program} {w : World} {K : PySem.W.Frag} {mg : Str → Option Value} {base : Heap}
/-! ### all_places -/
def spAllPlaces : Sp := fun vs H Q _ => ∃ (L : Addr) (kss : List (List (List Key))), vs = [.ref L] ∧ HasNew H L kss ∧ KssOk kss ∧ ∀ H' p ks, Same H H' → AllP kss ks → PlAt H' p ks → Q (.ref p) H'
theorem sc_all_places : FnScope ["has", "found", "places", "place"] ["has"] (defScope s_all_places) := ⟨rfl, rfl, rfl, by decide +kernel, rfl, by decide +kernel, by decide +kernel⟩
theorem ok_all_places (T : Tx w K mg) : Ok P w K mg base CX0 1 ("all_places", none) ["has"] spAllPlaces := by
  refine mkOk T.d_all_places sc_all_places (fun vs H Q E h => ?_) (fun _ _ _ _ _ _ us hl => match us, hl with | [_], _ => rfl) (fun cdv A outer s H vs Q E hr h => ?_)
  · obtain ⟨L, kss, rfl, _⟩ := h
    rfl
  · obtain ⟨L, kss, rfl, ⟨ds, e, pd⟩, ok, q⟩ := h
    have line := sizeLine_eq
    have few := ok.few
    have lds := pd.length
    refine ⟨_, (pss_cons (ps_set (i := 1) sc_all_places.nd (by rfl) (Or.inl rfl) pe_dnewT)
      (pss_cons (ps_for PassesOwn.never rfl (pi_list (pv 0)) (pg_name (i := 2) sc_all_places.nd (by rfl) (Or.inl rfl)) (pss_one (ps_lock (ps_for PassesOwn.never rfl (pi_keys (pv 2)) (pg_name (i := 3) sc_all_places.nd (by rfl) (Or.inl rfl)) (pss_one (ps_dput (hu_of hr) (pv 1) (pv 3) pe_bl rfl))))))
      (pss_one (ps_ret (pe_callB (cr_sortD rfl) (by rfl) T.n_sorted bt_sorted (pa_cons (pv 1) pa_nil)))))), ?_⟩
    intro D nD
    refine ⟨_, rfl, L, rfl, ⟨_, SqL.of (upd_of e nD)⟩, for_it (walk_list (K := K) (a := L) (xs := ds.map V.ref))
      (fun i σ H' => ∃ kvs v1 v2, σ = [some (.ref L), some (.ref D), v1, v2] ∧ Same H H' ∧ H' D = some (.dT kvs) ∧ kvs.length ≤ 4000 * i ∧ (kvs.map (·.1)).Nodup ∧ ∀ k, k ∈ kvs.map (·.1) ↔ ∃ ks ∈ kss.take i, k ∈ ks)
      ⟨[], none, none, rfl, (Same.refl H).up nD, upd_same, Nat.zero_le _, List.nodup_nil, fun k => ⟨fun z => (nomatch z), fun z => by obtain ⟨_, z, _⟩ := z; cases z⟩⟩ (fun i σ H' _ ⟨_, _, _, _, g, _⟩ => SqL.of (g _ _ e)) ?_ ?_⟩
    · rintro i v σ H1 H2 hi ⟨kvs, v1, v2, rfl, s2, eD, kl, nd, km⟩ ⟨rfl, ey⟩
      obtain ⟨d, hd, rfl⟩ := ref_get ey
      have hi2 : i < kss.length := by
        have := get_lt hd
        omega
      obtain ⟨ks, hks⟩ : ∃ ks, kss[i]? = some ks := ⟨_, List.getElem?_eq_getElem hi2⟩
      have hks' := List.mem_of_getElem? hks
      obtain ⟨dvs, ed0, ek0⟩ := pair_get pd hd hks
      have ed := s2 _ _ ed0
      have neD : D ≠ d := fun z => by
        rw [z, ed0] at nD
        cases nD
      have lk : dvs.length ≤ 4000 := by
        have := ok.each ks hks'
        rw [← ek0, List.length_map] at this
        exact this
      refine ⟨d, _, ed, trivial, fun od => ?_⟩
      refine ⟨_, rfl, d, od, rfl, .inr ⟨dvs, upd_same, for_it (walk_keysT (kvs := dvs))
        (fun j σ H' => ∃ kvs v2, σ = [some (.ref L), some (.ref D), some (.ref d), v2] ∧ Keep [D] (upd H2 d (.frz od (.dT dvs))) H' ∧ H' D = some (.dT kvs) ∧ kvs.length ≤ 4000 * i + j ∧ (kvs.map (·.1)).Nodup ∧ ∀ k, k ∈ kvs.map (·.1) ↔ (∃ ks ∈ kss.take i, k ∈ ks) ∨ k ∈ ks.take j)
        ⟨kvs, _, rfl, Keep.refl _ _, ?_, by omega, nd, fun k => ?_⟩ (fun j σ H' _ ⟨_, _, _, g, _⟩ => g _ _ (fun z => neD (List.mem_singleton.mp z).symm) upd_same) ?_ ?_⟩⟩
      · rw [upd_ne neD]
        exact eD
      · rw [km k]
        exact ⟨.inl, fun z => z.elim id fun y => nomatch y⟩
      · rintro j y σ H3 H4 hj ⟨kvs, v2, rfl, k3, eD3, kl, nd, km⟩ ⟨rfl, k, v, q, hk, rfl, eq⟩
        have hk' : ks[j]? = some k := by
          rw [← ek0, List.getElem?_map, hk]
          rfl
        refine ⟨_, rfl, _, rfl, D, _, rfl, DPut.t eD3 eq (by omega), ?_⟩
        refine ⟨_, _, rfl, k3.at (List.mem_singleton.mpr rfl), upd_same, ?_, ?_, ?_⟩
        · have := addK_len (kvs.map (·.1)) k
          rw [← putK_keys kvs k (.bl true), List.length_map, List.length_map] at this
          omega
        · rw [putK_keys]
          exact addK_nd nd
        · intro z
          rw [putK_keys, mem_addK, km z, mem_take_succ hk', or_assoc]
      · rintro σ H3 ⟨kvs, v2, rfl, k3, eD3, kl, nd, km⟩
        have ed3 : H3 d = some (.frz od (.dT dvs)) := k3 _ _ (fun z => neD (List.mem_singleton.mp z).symm) upd_same
        refine ⟨ed3, kvs, _, _, rfl, ?_, ?_, by omega, nd, ?_⟩
        · intro b o eb
          by_cases z : b = d
          · subst z
            rw [upd_same, ← ed0, eb]
          · rw [upd_ne z]
            refine k3 b o (fun y => ?_) ?_
            · rw [List.mem_singleton.mp y, nD] at eb
              cases eb
            · rw [upd_ne z]
              exact s2 b o eb
        · rw [upd_ne neD]
          exact eD3
        · intro k
          rw [km k, take_all (xs := ks) (by rw [← ek0, List.length_map]; exact Nat.le_refl _)]
          constructor
          · rintro (⟨z, h1, h2⟩ | h)
            · exact ⟨z, (mem_take_succ hks z).mpr (.inl h1), h2⟩
            · exact ⟨ks, (mem_take_succ hks ks).mpr (.inr rfl), h⟩
          · rintro ⟨z, h1, h2⟩
            rcases (mem_take_succ hks z).mp h1 with h1 | rfl
            · exact .inl ⟨z, h1, h2⟩
            · exact .inr h2
    · rintro σ H1 ⟨kvs, v1, v2, rfl, s2, eD, kl, nd, km⟩
      rw [take_all (by rw [List.length_map]; omega)] at km
      rw [List.length_map] at kl
      have pl : ∀ k ∈ kvs.map (·.1), PlaceOk k := fun k hk => by
        obtain ⟨ks, h1, h2⟩ := (km k).mp hk
        exact ok.pl ks h1 k h2
      refine ⟨_, rfl, D, kvs, rfl, .inl eD, fun k hk => (pl k hk).hd, fun k hk l hl => (pl k hk).cmp (pl l hl), fun L' p pm pw at' np => ?_⟩
      refine q _ p (L'.map (·.2)) (s2.up np) ⟨strict_of pw (pm.nodup_iff.mpr nd), fun k => ?_, ?_⟩ ⟨L', upd_same, rfl, fun x hx => upd_of (at' x hx) np⟩
      · rw [pm.mem_iff, km k]
      · rw [pm.length_eq, List.length_map]
        omega
/-! ### is_had, have_all -/
def inK (kss : List (List (List Key))) (j : Nat) (k : List Key) : Bool := hasK ((kss[j]?).getD []) k
def hadB (kss : List (List (List Key))) (js : List Nat) (k : List Key) : Bool := js.any fun j => inK kss j k
def allB (kss : List (List (List Key))) (js : List Nat) : Bool := kss.all fun ks => ks.all fun k => hadB kss js k
abbrev nV (j : Nat) : V := .int (j : Int)
def KeptAt (H : Hp) (v : V) (js : List Nat) : Prop := ∃ a, v = .ref a ∧ (H a = some (.lst (js.map nV)) ∨ H a = some (.tup (js.map nV)))
theorem KeptAt.mono {H H' : Hp} {v : V} {js : List Nat} (h : KeptAt H v js) (s : Same H H') : KeptAt H' v js := by
  obtain ⟨a, e, h | h⟩ := h
  · exact ⟨a, e, .inl (s _ _ h)⟩
  · exact ⟨a, e, .inr (s _ _ h)⟩
theorem filt_any {α : Type} (p : α → Bool) : ∀ xs : List α, (xs.filter p).isEmpty = !xs.any p
  | [] => rfl
  | x :: xs => by
    rw [List.filter_cons, List.any_cons]
    by_cases e : p x = true
    · rw [if_pos e, e] <;> rfl
    · rw [if_neg e, Bool.eq_false_iff.mpr e, Bool.false_or]
      exact filt_any p xs
def spIsHad : Sp := fun vs H Q _ => ∃ (L pa : Addr) (kv : V) (kss : List (List (List Key))) (js : List Nat) (k : List Key), vs = [.ref L, kv, .ref pa] ∧ HasAt H L kss ∧ KeptAt H kv js ∧ (∀ j ∈ js, j < kss.length) ∧ js.length ≤ 1000 ∧ H pa = some (.tup (k.map kV)) ∧
  ∀ H', Same H H' → Q (.bl (hadB kss js k)) H'
theorem sc_is_had : FnScope ["has", "kept", "place", "at"] ["has", "kept", "place"] (defScope s_is_had) := ⟨rfl, rfl, rfl, by decide +kernel, rfl, by decide +kernel, by decide +kernel⟩
theorem ok_is_had (T : Tx w K mg) : Ok P w K mg base CX0 1 ("is_had", none) ["has", "kept", "place"] spIsHad := by
  refine mkOk T.d_is_had sc_is_had (fun vs H Q E h => ?_) (fun _ _ _ _ _ _ us hl => match us, hl with | [_, _, _], _ => rfl) (fun cdv A outer s H vs Q E hr h => ?_)
  · obtain ⟨L, pa, kv, kss, js, k, rfl, _⟩ := h
    rfl
  · obtain ⟨L, pa, kv, kss, js, k, rfl, ⟨ds, e, pd⟩, ⟨a, rfl, ha⟩, lt, few, ep, q⟩ := h
    have line := sizeLine_eq
    have lds := pd.length
    refine ⟨_, (pss_one (ps_ret (pe_cmpR (op_neE (hu_of hr)) (pe_lc (own := [("at", 3)]) (g := gName 3) rfl sc_is_had.nd (pi_seq (pv 1)) (blkOk_by (own := [("at", 3)]) (N := ["has", "kept", "place", "at"]) (sc := defScope s_is_had) (by decide +kernel)) (fun _ _ _ _ _ => (pg_name (i := 3) sc_is_had.nd (by rfl) (Or.inl rfl))) (fun _ _ _ _ _ => (pts_one (pt_cmp (pc_din (hu_of hr) (pv 2) (pe_ix (ixL (K := K) rfl) (pv 0) (pv 3) (fun _ _ => rfl))) (by rfl)))) (fun _ _ _ _ _ => (pv 3))) (pe_lst pa_nil) (nomark _)))), ?_⟩
    have body : ∀ (D : Addr), H D = none → ∀ (i : Nat) (v : V) (H1 H2 : Hp), i < (js.map nV).length → GP H D (fun i acc _ => acc = ((js.take i).filter fun j => inK kss j k).map nV) i H1 → YAt (js.map nV) i H1 v H2 →
        ∃ j : Nat, v = nV j ∧ j < kss.length ∧ js[i]? = some j ∧ H2 = H1 ∧ ∃ d kvs, (ds.map V.ref)[j]? = some (V.ref d) ∧ Rd H d (.dT kvs) ∧ (valV kvs k).isSome = inK kss j k := by
      rintro D nD i v H1 H2 hi _ ⟨rfl, ey⟩
      obtain ⟨j, hj, rfl⟩ := map_get ey
      have jl := lt j (List.mem_of_getElem? hj)
      obtain ⟨ks, hks⟩ : ∃ ks, kss[j]? = some ks := ⟨_, List.getElem?_eq_getElem jl⟩
      obtain ⟨d, hd, kvs, rd, ek⟩ := DX.pget pd hks
      refine ⟨j, rfl, jl, hj, rfl, d, kvs, by rw [List.getElem?_map, hd]; rfl, rd, ?_⟩
      rw [valV_isSome, ek]
      unfold inK
      rw [hks] <;> rfl
    have fin : ∀ (D : Addr) (H1 : Hp), GP H D (fun i acc _ => acc = ((js.take i).filter fun j => inK kss j k).map nV) js.length H1 → ∀ p, H1 p = none → ∃ a b xs, V.ref D = .ref a ∧ V.ref p = .ref b ∧ SqL K (upd H1 p (.lst [])) a xs ∧ SqL K (upd H1 p (.lst [])) b [] ∧ Q (.bl (!xs.isEmpty)) (upd H1 p (.lst [])) := by
      rintro D H1 ⟨g1, acc, g2, g3⟩ p np
      refine ⟨D, p, _, rfl, rfl, SqL.of (upd_of g2 np), SqL.of upd_same, ?_⟩
      rw [g3, take_all (Nat.le_refl _), List.isEmpty_map, filt_any, Bool.not_not]
      exact q _ (g1.up np)
    have step : ∀ (D : Addr), H D = none → ∀ (i j : Nat) (H1 : Hp), js[i]? = some j → i < js.length → GP H D (fun i acc _ => acc = ((js.take i).filter fun j => inK kss j k).map nV) i H1 →
        (inK kss j k = true → ∃ acc, H1 D = some (.lst acc) ∧ acc.length < sizeLine ∧ GP H D (fun i acc _ => acc = ((js.take i).filter fun j => inK kss j k).map nV) (i + 1) (upd H1 D (.lst (acc ++ [nV j])))) ∧
        (inK kss j k = false → GP H D (fun i acc _ => acc = ((js.take i).filter fun j => inK kss j k).map nV) (i + 1) H1) := by
      rintro D nD i j H1 hj hi ⟨g1, acc, g2, g3⟩
      constructor
      · intro b
        refine GP.push nD g1 g2 (Same.refl _) ?_ ?_
        · rw [g3, List.length_map]
          have := List.length_filter_le (fun j => inK kss j k) (js.take i)
          rw [List.length_take] at this
          omega
        · show _ = _
          rw [filt_next hj, if_pos b, List.map_append, g3] <;> rfl
      · intro b
        refine GP.skip g1 g2 (Same.refl _) ?_
        show _ = _
        rw [filt_next hj, if_neg (by rw [b]; exact Bool.false_ne_true), g3]
    have start : ∀ (D : Addr), H D = none → GP H D (fun i acc _ => acc = ((js.take i).filter fun j => inK kss j k).map nV) 0 (upd H D (.lst [])) := fun D nD => GP.start nD rfl
    rcases ha with ha | ha
    · refine ⟨_, rfl, a, _, rfl, .inl ⟨SqL.of ha, fun D nD => lc_it (walk_list (K := K) (a := a) (xs := js.map nV)) (GP H D fun i acc _ => acc = ((js.take i).filter fun j => inK kss j k).map nV) (start D nD) (fun i H' _ g => SqL.of (g.1 _ _ ha)) ?_ ?_⟩⟩
      · intro i v H1 H2 hi g y
        obtain ⟨j, rfl, jl, hj, rfl, d, kvs, hd, rd, eb⟩ := body D nD i v H1 H2 hi g y
        have s1 := g.1
        refine ⟨rfl, _, rfl, _, rfl, _, rfl, L, _, j, _, rfl, rfl, SqL.of (s1 _ _ e), at_of (j := j) rfl hd, d, _, rfl, .inr ⟨kvs, k, pa, rd_mono rd s1, rfl, s1 _ _ ep, rfl⟩, ?_⟩
        rw [eb]
        obtain ⟨t1, t2⟩ := step D nD i j H2 hj (get_lt hj) g
        refine ⟨_, rfl, ?_⟩
        cases z : inK kss j k with
        | true => exact ifT rfl ⟨_, rfl, t1 z⟩
        | false => exact ifF rfl (t2 z)
      · intro H1 g
        rw [List.length_map] at g
        exact ⟨Nat.zero_le _, fun p np => fin D H1 g p np⟩
    · refine ⟨_, rfl, a, _, rfl, .inr ⟨SqT.of ha, fun D nD => lc_it (walk_tup (K := K) (a := a) (xs := js.map nV)) (GP H D fun i acc _ => acc = ((js.take i).filter fun j => inK kss j k).map nV) (start D nD) (fun i H' _ g => SqT.of (g.1 _ _ ha)) ?_ ?_⟩⟩
      · intro i v H1 H2 hi g y
        obtain ⟨j, rfl, jl, hj, rfl, d, kvs, hd, rd, eb⟩ := body D nD i v H1 H2 hi g y
        have s1 := g.1
        refine ⟨rfl, _, rfl, _, rfl, _, rfl, L, _, j, _, rfl, rfl, SqL.of (s1 _ _ e), at_of (j := j) rfl hd, d, _, rfl, .inr ⟨kvs, k, pa, rd_mono rd s1, rfl, s1 _ _ ep, rfl⟩, ?_⟩
        rw [eb]
        obtain ⟨t1, t2⟩ := step D nD i j H2 hj (get_lt hj) g
        refine ⟨_, rfl, ?_⟩
        cases z : inK kss j k with
        | true => exact ifT rfl ⟨_, rfl, t1 z⟩
        | false => exact ifF rfl (t2 z)
      · intro H1 g
        rw [List.length_map] at g
        exact ⟨Nat.zero_le _, fun p np => fin D H1 g p np⟩
theorem all_iff {kss : List (List (List Key))} {L : List (List Key)} (ap : AllP kss L) (js : List Nat) : (L.filter fun k => !hadB kss js k).isEmpty = allB kss js := by
  rw [filt_any]
  unfold allB
  cases z : kss.all (fun ks => ks.all fun k => hadB kss js k) with
  | true =>
    simp only [List.all_eq_true] at z
    rw [Bool.not_eq_true', List.any_eq_false]
    intro k hk
    obtain ⟨ks, h1, h2⟩ := (ap.mem k).mp hk
    rw [z ks h1 k h2]
    exact fun y => nomatch y
  | false =>
    rw [List.all_eq_false] at z
    obtain ⟨ks, h1, h2⟩ := z
    have h3 := Bool.eq_false_iff.mpr h2
    rw [List.all_eq_false] at h3
    obtain ⟨k, h4, h5⟩ := h3
    rw [Bool.not_eq_false', List.any_eq_true]
    exact ⟨k, (ap.mem k).mpr ⟨ks, h1, h4⟩, by rw [Bool.eq_false_iff.mpr h5]; rfl⟩
def spHaveAll : Sp := fun vs H Q _ => ∃ (L : Addr) (kv : V) (kss : List (List (List Key))) (js : List Nat), vs = [.ref L, kv] ∧ HasNew H L kss ∧ KssOk kss ∧ KeptAt H kv js ∧ (∀ j ∈ js, j < kss.length) ∧ js.length ≤ 1000 ∧ ∀ H', Same H H' → Q (.bl (allB kss js)) H'
theorem sc_have_all : FnScope ["has", "kept", "place"] ["has", "kept"] (defScope s_have_all) := ⟨rfl, rfl, rfl, by decide +kernel, rfl, by decide +kernel, by decide +kernel⟩
theorem ok_have_all (T : Tx w K mg) : Ok P w K mg base CX0 2 ("have_all", none) ["has", "kept"] spHaveAll := by
  obtain ⟨_, G_all_places, b_all_places, kp_all_places⟩ := ok_all_places (P := P) (base := base) T
  obtain ⟨_, G_is_had, b_is_had, kp_is_had⟩ := ok_is_had (P := P) (base := base) T
  refine mkOk T.d_have_all sc_have_all (fun vs H Q E h => ?_) (fun _ _ _ _ _ _ us hl => match us, hl with | [_, _], _ => rfl) (fun cdv A outer s H vs Q E hr h => ?_)
  · obtain ⟨L, kv, kss, js, rfl, _⟩ := h
    rfl
  · obtain ⟨L, kv, kss, js, rfl, hn, ok, kp, lt, few, q⟩ := h
    have line := sizeLine_eq
    refine ⟨_, (pss_one (ps_ret (pe_cmpR (op_eqE (hu_of hr)) (pe_lc (own := [("place", 2)]) (g := gName 2) rfl sc_have_all.nd (pi_list (pe_call G_all_places (hr.mono (by omega)) (by rfl) T.g_all_places kp_all_places b_all_places .nil pass0 (pa_cons (pv 0) pa_nil))) (blkOk_by (own := [("place", 2)]) (N := ["has", "kept", "place"]) (sc := defScope s_have_all) (by decide +kernel)) (fun _ _ _ _ _ => (pg_name (i := 2) sc_have_all.nd (by rfl) (Or.inl rfl))) (fun _ _ _ _ _ => (pts_one (pt_not (pt_val (pe_call G_is_had (hr.mono (by omega)) (by rfl) T.g_is_had kp_is_had b_is_had .nil pass0 (pa_cons (pv 0) (pa_cons (pv 1) (pa_cons (pv 2) pa_nil)))))))) (fun _ _ _ _ _ => (pv 2))) (pe_lst pa_nil) (nomark _)))), ?_⟩
    refine ⟨_, rfl, L, kss, rfl, hn, ok, fun H1 p ks s1 ap ⟨as, e, ek, em⟩ => ⟨p, rfl, ⟨_, SqL.of e⟩, fun D nD => lc_it (walk_list (K := K) (a := p) (xs := as.map fun q => V.ref q.1)) (GP H1 D fun i acc _ => acc = ((as.take i).filter fun q => !hadB kss js q.2).map fun q => V.ref q.1) (GP.start nD rfl) (fun i H' _ g => SqL.of (g.1 _ _ e)) ?_ ?_⟩⟩
    · rintro i v H2 H3 hi ⟨g1, acc, g2, g3⟩ ⟨rfl, ey⟩
      obtain ⟨x, hx, rfl⟩ := map_get ey
      have s2 := s1.trans g1
      refine ⟨rfl, _, rfl, _, rfl, _, rfl, L, x.1, kv, kss, js, x.2, rfl, (hn.mono s2).at, kp.mono s2, lt, few, g1 _ _ (em x (List.mem_of_getElem? hx)), fun H4 s4 => ⟨_, rfl, ?_⟩⟩
      cases z : hadB kss js x.2 with
      | true =>
        refine ifF rfl (GP.skip g1 g2 s4 ?_)
        show _ = _
        rw [filt_next hx, if_neg (by rw [z]; exact Bool.false_ne_true), g3]
      | false =>
        refine ifT rfl ⟨_, rfl, GP.push nD g1 g2 s4 ?_ ?_⟩
        · rw [g3, List.length_map]
          have h1 := List.length_filter_le (fun q => !hadB kss js q.2) (as.take i)
          have h2 := ap.len
          rw [← ek, List.length_map] at h2
          rw [List.length_take] at h1
          omega
        · show _ = _
          rw [filt_next hx, if_pos (by rw [z]; rfl), List.map_append, g3] <;> rfl
    · rintro H2 ⟨g1, acc, g2, g3⟩
      refine ⟨Nat.zero_le _, fun b nb => ⟨D, b, _, rfl, rfl, SqL.of (upd_of g2 nb), SqL.of upd_same, ?_⟩⟩
      rw [List.length_map] at g3
      have e1 : acc.isEmpty = allB kss js := by
        rw [g3, take_all (Nat.le_refl _), List.isEmpty_map, ← all_iff ap, ← ek, List.filter_map, List.isEmpty_map] <;> rfl
      show Q (.bl acc.isEmpty) _
      rw [e1]
      exact q _ ((s1.trans g1).up nb)
end
end Ta
namespace Ta
open PySem PySem.Spec PyProof.Rows L2
theorem kssOf {bks : List Bk} (few : bks.length ≤ 40) (ok : ∀ bk ∈ bks, BookOk bk) : KssOk (keysOf bks) where
  few := by rw [keysOf, List.length_map]; exact few
  each := fun ks h => by
    obtain ⟨bk, h1, rfl⟩ := List.mem_map.mp h
    rw [List.length_map]
    exact (ok bk h1).few
  pl := fun ks h k hk => by
    obtain ⟨bk, h1, rfl⟩ := List.mem_map.mp h
    obtain ⟨kc, h2, rfl⟩ := List.mem_map.mp hk
    exact (ok bk h1).pl kc h2
/-! ### the number of new places -/
def gainN (kss : List (List (List Key))) (js : List Nat) (j : Nat) : Nat := (((kss[j]?).getD []).filter fun k => !hadB kss js k).length
theorem hadB_iff {kss : List (List (List Key))} {js : List Nat} {k : List Key} : hadB kss js k = true ↔ ∃ j ∈ js, inK kss j k = true := by
  unfold hadB
  rw [List.any_eq_true]
theorem gain_pos {kss : List (List (List Key))} {js : List Nat} (h : allB kss js = false) : ∃ j, j < kss.length ∧ 0 < gainN kss js j := by
  unfold allB at h
  rw [List.all_eq_false] at h
  obtain ⟨ks, h1, h2⟩ := h
  have h3 := Bool.eq_false_iff.mpr h2
  rw [List.all_eq_false] at h3
  obtain ⟨k, h4, h5⟩ := h3
  obtain ⟨j, hj, e⟩ := List.getElem_of_mem h1
  refine ⟨j, hj, ?_⟩
  unfold gainN
  rw [List.getElem?_eq_getElem hj, Option.getD_some, e]
  exact List.length_pos_of_mem (List.mem_filter.mpr ⟨h4, by rw [Bool.eq_false_iff.mpr h5]; rfl⟩)
theorem gain_new {kss : List (List (List Key))} {js : List Nat} {j : Nat} (h : 0 < gainN kss js j) : j ∉ js := fun hj => by
  unfold gainN at h
  obtain ⟨k, hk⟩ := List.exists_mem_of_length_pos h
  obtain ⟨h1, h2⟩ := List.mem_filter.mp hk
  have h3 : hadB kss js k = true := hadB_iff.mpr ⟨j, hj, hasK_iff.mpr h1⟩
  rw [h3] at h2
  cases h2
theorem nodup_len : ∀ {n : Nat} {js : List Nat}, js.Nodup → (∀ j ∈ js, j < n) → js.length ≤ n
  | 0, [], _, _ => Nat.le_refl _
  | 0, j :: js, _, h => absurd (h j List.mem_cons_self) (Nat.not_lt_zero _)
  | n + 1, js, nd, h => by
    by_cases e : n ∈ js
    · have h1 := nodup_len (n := n) (js := js.erase n) (nd.erase n) fun j hj => by
        have h2 := (List.Nodup.mem_erase_iff nd).mp hj
        have h3 := h j h2.2
        have h4 := h2.1
        omega
      rw [List.length_erase_of_mem e] at h1
      omega
    · have h1 := nodup_len (n := n) (js := js) nd fun j hj => by
        have h3 := h j hj
        have h4 : j ≠ n := fun z => e (z ▸ hj)
        omega
      omega
theorem HasNew.lock {H : Hp} {L d : Addr} {kss : List (List (List Key))} {od : Obj} {kvs : List (List Key × V)} (h : HasNew H L kss) (e : H d = some (.dT kvs)) : HasAt (upd H d (.frz od (.dT kvs))) L kss := by
  obtain ⟨ds, eL, pd⟩ := h
  refine ⟨ds, ?_, Paired.mapP pd fun b ks ⟨kvs', h1, h2⟩ => ⟨kvs', ?_, h2⟩⟩
  · rw [upd_ne (ne_of eL e (by intro z; cases z))]
    exact eL
  · by_cases z : b = d
    · subst z
      rw [e] at h1
      cases h1
      exact .inr ⟨od, upd_same⟩
    · refine .inl ?_
      rw [upd_ne z]
      exact h1
section
variable {P : Program} {w : World} {K : PySem.W.Frag} {mg : Str → Option Value} {base : Heap}
/-! ### touched -/
def spTouched : Sp := fun vs H Q _ => ∃ (L : Addr) (bks : List Bk), vs = [.ref L] ∧ BooksAt H L bks ∧ bks.length ≤ 40 ∧ (∀ bk ∈ bks, BookOk bk) ∧ ∀ H' p ks, Same H H' → AllP (keysOf bks) ks → PlAtT H' p ks → Q (.ref p) H'
theorem sc_touched : FnScope ["books"] ["books"] (defScope s_touched) := ⟨rfl, rfl, rfl, by decide +kernel, rfl, by decide +kernel, by decide +kernel⟩
theorem ok_touched (T : Tx w K mg) : Ok P w K mg base CX0 14 ("touched", none) ["books"] spTouched := by
  obtain ⟨_, G_ask_books, b_ask_books, kp_ask_books⟩ := ok_ask_books (P := P) (base := base) T
  obtain ⟨_, G_places_by_book, b_places_by_book, kp_places_by_book⟩ := ok_places_by_book (P := P) (base := base) T
  obtain ⟨_, G_all_places, b_all_places, kp_all_places⟩ := ok_all_places (P := P) (base := base) T
  refine mkOk T.d_touched sc_touched (fun vs H Q E h => ?_) (fun _ _ _ _ _ _ us hl => match us, hl with | [_], _ => rfl) (fun cdv A outer s H vs Q E hr h => ?_)
  · obtain ⟨L, bks, rfl, _⟩ := h
    rfl
  · obtain ⟨L, bks, rfl, hb, few, ok, q⟩ := h
    refine ⟨_, (pss_cons (ps_expr (pe_call G_ask_books (hr.mono (by omega)) (by rfl) T.g_ask_books kp_ask_books b_ask_books .nil pass0 (pa_cons (pv 0) pa_nil)))
      (pss_one (ps_ret (pe_tupleOf (by rfl) T.n_tuple (pe_call G_all_places (hr.mono (by omega)) (by rfl) T.g_all_places kp_all_places b_all_places .nil pass0 (pa_cons (pe_call G_places_by_book (hr.mono (by omega)) (by rfl) T.g_places_by_book kp_places_by_book b_places_by_book .nil pass0 (pa_cons (pv 0) pa_nil)) pa_nil)))))), ?_⟩
    refine ⟨_, rfl, L, bks, rfl, hb, few, ok, fun H1 s1 => ⟨_, rfl, L, bks, rfl, hb.mono s1, few, ok, fun H2 F s2 hn => ⟨F, keysOf bks, rfl, hn, kssOf few ok, fun H3 p ks s3 ap ⟨as, e, ek, em⟩ => .inl ⟨p, _, rfl, SqL.of e, fun p2 np => ?_⟩⟩⟩⟩
    exact q _ p2 ks (((s1.trans s2).trans s3).up np) ap ⟨as, upd_same, ek, fun x hx => upd_of (em x hx) np⟩
/-! ### are_indexes, is_keeping -/
def spAreIndexes : Sp := fun vs H Q _ => ∃ (a : Addr) (js : List Nat) (n : Nat), vs = [.ref a, .int n] ∧ H a = some (.tup (js.map nV)) ∧ js.Pairwise (· < ·) ∧ (∀ j ∈ js, j < n) ∧ ∀ H', Same H H' → Q (.bl true) H'
theorem sc_are_indexes : FnScope ["thing", "many", "least", "one"] ["thing", "many"] (defScope s_are_indexes) := ⟨rfl, rfl, rfl, by decide +kernel, rfl, by decide +kernel, by decide +kernel⟩
theorem ok_are_indexes (T : Tx w K mg) : Ok P w K mg base CX0 2 ("are_indexes", none) ["thing", "many"] spAreIndexes := by
  obtain ⟨_, G_is_row, b_is_row, kp_is_row⟩ := ok_is_row (P := P) (base := base) T
  obtain ⟨_, G_is_whole, b_is_whole, kp_is_whole⟩ := ok_is_whole (P := P) (base := base) T
  refine mkOk T.d_are_indexes sc_are_indexes (fun vs H Q E h => ?_) (fun _ _ _ _ _ _ us hl => match us, hl with | [_, _], _ => rfl) (fun cdv A outer s H vs Q E hr h => ?_)
  · obtain ⟨a, js, n, rfl, _⟩ := h
    rfl
  · obtain ⟨a, js, n, rfl, e, pw, lt, q⟩ := h
    refine ⟨_, (pss_cons (ps_if (pt_not (pt_val (pe_call G_is_row (hr.mono (by omega)) (by rfl) T.g_is_row kp_is_row b_is_row .nil pass0 (pa_cons (pv 0) pa_nil)))) (pss_one (ps_ret pe_bl)) pss_nil)
      (pss_cons (ps_set (i := 2) sc_are_indexes.nd (by rfl) (Or.inl rfl) pe_int)
      (pss_cons (ps_for PassesOwn.never rfl (pi_tup (pv 0)) (pg_name (i := 3) sc_are_indexes.nd (by rfl) (Or.inl rfl)) (pss_cons (ps_if (pt_not (pt_val (pe_call G_is_whole (hr.mono (by omega)) (by rfl) T.g_is_whole kp_is_whole b_is_whole .nil pass0 (pa_cons (pv 3) (pa_cons (pv 2) (pa_cons (pe_op op_sub (pv 1) pe_int) pa_nil)))))) (pss_one (ps_ret pe_bl)) pss_nil)
      (pss_one (ps_set (i := 2) sc_are_indexes.nd (by rfl) (Or.inl rfl) (pe_op op_add (pv 3) pe_int)))))
      (pss_one (ps_ret pe_bl))))), ?_⟩
    refine ⟨_, rfl, _, _, rfl, .inl ⟨rfl, a, rfl, .inr ⟨_, e⟩⟩, fun p o np => ⟨_, rfl, ?_⟩⟩
    have s1 : Same H (upd H p o) := (Same.refl H).up np
    refine ⟨_, rfl, a, rfl, ⟨_, SqT.of (s1 _ _ e)⟩, for_it (walk_tup (K := K) (a := a) (xs := js.map nV)) (fun i σ H' => ∃ (m : Int) (v : Option V), σ = [some (.ref a), some (.int n), some (.int m), v] ∧ Same H H' ∧ 0 ≤ m ∧ ∀ j, js[i]? = some j → m ≤ j)
      ⟨0, none, rfl, s1, Int.le_refl _, fun j _ => by omega⟩ (fun i σ H' _ ⟨_, _, _, g, _⟩ => SqT.of (g _ _ e)) ?_ ?_⟩
    · rintro i v σ H1 H2 hi ⟨m, v1, rfl, s2, m0, hm⟩ ⟨rfl, ey⟩
      obtain ⟨j, hj, rfl⟩ := map_get ey
      have lj := lt j (List.mem_of_getElem? hj)
      refine ⟨_, rfl, _, rfl, _, rfl, _, _, rfl, rfl, _, _, _, rfl, ?_⟩
      rw [decide_eq_true (hm j hj), decide_eq_true (show (j : Int) ≤ (n : Int) - 1 by omega)]
      refine ⟨_, rfl, ?_⟩
      refine ⟨_, rfl, _, _, rfl, rfl, (j : Int) + 1, _, rfl, s2, by omega, fun z hz => ?_⟩
      have h1 := get_lt hj
      have h2 := get_lt hz
      have h3 := List.pairwise_iff_getElem.mp pw i (i + 1) h1 h2 (by omega)
      rw [List.getElem?_eq_getElem h1] at hj
      rw [List.getElem?_eq_getElem h2] at hz
      have h4 := Option.some.inj hj
      have h5 := Option.some.inj hz
      omega
    · rintro σ H1 ⟨m, v, rfl, s2, _⟩
      exact q _ s2
def spIsKeeping : Sp := fun vs H Q _ => ∃ (L a : Addr) (bks : List Bk) (js : List Nat), vs = [.ref L, .ref a] ∧ BooksAt H L bks ∧ bks.length ≤ 40 ∧ (∀ bk ∈ bks, BookOk bk) ∧ H a = some (.tup (js.map nV)) ∧ js.Pairwise (· < ·) ∧ (∀ j ∈ js, j < bks.length) ∧ js.length ≤ 1000 ∧ allB (keysOf bks) js = true ∧ ∀ H', Same H H' → Q (.bl true) H'
theorem sc_is_keeping : FnScope ["books", "kept"] ["books", "kept"] (defScope s_is_keeping) := ⟨rfl, rfl, rfl, by decide +kernel, rfl, by decide +kernel, by decide +kernel⟩
theorem ok_is_keeping (T : Tx w K mg) : Ok P w K mg base CX0 14 ("is_keeping", none) ["books", "kept"] spIsKeeping := by
  obtain ⟨_, G_ask_books, b_ask_books, kp_ask_books⟩ := ok_ask_books (P := P) (base := base) T
  obtain ⟨_, G_places_by_book, b_places_by_book, kp_places_by_book⟩ := ok_places_by_book (P := P) (base := base) T
  obtain ⟨_, G_are_indexes, b_are_indexes, kp_are_indexes⟩ := ok_are_indexes (P := P) (base := base) T
  obtain ⟨_, G_have_all, b_have_all, kp_have_all⟩ := ok_have_all (P := P) (base := base) T
  refine mkOk T.d_is_keeping sc_is_keeping (fun vs H Q E h => ?_) (fun _ _ _ _ _ _ us hl => match us, hl with | [_, _], _ => rfl) (fun cdv A outer s H vs Q E hr h => ?_)
  · obtain ⟨L, a, bks, js, rfl, _⟩ := h
    rfl
  · obtain ⟨L, a, bks, js, rfl, hb, few, ok, ea, pw, lt, jl, al, q⟩ := h
    refine ⟨_, (pss_cons (ps_expr (pe_call G_ask_books (hr.mono (by omega)) (by rfl) T.g_ask_books kp_ask_books b_ask_books .nil pass0 (pa_cons (pv 0) pa_nil)))
      (pss_one (ps_ret (pe_and (pe_call G_are_indexes (hr.mono (by omega)) (by rfl) T.g_are_indexes kp_are_indexes b_are_indexes .nil pass0 (pa_cons (pv 1) (pa_cons (pe_callB call_len_seq (by rfl) T.n_len bt_len (pa_cons (pv 0) pa_nil)) pa_nil))) (pe_one (pe_call G_have_all (hr.mono (by omega)) (by rfl) T.g_have_all kp_have_all b_have_all .nil pass0 (pa_cons (pe_call G_places_by_book (hr.mono (by omega)) (by rfl) T.g_places_by_book kp_places_by_book b_places_by_book .nil pass0 (pa_cons (pv 0) pa_nil)) (pa_cons (pv 1) pa_nil)))))))), ?_⟩
    have elen : ∀ H1, Same H H1 → ∃ Bs : List Addr, H1 L = some (.lst (Bs.map V.ref)) ∧ Bs.length = bks.length := fun H1 s1 => by
      obtain ⟨Bs, e, pb⟩ := hb.mono s1
      exact ⟨Bs, e, pb.length⟩
    refine ⟨_, rfl, L, bks, rfl, hb, few, ok, fun H1 s1 => ?_⟩
    obtain ⟨Bs, eL, bl⟩ := elen H1 s1
    refine ⟨_, rfl, _, rfl, L, _, rfl, .inl (SqL.of eL), a, js, bks.length, by rw [List.length_map, bl]; rfl, s1 _ _ ea, pw, lt, fun H2 s2 => ?_⟩
    have s3 := s1.trans s2
    refine ⟨_, rfl, _, rfl, L, bks, rfl, hb.mono s3, few, ok, fun H4 F s4 hn => ⟨_, rfl, ?_⟩⟩
    refine ⟨F, .ref a, keysOf bks, js, rfl, hn, kssOf few ok, ⟨a, rfl, .inr (s4 _ _ (s3 _ _ ea))⟩, fun j hj => by rw [keysOf, List.length_map]; exact lt j hj, jl, fun H5 s5 => ?_⟩
    rw [al]
    exact q _ ((s3.trans s4).trans s5)
/-! ### gain, picked -/
def spGain : Sp := fun vs H Q _ => ∃ (L : Addr) (kv : V) (kss : List (List (List Key))) (js : List Nat) (j : Nat), vs = [.ref L, kv, nV j] ∧ HasNew H L kss ∧ KssOk kss ∧ KeptAt H kv js ∧ (∀ j ∈ js, j < kss.length) ∧ js.length ≤ 1000 ∧ j < kss.length ∧ ∀ H', Same H H' → Q (nV (gainN kss js j)) H'
theorem sc_gain : FnScope ["has", "kept", "at", "place"] ["has", "kept", "at"] (defScope s_gain) := ⟨rfl, rfl, rfl, by decide +kernel, rfl, by decide +kernel, by decide +kernel⟩
theorem ok_gain (T : Tx w K mg) : Ok P w K mg base CX0 2 ("gain", none) ["has", "kept", "at"] spGain := by
  obtain ⟨_, G_is_had, b_is_had, kp_is_had⟩ := ok_is_had (P := P) (base := base) T
  refine mkOk T.d_gain sc_gain (fun vs H Q E h => ?_) (fun _ _ _ _ _ _ us hl => match us, hl with | [_, _, _], _ => rfl) (fun cdv A outer s H vs Q E hr h => ?_)
  · obtain ⟨L, kv, kss, js, j, rfl, _⟩ := h
    rfl
  · obtain ⟨L, kv, kss, js, j, rfl, hn, ok, kp, lt, few, jl, q⟩ := h
    have line := sizeLine_eq
    refine ⟨_, (pss_one (ps_ret (pe_callB call_len_seq (by rfl) T.n_len bt_len (pa_cons (pe_lock (pe_lc (own := [("place", 3)]) (g := gName 3) rfl sc_gain.nd (pi_keys (pe_ix ix_list (pv 0) (pv 2) (fun _ _ => rfl))) (blkOk_by (own := [("place", 3)]) (N := ["has", "kept", "at", "place"]) (sc := defScope s_gain) (by decide +kernel)) (fun _ _ _ _ _ => (pg_name (i := 3) sc_gain.nd (by rfl) (Or.inl rfl))) (fun _ _ _ _ _ => (pts_one (pt_not (pt_val (pe_call G_is_had (hr.mono (by omega)) (by rfl) T.g_is_had kp_is_had b_is_had .nil pass0 (pa_cons (pv 0) (pa_cons (pv 1) (pa_cons (pv 3) pa_nil)))))))) (fun _ _ _ _ _ => (pv 3)))) pa_nil)))), ?_⟩
    obtain ⟨ds, eL, pd⟩ := id hn
    obtain ⟨ks, hks⟩ : ∃ ks, kss[j]? = some ks := ⟨_, List.getElem?_eq_getElem jl⟩
    obtain ⟨d, hd, kvs, ed, ek⟩ := DX.pget pd hks
    have kl : kvs.length ≤ 4000 := by
      have := ok.each ks (List.mem_of_getElem? hks)
      rw [← ek, List.length_map] at this
      exact this
    refine ⟨d, _, ed, trivial, fun od => ?_⟩
    have eL' : upd H d (.frz od (.dT kvs)) L = some (.lst (ds.map V.ref)) := by
      rw [upd_ne (ne_of eL ed (by intro z; cases z))]
      exact eL
    have kp' : KeptAt (upd H d (.frz od (.dT kvs))) kv js := by
      obtain ⟨a, e1, e2 | e2⟩ := kp
      · refine ⟨a, e1, .inl ?_⟩
        rw [upd_ne (ne_of e2 ed (by intro z; cases z))]
        exact e2
      · refine ⟨a, e1, .inr ?_⟩
        rw [upd_ne (ne_of e2 ed (by intro z; cases z))]
        exact e2
    refine ⟨_, rfl, _, rfl, L, _, j, _, rfl, rfl, SqL.of eL', at_of (j := j) rfl (by rw [List.getElem?_map, hd]; rfl), d, od, rfl, .inr ⟨kvs, upd_same, fun D nD => ?_⟩⟩
    refine lc_it (walk_keysT (d := d) (o := od) (kvs := kvs)) (GP (upd H d (.frz od (.dT kvs))) D fun i acc _ => acc.length = ((ks.take i).filter fun k => !hadB kss js k).length) (GP.start nD rfl) (fun i H' _ g => g.1 _ _ upd_same) ?_ ?_
    · rintro i v H1 H2 hi ⟨g1, acc, g2, g3⟩ ⟨rfl, k, v', p, hk, rfl, ep⟩
      have hk' : ks[i]? = some k := by
        rw [← ek, List.getElem?_map, hk]
        rfl
      refine ⟨rfl, _, rfl, _, rfl, _, rfl, L, p, kv, kss, js, k, rfl, (hn.lock ed).mono g1, kp'.mono g1, lt, few, ep, fun H4 s4 => ⟨_, rfl, ?_⟩⟩
      cases z : hadB kss js k with
      | true =>
        refine ifF rfl (GP.skip g1 g2 s4 ?_)
        show _ = _
        rw [filt_next hk', if_neg (by rw [z]; exact Bool.false_ne_true), g3]
      | false =>
        refine ifT rfl ⟨_, rfl, GP.push nD g1 g2 s4 ?_ ?_⟩
        · rw [g3]
          have h1 := List.length_filter_le (fun q => !hadB kss js q) (ks.take i)
          rw [List.length_take] at h1
          omega
        · show _ = _
          rw [filt_next hk', if_pos (by rw [z]; rfl), List.length_append, List.length_append, g3] <;> rfl
    · rintro H2 ⟨g1, acc, g2, g3⟩
      refine ⟨g1 _ _ upd_same, D, _, rfl, .inl (SqL.of (xs := acc) ?_), ?_⟩
      · rw [upd_ne (fun z => by rw [z, upd_same] at nD; cases nD)]
        exact g2
      · have e1 : acc.length = gainN kss js j := by
          rw [g3, take_all (xs := ks) (by rw [← ek, List.length_map]; exact Nat.le_refl _)]
          unfold gainN
          rw [hks] <;> rfl
        rw [e1]
        refine q _ fun b o eb => ?_
        by_cases z : b = d
        · subst z
          rw [upd_same, ← ed, eb]
        · rw [upd_ne z]
          refine g1 b o ?_
          rw [upd_ne z]
          exact eb
end
end Ta
namespace Ta
open PySem PySem.Spec PyProof.Rows L2
theorem first_at {m : Int} : ∀ {ns : List Int}, m ∈ ns → ∃ j, ns[j]? = some m ∧ ∀ (i : Nat) (z : Int), i < j → ns[i]? = some z → z ≠ m
  | n :: ns, h => by
    by_cases e : n = m
    · exact ⟨0, by rw [e]; rfl, fun i z hi => absurd hi (Nat.not_lt_zero i)⟩
    · obtain ⟨j, h1, h2⟩ := first_at (ns := ns) ((List.mem_cons.mp h).resolve_left fun z => e z.symm)
      refine ⟨j + 1, h1, fun i z hi hz => ?_⟩
      cases i with
      | zero =>
        rw [← Option.some.inj hz]
        exact e
      | succ i => exact h2 i z (by omega) hz
theorem gains_get {kss : List (List (List Key))} {js : List Nat} {j : Nat} {m : Int} (h : ((List.range kss.length).map fun i : Nat => (gainN kss js i : Int))[j]? = some m) : j < kss.length ∧ m = (gainN kss js j : Int) := by
  have hl := get_lt h
  rw [List.length_map, List.length_range] at hl
  refine ⟨hl, ?_⟩
  rw [List.getElem?_map, List.getElem?_range hl] at h
  exact (Option.some.inj h).symm
def lenAt (F : Addr) (H : Hp) : Nat := match H F with
  | some (.lst xs) => xs.length
  | _ => 0
theorem lenAt_of {F : Addr} {H : Hp} {xs : List V} (e : H F = some (.lst xs)) : lenAt F H = xs.length := by
  unfold lenAt
  rw [e]
theorem flat_ints : ∀ xs : List Int, (xs.map V.int).all flatV = true
  | [] => rfl
  | x :: xs => by
    rw [List.map_cons, List.all_cons, flat_ints xs] <;> rfl
theorem eqV_int (m : Int) : eqV (.int m) (.int m) = true := by simp [eqV]
theorem eqV_ne {z m : Int} (h : z ≠ m) : eqV (.int z) (.int m) = false := by simp [eqV, h]
theorem nVs (js : List Nat) : js.map nV = (js.map fun j : Nat => (j : Int)).map V.int := by rw [List.map_map] <;> rfl
theorem nV_ne {i j : Nat} : (decide (V.int (i : Int) = V.int (j : Int))) = decide (i = j) := by
  by_cases e : i = j
  · rw [decide_eq_true e, decide_eq_true (by rw [e])]
  · rw [decide_eq_false e, decide_eq_false fun z => e (by have := V.int.inj z; omega)]
/-- whole numbers from 0 sorted -/
theorem nat_sorted {ns : List Int} {js : List Nat} (p : ns.Perm (js.map fun j : Nat => (j : Int))) (pw : ns.Pairwise (· ≤ ·)) (nd : js.Nodup) : ∃ ks : List Nat, ns = ks.map (fun j : Nat => (j : Int)) ∧ ks.Pairwise (· < ·) ∧ ∀ k, k ∈ ks ↔ k ∈ js := by
  have h0 : ∀ n ∈ ns, ∃ j ∈ js, n = (j : Int) := fun n hn => by
    obtain ⟨j, h1, h2⟩ := List.mem_map.mp (p.mem_iff.mp hn)
    exact ⟨j, h1, h2.symm⟩
  have e : ns = (ns.map Int.toNat).map fun j : Nat => (j : Int) := by
    rw [List.map_map]
    refine (List.map_id ns).symm.trans (List.map_congr_left fun n hn => ?_)
    obtain ⟨j, _, rfl⟩ := h0 n hn
    exact rfl
  have nd2 : (js.map fun j : Nat => (j : Int)).Nodup := List.pairwise_map.mpr (nd.imp fun h z => h (by omega))
  have nd1 : ns.Nodup := p.nodup_iff.mpr nd2
  refine ⟨ns.map Int.toNat, e, ?_, fun k => ?_⟩
  · refine List.pairwise_map.mpr ((pw.and nd1).imp_of_mem fun {a b} ha hb h => ?_)
    obtain ⟨i, _, rfl⟩ := h0 a ha
    obtain ⟨j, _, rfl⟩ := h0 b hb
    obtain ⟨h1, h2⟩ := h
    show i < j
    omega
  · constructor
    · intro h
      obtain ⟨n, h1, rfl⟩ := List.mem_map.mp h
      obtain ⟨j, h2, rfl⟩ := h0 n h1
      exact h2
    · intro h
      exact List.mem_map.mpr ⟨(k : Int), p.mem_iff.mpr (List.mem_map.mpr ⟨k, h, rfl⟩), rfl⟩
theorem hadB_congr {kss : List (List (List Key))} {is js : List Nat} (h : ∀ j, j ∈ is ↔ j ∈ js) : allB kss is = allB kss js := by
  have e : ∀ k, hadB kss is k = hadB kss js k := fun k => by
    refine Bool.eq_iff_iff.mpr ?_
    rw [hadB_iff, hadB_iff]
    exact ⟨fun ⟨j, h1, h2⟩ => ⟨j, (h j).mp h1, h2⟩, fun ⟨j, h1, h2⟩ => ⟨j, (h j).mpr h1, h2⟩⟩
  unfold allB
  simp only [e]
section
variable {P : Program} {w : World} {K : PySem.W.Frag} {mg : Str → Option Value} {base : Heap}
def spPicked : Sp := fun vs H Q _ => ∃ (L : Addr) (kss : List (List (List Key))), vs = [.ref L] ∧ HasNew H L kss ∧ KssOk kss ∧ ∀ H' F js, Same H H' → H' F = some (.lst (js.map nV)) → js.Nodup → (∀ j ∈ js, j < kss.length) → allB kss js = true → Q (.ref F) H'
theorem sc_picked : FnScope ["has", "found", "gains", "at"] ["has"] (defScope s_picked) := ⟨rfl, rfl, rfl, by decide +kernel, rfl, by decide +kernel, by decide +kernel⟩
theorem ok_picked (T : Tx w K mg) : Ok P w K mg base CX0 3 ("picked", none) ["has"] spPicked := by
  obtain ⟨_, G_have_all, b_have_all, kp_have_all⟩ := ok_have_all (P := P) (base := base) T
  obtain ⟨_, G_gain, b_gain, kp_gain⟩ := ok_gain (P := P) (base := base) T
  refine mkOk T.d_picked sc_picked (fun vs H Q E h => ?_) (fun _ _ _ _ _ _ us hl => match us, hl with | [_], _ => rfl) (fun cdv A outer s H vs Q E hr h => ?_)
  · obtain ⟨L, kss, rfl, _⟩ := h
    rfl
  · obtain ⟨L, kss, rfl, hn, ok, q⟩ := h
    have line := sizeLine_eq
    have fw := ok.few
    refine ⟨_, (pss_cons (ps_set (i := 1) sc_picked.nd (by rfl) (Or.inr rfl) (pe_lst pa_nil))
      (pss_cons (ps_while PassesOwn.never (pt_not (pt_val (pe_call G_have_all (hr.mono (by omega)) (by rfl) T.g_have_all kp_have_all b_have_all .nil pass0 (pa_cons (pv 0) (pa_cons (pv 1) pa_nil))))) (pss_cons (ps_setLc (own := [("at", 3)]) (g := gName 3) (tt := tYes) (i := 2) rfl sc_picked.nd rfl rfl (sw_true rfl rfl rfl (by decide +kernel)) (pi_range1 (by rfl) T.n_range (pa_cons (pe_callB call_len_seq (by rfl) T.n_len bt_len (pa_cons (pv 0) pa_nil)) pa_nil)) (blkOk_by (own := [("at", 3)]) (N := ["has", "found", "gains", "at"]) (sc := defScope s_picked) (by decide +kernel)) (fun _ _ _ _ _ => (pg_name (i := 3) sc_picked.nd (by rfl) (Or.inl rfl))) (fun _ _ _ _ _ => pts_nil) (fun _ _ _ _ _ => (pe_call G_gain (hr.mono (by omega)) (by rfl) T.g_gain kp_gain b_gain .nil pass0 (pa_cons (pv 0) (pa_cons (pv 1) (pa_cons (pv 3) pa_nil))))))
      (pss_one (ps_expr (pe_bm PySem.F.plainAttrs_list PySem.F.slot_list_append PySem.F.type_list_append mt_append (pv 1) (pa_cons (pe_bm PySem.F.plainAttrs_list PySem.F.slot_list_index PySem.F.type_list_index mt_index (pv 2) (pa_cons (pe_callB (cr_max rfl) (by rfl) T.n_max bt_max (pa_cons (pv 2) pa_nil)) pa_nil)) pa_nil))))))
      (pss_one (ps_ret (pv 1))))), ?_⟩
    refine ⟨Nat.zero_le _, fun F nF => ?_⟩
    refine while_by (fun σ H' => ∃ (js : List Nat) (v1 v2 : Option V), σ = [some (.ref L), some (.ref F), v1, v2] ∧ Same H H' ∧ H' F = some (.lst (js.map nV)) ∧ js.Nodup ∧ ∀ j ∈ js, j < kss.length) (fun _ H' => kss.length - lenAt F H')
      ⟨[], none, none, rfl, (Same.refl H).up nF, upd_same, List.nodup_nil, fun j hj => nomatch hj⟩ ?_ ?_
    · rintro σ H1 ⟨js, v1, v2, rfl, s1, eF, nd, lt⟩
      have jl := nodup_len nd lt
      refine ⟨_, rfl, _, rfl, L, .ref F, kss, js, rfl, hn.mono s1, ok, ⟨F, rfl, .inl eF⟩, lt, by omega, fun H2 s2 => ⟨_, rfl, ?_⟩⟩
      cases al : allB kss js with
      | true =>
        refine ifF rfl ?_
        exact ⟨_, rfl, q H2 F js (s1.trans s2) (s2 _ _ eF) nd lt al⟩
      | false =>
        refine ifT rfl ?_
        obtain ⟨ds, eL, pd⟩ := hn.mono (s1.trans s2)
        have dl := pd.length
        refine ⟨_, rfl, L, _, rfl, .inl (SqL.of eL), _, rfl, by rw [List.length_map]; omega, by rw [List.length_map]; omega, ?_⟩
        intro D nD
        have e9 : (((ds.map V.ref).length : Nat) : Int).toNat = kss.length := by rw [List.length_map, dl] <;> rfl
        rw [e9]
        refine lc_it (walk_range (lo := 0) (n := kss.length)) (GP H2 D fun i acc _ => acc = (((List.range kss.length).map fun i : Nat => (gainN kss js i : Int)).take i).map V.int) (GP.start nD rfl) (fun i H' _ g => trivial) ?_ ?_
        · rintro i v H3 H4 hi ⟨g1, acc, g2, g3⟩ ⟨rfl, rfl⟩
          have s3 := (s1.trans s2).trans g1
          refine ⟨rfl, _, rfl, _, rfl, _, rfl, L, .ref F, kss, js, i, (by show [V.ref L, V.ref F, V.int (0 + (i : Int))] = _; rw [Int.zero_add]), hn.mono s3, ok, ⟨F, rfl, .inl (g1 _ _ (s2 _ _ eF))⟩, lt, by omega, hi, fun H5 s5 => ?_⟩
          refine GP.push nD g1 g2 s5 ?_ ?_
          · rw [g3, List.length_map, List.length_take]
            omega
          · have e2 : ((List.range kss.length).map fun i : Nat => (gainN kss js i : Int))[i]? = some (gainN kss js i : Int) := by rw [List.getElem?_map, List.getElem?_range hi] <;> rfl
            show _ = _
            rw [List.take_add_one, e2, List.map_append, g3] <;> rfl
        · rintro H3 ⟨g1, acc, g2, g3⟩
          rw [take_all (by rw [List.length_map, List.length_range]; exact Nat.le_refl _)] at g3
          obtain ⟨j0, hj0, gp⟩ := gain_pos al
          have ne : 0 < ((List.range kss.length).map fun i : Nat => (gainN kss js i : Int)).length := by
            rw [List.length_map, List.length_range]
            omega
          have eF3 := g1 _ _ (s2 _ _ eF)
          have nDF : D ≠ F := fun z => by rw [z, s2 _ _ eF] at nD; cases nD
          refine ⟨_, rfl, .inl ⟨rfl, _, Or.inl (Or.inl eF3)⟩, _, rfl, .inl ⟨rfl, _, Or.inl (Or.inl g2)⟩, _, rfl, D, _, rfl, SqL.of (by rw [g2, g3]), ne, fun m hm hmax => ?_⟩
          obtain ⟨j, hj, hno⟩ := first_at hm
          obtain ⟨jl2, ej⟩ := gains_get hj
          have gp2 : 0 < gainN kss js j := by
            have h1 := hmax _ (List.mem_map.mpr ⟨j0, List.mem_range.mpr hj0, rfl⟩)
            omega
          have jn := gain_new gp2
          refine ⟨D, _, .int m, j, .int m, rfl, rfl, SqL.of (by rw [g2, g3]), rfl, flat_ints _, by rw [List.getElem?_map, hj]; rfl, eqV_int m, fun i z hi hz => ?_, ?_⟩
          · obtain ⟨z', hz', rfl⟩ := map_get hz
            exact eqV_ne (hno i z' hi hz')
          · refine ⟨F, _, _, rfl, rfl, eF3, by rw [List.length_map]; omega, ?_⟩
            have s3 := (s1.trans s2).trans g1
            refine ⟨⟨js ++ [j], _, _, rfl, s3.at0 nF, ?_, ?_, ?_⟩, ?_⟩
            · rw [upd_same, List.map_append] <;> rfl
            · refine List.nodup_append.mpr ⟨nd, List.nodup_cons.mpr ⟨List.not_mem_nil, List.nodup_nil⟩, fun a ha b hb e => jn ?_⟩
              rw [← List.mem_singleton.mp hb, ← e]
              exact ha
            · intro i hi
              rcases List.mem_append.mp hi with hi | hi
              · exact lt i hi
              · rw [List.mem_singleton.mp hi]
                exact jl2
            · have jl3 : js.length < kss.length := by
                have := nodup_len (n := kss.length) (js := js ++ [j]) (List.nodup_append.mpr ⟨nd, List.nodup_cons.mpr ⟨List.not_mem_nil, List.nodup_nil⟩, fun a ha b hb e => jn (by rw [← List.mem_singleton.mp hb, ← e]; exact ha)⟩) (fun i hi => by
                  rcases List.mem_append.mp hi with hi | hi
                  · exact lt i hi
                  · rw [List.mem_singleton.mp hi]
                    exact jl2)
                rw [List.length_append] at this
                exact this
              rw [lenAt_of eF, lenAt_of (upd_same : upd H3 F _ F = _), List.length_append, List.length_map]
              show kss.length - (js.length + 1) < kss.length - js.length
              omega
    · rintro σ H1 Q1 Q2 hm ⟨v1, e1, v2, e2, L', kv, kss', js, e, hn', ok', kp, lt, few, q'⟩
      exact ⟨v1, e1, v2, e2, L', kv, kss', js, e, hn', ok', kp, lt, few, fun H' s' => by
        obtain ⟨c, ec, r⟩ := q' H' s'
        exact ⟨c, ec, hm _ _ r⟩⟩
def FewJs (kss : List (List (List Key))) (js : List Nat) : Prop := js.Nodup ∧ (∀ j ∈ js, j < kss.length) ∧ allB kss js = true
def spFewOf : Sp := fun vs H Q _ => ∃ (L : Addr) (kss : List (List (List Key))), vs = [.ref L] ∧ HasNew H L kss ∧ KssOk kss ∧ ∀ H' F js, Same H H' → H' F = some (.tup (js.map nV)) → js.Pairwise (· < ·) → (∀ j ∈ js, j < kss.length) → allB kss js = true → Q (.ref F) H'
theorem sc_few_of : FnScope ["has", "kept", "at", "rest", "one"] ["has"] (defScope s_few_of) := ⟨rfl, rfl, rfl, by decide +kernel, rfl, by decide +kernel, by decide +kernel⟩
theorem ok_few_of (T : Tx w K mg) : Ok P w K mg base CX0 4 ("few_of", none) ["has"] spFewOf := by
  obtain ⟨_, G_have_all, b_have_all, kp_have_all⟩ := ok_have_all (P := P) (base := base) T
  obtain ⟨_, G_picked, b_picked, kp_picked⟩ := ok_picked (P := P) (base := base) T
  refine mkOk T.d_few_of sc_few_of (fun vs H Q E h => ?_) (fun _ _ _ _ _ _ us hl => match us, hl with | [_], _ => rfl) (fun cdv A outer s H vs Q E hr h => ?_)
  · obtain ⟨L, kss, rfl, _⟩ := h
    rfl
  · obtain ⟨L, kss, rfl, hn, ok, q⟩ := h
    have line := sizeLine_eq
    have fw := ok.few
    refine ⟨_, (pss_cons (ps_set (i := 1) sc_few_of.nd (by rfl) (Or.inl rfl) (pe_call G_picked (hr.mono (by omega)) (by rfl) T.g_picked kp_picked b_picked .nil pass0 (pa_cons (pv 0) pa_nil)))
      (pss_cons (ps_for PassesOwn.never rfl (pi_list (pe_listRev rfl (by rfl) T.n_list (by rfl) T.n_reversed (pv 1))) (pg_name (i := 2) sc_few_of.nd (by rfl) (Or.inr rfl)) (pss_cons (ps_setLc (own := [("one", 4)]) (g := gName 4) (i := 3) rfl sc_few_of.nd rfl rfl (sw_true rfl rfl rfl (by decide +kernel)) (pi_list (pv 1)) (blkOk_by (own := [("one", 4)]) (N := ["has", "kept", "at", "rest", "one"]) (sc := defScope s_few_of) (by decide +kernel)) (fun _ _ _ _ _ => (pg_name (i := 4) sc_few_of.nd (by rfl) (Or.inl rfl))) (fun _ _ _ _ _ => (pts_one (pt_cmpR op_ne (pv 4) (pv 2) (nomark _)))) (fun _ _ _ _ _ => (pv 4)))
      (pss_one (ps_if (pt_val (pe_call G_have_all (hr.mono (by omega)) (by rfl) T.g_have_all kp_have_all b_have_all .nil pass0 (pa_cons (pv 0) (pa_cons (pv 3) pa_nil)))) (pss_one (ps_set (i := 1) sc_few_of.nd (by rfl) (Or.inl rfl) (pv 3))) pss_nil))))
      (pss_one (ps_ret (pe_tupleOf (by rfl) T.n_tuple (pe_callB cr_sorted (by rfl) T.n_sorted bt_sorted (pa_cons (pv 1) pa_nil))))))), ?_⟩
    refine ⟨_, rfl, L, kss, rfl, hn, ok, fun H1 F js s1 eF nd lt al => ?_⟩
    refine ⟨_, rfl, F, _, rfl, SqL.of eF, fun G nG => ⟨G, rfl, ⟨_, SqL.of upd_same⟩, for_it (walk_list (K := K) (a := G) (xs := (js.map nV).reverse))
      (fun i σ H' => ∃ (A : Addr) (ks : List Nat) (v1 v2 : Option V), σ = [some (.ref L), some (.ref A), v1, v2, none] ∧ Same (upd H1 G (.lst (js.map nV).reverse)) H' ∧ H' A = some (.lst (ks.map nV)) ∧ FewJs kss ks)
      ⟨F, js, none, none, rfl, Same.refl _, upd_of eF nG, nd, lt, al⟩ (fun i σ H' _ ⟨_, _, _, _, _, g, _⟩ => SqL.of (g _ _ upd_same)) ?_ ?_⟩⟩
    · rintro i v σ H2 H3 hi ⟨B, ks, v1, v2, rfl, s2, eB, nd, lt, al⟩ ⟨rfl, ey⟩
      have kl := nodup_len nd lt
      have sA := (s1.up nG).trans s2
      obtain ⟨j, hj, rfl⟩ : ∃ j : Nat, j ∈ js ∧ v = nV j := by
        obtain ⟨j, h1, h2⟩ := List.mem_map.mp (List.mem_reverse.mp (List.mem_of_getElem? ey))
        exact ⟨j, h1, h2.symm⟩
      refine ⟨_, rfl, B, rfl, ⟨_, SqL.of eB⟩, fun D nD => lc_it (walk_list (K := K) (a := B) (xs := ks.map nV)) (GP H3 D fun i acc _ => acc = ((ks.take i).filter fun k => !decide (k = j)).map nV) (GP.start nD rfl) (fun i H' _ g => SqL.of (g.1 _ _ eB)) ?_ ?_⟩
      · rintro i2 y H4 H5 hi2 ⟨g1, acc, g2, g3⟩ ⟨rfl, ey2⟩
        obtain ⟨k, hk, rfl⟩ := map_get ey2
        refine ⟨rfl, _, rfl, _, rfl, rfl, _, rfl, ?_⟩
        rw [nV_ne]
        cases z : decide (k = j) with
        | true =>
          refine ifF rfl (GP.skip g1 g2 (Same.refl _) ?_)
          show _ = _
          rw [filt_next hk, if_neg (by rw [z]; exact Bool.false_ne_true), g3]
        | false =>
          refine ifT rfl ⟨_, rfl, GP.push nD g1 g2 (Same.refl _) ?_ ?_⟩
          · rw [g3, List.length_map]
            have h1 := List.length_filter_le (fun k => !decide (k = j)) (ks.take i2)
            rw [List.length_take] at h1
            omega
          · show _ = _
            rw [filt_next hk, if_pos (by rw [z]; rfl), List.map_append, g3] <;> rfl
      · rintro H4 ⟨g1, acc, g2, g3⟩
        rw [List.length_map, take_all (Nat.le_refl _)] at g3
        subst g3
        have s4 := sA.trans g1
        refine ⟨_, rfl, _, rfl, L, .ref D, kss, ks.filter (fun k => !decide (k = j)), rfl, hn.mono s4, ok, ⟨D, rfl, .inl g2⟩, fun i h => lt i ((List.mem_filter.mp h).1), ?_, fun H5 s5 => ⟨_, rfl, ?_⟩⟩
        · have h1 := List.length_filter_le (fun k => !decide (k = j)) ks
          omega
        · cases z : allB kss (ks.filter fun k => !decide (k = j)) with
          | true =>
            refine ifT rfl ⟨_, rfl, D, _, _, _, rfl, (s2.trans g1).trans s5, s5 _ _ g2, nd.filter _, fun i h => lt i ((List.mem_filter.mp h).1), z⟩
          | false =>
            exact ifF rfl ⟨B, ks, _, _, rfl, (s2.trans g1).trans s5, s5 _ _ (g1 _ _ eB), nd, lt, al⟩
    · rintro σ H2 ⟨B, ks, v1, v2, rfl, s2, eB, nd, lt, al⟩
      have kl := nodup_len nd lt
      refine ⟨_, rfl, B, _, rfl, SqL.of (by rw [eB, nVs]), by rw [List.length_map]; omega, fun ns p pm pw np => ?_⟩
      obtain ⟨ms, rfl, pw2, hm⟩ := nat_sorted pm pw nd
      refine .inl ⟨p, _, rfl, SqL.of upd_same, fun p2 np2 => ?_⟩
      refine q _ p2 ms ((((s1.up nG).trans s2).up np).up np2) ?_ pw2 (fun j hj => lt j ((hm j).mp hj)) ?_
      · rw [upd_same, nVs]
      · rw [hadB_congr hm, al]
def spFewKept : Sp := fun vs H Q _ => ∃ (L : Addr) (bks : List Bk), vs = [.ref L] ∧ BooksAt H L bks ∧ bks.length ≤ 40 ∧ (∀ bk ∈ bks, BookOk bk) ∧ ∀ H' F js, Same H H' → H' F = some (.tup (js.map nV)) → js.Pairwise (· < ·) → (∀ j ∈ js, j < bks.length) → allB (keysOf bks) js = true → Q (.ref F) H'
theorem sc_few_kept : FnScope ["books"] ["books"] (defScope s_few_kept) := ⟨rfl, rfl, rfl, by decide +kernel, rfl, by decide +kernel, by decide +kernel⟩
theorem ok_few_kept (T : Tx w K mg) : Ok P w K mg base CX0 14 ("few_kept", none) ["books"] spFewKept := by
  obtain ⟨_, G_ask_books, b_ask_books, kp_ask_books⟩ := ok_ask_books (P := P) (base := base) T
  obtain ⟨_, G_places_by_book, b_places_by_book, kp_places_by_book⟩ := ok_places_by_book (P := P) (base := base) T
  obtain ⟨_, G_few_of, b_few_of, kp_few_of⟩ := ok_few_of (P := P) (base := base) T
  refine mkOk T.d_few_kept sc_few_kept (fun vs H Q E h => ?_) (fun _ _ _ _ _ _ us hl => match us, hl with | [_], _ => rfl) (fun cdv A outer s H vs Q E hr h => ?_)
  · obtain ⟨L, bks, rfl, _⟩ := h
    rfl
  · obtain ⟨L, bks, rfl, hb, few, ok, q⟩ := h
    refine ⟨_, (pss_cons (ps_expr (pe_call G_ask_books (hr.mono (by omega)) (by rfl) T.g_ask_books kp_ask_books b_ask_books .nil pass0 (pa_cons (pv 0) pa_nil)))
      (pss_one (ps_ret (pe_call G_few_of (hr.mono (by omega)) (by rfl) T.g_few_of kp_few_of b_few_of .nil pass0 (pa_cons (pe_call G_places_by_book (hr.mono (by omega)) (by rfl) T.g_places_by_book kp_places_by_book b_places_by_book .nil pass0 (pa_cons (pv 0) pa_nil)) pa_nil))))), ?_⟩
    refine ⟨_, rfl, L, bks, rfl, hb, few, ok, fun H1 s1 => ⟨_, rfl, L, bks, rfl, hb.mono s1, few, ok, fun H2 F s2 hn => ⟨F, keysOf bks, rfl, hn, kssOf few ok, fun H3 G js s3 eG pw lt al => ?_⟩⟩⟩
    refine q _ G js ((s1.trans s2).trans s3) eG pw (fun j hj => ?_) al
    have := lt j hj
    rwa [keysOf, List.length_map] at this
end
end Ta
namespace Ta
open PySem PySem.Spec PyProof.Rows L2 DX
theorem hu2_of {A : Around} {k : Nat} (hr : Room k A) : A.units + 2 < cLine := Nat.lt_of_le_of_lt (Nat.add_le_add_left (by decide : 2 ≤ 64) _) hr.units
/-! ### how deep contents are -/
theorem depthAll_le {n : Nat} : ∀ {ds : List PyData}, (∀ d ∈ ds, d.depth ≤ n) → PyData.depthAll ds ≤ n
  | [], _ => Nat.zero_le _
  | d :: ds, h => by
    have h1 := h d List.mem_cons_self
    have h2 := depthAll_le (ds := ds) fun x hx => h x (List.mem_cons_of_mem _ hx)
    simp only [PyData.depthAll]
    omega
theorem bigAll_le {n : Nat} : ∀ {ds : List PyData}, (∀ d ∈ ds, d.big ≤ n) → bigAll ds ≤ n
  | [], _ => Nat.zero_le _
  | d :: ds, h => by
    have h1 := h d List.mem_cons_self
    have h2 := bigAll_le (ds := ds) fun x hx => h x (List.mem_cons_of_mem _ hx)
    simp only [bigAll]
    omega
def Sm (n : Nat) (d : PyData) : Prop := d.depth ≤ n ∧ d.big ≤ 1000
theorem Sm.tup {n : Nat} {ds : List PyData} (h : ∀ d ∈ ds, Sm n d) (l : ds.length ≤ 1000) : Sm (n + 1) (.tuple ds) := by
  have h1 := depthAll_le (n := n) fun d hd => (h d hd).1
  have h2 := bigAll_le (n := 1000) fun d hd => (h d hd).2
  constructor
  · simp only [PyData.depth]
    omega
  · simp only [PyData.big]
    omega
theorem Sm.str (n : Nat) (x : Str) : Sm n (.str x) := ⟨by simp [PyData.depth], by simp [PyData.big]⟩
theorem Sm.int (n : Nat) (x : Int) : Sm n (.int x) := ⟨by simp [PyData.depth], by simp [PyData.big]⟩
theorem Sm.mono {n m : Nat} {d : PyData} (h : Sm n d) (l : n ≤ m) : Sm m d := ⟨Nat.le_trans h.1 l, h.2⟩
theorem fit_sm {E : PyData → Prop} {n : Nat} (hE : ∀ d, E d → Sm n d) {s : Str} {d : PyData} (h : Fit E s d) : Sm (n + 1) d := by
  cases h with
  | number _ _ => exact Sm.int _ _
  | index _ _ => exact Sm.int _ _
  | name _ => exact Sm.str _ _
  | names h1 h2 h3 =>
    refine Sm.tup (fun d hd => ?_) (by rw [List.length_map]; omega)
    obtain ⟨x, _, rfl⟩ := List.mem_map.mp hd
    exact Sm.str _ _
  | args h1 h2 => exact Sm.tup (fun d hd => hE d (h2 d hd)) (by omega)
  | part h => exact (hE _ h).mono (Nat.le_succ _)
theorem ex_sm : ∀ {n : Nat} {d : PyData}, Ex n d → Sm (2 * n) d
  | 0, _, h => h.elim
  | n + 1, d, h => by
    obtain ⟨q, hq, ds, rfl, p⟩ := h
    have l := p.length
    have l2 := (shapes_cnt q hq).2
    have h1 : ∀ x ∈ (PyData.str q.1 :: ds), Sm (2 * n + 1) x := fun x hx => by
      rcases List.mem_cons.mp hx with rfl | hx
      · exact Sm.str _ _
      · obtain ⟨j, hj⟩ := List.mem_iff_getElem?.mp hx
        obtain ⟨y, _, hy⟩ := DX.pget p hj
        exact fit_sm (fun d hd => ex_sm hd) hy
    exact (Sm.tup h1 (by rw [List.length_cons]; omega)).mono (by omega)
theorem ContOk.sm {k : List Key} {d : PyData} (h : ContOk k d) : Sm 6 d := by
  cases h with
  | df h => exact ex_sm h
  | looks h1 h2 h3 h4 =>
    refine Sm.tup (fun d hd => ?_) (by rw [List.length_map]; omega)
    obtain ⟨x, _, rfl⟩ := List.mem_map.mp hd
    exact Sm.str _ _
  | file h1 h2 =>
    refine Sm.tup (fun d hd => ?_) (by rw [List.length_map]; omega)
    obtain ⟨x, _, rfl⟩ := List.mem_map.mp hd
    exact Sm.int _ _
  | cell _ _ => exact Sm.int _ _
  | clock _ _ => exact Sm.int _ _
theorem PlaceOk.sm {k : List Key} (h : PlaceOk k) : Sm 6 (plD k) := by
  have := h.len
  exact ⟨by rw [plD_depth]; decide, plD_big _ (by omega)⟩
/-! ### contents -/
abbrev Ct : Type := List (List Key × PyData)
def ctGet : Ct → List Key → Option PyData
  | [], _ => none
  | p :: r, k => if p.1 = k then some p.2 else ctGet r k
structure CtOk (ct : Ct) : Prop where
  pl : ∀ kd ∈ ct, PlaceOk kd.1
  co : ∀ kd ∈ ct, ContOk kd.1 kd.2
  nd : (ct.map (·.1)).Nodup
  few : ct.length ≤ 30
def CtV (H : Hp) (kvs : List (List Key × V)) (ct : Ct) : Prop := Paired (fun kv kd => kv.1 = kd.1 ∧ Dq H kv.2 kd.2) kvs ct
theorem CtV.mono {H H' : Hp} {kvs : List (List Key × V)} {ct : Ct} (h : CtV H kvs ct) (t : Tups H H') : CtV H' kvs ct := Paired.mapP h fun _ _ z => ⟨z.1, z.2.mono t⟩
theorem CtV.keys {H : Hp} {kvs : List (List Key × V)} {ct : Ct} (h : CtV H kvs ct) : kvs.map (·.1) = ct.map (·.1) := by
  induction h with
  | nil => rfl
  | @cons p q ps qs hp t ih => rw [List.map_cons, List.map_cons, ih, hp.1]
theorem CtV.val {H : Hp} {kvs : List (List Key × V)} {ct : Ct} (h : CtV H kvs ct) (k : List Key) : (valV kvs k = none ∧ ctGet ct k = none) ∨ ∃ v d, valV kvs k = some v ∧ ctGet ct k = some d ∧ Dq H v d := by
  induction h with
  | nil => exact .inl ⟨rfl, rfl⟩
  | @cons p q ps qs hp t ih =>
    by_cases e : p.1 = k
    · refine .inr ⟨p.2, q.2, valV_pos e, ?_, hp.2⟩
      unfold ctGet
      rw [if_pos (by rw [← hp.1]; exact e)]
    · rw [valV_neg e]
      unfold ctGet
      rw [if_neg (by rw [← hp.1]; exact e)]
      exact ih
theorem ctGet_mem {ct : Ct} {k : List Key} {d : PyData} (h : ctGet ct k = some d) : (k, d) ∈ ct := by
  induction ct with
  | nil => cases h
  | cons p r ih =>
    unfold ctGet at h
    by_cases e : p.1 = k
    · rw [if_pos e] at h
      cases h
      rw [← e]
      exact List.mem_cons_self
    · rw [if_neg e] at h
      exact List.mem_cons_of_mem _ (ih h)
theorem ctGet_in {ct : Ct} {k : List Key} (h : k ∈ ct.map (·.1)) : ∃ d, ctGet ct k = some d := by
  induction ct with
  | nil => cases h
  | cons p r ih =>
    unfold ctGet
    by_cases e : p.1 = k
    · exact ⟨p.2, by rw [if_pos e]⟩
    · rw [if_neg e]
      refine ih ((List.mem_cons.mp h).resolve_left fun z => e z.symm)
theorem ctGet_out {ct : Ct} {k : List Key} (h : k ∉ ct.map (·.1)) : ctGet ct k = none := by
  induction ct with
  | nil => rfl
  | cons p r ih =>
    unfold ctGet
    rw [if_neg fun e => h (by rw [List.map_cons, e]; exact List.mem_cons_self)]
    exact ih fun z => h (List.mem_cons_of_mem _ z)
def datO : Option PyData → PyData
  | some d => d
  | none => .none
/-- what stands at a place -/
def ctAt (ct : Ct) (k : List Key) : PyData := datO (ctGet ct k)
def RowsT (H : Hp) (R : Addr) (rs : Ct) : Prop := ∃ us, H R = some (.tup us) ∧ RowsAt H us rs
theorem RowsT.mono {H H' : Hp} {R : Addr} {rs : Ct} (h : RowsT H R rs) (t : Tups H H') : RowsT H' R rs := by
  obtain ⟨us, e, r⟩ := h
  exact ⟨us, t _ _ e, r.mono t⟩
def wfl (D R : Addr) : List (Str × V) := [("contents", .ref D), ("rows", .ref R)]
/-- a World in the heap -/
def WorldAt (K : PySem.W.Frag) (H : Hp) (p : Addr) (ct : Ct) : Prop := ∃ dx D R kvs rs, H p = some (.ins (He.ga K "World") dx (wfl D R)) ∧ H D = some (.dT kvs) ∧ CtV H kvs ct ∧ RowsT H R rs ∧ (∀ k, k ∈ rs.map (·.1) ↔ k ∈ ct.map (·.1)) ∧ rs.length = ct.length
theorem WorldAt.mono {K : PySem.W.Frag} {H H' : Hp} {p : Addr} {ct : Ct} (h : WorldAt K H p ct) (s : Same H H') : WorldAt K H' p ct := by
  obtain ⟨dx, D, R, kvs, rs, h1, h2, h3, h4, h5⟩ := h
  exact ⟨dx, D, R, kvs, rs, s _ _ h1, s _ _ h2, h3.mono (Tups.of s), h4.mono (Tups.of s), h5⟩
section
variable {P : Program} {w : World} {K : PySem.W.Frag} {mg : Str → Option Value} {base : Heap}
def spSortedRows : Sp := fun vs H Q _ => ∃ (D : Addr) (kvs : List (List Key × V)) (ct : Ct), vs = [.ref D] ∧ H D = some (.dT kvs) ∧ CtV H kvs ct ∧ CtOk ct ∧ ∀ H' R rs, Same H H' → RowsT H' R rs → (∀ k, k ∈ rs.map (·.1) ↔ k ∈ ct.map (·.1)) → rs.length = ct.length → Q (.ref R) H'
theorem sc_sorted_rows : FnScope ["contents", "place"] ["contents"] (defScope s_sorted_rows) := ⟨rfl, rfl, rfl, by decide +kernel, rfl, by decide +kernel, by decide +kernel⟩
theorem ok_sorted_rows (T : Tx w K mg) : Ok P w K mg base CX0 1 ("sorted_rows", none) ["contents"] spSortedRows := by
  refine mkOk T.d_sorted_rows sc_sorted_rows (fun vs H Q E h => ?_) (fun _ _ _ _ _ _ us hl => match us, hl with | [_], _ => rfl) (fun cdv A outer s H vs Q E hr h => ?_)
  · obtain ⟨D, kvs, ct, rfl, _⟩ := h
    rfl
  · obtain ⟨D, kvs, ct, rfl, eD, cv, ok, q⟩ := h
    have line := sizeLine_eq
    have ks := cv.keys
    have pl : ∀ k ∈ kvs.map (·.1), PlaceOk k := fun k hk => by
      rw [ks] at hk
      obtain ⟨kd, h1, rfl⟩ := List.mem_map.mp hk
      exact ok.pl kd h1
    refine ⟨_, (pss_one (ps_ret (pe_tupleOf (by rfl) T.n_tuple (pe_lc (own := [("place", 1)]) (g := gName 1) (tt := tYes) rfl sc_sorted_rows.nd (pi_list (pe_callB (cr_sortD rfl) (by rfl) T.n_sorted bt_sorted (pa_cons (pv 0) pa_nil))) (blkOk_by (own := [("place", 1)]) (N := ["contents", "place"]) (sc := defScope s_sorted_rows) (by decide +kernel)) (fun _ _ _ _ _ => (pg_name (i := 1) sc_sorted_rows.nd (by rfl) (Or.inl rfl))) (fun _ _ _ _ _ => pts_nil) (fun _ _ _ _ _ => (pe_tup (pa_cons (pv 1) (pa_cons (pe_dget (hu_of hr) (pv 0) (pv 1) (fun _ _ => rfl)) pa_nil)))))))), ?_⟩
    refine ⟨_, rfl, D, kvs, rfl, .inl eD, fun k hk => (pl k hk).hd, fun k hk l hl => (pl k hk).cmp (pl l hl), fun L p pm pw at' np => ?_⟩
    have s1 : Same H (upd H p (.lst (L.map fun q => V.ref q.1))) := (Same.refl H).up np
    have Ll : L.length = ct.length := by
      have h1 := pm.length_eq
      rw [List.length_map, ks, List.length_map] at h1
      exact h1
    have f30 := ok.few
    refine ⟨p, rfl, ⟨_, SqL.of upd_same⟩, fun F nF => lc_it (walk_list (K := K) (a := p) (xs := L.map fun q => V.ref q.1)) (GP (upd H p (.lst (L.map fun q => V.ref q.1))) F fun i acc H' => RowsAt H' acc ((L.take i).map fun q => (q.2, ctAt ct q.2))) (GP.start nF .nil) (fun i H' _ g => SqL.of (g.1 _ _ upd_same)) ?_ ?_⟩
    · rintro i v H1 H2 hi ⟨g1, acc, g2, g3⟩ ⟨rfl, ey⟩
      obtain ⟨x, hx, rfl⟩ := map_get ey
      have xm : x.2 ∈ kvs.map (·.1) := pm.mem_iff.mp (List.mem_map_of_mem (List.mem_of_getElem? hx))
      have ex := at' x (List.mem_of_getElem? hx)
      have s2 := s1.trans g1
      obtain ⟨v, hv⟩ : ∃ v, valV kvs x.2 = some v := Option.isSome_iff_exists.mp (valV_in xm)
      obtain ⟨v', d, h1, h2, h3⟩ : ∃ v d, valV kvs x.2 = some v ∧ ctGet ct x.2 = some d ∧ Dq H v d := by
        rcases cv.val x.2 with ⟨z, _⟩ | z
        · rw [hv] at z
          cases z
        · exact z
      refine ⟨rfl, _, rfl, _, rfl, _, rfl, D, v', rfl, .inr ⟨kvs, x.2, x.1, .inl (s2 _ _ eD), rfl, s2 _ _ ex, h1.symm⟩, by show 2 ≤ sizeLine; decide, fun r nr => ?_⟩
      have rl : acc.length = i := by
        have := g3.length
        rw [List.length_map, List.length_take] at this
        have := get_lt hx
        omega
      refine GP.push nF g1 g2 ((Same.refl _).up nr) (by have := get_lt hx; omega) ?_
      have sF : Tups H2 (upd (upd H2 r (.tup [.ref x.1, v'])) F (.lst (acc ++ [.ref r]))) := (Tups.of ((Same.refl H2).up nr)).trans (Tups.upd fun xs z => by
        rw [upd_ne (ne_of_none g2 nr), g2] at z
        cases z)
      have e9 : (L.take (i + 1)).map (fun q => (q.2, ctAt ct q.2)) = ((L.take i).map fun q => (q.2, ctAt ct q.2)) ++ [(x.2, d)] := by
        rw [List.take_add_one, hx, List.map_append]
        show _ ++ [(x.2, ctAt ct x.2)] = _
        unfold ctAt
        rw [h2] <;> rfl
      show RowsAt _ _ _
      rw [e9]
      refine Paired.snoc (RowsAt.mono g3 sF) ⟨r, x.1, v', rfl, ?_, ?_, ok.co _ (ctGet_mem h2), (h3.mono (Tups.of s2)).mono sF⟩
      · rw [upd_ne (ne_of_none g2 nr).symm]
        exact upd_same
      · exact sF _ _ (s2 _ _ ex)
    · rintro H1 ⟨g1, acc, g2, g3⟩
      rw [List.length_map, take_all (Nat.le_refl _)] at g3
      refine .inl ⟨F, _, rfl, SqL.of g2, fun R nR => ?_⟩
      refine q _ R _ ((s1.trans g1).up nR) ⟨acc, upd_same, RowsAt.mono g3 (Tups.of ((Same.refl H1).up nR))⟩ (fun k => ?_) (by rw [List.length_map, Ll])
      rw [List.map_map, ← ks]
      exact pm.mem_iff
/-! ### World -/
def spWorldInit (K : PySem.W.Frag) : Sp := fun vs H Q _ => ∃ (p dx L : Addr) (us : List V) (ct : Ct), vs = [.ref p, .ref L] ∧ H p = some (.ins (He.ga K "World") dx []) ∧ H L = some (.lst us) ∧ RowsAt H us ct ∧ CtOk ct ∧ ∀ H', Keep [p] H H' → WorldAt K H' p ct → Q .non H'
theorem sc_World___init__ : FnScope ["self", "rows", "at", "place", "content"] ["self", "rows"] (defScope s_World___init__) := ⟨rfl, rfl, rfl, by decide +kernel, rfl, by decide +kernel, by decide +kernel⟩
theorem ok_World___init__ (T : Tx w K mg) : Ok P w K mg base CX0 13 ("World", some "__init__") ["self", "rows"] (spWorldInit K) := by
  obtain ⟨_, G_wrong_row, b_wrong_row, kp_wrong_row⟩ := ok_wrong_row (P := P) (base := base) T
  obtain ⟨_, G_as_tuples, b_as_tuples, kp_as_tuples⟩ := ok_as_tuples (P := P) (base := base) T 7
  obtain ⟨_, G_sorted_rows, b_sorted_rows, kp_sorted_rows⟩ := ok_sorted_rows (P := P) (base := base) T
  refine mkOk T.d_World___init__ sc_World___init__ (fun vs H Q E h => ?_) (fun _ _ _ _ _ _ us hl => match us, hl with | [_, _], _ => rfl) (fun cdv A outer s H vs Q E hr h => ?_)
  · obtain ⟨p, dx, L, us, ct, rfl, _⟩ := h
    rfl
  · obtain ⟨p, dx, L, us, ct, rfl, ep, eL, hrs, ok, q⟩ := h
    have line := sizeLine_eq
    have f30 := ok.few
    have ul := hrs.length
    refine ⟨_, (pss_cons (ps_set (i := 2) sc_World___init__.nd (by rfl) (Or.inl rfl) (pe_call G_wrong_row (hr.mono (by omega)) (by rfl) T.g_wrong_row kp_wrong_row b_wrong_row .nil pass0 (pa_cons (pv 1) (pa_cons pe_bl pa_nil))))
      (pss_cons (ps_if (pt_cmpR op_notN (pv 2) pe_non (nomark _)) pss_never pss_nil)
      (pss_cons (ps_if (pt_cmpR op_gt (pe_callB call_len_seq (by rfl) T.n_len bt_len (pa_cons (pv 1) pa_nil)) (pe_gi T.i_MOST_PLACES) (nomark _)) pss_never pss_nil)
      (pss_cons (ps_fld (pv 0) (pe_callTy (call_dictT rfl (hu2_of hr)) (by rfl) T.n_dict bt_dict (pa_cons (pe_lc (own := [("place", 3), ("content", 4)]) (g := gTup K 2 (gCons (gName 3) (gCons (gName 4) gNil))) (tt := tYes) rfl sc_World___init__.nd (pi_list (pv 1)) (blkOk_by (own := [("place", 3), ("content", 4)]) (N := ["self", "rows", "at", "place", "content"]) (sc := defScope s_World___init__) (by decide +kernel)) (fun _ _ _ _ _ => (pg_tup rfl (pgs_cons (pg_name (i := 3) sc_World___init__.nd (by rfl) (Or.inl rfl)) (pgs_cons (pg_name (i := 4) sc_World___init__.nd (by rfl) (Or.inl rfl)) pgs_nil)))) (fun _ _ _ _ _ => pts_nil) (fun _ _ _ _ _ => (pe_tup (pa_cons (pe_call G_as_tuples (hr.mono (by omega)) (by rfl) T.g_as_tuples kp_as_tuples b_as_tuples .nil pass0 (pa_cons (pv 3) pa_nil)) (pa_cons (pe_call G_as_tuples (hr.mono (by omega)) (by rfl) T.g_as_tuples kp_as_tuples b_as_tuples .nil pass0 (pa_cons (pv 4) pa_nil)) pa_nil))))) pa_nil)) rfl)
      (pss_one (ps_fld (pv 0) (pe_call G_sorted_rows (hr.mono (by omega)) (by rfl) T.g_sorted_rows kp_sorted_rows b_sorted_rows .nil pass0 (pa_cons (pe_fld (pv 0) rfl) pa_nil)) rfl)))))), ?_⟩
    refine ⟨_, rfl, L, us, ct, rfl, eL, hrs, ok.pl, ok.nd, by omega, fun H1 s1 => ?_⟩
    refine ⟨_, rfl, rfl, _, rfl, ?_⟩
    refine ⟨_, rfl, L, _, rfl, .inl (SqL.of (s1 _ _ eL)), _, _, rfl, rfl, _, rfl, decF (by omega) ?_⟩
    refine ⟨_, rfl, L, rfl, ⟨_, SqL.of (s1 _ _ eL)⟩, fun F nF => lc_it (walk_list (K := K) (a := L) (xs := us)) (GP H1 F fun i acc H' => ∃ (rows : List Addr) (kvs : List (List Key × V)), acc = rows.map V.ref ∧ Paired (RowP H') rows kvs ∧ CtV H' kvs (ct.take i)) (GP.start nF ⟨[], [], rfl, .nil, .nil⟩) (fun i H' _ g => SqL.of (g.1 _ _ (s1 _ _ eL))) ?_ ?_⟩
    · rintro i v H2 H3 hi ⟨g1, acc, g2, rows, kvs, rfl, g3, g4⟩ ⟨rfl, ey⟩
      have hi2 : i < ct.length := by omega
      obtain ⟨kd, hkd⟩ : ∃ kd, ct[i]? = some kd := ⟨_, List.getElem?_eq_getElem hi2⟩
      have hkm := List.mem_of_getElem? hkd
      obtain ⟨T0, a, u, rfl, r1, r2, r3, r4⟩ := (pair_get hrs ey hkd).mono (Tups.of (s1.trans g1))
      refine ⟨T0, _, rfl, SqT.of r1, rfl, _, _, rfl, _, _, rfl, rfl, ?_⟩
      refine ⟨rfl, _, rfl, .ref a, plD kd.1, rfl, plD_dq r2, Nat.lt_of_le_of_lt (ok.pl _ hkm).sm.1 (by decide), (ok.pl _ hkm).sm.2, fun H4 v4 s4 d4 => ?_⟩
      obtain ⟨a4, rfl, e4⟩ := plD_v d4
      refine ⟨_, rfl, u, kd.2, rfl, r4.mono (Tups.of s4), Nat.lt_of_le_of_lt (ok.co _ hkm).sm.1 (by decide), (ok.co _ hkm).sm.2, fun H5 v5 s5 d5 => ?_⟩
      refine ⟨by show 2 ≤ sizeLine; decide, fun r nr => ?_⟩
      have sr : Same H3 (upd H5 r (.tup [.ref a4, v5])) := (s4.trans s5).up nr
      have kl : rows.length ≤ i := by
        have h1 := g3.length
        have h2 := g4.length
        rw [List.length_take] at h2
        omega
      refine GP.push nF g1 g2 sr (by rw [List.length_map]; omega) ⟨rows ++ [r], kvs ++ [(kd.1, v5)], by rw [List.map_append]; rfl, ?_, ?_⟩
      · have sF : Tups (upd H5 r (.tup [.ref a4, v5])) (upd (upd H5 r (.tup [.ref a4, v5])) F (.lst (rows.map V.ref ++ [.ref r]))) := Tups.upd fun xs z => by
          rw [sr _ _ g2] at z
          cases z
        refine Paired.snoc (Paired.mapP g3 fun x y ⟨b, h1, h2⟩ => ⟨b, sF _ _ (sr _ _ h1), sF _ _ (sr _ _ h2)⟩) ⟨a4, sF _ _ upd_same, sF _ _ (upd_of (s5 _ _ e4) nr)⟩
      · have sF : Tups (upd H5 r (.tup [.ref a4, v5])) (upd (upd H5 r (.tup [.ref a4, v5])) F (.lst (rows.map V.ref ++ [.ref r]))) := Tups.upd fun xs z => by
          rw [sr _ _ g2] at z
          cases z
        rw [List.take_add_one, hkd]
        exact Paired.snoc (CtV.mono g4 ((Tups.of sr).trans sF)) ⟨rfl, (d5.mono (Tups.of ((Same.refl _).up nr))).mono sF⟩
    · rintro H2 ⟨g1, acc, g2, rows, kvs, rfl, g3, g4⟩
      rw [take_all (xs := ct) (by omega)] at g4
      have ks := g4.keys
      refine ⟨F, rows, kvs, rfl, SqL.of g2, g3, by rw [ks]; exact ok.nd, fun D nD => ?_⟩
      have s2 : Same H (upd H2 D (.dT kvs)) := (s1.trans g1).up nD
      have npD : D ≠ p := fun z => by rw [z, (s1.trans g1) _ _ ep] at nD; cases nD
      refine ⟨_, rfl, p, _, dx, [], rfl, s2 _ _ ep, T.cls_World, T.a_World_contents, by decide, ?_⟩
      have k3 : Keep [p] H (upd (upd H2 D (.dT kvs)) p (.ins (He.ga K "World") dx (putF "contents" (.ref D) []))) := (Keep.of s2).at (List.mem_singleton.mpr rfl)
      have tp : Tups (upd H2 D (.dT kvs)) (upd (upd H2 D (.dT kvs)) p (.ins (He.ga K "World") dx (putF "contents" (.ref D) []))) := Tups.upd fun xs z => by
        rw [s2 _ _ ep] at z
        cases z
      refine ⟨_, rfl, p, _, dx, _, V.ref D, rfl, upd_same, T.cls_World, T.a_World_contents, rfl, ?_⟩
      refine ⟨D, kvs, ct, rfl, by rw [upd_ne npD, upd_same], (g4.mono (Tups.of ((Same.refl H2).up nD))).mono tp, ok, fun H5 R rs s5 hR hk hl => ?_⟩
      refine ⟨_, rfl, p, _, dx, _, rfl, s5 _ _ upd_same, T.cls_World, T.a_World_rows, (show (1 : Nat) < 1000 by decide), ?_⟩
      have tp5 : Tups H5 (upd H5 p (.ins (He.ga K "World") dx (putF "rows" (.ref R) (putF "contents" (.ref D) [])))) := Tups.upd fun xs z => by
        rw [s5 _ _ upd_same] at z
        cases z
      refine q _ ((k3.trans (Keep.of s5)).at (List.mem_singleton.mpr rfl)) ⟨dx, D, R, kvs, rs, upd_same, ?_, ?_, hR.mono tp5, hk, hl⟩
      · rw [upd_ne npD]
        refine s5 _ _ ?_
        rw [upd_ne npD, upd_same]
      · exact (((g4.mono (Tups.of ((Same.refl H2).up nD))).mono tp).mono (Tups.of s5)).mono tp5
def spContent (K : PySem.W.Frag) : Sp := fun vs H Q _ => ∃ (p a : Addr) (ct : Ct) (k : List Key), vs = [.ref p, .ref a] ∧ WorldAt K H p ct ∧ H a = some (.tup (k.map kV)) ∧ PlaceOk k ∧ ∀ H' v, Same H H' → Dq H' v (ctAt ct k) → Q v H'
theorem sc_World_content : FnScope ["self", "place"] ["self", "place"] (defScope s_World_content) := ⟨rfl, rfl, rfl, by decide +kernel, rfl, by decide +kernel, by decide +kernel⟩
theorem ok_World_content (T : Tx w K mg) : Ok P w K mg base CX0 9 ("World", some "content") ["self", "place"] (spContent K) := by
  obtain ⟨_, G_as_tuples, b_as_tuples, kp_as_tuples⟩ := ok_as_tuples (P := P) (base := base) T 7
  refine mkOk T.d_World_content sc_World_content (fun vs H Q E h => ?_) (fun _ _ _ _ _ _ us hl => match us, hl with | [_, _], _ => rfl) (fun cdv A outer s H vs Q E hr h => ?_)
  · obtain ⟨p, a, ct, k, rfl, _⟩ := h
    rfl
  · obtain ⟨p, a, ct, k, rfl, ⟨dx, D, R, kvs, rs, h1, h2, h3, h4⟩, ea, pk, q⟩ := h
    refine ⟨_, (pss_one (ps_ret (pe_dget2 (hu_of hr) (pe_fld (pv 0) rfl) (pe_call G_as_tuples (hr.mono (by omega)) (by rfl) T.g_as_tuples kp_as_tuples b_as_tuples .nil pass0 (pa_cons (pv 1) pa_nil)) pe_non ⟨by rfl, by rfl, by rfl, by rfl⟩))), ?_⟩
    refine ⟨_, rfl, p, _, dx, _, V.ref D, rfl, h1, T.cls_World, T.a_World_contents, rfl, D, rfl, .inr ⟨kvs, .inl h2⟩, _, rfl, .ref a, plD k, rfl, plD_dq ea, Nat.lt_of_le_of_lt pk.sm.1 (by decide), pk.sm.2, fun H1 v s1 d1 => ?_⟩
    obtain ⟨a1, rfl, e1⟩ := plD_v d1
    refine ⟨_, DGet.t (s1 _ _ h2) e1, ?_⟩
    refine q _ _ s1 ?_
    unfold ctAt
    rcases h3.val k with ⟨z1, z2⟩ | ⟨v, d, z1, z2, z3⟩
    · rw [z1, z2]
      exact .non
    · rw [z1, z2]
      exact z3.mono (Tups.of s1)
end
end Ta
namespace Ta
open PySem PySem.Spec PyProof.Rows L2
open PySem.F
theorem meets_enum1 {v : Value} {o : Obj} {H : Heap → Prop} (B : Begins v o H) :
    Meets (Builtin.«enumerate.__new__» ⟨[.type "enumerate", v], []⟩) (fun _ R s => H s.heap ∧
      R (.ok (.ret (.ref (s.heap.push o).objs.size))) { s with heap := (s.heap.push o).push { cls := .type "enumerate", data := .fields #[.none, .bool false, .ref s.heap.objs.size, rawInt 0, .none, .none] } }) :=
  .of_wp fun prog w A R s h => by
    obtain ⟨hp, g, d, tk, os⟩ := s; obtain ⟨h1, h⟩ := h
    have hsub := PySem.sub_enumerate
    have q1 : ∀ {A' : Around} {E : Value → Shared → Prop} {Q : Value → Shared → Prop}, Q (.ref hp.objs.size) ⟨hp.push o, g, d, tk, os⟩ → wpAny (model prog w) A' (pyIter v) Q E ⟨hp, g, d, tk, os⟩ :=
      fun q => B.iter prog w _ _ ⟨hp, g, d, tk, os⟩ _ h1 q
    wp_walk using q1
    refine wpAny_stack_any fun st => wpAny_pure ?_
    split
    · rename_i c _ _ _ _ _
      cases (c == Value.type "enumerate")
      · wp_walk using q1
        exact ⟨_, rfl, h⟩
      · wp_walk using q1
        exact ⟨_, rfl, h⟩
    · wp_walk using q1
      exact ⟨_, rfl, h⟩
section
variable {prog : Program} {w : World} {A : Around} {E : Value → Shared → Prop} {s : Shared}
theorem enum_begins1 {v : Value} {o : Obj} {H : Heap → Prop} {Q : Value → Shared → Prop} (B : Begins v o H) (h1 : H s.heap)
    (h : ∀ h', IsEnum h' (s.heap.objs.size + 1) s.heap.objs.size 0 .none → h'.get? s.heap.objs.size = some o → h'.objs.size = s.heap.objs.size + 2 →
      (∀ b o, s.heap.get? b = some o → h'.get? b = some o) → Q (.ref (s.heap.objs.size + 1)) { s with heap := h' }) :
    wpAny (model prog w) A (call (.type "enumerate") [v]) Q E s := by
  refine callType_new F.called_enumerate (by decide) (F.typeCall_enumerate_1 _) (F.newCall_enumerate_1 _) (fun obj => F.args_object_init_2 obj _) F.entry_enumerate_new
    (meets_enum1 B) ⟨h1, ?_⟩
  have hz : (s.heap.push o).objs.size = s.heap.objs.size + 1 := Heap.size_push ..
  show _ ∧ _
  rw [hz]
  have he : IsEnum ((s.heap.push o).push { cls := .type "enumerate", data := .fields #[.none, .bool false, .ref s.heap.objs.size, rawInt 0, .none, .none] }) (s.heap.objs.size + 1) s.heap.objs.size 0 .none := by
    have := Heap.get?_push_size (s.heap.push o) (o := { cls := .type "enumerate", data := .fields #[.none, .bool false, .ref s.heap.objs.size, rawInt 0, .none, .none] }) rfl
    rw [hz] at this; exact this
  refine ⟨⟨_, he, rfl⟩, h _ he (Heap.get?_push_of_some _ (Heap.get?_push_size _ B.free)) (by rw [Heap.size_push, hz]) fun b o x => Heap.get?_push_of_some _ (Heap.get?_push_of_some _ x)⟩
end
/-- the tuple at a, the items in new pairs -/
def IteT (K : PySem.W.Frag) (a : Addr) : It :=
  ⟨fun i H => ∃ (xs : List V) (x : V), SqT K H a xs ∧ xs[i]? = some x,
    fun i H v H' => ∃ T x, v = .ref T ∧ H T = none ∧ H' = upd H T (.tup [.int (i : Nat), x]) ∧ ∀ xs, SqT K H a xs → xs[i]? = some x,
    fun i H => ∃ xs : List V, SqT K H a xs ∧ xs.length = i⟩
theorem turn_enumT {P : Program} {w : World} {K : PySem.W.Frag} {elts : List Expr} {kk : Nat} {tpos : Pos} (a e it : Addr) :
    Turn P w K (.Tuple elts kk tpos) (IteT K a) [e, it] e (fun i h => (∃ old, IsEnum h e it ((i : Nat) : Int) old) ∧ h.IsTupleIter it a i ∧ e ≠ it) where
  mem := by simp
  obj := fun i h st b hb => by
    obtain ⟨⟨old, he⟩, ⟨o, ho, hc, hd⟩, _⟩ := st
    have e' : b = e ∨ b = it := by simpa using hb
    rcases e' with z | z
    · rw [z]; exact ⟨_, he, fun v q => nomatch q⟩
    · rw [z]; exact ⟨o, ho, fun v q => by rw [hd] at q; cases q⟩
  keep := fun i h h' st k => let ⟨⟨old, he⟩, hi, hne⟩ := st; ⟨⟨old, k e (by simp) _ he⟩, hi.at fun o q => k it (by simp) o q, hne⟩
  item := by
    intro X hP hw hK hc i pins s σ H E I hf st hg
    subst hP hw hK
    obtain ⟨⟨old, he⟩, hit, hne⟩ := st
    obtain ⟨xs, x, hq, hx⟩ := hg
    obtain ⟨its, rv, p, hz⟩ := I.tuple hq
    have hlt : i < its.toArray.size := by
      rw [List.size_toArray, ← rv.length]
      exact (List.getElem?_eq_some_iff.mp hx).1
    have hel : e < s.heap.objs.size := Heap.lt_size he
    have hil : it < s.heap.objs.size := by obtain ⟨_, q, _⟩ := hit; exact Heap.lt_size q
    have p0 : s.heap.IsTuple a its.toArray := p
    obtain ⟨oa, ga, ca, na, da⟩ := id p0
    have hae : a ≠ e := fun z => by
      rw [z, he] at ga
      cases ga
      exact absurd (Value.type.inj ca) (by decide)
    have hai : a ≠ it := fun z => by
      obtain ⟨oi, gi, ci, _⟩ := id hit
      rw [z, gi] at ga
      cases ga
      rw [ci] at ca
      exact absurd (Value.type.inj ca) (by decide)
    have D := Draws.tuple (prog := X.prog) (w := X.w) (A := X.A.in1) (show X.A.in1.handled = none from I.ok.hd hc) it a hai its.toArray
    refine wpAny_pyNext_enum_itemD D he ⟨hit, p0⟩ hlt hne (by simp only [List.mem_cons, List.not_mem_nil, or_false, not_or]; exact ⟨hne, hae.symm⟩) fun u h' tk hu ho hst hT hsz hk => ?_
    obtain ⟨u', hu', ru⟩ := rv.get hx
    have eu : u' = u := by
      have e1 : its.toArray[i]? = some u' := by simpa using hu'
      rw [hu] at e1
      exact (Option.some.inj e1).symm
    subst eu
    refine ⟨_, rfl, wpAny_letOwnedTupleGo_enum (s := { s with heap := h', toks := tk + 1 }) ho fun h'' he' sb => ?_⟩
    have hT2 : h''.get? s.heap.objs.size = some { cls := .type "tuple", data := .seq #[.int i tk, u'] } := (sb.2 _ (Nat.ne_of_gt hel)).trans hT
    have new : ObjOk X.prog X.w (upd H s.heap.objs.size (.tup [.int (i : Nat), x])) h'' s.heap.objs.size (.tup [.int (i : Nat), x]) :=
      ⟨by show 2 ≤ sizeLine; decide, [.int i tk, u'], .cons ⟨_, rfl⟩ (.cons ru .nil), ⟨_, hT2, rfl, _, rfl⟩⟩
    have I1 : Inv X pins σ (upd H s.heap.objs.size (.tup [.int (i : Nat), x])) { s with heap := h'', toks := tk + 1 } :=
      I.turnedNew (ch := [e, it]) (fun b ob hb q => (sb.2 b (fun z => hb (by simp [z]))).trans (hk b ob (fun z => hb (by simp [z])) (fun z => hb (by simp [z])) q)) hf (Nat.le_refl _) new
    refine ⟨.ref s.heap.objs.size, _, I1, rfl, ⟨_, x, rfl, I.hok.fresh (Nat.le_refl _), rfl, fun ys hy => by rw [I.tuple_inj hy hq]; exact hx⟩, ⟨⟨u', ?_⟩, hst.1.at fun o q => (sb.2 it (Ne.symm hne)).trans q, hne⟩, fun b hb => ?_⟩
    · have e1 : ((i + 1 : Nat) : Int) = (i : Int) + 1 := by omega
      rw [e1]; exact he'
    · have hb' : b < s.heap.objs.size := by
        have e' : b = e ∨ b = it := by simpa using hb
        rcases e' with z | z
        · rw [z]; exact hel
        · rw [z]; exact hil
      rw [upd_ne (Nat.ne_of_lt hb')]
      exact (hf b hb).1
  done := by
    intro X hP hw hK hc i pins s σ H E I hf st hg
    subst hP hw hK
    obtain ⟨⟨old, he⟩, hit, hne⟩ := st
    obtain ⟨xs, hq, hx⟩ := hg
    obtain ⟨its, rv, p, hz⟩ := I.tuple hq
    obtain ⟨f0, f1, f2, f3, f4, f5⟩ := hf it (by simp)
    have hl := rv.length
    have p0 : s.heap.IsTuple a its.toArray := p
    obtain ⟨oa, ga, ca, na, da⟩ := id p0
    have hai : a ≠ it := fun z => by
      obtain ⟨oi, gi, ci, _⟩ := id hit
      rw [z, gi] at ga
      cases ga
      rw [ci] at ca
      exact absurd (Value.type.inj ca) (by decide)
    have D := Draws.tuple (prog := X.prog) (w := X.w) (A := X.A.in1) (show X.A.in1.handled = none from I.ok.hd hc) it a hai its.toArray
    have hi : i = its.toArray.size := by rw [List.size_toArray]; omega
    refine wpAny_pyNext_enum_endD D he (by rw [← hi]; exact ⟨hit, p0⟩) fun h' eb => ⟨rfl, I.turned (t' := s.toks) (fun b o hb q => eb b o hb q) f0 f1 f3 f4 f5⟩
  self := fun A i s Q E st h => let ⟨⟨_, he⟩, _⟩ := st; wpAny_pyIter_enum he h
def iEnumT (K : PySem.W.Frag) (ta : TA) : TI := fun σ H R => ta σ H fun vs H1 => ∃ a xs, vs = [.ref a] ∧ SqT K H1 a xs ∧ R (IteT K a) H1
theorem pi_enumT {X : Cx} {e : Expr} {ta : TA} {p pos tpos : Pos} {elts : List Expr} {kk : Nat} (hg : Gl X "enumerate") (hm : X.mg "enumerate" = none) (ha : PA X [e] ta) (hs : starEach [e] X.env = [(false, eval e X.env)] := by rfl) :
    PI X (.Tuple elts kk tpos) (.Call (.Name "enumerate" p) [e] [] pos) (iEnumT X.K ta) := by
  refine ⟨fun pins s σ H R I h => ?_⟩
  refine Call_ (ld_blt I hg hm boot_enumerate (PyProof.Rows.callWith_type1 (thn (ha.run pos pins s σ H _ I h) fun us s1 ⟨vs, H1, I1, r1, q1⟩ => ?_) hs rfl))
  obtain ⟨a, xs, ex, hq, q⟩ := q1
  subst ex
  cases r1 with
  | cons r rr =>
    cases rr
    cases r
    obtain ⟨its, rv, p', hz⟩ := I1.tuple hq
    refine enum_begins1 (begins_tuple a its.toArray) (show s1.heap.IsTuple a its.toArray from p') fun h' he hit hsz hk => wpAny_pyIter_enum he ?_
    have I2 : Inv X pins σ H1 { s1 with heap := h' } := I1.kept (t' := s1.toks) hk
    refine ⟨s1.heap.objs.size + 1, [s1.heap.objs.size + 1, s1.heap.objs.size], _, _, H1, rfl, I2, turn_enumT a (s1.heap.objs.size + 1) s1.heap.objs.size, ⟨⟨.none, he⟩, ⟨_, hit, rfl, rfl⟩, Nat.succ_ne_self _⟩, fun b hb => ?_, q⟩
    have e' : b = s1.heap.objs.size + 1 ∨ b = s1.heap.objs.size := by simpa using hb
    have hle : s1.heap.objs.size ≤ b := by
      rcases e' with z | z
      · rw [z]; exact Nat.le_add_right _ _
      · rw [z]; exact Nat.le_refl _
    exact I1.fpOk hle (I1.hok.fresh hle)
theorem walk_enumT {K : PySem.W.Frag} {a : Addr} {xs : List V} : Walk (IteT K a) xs.length (fun H => SqT K H a xs) (YPair (fun i => some (.int (i : Nat))) (fun i => xs[i]?)) := by
  refine ⟨fun i _ hi q => ⟨xs, xs[i], q, by simp [hi]⟩, fun _ q => ⟨xs, q, rfl⟩, fun i H v H' _ q y => ?_⟩
  obtain ⟨T, x, h1, h2, h3, h4⟩ := y
  exact ⟨T, .int (i : Nat), x, h1, h2, h3, rfl, h4 xs q⟩
end Ta
namespace Ta
open PySem PySem.Spec PyProof.Rows L2 DX
theorem op_neDK {X : Cx} {K : PySem.W.Frag} (h : X.K = K) (hu : X.A.units + 64 < cLine) : OpR X (compareOp .NotEq) (rNeD K) := h ▸ op_neD hu
theorem op_eqDK {X : Cx} {K : PySem.W.Frag} (h : X.K = K) (hu : X.A.units + 64 < cLine) : OpR X (compareOp .Eq) (rEqD K) := h ▸ op_eqD hu
/-! ### data that are laid; equality of such data -/
theorem lay_all {ds : List PyData} (h : ∀ d ∈ ds, d.canLay0 = true) : PyData.canLayAll0 ds = true := by
  induction ds with
  | nil => simp [PyData.canLayAll0]
  | cons d ds ih =>
    simp only [PyData.canLayAll0, Bool.and_eq_true]
    exact ⟨h d List.mem_cons_self, ih fun x hx => h x (List.mem_cons_of_mem _ hx)⟩
theorem lay_tup {ds : List PyData} (h : ∀ d ∈ ds, d.canLay0 = true) : (PyData.tuple ds).canLay0 = true := by
  simp only [PyData.canLay0]
  exact lay_all h
theorem lay_name {x : Str} (h : NameOk x) : (PyData.str x).canLay0 = true := by
  simp only [PyData.canLay0]
  unfold PyData.strOk
  rw [Array.all_eq_true]
  intro i hi
  have := h.2.2 i x.cps[i] (Array.getElem?_eq_getElem hi)
  refine decide_eq_true ?_
  omega
theorem lay_int (i : Int) : (PyData.int i).canLay0 = true := by simp [PyData.canLay0]
theorem shapes_names : ∀ q ∈ shapes, nameB q.1 = true := by decide +kernel
theorem fit_lay {E : PyData → Prop} (hE : ∀ d, E d → d.canLay0 = true) {s : Str} {d : PyData} (h : Fit E s d) : d.canLay0 = true := by
  cases h with
  | number _ _ => exact lay_int _
  | index _ _ => exact lay_int _
  | name h => exact lay_name h
  | names h1 h2 h3 =>
    refine lay_tup fun d hd => ?_
    obtain ⟨x, hx, rfl⟩ := List.mem_map.mp hd
    exact lay_name (h3 x hx)
  | args h1 h2 => exact lay_tup fun d hd => hE d (h2 d hd)
  | part h => exact hE _ h
theorem ex_lay : ∀ {n : Nat} {d : PyData}, Ex n d → d.canLay0 = true
  | 0, _, h => h.elim
  | n + 1, d, h => by
    obtain ⟨q, hq, ds, rfl, p⟩ := h
    refine lay_tup fun x hx => ?_
    rcases List.mem_cons.mp hx with rfl | hx
    · exact lay_name (nameB_ok (shapes_names q hq))
    · obtain ⟨j, hj⟩ := List.mem_iff_getElem?.mp hx
      obtain ⟨y, _, hy⟩ := DX.pget p hj
      exact fit_lay (fun d hd => ex_lay hd) hy
theorem ContOk.lay {k : List Key} {d : PyData} (h : ContOk k d) : d.canLay0 = true := by
  cases h with
  | df h => exact ex_lay h
  | looks h1 h2 h3 h4 =>
    refine lay_tup fun d hd => ?_
    obtain ⟨x, hx, rfl⟩ := List.mem_map.mp hd
    exact lay_name (h2 x hx)
  | file h1 h2 =>
    refine lay_tup fun d hd => ?_
    obtain ⟨x, hx, rfl⟩ := List.mem_map.mp hd
    exact lay_int _
  | cell _ _ => exact lay_int _
  | clock _ _ => exact lay_int _
theorem ContOk.shaped {k : List Key} {d : PyData} (h : ContOk k d) : SeqAt.shaped d = true := by
  unfold SeqAt.shaped
  rw [h.lay, decide_eq_true (Nat.le_trans h.sm.1 (by decide))] <;> rfl
theorem smNone : Sm 6 .none := ⟨by simp [PyData.depth], by simp [PyData.big]⟩
theorem shaped_none : SeqAt.shaped .none = true := by decide
theorem ctAt_shaped {ct : Ct} (ok : CtOk ct) (k : List Key) : SeqAt.shaped (ctAt ct k) = true := by
  unfold ctAt
  cases h : ctGet ct k with
  | none => exact shaped_none
  | some d => exact (ok.co _ (ctGet_mem h)).shaped
mutual
theorem eqv_dq {H H' : Hp} : ∀ {v v' : V} {d e : PyData}, Dq H v d → Dq H' v' e → PyData.eqv d e = true → d = e
  | _, _, _, _, .non, .non, _ => rfl
  | _, _, _, _, .non, .int _, h => by simp [PyData.eqv] at h
  | _, _, _, _, .non, .str _, h => by simp [PyData.eqv] at h
  | _, _, _, _, .non, .tup _ _, h => by simp [PyData.eqv] at h
  | _, _, _, _, .int _, .non, h => by simp [PyData.eqv] at h
  | _, _, _, _, .int i, .int j, h => by
    simp only [PyData.eqv, beq_iff_eq] at h
    rw [h]
  | _, _, _, _, .int _, .str _, h => by simp [PyData.eqv] at h
  | _, _, _, _, .int _, .tup _ _, h => by simp [PyData.eqv] at h
  | _, _, _, _, .str _, .non, h => by simp [PyData.eqv] at h
  | _, _, _, _, .str _, .int _, h => by simp [PyData.eqv] at h
  | _, _, _, _, .str x, .str y, h => by
    simp only [PyData.eqv, beq_iff_eq] at h
    rw [h]
  | _, _, _, _, .str _, .tup _ _, h => by simp [PyData.eqv] at h
  | _, _, _, _, .tup _ _, .non, h => by simp [PyData.eqv] at h
  | _, _, _, _, .tup _ _, .int _, h => by simp [PyData.eqv] at h
  | _, _, _, _, .tup _ _, .str _, h => by simp [PyData.eqv] at h
  | _, _, _, _, .tup _ a, .tup _ b, h => by
    simp only [PyData.eqv] at h
    rw [eqv_dqs a b h]
theorem eqv_dqs {H H' : Hp} : ∀ {vs vs' : List V} {ds es : List PyData}, DqAll H vs ds → DqAll H' vs' es → PyData.eqvAll ds es = true → ds = es
  | _, _, _, _, .nil, .nil, _ => rfl
  | _, _, _, _, .nil, .cons _ _, h => by simp [PyData.eqvAll] at h
  | _, _, _, _, .cons _ _, .nil, h => by simp [PyData.eqvAll] at h
  | _, _, _, _, .cons a r, .cons b s, h => by
    simp only [PyData.eqvAll, Bool.and_eq_true] at h
    rw [eqv_dq a b h.1, eqv_dqs r s h.2]
end
/-- whether a book stands in a world -/
def standsB (ct : Ct) (bk : Bk) : Bool := bk.all fun kc => PyData.eqv (ctAt ct kc.1) (datO kc.2)
section
variable {P : Program} {w : World} {K : PySem.W.Frag} {mg : Str → Option Value} {base : Heap}
def spFallen (K : PySem.W.Frag) : Sp := fun vs H Q _ => ∃ (p B : Addr) (ct : Ct) (bk : Bk), vs = [.ref p, .ref B] ∧ WorldAt K H p ct ∧ CtOk ct ∧ BookAt H B bk ∧ BookOk bk ∧ ∀ H' R acc, Same H H' → H' R = some (.tup acc) → acc.isEmpty = standsB ct bk → Q (.ref R) H'
theorem sc_fallen : FnScope ["world", "book", "at", "row"] ["world", "book"] (defScope s_fallen) := ⟨rfl, rfl, rfl, by decide +kernel, rfl, by decide +kernel, by decide +kernel⟩
theorem ok_fallen (T : Tx w K mg) : Ok P w K mg base CX0 10 ("fallen", none) ["world", "book"] (spFallen K) := by
  obtain ⟨_, G_World_content, b_World_content, kp_World_content⟩ := ok_World_content (P := P) (base := base) T
  obtain ⟨_, G_as_tuples, b_as_tuples, kp_as_tuples⟩ := ok_as_tuples (P := P) (base := base) T 7
  refine mkOk T.d_fallen sc_fallen (fun vs H Q E h => ?_) (fun _ _ _ _ _ _ us hl => match us, hl with | [_, _], _ => rfl) (fun cdv A outer s H vs Q E hr h => ?_)
  · obtain ⟨p, B, ct, bk, rfl, _⟩ := h
    rfl
  · obtain ⟨p, B, ct, bk, rfl, hw, cok, ⟨us, eB, hrs⟩, bok, q⟩ := h
    have line := sizeLine_eq
    have len := hrs.length
    have few := bok.few
    refine ⟨_, (pss_one (ps_ret (pe_tupleOf (by rfl) T.n_tuple (pe_lc (own := [("at", 2), ("row", 3)]) (g := gTup K 2 (gCons (gName 2) (gCons (gName 3) gNil))) rfl sc_fallen.nd (pi_enumT (by rfl) T.n_enumerate (pa_cons (pv 1) pa_nil)) (blkOk_by (own := [("at", 2), ("row", 3)]) (N := ["world", "book", "at", "row"]) (sc := defScope s_fallen) (by decide +kernel)) (fun _ _ _ _ _ => (pg_tup rfl (pgs_cons (pg_name (i := 2) sc_fallen.nd (by rfl) (Or.inl rfl)) (pgs_cons (pg_name (i := 3) sc_fallen.nd (by rfl) (Or.inl rfl)) pgs_nil)))) (fun _ _ _ _ _ => (pts_one (pt_cmpR (op_neDK (K := K) rfl hr.units) (pe_meth (pv 0) T.cls_World T.m_World_content G_World_content (hr.mono (by omega)) b_World_content .nil pass0 (pa_cons (pe_ix (ixT (K := K) rfl) (pv 3) pe_int (fun _ _ => rfl)) pa_nil)) (pe_call G_as_tuples (hr.mono (by omega)) (by rfl) T.g_as_tuples kp_as_tuples b_as_tuples .nil pass0 (pa_cons (pe_ix (ixT (K := K) rfl) (pv 3) pe_int (fun _ _ => rfl)) pa_nil)) (nomark _)))) (fun _ _ _ _ _ => (pv 2)))))), ?_⟩
    refine ⟨_, rfl, B, us, rfl, SqT.of eB, fun F nF => lc_it (walk_enumT (K := K) (a := B) (xs := us)) (GP H F fun i acc _ => acc.length ≤ i ∧ acc.isEmpty = standsB ct (bk.take i)) (GP.start nF ⟨Nat.le_refl _, rfl⟩) (fun i H' _ g => SqT.of (g.1 _ _ eB)) ?_ ?_⟩
    · rintro i v H1 H2 hi ⟨g1, acc, g2, g3, g4⟩ ⟨t, x, y, rfl, nt, rfl, ex, ey⟩
      cases ex
      have hi2 : i < bk.length := by omega
      obtain ⟨kc, hkc⟩ : ∃ kc, bk[i]? = some kc := ⟨_, List.getElem?_eq_getElem hi2⟩
      have pk := bok.pl kc (List.mem_of_getElem? hkc)
      have s1 : Same H (upd H1 t (.tup [.int i, y])) := g1.up nt
      have g2' := upd_of (u := .tup [.int i, y]) g2 nt
      refine ⟨t, _, rfl, SqT.of upd_same, rfl, _, _, rfl, _, _, rfl, rfl, ?_⟩
      obtain ⟨T0, a, u, rfl, r1, r2, r3⟩ := (pair_get hrs ey hkc).mono (Tups.of s1)
      obtain ⟨dx, D, R, kvs, rs, w1, w2⟩ := hw.mono s1
      refine ⟨rfl, _, rfl, p, dx, _, rfl, w1, rfl, _, rfl, T0, _, 0, _, rfl, rfl, SqT.of r1, at_of (j := 0) rfl rfl, p, a, ct, kc.1, rfl, ⟨dx, D, R, kvs, rs, w1, w2⟩, r2, pk, fun H3 v3 s3 d3 => ?_⟩
      have du : Dq (upd H1 t (.tup [.int i, .ref T0])) u (datO kc.2) ∧ Sm 6 (datO kc.2) ∧ SeqAt.shaped (datO kc.2) = true := by
        obtain ⟨k, c⟩ := kc
        cases c with
        | none =>
          have r3 : u = .non := r3
          rw [r3]
          exact ⟨.non, smNone, shaped_none⟩
        | some d => exact ⟨r3.2, r3.1.sm, r3.1.shaped⟩
      obtain ⟨du1, du2, du3⟩ := du
      refine ⟨_, rfl, T0, _, 1, _, rfl, rfl, SqT.of (s3 _ _ r1), at_of (j := 1) rfl rfl, u, _, rfl, du1.mono (Tups.of s3), Nat.lt_of_le_of_lt du2.1 (by decide), du2.2, fun H4 v4 s4 d4 => ?_⟩
      refine ⟨_, _, (d3.mono (Tups.of s4)).dp, d4.dp, ctAt_shaped cok _, du3, ?_⟩
      refine ⟨_, rfl, ?_⟩
      have st : standsB ct (bk.take (i + 1)) = (standsB ct (bk.take i) && PyData.eqv (ctAt ct kc.1) (datO kc.2)) := by
        unfold standsB
        rw [List.take_add_one, hkc, List.all_append]
        show (_ && ([kc].all _)) = _
        rw [List.all_cons, List.all_nil, Bool.and_true]
      have s5 := (Same.refl (upd H1 t (.tup [.int i, .ref T0]))).trans (s3.trans s4)
      have g1' : Same H (upd H1 t (.tup [.int i, .ref T0])) := s1
      cases z : PyData.eqv (ctAt ct kc.1) (datO kc.2) with
      | true =>
        refine ifF rfl (GP.skip g1' g2' s5 ⟨by omega, ?_⟩)
        rw [st, z, Bool.and_true]
        exact g4
      | false =>
        refine ifT rfl ⟨_, rfl, GP.push nF g1' g2' s5 (by omega) ⟨?_, ?_⟩⟩
        · rw [List.length_append]
          exact Nat.add_le_add_right g3 1
        · rw [st, z, Bool.and_false]
          cases acc <;> rfl
    · rintro H1 ⟨g1, acc, g2, g3, g4⟩
      rw [take_all (xs := bk) (by omega)] at g4
      refine .inl ⟨F, _, rfl, SqL.of g2, fun R nR => q _ R acc (g1.up nR) upd_same g4⟩
def spStands (K : PySem.W.Frag) : Sp := fun vs H Q _ => ∃ (p B : Addr) (ct : Ct) (bk : Bk), vs = [.ref p, .ref B] ∧ WorldAt K H p ct ∧ CtOk ct ∧ BookAt H B bk ∧ BookOk bk ∧ ∀ H', Same H H' → Q (.bl (standsB ct bk)) H'
theorem sc_stands : FnScope ["world", "book"] ["world", "book"] (defScope s_stands) := ⟨rfl, rfl, rfl, by decide +kernel, rfl, by decide +kernel, by decide +kernel⟩
theorem ok_stands (T : Tx w K mg) : Ok P w K mg base CX0 11 ("stands", none) ["world", "book"] (spStands K) := by
  obtain ⟨_, G_fallen, b_fallen, kp_fallen⟩ := ok_fallen (P := P) (base := base) T
  refine mkOk T.d_stands sc_stands (fun vs H Q E h => ?_) (fun _ _ _ _ _ _ us hl => match us, hl with | [_, _], _ => rfl) (fun cdv A outer s H vs Q E hr h => ?_)
  · obtain ⟨p, B, ct, bk, rfl, _⟩ := h
    rfl
  · obtain ⟨p, B, ct, bk, rfl, hw, cok, hb, bok, q⟩ := h
    refine ⟨_, (pss_one (ps_ret (pe_cmpR (op_eqET (hu_of hr)) (pe_call G_fallen (hr.mono (by omega)) (by rfl) T.g_fallen kp_fallen b_fallen .nil pass0 (pa_cons (pv 0) (pa_cons (pv 1) pa_nil))) (pe_tup pa_nil) (nomark _)))), ?_⟩
    refine ⟨_, rfl, _, rfl, p, B, ct, bk, rfl, hw, cok, hb, bok, fun H1 R acc s1 eR ea => ⟨Nat.zero_le _, fun b nb => ⟨R, b, acc, rfl, rfl, SqT.of (upd_of eR nb), SqT.of upd_same, ?_⟩⟩⟩
    rw [ea]
    exact q _ (s1.up nb)
end
end Ta
namespace Ta
open PySem PySem.Spec PyProof.Rows L2 DX
theorem pe_fldK {X : Cx} {K : PySem.W.Frag} {e : Expr} {f : Str} {pos : Pos} {ta : TE} (h : X.K = K) (he : PE X e ta) (hb : attributeBase e f X.env (eval e X.env) = eval e X.env) : PE X (.Attribute e f pos) (tFld K ta f) := h ▸ pe_fld he hb
theorem valV_mem {kvs : List (List Key × V)} {k : List Key} {v : V} (h : valV kvs k = some v) : (k, v) ∈ kvs := by
  induction kvs with
  | nil => cases h
  | cons p r ih =>
    by_cases e : p.1 = k
    · rw [valV_pos e] at h
      cases h
      rw [← e]
      exact List.mem_cons_self
    · rw [valV_neg e] at h
      exact List.mem_cons_of_mem _ (ih h)
theorem valV_at : ∀ {kvs : List (List Key × V)} {i : Nat} {k : List Key} {v : V}, (kvs.map (·.1)).Nodup → kvs[i]? = some (k, v) → valV kvs k = some v
  | p :: r, 0, k, v, _, h => by
    cases h
    exact valV_pos rfl
  | p :: r, i + 1, k, v, nd, h => by
    rw [List.map_cons] at nd
    obtain ⟨n1, n2⟩ := List.nodup_cons.mp nd
    rw [valV_neg fun e => n1 (by rw [e]; exact List.mem_map.mpr ⟨(k, v), List.mem_of_getElem? (i := i) h, rfl⟩)]
    exact valV_at n2 (i := i) h
/-- an asker's surroundings: the heap at the beginning, the world, the asker, its dict -/
structure Gh where
  H0 : Hp
  ct : Ct
  p : Addr
  a : Addr
  D : Addr
structure GhOk (K : PySem.W.Frag) (g : Gh) : Prop where
  wo : WorldAt K g.H0 g.p g.ct
  ok : CtOk g.ct
  nD : g.H0 g.D = none
structure AskSt (K : PySem.W.Frag) (g : Gh) (H : Hp) (kvs : List (List Key × V)) : Prop where
  s0 : L2.Same g.H0 H
  as : ∃ dx, H g.a = some (.ins (He.ga K "WorldAsker") dx [("world", .ref g.p), ("known", .ref g.D)])
  kn : H g.D = some (.dT kvs)
  en : ∀ kv ∈ kvs, PlaceOk kv.1 ∧ Dq H kv.2 (ctAt g.ct kv.1)
  nd : (kvs.map (·.1)).Nodup
theorem AskSt.keep {K : PySem.W.Frag} {g : Gh} {H H' : Hp} {kvs : List (List Key × V)} (h : AskSt K g H kvs) (s : L2.Same H H') : AskSt K g H' kvs := by
  obtain ⟨h1, ⟨dx, h2⟩, h3, h4, h5⟩ := h
  exact ⟨h1.trans s, ⟨dx, s _ _ h2⟩, s _ _ h3, fun kv hk => ⟨(h4 kv hk).1, (h4 kv hk).2.mono (Tups.of s)⟩, h5⟩
theorem putK_mem {kvs : List (List Key × V)} {k : List Key} {v : V} {x : List Key × V} (h : x ∈ putK kvs k v) (n : k ∉ kvs.map (·.1)) : x ∈ kvs ∨ x = (k, v) := by
  rw [putK_new v (valV_out n)] at h
  exact (List.mem_append.mp h).imp id List.mem_singleton.mp
section
variable {P : Program} {w : World} {K : PySem.W.Frag} {mg : Str → Option Value} {base : Heap}
/-! ### WorldAsker -/
def spAskerInit (K : PySem.W.Frag) : Sp := fun vs H Q _ => ∃ (a p dx : Addr), vs = [.ref a, .ref p] ∧ H a = some (.ins (He.ga K "WorldAsker") dx []) ∧
  ∀ D, H D = none → Q .non (upd (upd (upd H a (.ins (He.ga K "WorldAsker") dx [("world", .ref p)])) D (.dT [])) a (.ins (He.ga K "WorldAsker") dx [("world", .ref p), ("known", .ref D)]))
theorem sc_WorldAsker___init__ : FnScope ["self", "world"] ["self", "world"] (defScope s_WorldAsker___init__) := ⟨rfl, rfl, rfl, by decide +kernel, rfl, by decide +kernel, by decide +kernel⟩
theorem ok_WorldAsker___init__ (T : Tx w K mg) : Ok P w K mg base CX0 1 ("WorldAsker", some "__init__") ["self", "world"] (spAskerInit K) := by
  refine mkOk T.d_WorldAsker___init__ sc_WorldAsker___init__ (fun vs H Q E h => ?_) (fun _ _ _ _ _ _ us hl => match us, hl with | [_, _], _ => rfl) (fun cdv A outer s H vs Q E hr h => ?_)
  · obtain ⟨a, p, dx, rfl, _⟩ := h
    rfl
  · obtain ⟨a, p, dx, rfl, ea, q⟩ := h
    refine ⟨_, (pss_cons (ps_fld (pv 0) (pv 1) rfl)
      (pss_one (ps_fld (pv 0) pe_dnewT rfl))), ?_⟩
    refine ⟨_, rfl, _, rfl, a, _, dx, _, rfl, ea, T.cls_WorldAsker, T.a_WorldAsker_world, by decide, ?_⟩
    refine fun D nD => ⟨_, rfl, a, _, dx, _, rfl, upd_of upd_same nD, T.cls_WorldAsker, T.a_WorldAsker_known, (show (1 : Nat) < 1000 by decide), ?_⟩
    have nDa : D ≠ a := fun z => by rw [z, upd_same] at nD; cases nD
    rw [upd_ne nDa] at nD
    exact q D nD
def spAsk (K : PySem.W.Frag) : Sp := fun vs H Q _ => ∃ (g : Gh) (b : Addr) (k : List Key) (kvs : List (List Key × V)), vs = [.ref g.a, .ref b] ∧ GhOk K g ∧ AskSt K g H kvs ∧ H b = some (.tup (k.map kV)) ∧ PlaceOk k ∧ kvs.length < 4000 ∧
  ∀ H' v kvs', Keep [g.D] H H' → AskSt K g H' kvs' → kvs' ≠ [] → kvs'.length ≤ kvs.length + 1 → Dq H' v (ctAt g.ct k) → Q v H'
theorem sc_WorldAsker_ask : FnScope ["self", "place"] ["self", "place"] (defScope s_WorldAsker_ask) := ⟨rfl, rfl, rfl, by decide +kernel, rfl, by decide +kernel, by decide +kernel⟩
theorem ok_WorldAsker_ask (T : Tx w K mg) : Ok P w K mg base CX0 10 ("WorldAsker", some "ask") ["self", "place"] (spAsk K) := by
  obtain ⟨_, G_World_content, b_World_content, kp_World_content⟩ := ok_World_content (P := P) (base := base) T
  refine mkOk T.d_WorldAsker_ask sc_WorldAsker_ask (fun vs H Q E h => ?_) (fun _ _ _ _ _ _ us hl => match us, hl with | [_, _], _ => rfl) (fun cdv A outer s H vs Q E hr h => ?_)
  · obtain ⟨g, b, k, kvs, rfl, _⟩ := h
    rfl
  · obtain ⟨g, b, k, kvs, rfl, gok, st, eb, pk, few, q⟩ := h
    have line := sizeLine_eq
    obtain ⟨s0, ⟨dx, ea⟩, eD, en, nd⟩ := id st
    refine ⟨_, (pss_cons (ps_if (pt_cmp (pc_dnotin (hu_of hr) (pv 1) (pe_fld (pv 0) rfl)) (by rfl)) (pss_one (ps_dput (hu_of hr) (pe_fld (pv 0) rfl) (pv 1) (pe_meth (pe_fld (pv 0) rfl) T.cls_World T.m_World_content G_World_content (hr.mono (by omega)) b_World_content .nil pass0 (pa_cons (pv 1) pa_nil)) rfl)) pss_nil)
      (pss_one (ps_ret (pe_dget (hu_of hr) (pe_fld (pv 0) rfl) (pv 1) (fun _ _ => rfl))))), ?_⟩
    refine ⟨_, rfl, _, rfl, g.a, _, dx, _, V.ref g.D, rfl, ea, T.cls_WorldAsker, T.a_WorldAsker_known, rfl, g.D, _, rfl, DGet.t eD eb, _, rfl, ?_⟩
    cases hv : valV kvs k with
    | some v =>
      refine ifF rfl ?_
      refine ⟨_, rfl, g.a, _, dx, _, V.ref g.D, rfl, ea, T.cls_WorldAsker, T.a_WorldAsker_known, rfl, _, rfl, g.D, v, rfl, ?_, ?_⟩
      · have := DGet.t (H := H) eD eb
        rw [hv] at this
        exact this
      · have hm := valV_mem hv
        exact q H v kvs (Keep.refl _ _) st (fun z => by rw [z] at hm; cases hm) (Nat.le_succ _) (en _ hm).2
    | none =>
      refine ifT rfl ?_
      have nk : k ∉ kvs.map (·.1) := fun z => by
        have := valV_in z
        rw [hv] at this
        cases this
      obtain ⟨wx, wD, wR, wkv, wrs, w1, w2⟩ := gok.wo.mono s0
      refine ⟨_, rfl, g.a, _, dx, _, V.ref g.p, rfl, ea, T.cls_WorldAsker, T.a_WorldAsker_world, rfl, g.p, wx, _, rfl, w1, rfl, _, rfl, g.p, b, g.ct, k, rfl, ⟨wx, wD, wR, wkv, wrs, w1, w2⟩, eb, pk, fun H1 v s1 d1 => ?_⟩
      refine ⟨_, rfl, g.a, _, dx, _, V.ref g.D, rfl, s1 _ _ ea, T.cls_WorldAsker, T.a_WorldAsker_known, rfl, _, rfl, g.D, _, rfl, DPut.t (s1 _ _ eD) (s1 _ _ eb) (by omega), ?_⟩
      have neA : g.a ≠ g.D := ne_of ea eD (by intro z; cases z)
      have tp : Tups H1 (upd H1 g.D (.dT (putK kvs k v))) := Tups.upd fun xs z => by
        rw [s1 _ _ eD] at z
        cases z
      have ea2 : upd H1 g.D (.dT (putK kvs k v)) g.a = some (.ins (He.ga K "WorldAsker") dx [("world", .ref g.p), ("known", .ref g.D)]) := by
        rw [upd_ne neA]
        exact s1 _ _ ea
      have pk2 := putK_new v (valV_out nk)
      have vk : valV (putK kvs k v) k = some v := by rw [valV_put, if_pos rfl]
      refine ⟨_, rfl, g.a, _, dx, _, V.ref g.D, rfl, ea2, T.cls_WorldAsker, T.a_WorldAsker_known, rfl, _, rfl, g.D, v, rfl, ?_, ?_⟩
      · have := DGet.t (H := upd H1 g.D (.dT (putK kvs k v))) upd_same (tp _ _ (s1 _ _ eb))
        rw [vk] at this
        exact this
      · refine q _ v (putK kvs k v) ((Keep.of s1).at (List.mem_singleton.mpr rfl)) ⟨(s0.trans s1).at0 gok.nD, ⟨dx, ea2⟩, upd_same, fun x hx => ?_, ?_⟩ ?_ ?_ (d1.mono tp)
        · rcases putK_mem hx nk with hx | rfl
          · exact ⟨(en x hx).1, ((en x hx).2.mono (Tups.of s1)).mono tp⟩
          · exact ⟨pk, d1.mono tp⟩
        · rw [putK_keys]
          exact addK_nd nd
        · rw [pk2]
          simp
        · rw [pk2, List.length_append]
          exact Nat.le_refl _
def bookOf (ct : Ct) (kvs : List (List Key × V)) : Bk := kvs.map fun kv => (kv.1, ctGet ct kv.1)
def spAllAsked (K : PySem.W.Frag) : Sp := fun vs H Q _ => ∃ (g : Gh) (kvs : List (List Key × V)), vs = [.ref g.a] ∧ GhOk K g ∧ AskSt K g H kvs ∧ kvs.length ≤ 4000 ∧ ∀ H' B, L2.Same H H' → BookAt H' B (bookOf g.ct kvs) → Q (.ref B) H'
theorem sc_WorldAsker_all_asked : FnScope ["self", "place"] ["self"] (defScope s_WorldAsker_all_asked) := ⟨rfl, rfl, rfl, by decide +kernel, rfl, by decide +kernel, by decide +kernel⟩
theorem ok_WorldAsker_all_asked (T : Tx w K mg) : Ok P w K mg base CX0 1 ("WorldAsker", some "all_asked") ["self"] (spAllAsked K) := by
  refine mkOk T.d_WorldAsker_all_asked sc_WorldAsker_all_asked (fun vs H Q E h => ?_) (fun _ _ _ _ _ _ us hl => match us, hl with | [_], _ => rfl) (fun cdv A outer s H vs Q E hr h => ?_)
  · obtain ⟨g, kvs, rfl, _⟩ := h
    rfl
  · obtain ⟨g, kvs, rfl, gok, st, few, q⟩ := h
    have line := sizeLine_eq
    obtain ⟨s0, ⟨dx, ea⟩, eD, en, nd⟩ := id st
    have neA : g.a ≠ g.D := ne_of ea eD (by intro z; cases z)
    refine ⟨_, (pss_one (ps_ret (pe_tupleOf (by rfl) T.n_tuple (pe_lock (pe_lc (own := [("place", 1)]) (g := gName 1) (tt := tYes) rfl sc_WorldAsker_all_asked.nd (pi_keys (pe_fld (pv 0) rfl)) (blkOk_by (own := [("place", 1)]) (N := ["self", "place"]) (sc := defScope s_WorldAsker_all_asked) (by decide +kernel)) (fun _ _ _ _ _ => (pg_name (i := 1) sc_WorldAsker_all_asked.nd (by rfl) (Or.inl rfl))) (fun _ _ _ _ _ => pts_nil) (fun _ _ _ _ _ => (pe_tup (pa_cons (pv 1) (pa_cons (pe_dget (hu_of hr) (pe_fldK (K := K) rfl (pv 0) rfl) (pv 1) (fun _ _ => rfl)) pa_nil))))))))), ?_⟩
    refine ⟨g.D, _, eD, trivial, fun od => ?_⟩
    have ea1 : upd H g.D (.frz od (.dT kvs)) g.a = some (.ins (He.ga K "WorldAsker") dx [("world", .ref g.p), ("known", .ref g.D)]) := by
      rw [upd_ne neA]
      exact ea
    have tp : Tups H (upd H g.D (.frz od (.dT kvs))) := Tups.upd fun xs z => by
      rw [eD] at z
      cases z
    have rowOk : ∀ {H' : Hp} {kv : List Key × V} {r qa : Addr}, kv ∈ kvs → Tups H H' → H' r = some (.tup [.ref qa, kv.2]) → H' qa = some (.tup (kv.1.map kV)) → RowAt H' (.ref r) kv.1 (ctGet g.ct kv.1) := fun {H' kv r qa} hk t e1 e2 => by
      refine ⟨r, qa, kv.2, rfl, e1, e2, ?_⟩
      have h2 := (en kv hk).2
      unfold ctAt at h2
      cases z : ctGet g.ct kv.1 with
      | none =>
        rw [z] at h2
        show kv.2 = .non
        generalize kv.2 = v at h2
        cases h2
        rfl
      | some d =>
        rw [z] at h2
        exact ⟨gok.ok.co _ (ctGet_mem z), h2.mono t⟩
    refine ⟨_, rfl, g.a, _, dx, _, V.ref g.D, rfl, ea1, T.cls_WorldAsker, T.a_WorldAsker_known, rfl, g.D, od, rfl, .inr ⟨kvs, upd_same, fun F nF => ?_⟩⟩
    have nFD : F ≠ g.D := fun z => by rw [z, upd_same] at nF; cases nF
    refine lc_it (walk_keysT (d := g.D) (o := od) (kvs := kvs)) (GP (upd H g.D (.frz od (.dT kvs))) F fun i acc H' => Paired (fun v kc => RowAt H' v kc.1 kc.2) acc (bookOf g.ct (kvs.take i))) (GP.start nF .nil) (fun i H' _ g' => g'.1 _ _ upd_same) ?_ ?_
    · rintro i v H1 H2 hi ⟨g1, acc, g2, g3⟩ ⟨rfl, k, v', qa, hk, rfl, ep⟩
      have km := List.mem_of_getElem? hk
      refine ⟨rfl, _, rfl, _, rfl, g.a, _, dx, _, V.ref g.D, rfl, g1 _ _ ea1, T.cls_WorldAsker, T.a_WorldAsker_known, rfl, _, rfl, g.D, v', rfl, .inr ⟨kvs, k, qa, .inr ⟨od, g1 _ _ upd_same⟩, rfl, ep, ?_⟩, by show 2 ≤ sizeLine; decide, fun r nr => ?_⟩
      · have := valV_at nd hk
        exact this.symm
      · have al : acc.length = i := by
          have := g3.length
          rw [bookOf, List.length_map, List.length_take] at this
          have := get_lt hk
          omega
        refine GP.push nF g1 g2 ((Same.refl _).up nr) (by have := get_lt hk; omega) ?_
        have tF : Tups H2 (upd (upd H2 r (.tup [.ref qa, v'])) F (.lst (acc ++ [.ref r]))) := (Tups.of ((Same.refl H2).up nr)).trans (Tups.upd fun xs z => by
          rw [upd_ne (ne_of_none g2 nr), g2] at z
          cases z)
        have e9 : bookOf g.ct (kvs.take (i + 1)) = bookOf g.ct (kvs.take i) ++ [(k, ctGet g.ct k)] := by
          unfold bookOf
          rw [List.take_add_one, hk, List.map_append] <;> rfl
        show Paired _ _ _
        rw [e9]
        refine Paired.snoc (Paired.mapP g3 fun x y z => z.mono tF) (rowOk (kv := (k, v')) km ((tp.trans (Tups.of g1)).trans tF) ?_ (tF _ _ ep))
        rw [upd_ne (ne_of_none g2 nr).symm]
        exact upd_same
    · rintro H1 ⟨g1, acc, g2, g3⟩
      rw [take_all (Nat.le_refl _)] at g3
      refine ⟨g1 _ _ upd_same, ?_⟩
      have sb : L2.Same H (upd H1 g.D (.dT kvs)) := fun b o eb => by
        by_cases z : b = g.D
        · subst z
          rw [upd_same, ← eD, eb]
        · rw [upd_ne z]
          refine g1 b o ?_
          rw [upd_ne z]
          exact eb
      have tB : Tups H1 (upd H1 g.D (.dT kvs)) := Tups.upd fun xs z => by
        rw [g1 _ _ upd_same] at z
        cases z
      refine .inl ⟨F, acc, rfl, SqL.of (by rw [upd_ne nFD]; exact g2), fun B nB => q _ B (sb.up nB) ⟨acc, upd_same, Paired.mapP g3 fun x y z => (z.mono tB).mono (Tups.of ((Same.refl _).up nB))⟩⟩
end
end Ta
namespace Ta
/-! ### what an order is spent -/
structure Ch where
  r : Int
  f : Int
  c : Int
def Ch.F (x : Ch) : Int := x.f + 1
def Ch.D (x : Ch) : Int := x.r + 2
def Ch.N (x : Ch) : Int := x.r + 1 - x.f
structure Ch.Ok (x : Ch) : Prop where
  r0 : 0 ≤ x.r
  r1 : x.r ≤ 1000
  f0 : 0 ≤ x.f
  f1 : x.f ≤ x.r
  c0 : 1 ≤ x.c
  c1 : x.c ≤ 100000
/-- one above the other -/
def Ch.above (x y : Ch) : Bool := decide ((x.f + 1) * (y.r + 2) * y.c > (y.f + 1) * (x.r + 2) * x.c)
def PD : List Ch → Int
  | [] => 1
  | x :: r => x.D * PD r
def PN : List Ch → Int
  | [] => 1
  | x :: r => x.N * PN r
/-- the cost by the product of all denominators -/
def TC : List Ch → Int
  | [] => 0
  | x :: r => x.c * x.D * PD r + x.N * TC r
theorem PD_pos : ∀ {l : List Ch}, (∀ x ∈ l, x.Ok) → 0 < PD l
  | [], _ => by decide
  | x :: r, h => by
    have h1 := (h x List.mem_cons_self).r0
    exact Int.mul_pos (by unfold Ch.D; omega) (PD_pos fun y hy => h y (List.mem_cons_of_mem _ hy))
theorem PD_perm {l m : List Ch} (p : l.Perm m) : PD l = PD m := by
  induction p with
  | nil => rfl
  | cons x _ ih => simp only [PD, ih]
  | swap x y l =>
    simp only [PD]
    rw [← Int.mul_assoc, ← Int.mul_assoc, Int.mul_comm x.D]
  | trans _ _ i1 i2 => exact i1.trans i2
/-- two neighbours changed about -/
theorem TC_swap {a b : Ch} {r : List Ch} (ha : a.Ok) (hb : b.Ok) (hr : ∀ x ∈ r, x.Ok) (h : Ch.above a b = false) : TC (b :: a :: r) ≤ TC (a :: b :: r) := by
  have hp := PD_pos hr
  have h2 : (a.f + 1) * (b.r + 2) * b.c ≤ (b.f + 1) * (a.r + 2) * a.c := by
    have := of_decide_eq_false h
    omega
  have e : TC (a :: b :: r) - TC (b :: a :: r) = PD r * (a.c * a.D * b.F - b.c * b.D * a.F) := by
    have aN : a.N = a.D - a.F := by unfold Ch.N Ch.D Ch.F; omega
    have bN : b.N = b.D - b.F := by unfold Ch.N Ch.D Ch.F; omega
    simp only [TC, PD, aN, bN]
    generalize PD r = p
    generalize TC r = t
    generalize a.D = x1
    generalize b.D = x2
    generalize a.F = x3
    generalize b.F = x4
    generalize a.c = x5
    generalize b.c = x6
    simp only [Int.mul_add, Int.add_mul, Int.mul_sub, Int.sub_mul]
    simp only [Int.mul_assoc, Int.mul_comm, Int.mul_left_comm]
    omega
  have h3 : 0 ≤ a.c * a.D * b.F - b.c * b.D * a.F := by
    have e1 : a.c * a.D * b.F = (b.f + 1) * (a.r + 2) * a.c := by
      simp only [Ch.D, Ch.F]
      rw [Int.mul_comm a.c, Int.mul_comm _ (b.f + 1), ← Int.mul_assoc]
    have e2 : b.c * b.D * a.F = (a.f + 1) * (b.r + 2) * b.c := by
      simp only [Ch.D, Ch.F]
      rw [Int.mul_comm b.c, Int.mul_comm _ (a.f + 1), ← Int.mul_assoc]
    rw [e1, e2]
    omega
  have := Int.mul_nonneg (Int.le_of_lt hp) h3
  omega
theorem TC_front {x : Ch} (hx : x.Ok) : ∀ {p r : List Ch}, (∀ y ∈ p, y.Ok) → (∀ y ∈ r, y.Ok) → (∀ y ∈ p, Ch.above y x = false) → TC (x :: (p ++ r)) ≤ TC (p ++ x :: r)
  | [], r, _, _, _ => Int.le_refl _
  | a :: p, r, hp, hr, h => by
    have ha := hp a List.mem_cons_self
    have ih := TC_front hx (p := p) (r := r) (fun y hy => hp y (List.mem_cons_of_mem _ hy)) hr (fun y hy => h y (List.mem_cons_of_mem _ hy))
    have hpr : ∀ y ∈ p ++ r, y.Ok := fun y hy => (List.mem_append.mp hy).elim (fun z => hp y (List.mem_cons_of_mem _ z)) (hr y)
    refine Int.le_trans (TC_swap ha hx hpr (h a List.mem_cons_self)) ?_
    show a.c * a.D * PD (x :: (p ++ r)) + a.N * TC (x :: (p ++ r)) ≤ a.c * a.D * PD (p ++ x :: r) + a.N * TC (p ++ x :: r)
    rw [PD_perm (List.perm_middle : (p ++ x :: r).Perm (x :: (p ++ r)))]
    have hn : 0 ≤ a.N := by
      have := ha.f1
      unfold Ch.N
      omega
    have := Int.mul_le_mul_of_nonneg_left ih hn
    omega
theorem TC_best : ∀ {g o : List Ch}, (∀ x ∈ g, x.Ok) → g.Pairwise (fun a b => Ch.above b a = false) → o.Perm g → TC g ≤ TC o
  | [], o, _, _, p => by
    rw [p.eq_nil]
    exact Int.le_refl _
  | x :: g, o, ok, pw, p => by
    obtain ⟨h1, h2⟩ := List.pairwise_cons.mp pw
    obtain ⟨s, t, rfl⟩ := List.append_of_mem (p.mem_iff.mpr List.mem_cons_self)
    have p2 : (s ++ t).Perm g := List.Perm.cons_inv (List.perm_middle.symm.trans p)
    have hx := ok x List.mem_cons_self
    have hg : ∀ y ∈ g, y.Ok := fun y hy => ok y (List.mem_cons_of_mem _ hy)
    have hs : ∀ y ∈ s ++ t, y ∈ g := fun y hy => p2.mem_iff.mp hy
    have e1 := TC_front hx (p := s) (r := t) (fun y hy => hg y (hs y (List.mem_append_left _ hy))) (fun y hy => hg y (hs y (List.mem_append_right _ hy))) (fun y hy => h1 y (hs y (List.mem_append_left _ hy)))
    refine Int.le_trans ?_ e1
    have ih := TC_best hg h2 p2
    show x.c * x.D * PD g + x.N * TC g ≤ x.c * x.D * PD (s ++ t) + x.N * TC (s ++ t)
    rw [PD_perm p2]
    have hn : 0 ≤ x.N := by
      have := hx.f1
      unfold Ch.N
      omega
    have := Int.mul_le_mul_of_nonneg_left ih hn
    omega
/-- the order of the ratios -/
theorem above_tr {i o x : Ch} (hi : i.Ok) (ho : o.Ok) (hx : x.Ok) (h1 : Ch.above i o = false) (h2 : Ch.above x o = true) : Ch.above i x = false := by
  have a1 := of_decide_eq_false h1
  have a2 := of_decide_eq_true h2
  refine decide_eq_false ?_
  have wo : 0 < (o.r + 2) * o.c := Int.mul_pos (by have := ho.r0; omega) (by have := ho.c0; omega)
  have wi : 0 < (i.r + 2) * i.c := Int.mul_pos (by have := hi.r0; omega) (by have := hi.c0; omega)
  have wx : 0 < (x.r + 2) * x.c := Int.mul_pos (by have := hx.r0; omega) (by have := hx.c0; omega)
  rw [Int.mul_assoc, Int.mul_assoc] at a1 a2 ⊢
  generalize (o.r + 2) * o.c = Wo at *
  generalize (i.r + 2) * i.c = Wi at *
  generalize (x.r + 2) * x.c = Wx at *
  generalize i.f + 1 = Fi at *
  generalize o.f + 1 = Fo at *
  generalize x.f + 1 = Fx at *
  intro h
  have b1 : Fi * Wo ≤ Fo * Wi := by omega
  have b2 : Fo * Wx ≤ Fx * Wo := by omega
  have h3 : Fx * Wi < Fi * Wx := h
  have c1 := Int.mul_le_mul_of_nonneg_left b1 (Int.le_of_lt wx)
  have c2 := Int.mul_le_mul_of_nonneg_left b2 (Int.le_of_lt wi)
  have c3 := Int.mul_lt_mul_of_pos_left h3 wo
  have e1 : Wx * (Fi * Wo) = Wo * (Fi * Wx) := by simp only [Int.mul_assoc, Int.mul_comm, Int.mul_left_comm]
  have e2 : Wx * (Fo * Wi) = Wi * (Fo * Wx) := by simp only [Int.mul_assoc, Int.mul_comm, Int.mul_left_comm]
  have e3 : Wi * (Fx * Wo) = Wo * (Fx * Wi) := by simp only [Int.mul_assoc, Int.mul_comm, Int.mul_left_comm]
  omega
theorem above_irr (x : Ch) : Ch.above x x = false := by
  refine decide_eq_false ?_
  omega
/-! ### the sum as it is walked -/
/-- s0/s1 spent, l0/l1 left, over M -/
structure Wk (s0 s1 l0 l1 S L M : Int) : Prop where
  s : s0 * M = S * s1
  l : l0 * M = L * l1
  s0p : 0 ≤ s0
  s1p : 0 < s1
  l0p : 0 ≤ l0
  l1p : 0 < l1
  Mp : 0 < M
theorem Wk.start : Wk 0 1 1 1 0 1 1 := ⟨by decide, by decide, by decide, by decide, by decide, by decide, by decide⟩
theorem Wk.step {s0 s1 l0 l1 S L M : Int} {x : Ch} (h : Wk s0 s1 l0 l1 S L M) (hx : x.Ok) : Wk (s0 * l1 + x.c * l0 * s1) (s1 * l1) (l0 * x.N) (l1 * x.D) ((S + x.c * L) * x.D) (L * x.N) (M * x.D) := by
  have hD : 0 < x.D := by have := hx.r0; unfold Ch.D; omega
  have hN : 0 ≤ x.N := by have := hx.f1; unfold Ch.N; omega
  have hc : 0 ≤ x.c := by have := hx.c0; omega
  refine ⟨?_, ?_, ?_, Int.mul_pos h.s1p h.l1p, Int.mul_nonneg h.l0p hN, Int.mul_pos h.l1p hD, Int.mul_pos h.Mp hD⟩
  · have e1 : s0 * l1 * (M * x.D) = (s0 * M) * (l1 * x.D) := by simp only [Int.mul_assoc, Int.mul_comm, Int.mul_left_comm]
    have e2 : x.c * l0 * s1 * (M * x.D) = (l0 * M) * (x.c * s1 * x.D) := by simp only [Int.mul_assoc, Int.mul_comm, Int.mul_left_comm]
    rw [Int.add_mul, e1, e2, h.s, h.l, Int.add_mul, Int.add_mul]
    simp only [Int.mul_assoc, Int.mul_comm, Int.mul_left_comm]
  · have e1 : l0 * x.N * (M * x.D) = (l0 * M) * (x.N * x.D) := by simp only [Int.mul_assoc, Int.mul_comm, Int.mul_left_comm]
    rw [e1, h.l]
    simp only [Int.mul_assoc, Int.mul_comm, Int.mul_left_comm]
  · exact Int.add_nonneg (Int.mul_nonneg h.s0p (Int.le_of_lt h.l1p)) (Int.mul_nonneg (Int.mul_nonneg hc h.l0p) (Int.le_of_lt h.s1p))
/-- a fraction made shorter -/
theorem Wk.cutS {g s0 s1 l0 l1 S L M : Int} (h : Wk (g * s0) (g * s1) l0 l1 S L M) (g0 : 0 < g) : Wk s0 s1 l0 l1 S L M where
  s := by
    have := h.s
    rw [Int.mul_assoc, Int.mul_left_comm S] at this
    exact Int.eq_of_mul_eq_mul_left (Int.ne_of_gt g0) this
  l := h.l
  s0p := Int.nonneg_of_mul_nonneg_right h.s0p g0
  s1p := Int.pos_of_mul_pos_right h.s1p g0
  l0p := h.l0p
  l1p := h.l1p
  Mp := h.Mp
theorem Wk.cutL {g s0 s1 l0 l1 S L M : Int} (h : Wk s0 s1 (g * l0) (g * l1) S L M) (g0 : 0 < g) : Wk s0 s1 l0 l1 S L M where
  s := h.s
  l := by
    have := h.l
    rw [Int.mul_assoc, Int.mul_left_comm L] at this
    exact Int.eq_of_mul_eq_mul_left (Int.ne_of_gt g0) this
  s0p := h.s0p
  s1p := h.s1p
  l0p := Int.nonneg_of_mul_nonneg_right h.l0p g0
  l1p := Int.pos_of_mul_pos_right h.l1p g0
  Mp := h.Mp
def fS : Int → Int → List Ch → Int
  | S, _, [] => S
  | S, L, x :: r => fS ((S + x.c * L) * x.D) (L * x.N) r
theorem fS_eq : ∀ (S L : Int) (l : List Ch), fS S L l = S * PD l + L * TC l
  | S, L, [] => by simp [fS, PD, TC]
  | S, L, x :: r => by
    rw [fS, fS_eq]
    simp only [PD, TC]
    generalize PD r = p
    generalize TC r = t
    simp only [Int.mul_add, Int.add_mul]
    simp only [Int.mul_assoc, Int.mul_comm, Int.mul_left_comm]
    omega
/-- two sums of the same chances compared by their fractions -/
theorem frac_le {a b x y S T M : Int} (h1 : a * M = S * b) (h2 : x * M = T * y) (b0 : 0 < b) (y0 : 0 < y) (M0 : 0 < M) (h : S ≤ T) : a * y ≤ x * b := by
  have e1 : (a * y) * M = S * (b * y) := by rw [Int.mul_right_comm, h1, Int.mul_assoc]
  have e2 : (x * b) * M = T * (b * y) := by rw [Int.mul_right_comm, h2, Int.mul_assoc, Int.mul_comm y b]
  have h3 := Int.mul_le_mul_of_nonneg_right h (Int.le_of_lt (Int.mul_pos b0 y0))
  rw [← e1, ← e2] at h3
  exact Int.le_of_mul_le_mul_right h3 M0
end Ta
namespace Ta
open PySem PySem.Spec PyProof.Rows L2
def ChV (x : Ch) : List V := [.int x.r, .int x.f, .int x.c]
def ChAt (H : Hp) (L : Addr) (cs : List Ch) : Prop := ∃ as : List Addr, H L = some (.lst (as.map V.ref)) ∧ Paired (fun a x => H a = some (.tup (ChV x))) as cs
theorem ChAt.mono {H H' : Hp} {L : Addr} {cs : List Ch} (h : ChAt H L cs) (s : Same H H') : ChAt H' L cs := by
  obtain ⟨as, e, p⟩ := h
  exact ⟨as, s _ _ e, Paired.mapP p fun a x z => s _ _ z⟩
def chAt (cs : List Ch) (i : Nat) : Ch := (cs[i]?).getD ⟨0, 0, 1⟩
def abv (cs : List Ch) (i j : Nat) : Bool := Ch.above (chAt cs i) (chAt cs j)
theorem chAt_ok {cs : List Ch} (ok : ∀ x ∈ cs, x.Ok) (i : Nat) : (chAt cs i).Ok := by
  unfold chAt
  cases e : cs[i]? with
  | none => exact ⟨by decide, by decide, by decide, by decide, by decide, by decide⟩
  | some x => exact ok x (List.mem_of_getElem? e)
/-- the row at i -/
theorem ChAt.at {H : Hp} {L : Addr} {cs : List Ch} (h : ChAt H L cs) {i : Nat} (hi : i < cs.length) : ∃ (us : List V) (a : Addr), H L = some (.lst us) ∧ us.length = cs.length ∧ us[i]? = some (.ref a) ∧ H a = some (.tup (ChV (chAt cs i))) := by
  obtain ⟨as, e, p⟩ := h
  obtain ⟨a, h1, h2⟩ := DX.pget p (List.getElem?_eq_getElem hi)
  refine ⟨_, a, e, by rw [List.length_map, p.length], by rw [List.getElem?_map, h1]; rfl, ?_⟩
  unfold chAt
  rw [List.getElem?_eq_getElem hi]
  exact h2
theorem ChAt.len {H : Hp} {L : Addr} {cs : List Ch} (h : ChAt H L cs) : ∃ us : List V, H L = some (.lst us) ∧ us.length = cs.length := by
  obtain ⟨as, e, p⟩ := h
  exact ⟨_, e, by rw [List.length_map, p.length]⟩
theorem erase_map {α β : Type} (f : α → β) : ∀ (xs : List α) (j : Nat), (xs.map f).eraseIdx j = (xs.eraseIdx j).map f
  | [], _ => rfl
  | x :: xs, 0 => rfl
  | x :: xs, j + 1 => by
    show f x :: (xs.map f).eraseIdx j = f x :: (xs.eraseIdx j).map f
    rw [erase_map f xs j]
theorem erase_perm {α : Type} : ∀ {xs : List α} {j : Nat} {x : α}, xs[j]? = some x → xs.Perm (x :: xs.eraseIdx j)
  | y :: xs, 0, x, h => by
    cases h
    exact List.Perm.refl _
  | y :: xs, j + 1, x, h => ((erase_perm (xs := xs) (j := j) (x := x) h).cons y).trans (List.Perm.swap x y _)
theorem inV_nat {j : Nat} : ∀ {js : List Nat}, j ∉ js → inV (nV j) (js.map nV) = false
  | [], _ => rfl
  | i :: js, h => by
    have h1 : ¬ i = j := fun z => h (z ▸ List.mem_cons_self)
    have ih := inV_nat (fun z => h (List.mem_cons_of_mem _ z) : j ∉ js)
    unfold inV at ih ⊢
    rw [List.map_cons, List.any_cons, ih, Bool.or_false]
    have h2 : ¬ (i : Int) = (j : Int) := by omega
    simp [nV, eqV, h2]
theorem flat_nats (js : List Nat) : (js.map nV).all flatV = true := by
  rw [nVs]
  exact flat_ints _
section
variable {P : Program} {w : World} {K : PySem.W.Frag} {mg : Str → Option Value} {base : Heap}
/-! ### is_chance, ask_chances -/
def spIsChance : Sp := fun vs H Q _ => ∃ (a : Addr) (x : Ch), vs = [.ref a] ∧ H a = some (.tup (ChV x)) ∧ x.Ok ∧ ∀ H', Same H H' → Q (.bl true) H'
theorem sc_is_chance : FnScope ["thing"] ["thing"] (defScope s_is_chance) := ⟨rfl, rfl, rfl, by decide +kernel, rfl, by decide +kernel, by decide +kernel⟩
theorem ok_is_chance (T : Tx w K mg) : Ok P w K mg base CX0 2 ("is_chance", none) ["thing"] spIsChance := by
  obtain ⟨_, G_is_row, b_is_row, kp_is_row⟩ := ok_is_row (P := P) (base := base) T
  obtain ⟨_, G_is_whole, b_is_whole, kp_is_whole⟩ := ok_is_whole (P := P) (base := base) T
  refine mkOk T.d_is_chance sc_is_chance (fun vs H Q E h => ?_) (fun _ _ _ _ _ _ us hl => match us, hl with | [_], _ => rfl) (fun cdv A outer s H vs Q E hr h => ?_)
  · obtain ⟨a, x, rfl, _⟩ := h
    rfl
  · obtain ⟨a, x, rfl, e, ⟨r0, r1, f0, f1, c0, c1⟩, q⟩ := h
    refine ⟨_, (pss_cons (ps_if (PW.pt (pw_or (pt_not (pt_val (pe_call G_is_row (hr.mono (by omega)) (by rfl) T.g_is_row kp_is_row b_is_row .nil pass0 (pa_cons (pv 0) pa_nil)))) (pw_or (pt_cmpR op_ne (pe_callB call_len_seq (by rfl) T.n_len bt_len (pa_cons (pv 0) pa_nil)) pe_int (nomark _)) (pw_or1 (pt_not (pt_val (pe_call G_is_whole (hr.mono (by omega)) (by rfl) T.g_is_whole kp_is_whole b_is_whole .nil pass0 (pa_cons (pe_ix ix_tup (pv 0) pe_int (fun _ _ => rfl)) (pa_cons pe_int (pa_cons (pe_gi T.i_MOST_RUNS) pa_nil)))))))))) (pss_one (ps_ret pe_bl)) pss_nil)
      (pss_one (ps_ret (pe_and (pe_call G_is_whole (hr.mono (by omega)) (by rfl) T.g_is_whole kp_is_whole b_is_whole .nil pass0 (pa_cons (pe_ix ix_tup (pv 0) pe_int (fun _ _ => rfl)) (pa_cons pe_int (pa_cons (pe_ix ix_tup (pv 0) pe_int (fun _ _ => rfl)) pa_nil)))) (pe_one (pe_call G_is_whole (hr.mono (by omega)) (by rfl) T.g_is_whole kp_is_whole b_is_whole .nil pass0 (pa_cons (pe_ix ix_tup (pv 0) pe_int (fun _ _ => rfl)) (pa_cons pe_int (pa_cons (pe_gi T.i_MOST_COST) pa_nil))))))))), ?_⟩
    refine ⟨_, rfl, _, _, rfl, .inl ⟨rfl, a, rfl, .inr ⟨_, e⟩⟩, fun p o np => ⟨_, rfl, ?_⟩⟩
    have s1 : Same H (upd H p o) := (Same.refl H).up np
    have e1 := SqT.of (K := K) (s1 _ _ e)
    refine ⟨_, rfl, a, _, rfl, .inr e1, rfl, _, rfl, decF (show ¬ V.int (3 : Int) = V.int 3 → False from fun z => z rfl) ?_⟩
    refine ⟨_, rfl, a, _, 0, _, rfl, rfl, e1, at_of (j := 0) rfl rfl, x.r, 0, 1000, rfl, ?_⟩
    rw [decide_eq_true r0, decide_eq_true r1]
    refine ⟨_, rfl, ?_⟩
    refine ⟨_, rfl, a, _, 1, _, rfl, rfl, e1, at_of (j := 1) rfl rfl, _, rfl, a, _, 0, _, rfl, rfl, e1, at_of (j := 0) rfl rfl, x.f, 0, x.r, rfl, ?_⟩
    rw [decide_eq_true f0, decide_eq_true f1]
    refine ⟨_, rfl, ?_⟩
    refine ⟨_, rfl, a, _, 2, _, rfl, rfl, e1, at_of (j := 2) rfl rfl, x.c, 1, 100000, rfl, ?_⟩
    rw [decide_eq_true c0, decide_eq_true c1]
    exact q _ s1
def spAskChances : Sp := fun vs H Q _ => ∃ (L : Addr) (cs : List Ch), vs = [.ref L] ∧ ChAt H L cs ∧ cs.length ≤ 40 ∧ (∀ x ∈ cs, x.Ok) ∧ ∀ H', Same H H' → Q .non H'
theorem sc_ask_chances : FnScope ["chances", "at"] ["chances"] (defScope s_ask_chances) := ⟨rfl, rfl, rfl, by decide +kernel, rfl, by decide +kernel, by decide +kernel⟩
theorem ok_ask_chances (T : Tx w K mg) : Ok P w K mg base CX0 3 ("ask_chances", none) ["chances"] spAskChances := by
  obtain ⟨_, G_is_chance, b_is_chance, kp_is_chance⟩ := ok_is_chance (P := P) (base := base) T
  refine mkOk T.d_ask_chances sc_ask_chances (fun vs H Q E h => ?_) (fun _ _ _ _ _ _ us hl => match us, hl with | [_], _ => rfl) (fun cdv A outer s H vs Q E hr h => ?_)
  · obtain ⟨L, cs, rfl, _⟩ := h
    rfl
  · obtain ⟨L, cs, rfl, hc, few, ok, q⟩ := h
    obtain ⟨us, eL, ul⟩ := hc.len
    refine ⟨_, (pss_cons (ps_if (pt_cmpR op_gt (pe_callB call_len_seq (by rfl) T.n_len bt_len (pa_cons (pv 0) pa_nil)) (pe_gi T.i_MOST_CHANCES) (nomark _)) pss_never pss_nil)
      (pss_one (ps_for PassesOwn.never rfl (pi_range1 (by rfl) T.n_range (pa_cons (pe_callB call_len_seq (by rfl) T.n_len bt_len (pa_cons (pv 0) pa_nil)) pa_nil)) (pg_name (i := 1) sc_ask_chances.nd (by rfl) (Or.inl rfl)) (pss_one (ps_if (pt_not (pt_val (pe_call G_is_chance (hr.mono (by omega)) (by rfl) T.g_is_chance kp_is_chance b_is_chance .nil pass0 (pa_cons (pe_ix ix_list (pv 0) (pv 1) (fun _ _ => rfl)) pa_nil)))) pss_never pss_nil))))), ?_⟩
    refine ⟨_, rfl, L, _, rfl, .inl (SqL.of eL), _, _, rfl, rfl, _, rfl, ?_⟩
    refine decF (by omega) ?_
    refine ⟨_, rfl, L, _, rfl, .inl (SqL.of eL), _, rfl, by omega, by omega, ?_⟩
    rw [ul]
    refine for_range (fun i σ H' => (∃ v, σ = [some (.ref L), v]) ∧ Same H H') ⟨⟨none, rfl⟩, Same.refl H⟩ ?_ ?_
    · rintro i σ H1 hi ⟨⟨v, rfl⟩, s1⟩
      have hi2 : i < cs.length := by omega
      obtain ⟨us', a, e1, e2, e3, e4⟩ := (hc.mono s1).at hi2
      refine ⟨_, rfl, _, rfl, L, us', _, _, rfl, rfl, SqL.of e1, at_of (j := i) (by omega) e3, a, chAt cs i, rfl, e4, chAt_ok ok i, fun H2 s2 => ⟨_, rfl, ?_⟩⟩
      exact ⟨⟨_, rfl⟩, s1.trans s2⟩
    · rintro σ H1 ⟨_, s1⟩
      exact q _ s1
/-! ### is_order -/
structure OrdOk (n : Nat) (js : List Nat) : Prop where
  len : js.length = n
  nd : js.Nodup
  lt : ∀ j ∈ js, j < n
theorem OrdOk.of {n : Nat} {js : List Nat} (p : js.Perm (List.range n)) : OrdOk n js :=
  ⟨by rw [p.length_eq, List.length_range], p.nodup_iff.mpr List.nodup_range, fun j h => List.mem_range.mp (p.mem_iff.mp h)⟩
def spIsOrder : Sp := fun vs H Q _ => ∃ (a : Addr) (js : List Nat) (n : Nat), vs = [.ref a, .int n] ∧ H a = some (.tup (js.map nV)) ∧ OrdOk n js ∧ n ≤ 1000 ∧ ∀ H', Same H H' → Q (.bl true) H'
theorem sc_is_order : FnScope ["thing", "many", "at"] ["thing", "many"] (defScope s_is_order) := ⟨rfl, rfl, rfl, by decide +kernel, rfl, by decide +kernel, by decide +kernel⟩
theorem ok_is_order (T : Tx w K mg) : Ok P w K mg base CX0 2 ("is_order", none) ["thing", "many"] spIsOrder := by
  obtain ⟨_, G_is_row, b_is_row, kp_is_row⟩ := ok_is_row (P := P) (base := base) T
  obtain ⟨_, G_is_whole, b_is_whole, kp_is_whole⟩ := ok_is_whole (P := P) (base := base) T
  refine mkOk T.d_is_order sc_is_order (fun vs H Q E h => ?_) (fun _ _ _ _ _ _ us hl => match us, hl with | [_, _], _ => rfl) (fun cdv A outer s H vs Q E hr h => ?_)
  · obtain ⟨a, js, n, rfl, _⟩ := h
    rfl
  · obtain ⟨a, js, n, rfl, e, ⟨jl, nd, lt⟩, few, q⟩ := h
    refine ⟨_, (pss_cons (ps_if (PW.pt (pw_or (pt_not (pt_val (pe_call G_is_row (hr.mono (by omega)) (by rfl) T.g_is_row kp_is_row b_is_row .nil pass0 (pa_cons (pv 0) pa_nil)))) (pw_or1 (pt_cmpR op_ne (pe_callB call_len_seq (by rfl) T.n_len bt_len (pa_cons (pv 0) pa_nil)) (pv 1) (nomark _))))) (pss_one (ps_ret pe_bl)) pss_nil)
      (pss_cons (ps_for PassesOwn.never rfl (pi_range1 (by rfl) T.n_range (pa_cons (pv 1) pa_nil)) (pg_name (i := 2) sc_is_order.nd (by rfl) (Or.inl rfl)) (pss_one (ps_if (PW.pt (pw_or (pt_not (pt_val (pe_call G_is_whole (hr.mono (by omega)) (by rfl) T.g_is_whole kp_is_whole b_is_whole .nil pass0 (pa_cons (pe_ix ix_tup (pv 0) (pv 2) (fun _ _ => rfl)) (pa_cons pe_int (pa_cons (pe_op op_sub (pv 1) pe_int) pa_nil)))))) (pw_or1 (pt_cmpR op_in_seq (pe_ix ix_tup (pv 0) (pv 2) (fun _ _ => rfl)) (pe_slice sl_tup (pv 0) po_none (po_some (pv 2))) (by rfl))))) (pss_one (ps_ret pe_bl)) pss_nil)))
      (pss_one (ps_ret pe_bl)))), ?_⟩
    refine ⟨_, rfl, _, _, rfl, .inl ⟨rfl, a, rfl, .inr ⟨_, e⟩⟩, fun p o np => ⟨_, rfl, ?_⟩⟩
    have s1 : Same H (upd H p o) := (Same.refl H).up np
    have eq1 : decide (V.int (((js.map nV).length : Nat) : Int) = V.int (n : Int)) = true := decide_eq_true (by rw [List.length_map, jl])
    refine ⟨_, rfl, a, _, rfl, .inr (SqT.of (s1 _ _ e)), _, rfl, rfl, _, rfl, ?_⟩
    rw [eq1]
    refine ⟨_, rfl, _, rfl, by omega, by omega, ?_⟩
    rw [Int.toNat_natCast]
    refine for_range (fun i σ H' => (∃ v, σ = [some (.ref a), some (.int n), v]) ∧ Same H H') ⟨⟨none, rfl⟩, s1⟩ ?_ ?_
    · rintro i σ H1 hi ⟨⟨v, rfl⟩, s2⟩
      have hi2 : i < js.length := by omega
      have hj : js[i]? = some js[i] := List.getElem?_eq_getElem hi2
      have lj := lt _ (List.mem_of_getElem? hj)
      have ev : (js.map nV)[i]? = some (nV js[i]) := by rw [List.getElem?_map, hj]; rfl
      have eS := SqT.of (K := K) (s2 _ _ e)
      refine ⟨_, rfl, _, rfl, a, _, _, _, rfl, rfl, eS, at_of (j := i) (by omega) ev, _, rfl, _, _, rfl, rfl, _, 0, _, rfl, ?_⟩
      rw [decide_eq_true (show (0 : Int) ≤ ((js[i] : Nat) : Int) by omega), decide_eq_true (show ((js[i] : Nat) : Int) ≤ (n : Int) - 1 by omega)]
      refine ⟨_, rfl, ?_⟩
      refine ⟨_, rfl, _, rfl, a, _, _, _, rfl, rfl, eS, at_of (j := i) (by omega) ev, _, rfl, _, rfl, _, rfl, a, _, rfl, eS, ?_, fun p2 np2 => ?_⟩
      · rintro ⟨_, z⟩
        have z2 : HT.sIx (js.map nV).length (js.map nV).length (some (0 + (i : Int))) = (js.map nV).length := z
        rw [Int.zero_add, HT.sIx_nat, List.length_map] at z2
        omega
      · have ec : cutV (js.map nV) none (some (0 + (i : Int))) = (js.take i).map nV := by
          unfold cutV
          rw [Int.zero_add, HT.sIx_nat, HT.sIx_none, List.drop_zero, Nat.sub_zero, List.length_map, Nat.min_eq_left (by omega), List.map_take]
        refine ⟨p2, _, rfl, .inr (SqT.of upd_same), rfl, ?_, ?_⟩
        · rw [ec]
          exact flat_nats _
        · have e9 : inV (nV js[i]) (cutV (js.map nV) none (some (0 + (i : Int)))) = false := by
            rw [ec]
            exact inV_nat (nd_take nd hj)
          refine ⟨_, rfl, ?_⟩
          rw [e9]
          exact ⟨⟨_, rfl⟩, s2.up np2⟩
    · rintro σ H1 ⟨_, s2⟩
      exact q _ s2
/-! ### is_above, is_best_order -/
def spIsAbove : Sp := fun vs H Q _ => ∃ (a b : Addr) (x y : Ch), vs = [.ref a, .ref b] ∧ H a = some (.tup (ChV x)) ∧ H b = some (.tup (ChV y)) ∧ x.Ok ∧ y.Ok ∧ Q (.bl (Ch.above x y)) H
theorem sc_is_above : FnScope ["one", "other"] ["one", "other"] (defScope s_is_above) := ⟨rfl, rfl, rfl, by decide +kernel, rfl, by decide +kernel, by decide +kernel⟩
theorem ok_is_above (T : Tx w K mg) : Ok P w K mg base CX0 1 ("is_above", none) ["one", "other"] spIsAbove := by
  refine mkOk T.d_is_above sc_is_above (fun vs H Q E h => ?_) (fun _ _ _ _ _ _ us hl => match us, hl with | [_, _], _ => rfl) (fun cdv A outer s H vs Q E hr h => ?_)
  · obtain ⟨a, b, x, y, rfl, _⟩ := h
    rfl
  · obtain ⟨a, b, x, y, rfl, ea, eb, hx, hy, q⟩ := h
    have ea' := SqT.of (K := K) ea
    have eb' := SqT.of (K := K) eb
    have x1 := hx.f0
    have x2 := hx.f1
    have x3 := hx.r1
    have x4 := hx.c1
    have x5 := hx.c0
    have y1 := hy.f0
    have y2 := hy.f1
    have y3 := hy.r1
    have y4 := hy.c1
    have y5 := hy.c0
    refine ⟨_, (pss_one (ps_ret (pe_cmpR op_gt (pe_op op_mul (pe_op op_mul (pe_op op_add (pe_ix ix_tup (pv 0) pe_int (fun _ _ => rfl)) pe_int) (pe_op op_add (pe_ix ix_tup (pv 1) pe_int (fun _ _ => rfl)) pe_int)) (pe_ix ix_tup (pv 1) pe_int (fun _ _ => rfl))) (pe_op op_mul (pe_op op_mul (pe_op op_add (pe_ix ix_tup (pv 1) pe_int (fun _ _ => rfl)) pe_int) (pe_op op_add (pe_ix ix_tup (pv 0) pe_int (fun _ _ => rfl)) pe_int)) (pe_ix ix_tup (pv 0) pe_int (fun _ _ => rfl))) (nomark _)))), ?_⟩
    refine ⟨_, rfl, a, _, 1, _, rfl, rfl, ea', at_of (j := 1) rfl rfl, _, _, rfl, rfl, ?_⟩
    refine ⟨_, rfl, b, _, 0, _, rfl, rfl, eb', at_of (j := 0) rfl rfl, _, _, rfl, rfl, _, _, rfl, rfl, .inl ⟨by omega, by omega⟩, ?_⟩
    refine ⟨_, rfl, b, _, 2, _, rfl, rfl, eb', at_of (j := 2) rfl rfl, _, _, rfl, rfl, .inr ⟨by omega, by omega⟩, ?_⟩
    refine ⟨_, rfl, b, _, 1, _, rfl, rfl, eb', at_of (j := 1) rfl rfl, _, _, rfl, rfl, ?_⟩
    refine ⟨_, rfl, a, _, 0, _, rfl, rfl, ea', at_of (j := 0) rfl rfl, _, _, rfl, rfl, _, _, rfl, rfl, .inl ⟨by omega, by omega⟩, ?_⟩
    refine ⟨_, rfl, a, _, 2, _, rfl, rfl, ea', at_of (j := 2) rfl rfl, _, _, rfl, rfl, .inr ⟨by omega, by omega⟩, ?_⟩
    exact ⟨_, _, rfl, rfl, q⟩
def spIsBestOrder : Sp := fun vs H Q _ => ∃ (L a : Addr) (cs : List Ch) (js : List Nat), vs = [.ref L, .ref a] ∧ ChAt H L cs ∧ cs.length ≤ 40 ∧ (∀ x ∈ cs, x.Ok) ∧ H a = some (.tup (js.map nV)) ∧ OrdOk cs.length js ∧ js.Pairwise (fun i j => abv cs j i = false) ∧ ∀ H', Same H H' → Q (.bl true) H'
theorem sc_is_best_order : FnScope ["chances", "order", "at"] ["chances", "order"] (defScope s_is_best_order) := ⟨rfl, rfl, rfl, by decide +kernel, rfl, by decide +kernel, by decide +kernel⟩
theorem ok_is_best_order (T : Tx w K mg) : Ok P w K mg base CX0 4 ("is_best_order", none) ["chances", "order"] spIsBestOrder := by
  obtain ⟨_, G_ask_chances, b_ask_chances, kp_ask_chances⟩ := ok_ask_chances (P := P) (base := base) T
  obtain ⟨_, G_is_order, b_is_order, kp_is_order⟩ := ok_is_order (P := P) (base := base) T
  obtain ⟨_, G_is_above, b_is_above, kp_is_above⟩ := ok_is_above (P := P) (base := base) T
  refine mkOk T.d_is_best_order sc_is_best_order (fun vs H Q E h => ?_) (fun _ _ _ _ _ _ us hl => match us, hl with | [_, _], _ => rfl) (fun cdv A outer s H vs Q E hr h => ?_)
  · obtain ⟨L, a, cs, js, rfl, _⟩ := h
    rfl
  · obtain ⟨L, a, cs, js, rfl, hc, few, ok, ea, oo, pw, q⟩ := h
    have jl := oo.len
    refine ⟨_, (pss_cons (ps_expr (pe_call G_ask_chances (hr.mono (by omega)) (by rfl) T.g_ask_chances kp_ask_chances b_ask_chances .nil pass0 (pa_cons (pv 0) pa_nil)))
      (pss_cons (ps_if (pt_not (pt_val (pe_call G_is_order (hr.mono (by omega)) (by rfl) T.g_is_order kp_is_order b_is_order .nil pass0 (pa_cons (pv 1) (pa_cons (pe_callB call_len_seq (by rfl) T.n_len bt_len (pa_cons (pv 0) pa_nil)) pa_nil))))) (pss_one (ps_ret pe_bl)) pss_nil)
      (pss_cons (ps_for PassesOwn.never rfl (pi_range2 (by rfl) T.n_range (pa_cons pe_int (pa_cons (pe_callB call_len_seq (by rfl) T.n_len bt_len (pa_cons (pv 1) pa_nil)) pa_nil))) (pg_name (i := 2) sc_is_best_order.nd (by rfl) (Or.inl rfl)) (pss_one (ps_if (pt_val (pe_call G_is_above (hr.mono (by omega)) (by rfl) T.g_is_above kp_is_above b_is_above .nil pass0 (pa_cons (pe_ix ix_list (pv 0) (pe_ix ix_tup (pv 1) (pv 2) (fun _ _ => rfl)) (fun _ _ => rfl)) (pa_cons (pe_ix ix_list (pv 0) (pe_ix ix_tup (pv 1) (pe_op op_sub (pv 2) pe_int) (fun _ _ => rfl)) (fun _ _ => rfl)) pa_nil)))) (pss_one (ps_ret pe_bl)) pss_nil)))
      (pss_one (ps_ret pe_bl))))), ?_⟩
    refine ⟨_, rfl, L, cs, rfl, hc, few, ok, fun H1 s1 => ?_⟩
    obtain ⟨us, eL, ul⟩ := (hc.mono s1).len
    refine ⟨_, rfl, _, rfl, L, _, rfl, .inl (SqL.of eL), a, js, cs.length, by rw [ul]; rfl, s1 _ _ ea, oo, by omega, fun H2 s2 => ⟨_, rfl, ?_⟩⟩
    have s3 := s1.trans s2
    refine ⟨_, rfl, a, _, rfl, .inr (SqT.of (s3 _ _ ea)), 1, _, rfl, ⟨by omega, by omega, by rw [List.length_map]; omega, by rw [List.length_map]; omega⟩, ?_⟩
    refine for_range (fun i σ H' => (∃ v, σ = [some (.ref L), some (.ref a), v]) ∧ Same H H') ⟨⟨none, rfl⟩, s3⟩ ?_ ?_
    · rintro i σ H3 hi ⟨⟨v, rfl⟩, s4⟩
      rw [List.length_map] at hi
      have h1 : i + 1 < js.length := by omega
      have h0 : i < js.length := by omega
      have e1 : (js.map nV)[i + 1]? = some (nV js[i + 1]) := by rw [List.getElem?_map, List.getElem?_eq_getElem h1]; rfl
      have e0 : (js.map nV)[i]? = some (nV js[i]) := by rw [List.getElem?_map, List.getElem?_eq_getElem h0]; rfl
      have l1 := oo.lt _ (List.getElem_mem h1)
      have l0 := oo.lt _ (List.getElem_mem h0)
      have eA := SqT.of (K := K) (s4 _ _ ea)
      obtain ⟨us1, p1, x1, x2, x3, x4⟩ := (hc.mono s4).at l1
      obtain ⟨us0, p0, z1, z2, z3, z4⟩ := (hc.mono s4).at l0
      refine ⟨_, rfl, _, rfl, _, rfl, a, _, _, _, rfl, rfl, eA, at_of (j := i + 1) (by omega) e1, L, _, _, _, rfl, rfl, SqL.of x1, at_of (j := js[i + 1]) rfl x3, ?_⟩
      refine ⟨_, rfl, _, rfl, _, rfl, _, _, rfl, rfl, a, _, _, _, rfl, rfl, eA, at_of (j := i) (by omega) e0, L, _, _, _, rfl, rfl, SqL.of z1, at_of (j := js[i]) rfl z3, ?_⟩
      refine ⟨p1, p0, _, _, rfl, x4, z4, chAt_ok ok _, chAt_ok ok _, ⟨_, rfl, ?_⟩⟩
      have e9 : Ch.above (chAt cs js[i + 1]) (chAt cs js[i]) = false := List.pairwise_iff_getElem.mp pw i (i + 1) h0 h1 (by omega)
      rw [e9]
      exact ⟨⟨_, rfl⟩, s4⟩
    · rintro σ H3 ⟨_, s4⟩
      exact q _ s4
end
end Ta
namespace Ta
open PySem PySem.Spec PyProof.Rows L2
theorem rg_nats (n : Nat) : rgV 0 (n : Int) = (List.range n).map nV := by
  unfold rgV
  rw [Int.sub_zero, Int.toNat_natCast]
  refine List.map_congr_left fun i _ => ?_
  rw [Int.zero_add]
section
variable {P : Program} {w : World} {K : PySem.W.Frag} {mg : Str → Option Value} {base : Heap}
def spBestOrder : Sp := fun vs H Q _ => ∃ (L : Addr) (cs : List Ch), vs = [.ref L] ∧ ChAt H L cs ∧ cs.length ≤ 40 ∧ (∀ x ∈ cs, x.Ok) ∧ ∀ (H' : Hp) (p : Addr) (js : List Nat), Same H H' → H' p = some (.tup (js.map nV)) → js.Perm (List.range cs.length) → js.Pairwise (fun i j => abv cs j i = false) → Q (.ref p) H'
theorem sc_best_order : FnScope ["chances", "left", "found", "best", "index"] ["chances"] (defScope s_best_order) := ⟨rfl, rfl, rfl, by decide +kernel, rfl, by decide +kernel, by decide +kernel⟩
theorem ok_best_order (T : Tx w K mg) : Ok P w K mg base CX0 4 ("best_order", none) ["chances"] spBestOrder := by
  obtain ⟨_, G_ask_chances, b_ask_chances, kp_ask_chances⟩ := ok_ask_chances (P := P) (base := base) T
  obtain ⟨_, G_is_above, b_is_above, kp_is_above⟩ := ok_is_above (P := P) (base := base) T
  refine mkOk T.d_best_order sc_best_order (fun vs H Q E h => ?_) (fun _ _ _ _ _ _ us hl => match us, hl with | [_], _ => rfl) (fun cdv A outer s H vs Q E hr h => ?_)
  · obtain ⟨L, cs, rfl, _⟩ := h
    rfl
  · obtain ⟨L, cs, rfl, hc, few, ok, q⟩ := h
    have line := sizeLine_eq
    refine ⟨_, (pss_cons (ps_expr (pe_call G_ask_chances (hr.mono (by omega)) (by rfl) T.g_ask_chances kp_ask_chances b_ask_chances .nil pass0 (pa_cons (pv 0) pa_nil)))
      (pss_cons (ps_set (i := 1) sc_best_order.nd (by rfl) (Or.inl rfl) (pe_listRg rfl (by rfl) T.n_list (prg_1 (by rfl) T.n_range (pe_callB call_len_seq (by rfl) T.n_len bt_len (pa_cons (pv 0) pa_nil)))))
      (pss_cons (ps_set (i := 2) sc_best_order.nd (by rfl) (Or.inl rfl) (pe_lst pa_nil))
      (pss_cons (ps_while PassesOwn.never (pt_cmpR op_gt (pe_callB call_len_seq (by rfl) T.n_len bt_len (pa_cons (pv 1) pa_nil)) pe_int (nomark _)) (pss_cons (ps_set (i := 3) sc_best_order.nd (by rfl) (Or.inl rfl) (pe_ix ix_list (pv 1) pe_int (fun _ _ => rfl)))
      (pss_cons (ps_for PassesOwn.never rfl (pi_list (pv 1)) (pg_name (i := 4) sc_best_order.nd (by rfl) (Or.inl rfl)) (pss_one (ps_if (pt_val (pe_call G_is_above (hr.mono (by omega)) (by rfl) T.g_is_above kp_is_above b_is_above .nil pass0 (pa_cons (pe_ix ix_list (pv 0) (pv 4) (fun _ _ => rfl)) (pa_cons (pe_ix ix_list (pv 0) (pv 3) (fun _ _ => rfl)) pa_nil)))) (pss_one (ps_set (i := 3) sc_best_order.nd (by rfl) (Or.inl rfl) (pv 4))) pss_nil)))
      (pss_cons (ps_expr (pe_bm PySem.F.plainAttrs_list PySem.F.slot_list_remove PySem.F.type_list_remove mt_remove (pv 1) (pa_cons (pv 3) pa_nil)))
      (pss_one (ps_expr (pe_bm PySem.F.plainAttrs_list PySem.F.slot_list_append PySem.F.type_list_append mt_append (pv 2) (pa_cons (pv 3) pa_nil))))))))
      (pss_one (ps_ret (pe_tupleOf (by rfl) T.n_tuple (pv 2)))))))), ?_⟩
    refine ⟨_, rfl, L, cs, rfl, hc, few, ok, fun H1 s1 => ?_⟩
    obtain ⟨us, eL, ul⟩ := (hc.mono s1).len
    refine ⟨_, rfl, L, _, rfl, .inl (SqL.of eL), _, rfl, RgOk.of_le (by omega) (by omega) (by omega) (by omega), fun G nG => ?_⟩
    rw [ul, rg_nats]
    refine ⟨Nat.zero_le _, fun F nF => ?_⟩
    have nG0 : H G = none := s1.free nG
    have nGF : G ≠ F := fun z => by rw [z, upd_same] at nF; cases nF
    have nF1 : H1 F = none := by
      rw [upd_ne nGF.symm] at nF
      exact nF
    have nF0 : H F = none := s1.free nF1
    refine while_by (fun σ H' => ∃ (fs ls : List Nat) (v1 v2 : Option V), σ = [some (.ref L), some (.ref G), some (.ref F), v1, v2] ∧ Same H H' ∧ H' F = some (.lst (fs.map nV)) ∧ H' G = some (.lst (ls.map nV)) ∧ (fs ++ ls).Perm (List.range cs.length) ∧ fs.Pairwise (fun i j => abv cs j i = false) ∧ ∀ f ∈ fs, ∀ l ∈ ls, abv cs l f = false)
      (fun _ H' => lenAt G H') ⟨[], List.range cs.length, none, none, rfl, (s1.up nG).up nF, upd_same, ?_, List.Perm.refl _, List.Pairwise.nil, fun f hf => nomatch hf⟩ ?_ ?_
    · rw [upd_ne nGF, upd_same]
    · rintro σ H2 ⟨fs, ls, v1, v2, rfl, s2, eF, eG, pm, pw, sep⟩
      have lens : fs.length + ls.length = cs.length := by
        have := pm.length_eq
        rwa [List.length_append, List.length_range] at this
      have inR : ∀ i ∈ ls, i < cs.length := fun i hi => List.mem_range.mp (pm.mem_iff.mp (List.mem_append_right _ hi))
      refine ⟨_, rfl, G, _, rfl, .inl (SqL.of eG), _, _, rfl, rfl, _, rfl, ?_⟩
      cases ls with
      | nil =>
        refine ifF rfl ?_
        rw [List.append_nil] at pm
        exact ⟨_, rfl, .inl ⟨F, _, rfl, SqL.of eF, fun p np => q _ p fs (s2.up np) upd_same pm pw⟩⟩
      | cons l0 lr =>
        refine ifT (decide_eq_true (by rw [List.map_cons, List.length_cons]; omega)) ?_
        refine ⟨_, rfl, G, _, 0, _, rfl, rfl, SqL.of eG, at_of (j := 0) rfl rfl, ?_⟩
        refine ⟨_, rfl, G, rfl, ⟨_, SqL.of eG⟩, for_it (walk_list (K := K) (a := G) (xs := (l0 :: lr).map nV)) (fun i σ H' => ∃ (b : Nat) (v2 : Option V), σ = [some (.ref L), some (.ref G), some (.ref F), some (nV b), v2] ∧ Same H2 H' ∧ b ∈ l0 :: lr ∧ ∀ z ∈ (l0 :: lr).take i, abv cs z b = false)
          ⟨l0, _, rfl, Same.refl _, List.mem_cons_self, fun z hz => nomatch hz⟩ (fun i σ H' _ ⟨_, _, _, g, _⟩ => SqL.of (g _ _ eG)) ?_ ?_⟩
        · rintro i v σ H3 H4 hi ⟨b, v2, rfl, s3, bm, hb⟩ ⟨rfl, ey⟩
          obtain ⟨x, hx, rfl⟩ := map_get ey
          have xm := List.mem_of_getElem? hx
          obtain ⟨us1, p1, x1, x2, x3, x4⟩ := (hc.mono (s2.trans s3)).at (inR x xm)
          obtain ⟨us0, p0, z1, z2, z3, z4⟩ := (hc.mono (s2.trans s3)).at (inR b bm)
          refine ⟨_, rfl, _, rfl, L, _, _, _, rfl, rfl, SqL.of x1, at_of (j := x) rfl x3, _, rfl, _, rfl, L, _, _, _, rfl, rfl, SqL.of z1, at_of (j := b) rfl z3, ?_⟩
          refine ⟨p1, p0, _, _, rfl, x4, z4, chAt_ok ok _, chAt_ok ok _, ⟨_, rfl, ?_⟩⟩
          cases z : Ch.above (chAt cs x) (chAt cs b) with
          | true =>
            refine ifT rfl ⟨_, rfl, x, _, rfl, s3, xm, fun y hy => ?_⟩
            rcases (mem_take_succ hx y).mp hy with hy | rfl
            · exact above_tr (chAt_ok ok _) (chAt_ok ok _) (chAt_ok ok _) (hb y hy) z
            · exact above_irr _
          | false =>
            refine ifF rfl ⟨b, _, rfl, s3, bm, fun y hy => ?_⟩
            rcases (mem_take_succ hx y).mp hy with hy | rfl
            · exact hb y hy
            · exact z
        · rintro σ H3 ⟨b, v2, rfl, s3, bm, hb⟩
          rw [List.length_map, take_all (Nat.le_refl _)] at hb
          have eG3 := s3 _ _ eG
          have eF3 := s3 _ _ eF
          obtain ⟨j, hj, hno⟩ := first_at (m := (b : Int)) (ns := (l0 :: lr).map fun z : Nat => (z : Int)) (List.mem_map.mpr ⟨b, bm, rfl⟩)
          have hj2 : (l0 :: lr)[j]? = some b := by
            rw [List.getElem?_map] at hj
            cases y : (l0 :: lr)[j]? with
            | none => rw [y] at hj; cases hj
            | some z =>
              rw [y] at hj
              have := Option.some.inj hj
              have e : z = b := by
                have h5 : (z : Int) = (b : Int) := this
                omega
              rw [e]
          refine ⟨_, rfl, .inl ⟨rfl, _, Or.inl (Or.inl eG3)⟩, _, rfl, G, _, _, j, rfl, rfl, by rw [eG3, nVs], hj, fun m hm z => hno m _ hm z rfl, ?_⟩
          rw [erase_map, ← nVs]
          have pE := erase_perm hj2
          refine ⟨_, rfl, .inl ⟨rfl, _, Or.inl (Or.inl (?_ : _ = some (HO.lst (fs.map nV))))⟩, _, rfl, F, _, _, rfl, rfl, (?_ : _ = some (HO.lst (fs.map nV))), by rw [List.length_map]; omega, ?_⟩
          · rw [upd_ne nGF.symm]
            exact eF3
          · rw [upd_ne nGF.symm]
            exact eF3
          · refine ⟨⟨fs ++ [b], (l0 :: lr).eraseIdx j, _, _, rfl, ((s2.trans s3).at0 nG0).at0 nF0, ?_, ?_, ?_, ?_, ?_⟩, ?_⟩
            · rw [upd_same, List.map_append] <;> rfl
            · rw [upd_ne nGF, upd_same]
            · rw [List.append_assoc]
              exact (List.Perm.append_left fs pE.symm).trans pm
            · refine List.pairwise_append.mpr ⟨pw, List.pairwise_singleton _ _, fun f hf y hy => ?_⟩
              rw [List.mem_singleton.mp hy]
              exact sep f hf b bm
            · intro f hf l hl
              have hl2 : l ∈ l0 :: lr := pE.mem_iff.mpr (List.mem_cons_of_mem _ hl)
              rcases List.mem_append.mp hf with hf | hf
              · exact sep f hf l hl2
              · rw [List.mem_singleton.mp hf]
                exact hb l hl2
            · have e5 := pE.length_eq
              rw [lenAt_of eG, lenAt_of (xs := ((l0 :: lr).eraseIdx j).map nV) (by rw [upd_ne nGF, upd_same]), List.length_map, List.length_map]
              have e6 : (b :: (l0 :: lr).eraseIdx j).length = ((l0 :: lr).eraseIdx j).length + 1 := List.length_cons
              omega
    · rintro σ H2 Q1 Q2 hm ⟨v1, e1, a, xs, e2, e3, i1, i2, e4, e5, c, e6, r⟩
      exact ⟨v1, e1, a, xs, e2, e3, i1, i2, e4, e5, c, e6, hm _ _ r⟩
/-! ### common, lowest -/
def spCommon : Sp := fun vs H Q _ => ∃ a b : Int, vs = [.int a, .int b] ∧ 0 ≤ a ∧ 0 < b ∧ ∀ (H' : Hp) (g x y : Int), Same H H' → 0 < g → a = g * x → b = g * y → Q (.int g) H'
def measI (σ : L2.St) : Nat := match σ with
  | [_, some (.int b)] => b.toNat
  | _ => 0
theorem sc_common : FnScope ["one", "other"] ["one", "other"] (defScope s_common) := ⟨rfl, rfl, rfl, by decide +kernel, rfl, by decide +kernel, by decide +kernel⟩
theorem ok_common (T : Tx w K mg) : Ok P w K mg base CX0 1 ("common", none) ["one", "other"] spCommon := by
  refine mkOk T.d_common sc_common (fun vs H Q E h => ?_) (fun _ _ _ _ _ _ us hl => match us, hl with | [_, _], _ => rfl) (fun cdv A outer s H vs Q E hr h => ?_)
  · obtain ⟨a, b, rfl, _⟩ := h
    rfl
  · obtain ⟨a, b, rfl, a0, b0, q⟩ := h
    refine ⟨_, (pss_cons (ps_while PassesOwn.never (pt_cmpR op_gt (pv 1) pe_int (nomark _)) (pss_one (ps_par (i := 0) (j := 1) rfl sc_common.nd rfl rfl (by decide) rfl rfl (pa_cons (pv 1) (pa_cons (pe_op op_mod (pv 0) (pv 1)) pa_nil)) rfl)))
      (pss_one (ps_ret (pv 0)))), ?_⟩
    refine while_by (fun σ H' => ∃ (x y : Int), σ = [some (.int x), some (.int y)] ∧ H' = H ∧ 0 ≤ x ∧ 0 ≤ y ∧ (0 < x ∨ 0 < y) ∧ ∀ g : Int, g ∣ x → g ∣ y → g ∣ a ∧ g ∣ b) (fun σ _ => measI σ)
      ⟨a, b, rfl, rfl, a0, Int.le_of_lt b0, .inr b0, fun g h1 h2 => ⟨h1, h2⟩⟩ ?_ ?_
    · rintro σ H2 ⟨x, y, rfl, rfl, x0, y0, xy, hd⟩
      refine ⟨_, rfl, _, _, rfl, rfl, _, rfl, ?_⟩
      by_cases hy : 0 < y
      · refine ifT (decide_eq_true hy) ?_
        refine ⟨_, rfl, _, rfl, _, rfl, _, _, rfl, rfl, hy, _, _, rfl, ⟨y, x % y, rfl, rfl, y0, Int.emod_nonneg _ (Int.ne_of_gt hy), .inl hy, fun g h1 h2 => ?_⟩, ?_⟩
        · refine hd g ?_ h1
          have := Int.dvd_add (Int.dvd_trans h1 (Int.dvd_mul_right y (x / y))) h2
          rwa [Int.mul_ediv_add_emod] at this
        · show (x % y).toNat < y.toNat
          have := Int.emod_lt_of_pos x hy
          have := Int.emod_nonneg x (Int.ne_of_gt hy)
          omega
      · refine ifF (decide_eq_false hy) ?_
        have ey : y = 0 := by omega
        subst ey
        obtain ⟨⟨u, h1⟩, ⟨v, h2⟩⟩ := hd x (Int.dvd_refl x) (Int.dvd_zero x)
        exact ⟨_, rfl, q _ x u v (Same.refl _) (by omega) h1 h2⟩
    · rintro σ H1 Q1 Q2 hm ⟨v1, e1, i1, i2, e4, e5, c, e6, r⟩
      exact ⟨v1, e1, i1, i2, e4, e5, c, e6, hm _ _ r⟩
def spLowest : Sp := fun vs H Q _ => ∃ (a b : Int) (n : Nat), vs = [.int a, .int b] ∧ 0 ≤ a ∧ 0 < b ∧ b.natAbs < 2 ^ n ∧ 0 < n ∧ n ≤ 9000 ∧ ∀ (H' : Hp) (p : Addr) (g x y : Int), Same H H' → 0 < g → a = g * x → b = g * y → H' p = some (.tup [.int x, .int y]) → Q (.ref p) H'
theorem sc_lowest : FnScope ["above", "below", "share"] ["above", "below"] (defScope s_lowest) := ⟨rfl, rfl, rfl, by decide +kernel, rfl, by decide +kernel, by decide +kernel⟩
theorem ok_lowest (T : Tx w K mg) : Ok P w K mg base CX0 2 ("lowest", none) ["above", "below"] spLowest := by
  obtain ⟨_, G_common, b_common, kp_common⟩ := ok_common (P := P) (base := base) T
  refine mkOk T.d_lowest sc_lowest (fun vs H Q E h => ?_) (fun _ _ _ _ _ _ us hl => match us, hl with | [_, _], _ => rfl) (fun cdv A outer s H vs Q E hr h => ?_)
  · obtain ⟨a, b, n, rfl, _⟩ := h
    rfl
  · obtain ⟨a, b, n, rfl, a0, b0, bn, n0, n9, q⟩ := h
    refine ⟨_, (pss_cons (ps_set (i := 2) sc_lowest.nd (by rfl) (Or.inl rfl) (pe_call G_common (hr.mono (by omega)) (by rfl) T.g_common kp_common b_common .nil pass0 (pa_cons (pv 0) (pa_cons (pv 1) pa_nil))))
      (pss_one (ps_ret (pe_tup (pa_cons (pe_op op_fdivW (pv 0) (pv 2)) (pa_cons (pe_op op_fdivW (pv 1) (pv 2)) pa_nil)))))), ?_⟩
    refine ⟨_, rfl, _, rfl, a, b, rfl, a0, b0, fun H1 g x y s1 g0 ea eb => ?_⟩
    have y0 : 0 < y := Int.pos_of_mul_pos_right (eb ▸ b0) g0
    have gb : g ≤ b := by
      rw [eb]
      have := Int.mul_le_mul_of_nonneg_left (show (1 : Int) ≤ y by omega) (Int.le_of_lt g0)
      omega
    have cd : ∀ i, CDivW i g := fun i => wide_div g0 (wide_le (Int.le_of_lt g0) gb bn) n0 n9
    refine ⟨_, rfl, _, rfl, _, _, rfl, rfl, cd _, _, rfl, _, rfl, _, _, rfl, rfl, cd _, ?_⟩
    refine ⟨by show 2 ≤ sizeLine; decide, fun p np => ?_⟩
    have e1 : a / g = x := by rw [ea]; exact Int.mul_ediv_cancel_left _ (Int.ne_of_gt g0)
    have e2 : b / g = y := by rw [eb]; exact Int.mul_ediv_cancel_left _ (Int.ne_of_gt g0)
    refine q _ p g x y (s1.up np) g0 ea eb ?_
    rw [upd_same]
    show some (HO.tup [V.int (a / g), V.int (b / g)]) = _
    rw [e1, e2]
/-! ### expected -/
theorem two_lt {a b : Nat} (h : a ≤ b) {i : Int} (hi : i.natAbs < 2 ^ a) : i.natAbs < 2 ^ b := Nat.lt_of_lt_of_le hi (Nat.pow_le_pow_right (by decide) h)
theorem add_lt {i j : Int} {a : Nat} (hi : i.natAbs < 2 ^ a) (hj : j.natAbs < 2 ^ a) : (i + j).natAbs < 2 ^ (a + 1) := by
  rw [Nat.pow_succ]
  omega
theorem cut_lt {g x y : Int} {a : Nat} (g0 : 0 < g) (y0 : 0 ≤ y) (e : y = g * x) (h : y.natAbs < 2 ^ a) : 0 ≤ x ∧ x.natAbs < 2 ^ a := by
  have x0 : 0 ≤ x := Int.nonneg_of_mul_nonneg_right (e ▸ y0) g0
  have h1 : x ≤ y := by
    rw [e]
    have := Int.mul_le_mul_of_nonneg_right (show (1 : Int) ≤ g by omega) x0
    omega
  exact ⟨x0, wide_le x0 h1 h⟩
def spExpected : Sp := fun vs H Q _ => ∃ (L a : Addr) (cs : List Ch) (js : List Nat), vs = [.ref L, .ref a] ∧ ChAt H L cs ∧ cs.length ≤ 5 ∧ (∀ x ∈ cs, x.Ok) ∧ H a = some (.tup (js.map nV)) ∧ OrdOk cs.length js ∧
  ∀ (H' : Hp) (p : Addr) (x y : Int), Same H H' → H' p = some (.tup [.int x, .int y]) → 0 < y → x * PD (js.map (chAt cs)) = TC (js.map (chAt cs)) * y → x.natAbs < 2 ^ 300 → y.natAbs < 2 ^ 300 → Q (.ref p) H'
theorem sc_expected : FnScope ["chances", "order", "spent", "left", "index", "runs", "faults", "cost"] ["chances", "order"] (defScope s_expected) := ⟨rfl, rfl, rfl, by decide +kernel, rfl, by decide +kernel, by decide +kernel⟩
theorem ok_expected (T : Tx w K mg) : Ok P w K mg base CX0 4 ("expected", none) ["chances", "order"] spExpected := by
  obtain ⟨_, G_ask_chances, b_ask_chances, kp_ask_chances⟩ := ok_ask_chances (P := P) (base := base) T
  obtain ⟨_, G_is_order, b_is_order, kp_is_order⟩ := ok_is_order (P := P) (base := base) T
  obtain ⟨_, G_lowest, b_lowest, kp_lowest⟩ := ok_lowest (P := P) (base := base) T
  refine mkOk T.d_expected sc_expected (fun vs H Q E h => ?_) (fun _ _ _ _ _ _ us hl => match us, hl with | [_, _], _ => rfl) (fun cdv A outer s H vs Q E hr h => ?_)
  · obtain ⟨L, a, cs, js, rfl, _⟩ := h
    rfl
  · obtain ⟨L, a, cs, js, rfl, hc, few, ok, ea, oo, q⟩ := h
    have jl := oo.len
    refine ⟨_, (pss_cons (ps_expr (pe_call G_ask_chances (hr.mono (by omega)) (by rfl) T.g_ask_chances kp_ask_chances b_ask_chances .nil pass0 (pa_cons (pv 0) pa_nil)))
      (pss_cons (ps_if (pt_not (pt_val (pe_call G_is_order (hr.mono (by omega)) (by rfl) T.g_is_order kp_is_order b_is_order .nil pass0 (pa_cons (pv 1) (pa_cons (pe_callB call_len_seq (by rfl) T.n_len bt_len (pa_cons (pv 0) pa_nil)) pa_nil))))) pss_never pss_nil)
      (pss_cons (ps_set (i := 2) sc_expected.nd (by rfl) (Or.inl rfl) (pe_tup (pa_cons pe_int (pa_cons pe_int pa_nil))))
      (pss_cons (ps_set (i := 3) sc_expected.nd (by rfl) (Or.inl rfl) (pe_tup (pa_cons pe_int (pa_cons pe_int pa_nil))))
      (pss_cons (ps_for PassesOwn.never rfl (pi_tup (pv 1)) (pg_name (i := 4) sc_expected.nd (by rfl) (Or.inl rfl)) (pss_cons (ps_asg (pe_ix ix_list (pv 0) (pv 4) (fun _ _ => rfl)) (pg_tup rfl (pgs_cons (pg_name (i := 5) sc_expected.nd (by rfl) (Or.inl rfl)) (pgs_cons (pg_name (i := 6) sc_expected.nd (by rfl) (Or.inl rfl)) (pgs_cons (pg_name (i := 7) sc_expected.nd (by rfl) (Or.inl rfl)) pgs_nil)))))
      (pss_cons (ps_set (i := 2) sc_expected.nd (by rfl) (Or.inl rfl) (pe_call G_lowest (hr.mono (by omega)) (by rfl) T.g_lowest kp_lowest b_lowest .nil pass0 (pa_cons (pe_op op_add (pe_op op_mulW (pe_ix ix_tup (pv 2) pe_int (fun _ _ => rfl)) (pe_ix ix_tup (pv 3) pe_int (fun _ _ => rfl))) (pe_op op_mulW (pe_op op_mulW (pv 7) (pe_ix ix_tup (pv 3) pe_int (fun _ _ => rfl))) (pe_ix ix_tup (pv 2) pe_int (fun _ _ => rfl)))) (pa_cons (pe_op op_mulW (pe_ix ix_tup (pv 2) pe_int (fun _ _ => rfl)) (pe_ix ix_tup (pv 3) pe_int (fun _ _ => rfl))) pa_nil))))
      (pss_one (ps_set (i := 3) sc_expected.nd (by rfl) (Or.inl rfl) (pe_call G_lowest (hr.mono (by omega)) (by rfl) T.g_lowest kp_lowest b_lowest .nil pass0 (pa_cons (pe_op op_mulW (pe_ix ix_tup (pv 3) pe_int (fun _ _ => rfl)) (pe_op op_sub (pe_op op_add (pv 5) pe_int) (pv 6))) (pa_cons (pe_op op_mulW (pe_ix ix_tup (pv 3) pe_int (fun _ _ => rfl)) (pe_op op_add (pv 5) pe_int)) pa_nil))))))))
      (pss_one (ps_ret (pv 2)))))))), ?_⟩
    refine ⟨_, rfl, L, cs, rfl, hc, by omega, ok, fun H1 s1 => ?_⟩
    obtain ⟨us, eL, ul⟩ := (hc.mono s1).len
    refine ⟨_, rfl, _, rfl, L, _, rfl, .inl (SqL.of eL), a, js, cs.length, by rw [ul]; rfl, s1 _ _ ea, oo, by omega, fun H2 s2 => ⟨_, rfl, ?_⟩⟩
    have s3 := s1.trans s2
    refine ⟨by show 2 ≤ sizeLine; decide, fun p np => ?_⟩
    refine ⟨by show 2 ≤ sizeLine; decide, fun p' np' => ?_⟩
    have eA : (upd (upd H2 p (.tup [.int 0, .int 1])) p' (.tup [.int 1, .int 1])) a = some (.tup (js.map nV)) := upd_of (upd_of (s3 _ _ ea) np) np'
    refine ⟨_, rfl, a, rfl, ⟨_, SqT.of eA⟩, for_it (walk_tup (K := K) (a := a) (xs := js.map nV))
      (fun i σ H' => ∃ (sp lp : Addr) (s0 s1 l0 l1 S Lr M : Int) (v4 v5 v6 v7 : Option V), σ = [some (.ref L), some (.ref a), some (.ref sp), some (.ref lp), v4, v5, v6, v7] ∧ Same H H' ∧ H' sp = some (.tup [.int s0, .int s1]) ∧ H' lp = some (.tup [.int l0, .int l1]) ∧
        Wk s0 s1 l0 l1 S Lr M ∧ fS S Lr ((js.map (chAt cs)).drop i) = TC (js.map (chAt cs)) ∧ M * PD ((js.map (chAt cs)).drop i) = PD (js.map (chAt cs)) ∧
        s0.natAbs < 2 ^ (50 * i + 20) ∧ s1.natAbs < 2 ^ (50 * i + 1) ∧ l0.natAbs < 2 ^ (10 * i + 1) ∧ l1.natAbs < 2 ^ (10 * i + 1))
      ⟨p, p', 0, 1, 1, 1, 0, 1, 1, none, none, none, none, rfl, (s3.up np).up np', upd_of upd_same np', upd_same, Wk.start, ?_, ?_, by decide, by decide, by decide, by decide⟩ (fun i σ H' _ ⟨_, _, _, _, _, _, _, _, _, _, _, _, _, _, g, _⟩ => SqT.of (g _ _ ea)) ?_ ?_⟩
    · rw [fS_eq, List.drop_zero, Int.zero_mul, Int.one_mul, Int.zero_add]
    · rw [List.drop_zero, Int.one_mul]
    · rintro i v σ H3 H4 hi ⟨sp, lp, s0, s1', l0, l1, S, Lr, M, v4, v5, v6, v7, rfl, s4, es, el, wk, hf, hM, b0, b1, b2, b3⟩ ⟨rfl, ey⟩
      obtain ⟨j, hj, rfl⟩ := map_get ey
      rw [List.length_map] at hi
      have jlt := oo.lt j (List.mem_of_getElem? hj)
      obtain ⟨us1, p1, x1, x2, x3, x4⟩ := (hc.mono s4).at jlt
      have xok := chAt_ok ok j
      have hx : (js.map (chAt cs))[i]? = some (chAt cs j) := by rw [List.getElem?_map, hj]; rfl
      have hdrop : (js.map (chAt cs)).drop i = chAt cs j :: (js.map (chAt cs)).drop (i + 1) := by
        have h1 := get_lt hx
        rw [List.drop_eq_getElem_cons h1]
        rw [List.getElem?_eq_getElem h1] at hx
        rw [Option.some.inj hx]
      generalize chAt cs j = x at *
      rw [hdrop] at hf hM
      have k1 := xok.r0
      have k2 := xok.r1
      have k3 := xok.f0
      have k4 := xok.f1
      have k5 := xok.c0
      have k6 := xok.c1
      have i4 : i ≤ 4 := by omega
      have c0 : x.c.natAbs < 2 ^ 17 := by omega
      have n0 : (x.r + 1 - x.f).natAbs < 2 ^ 10 := by omega
      have d0 : (x.r + 2).natAbs < 2 ^ 10 := by omega
      have m1 := wide_lt b0 b3
      have m2 := wide_lt c0 b2
      have m3 := wide_lt m2 b1
      have m4 := wide_lt b1 b3
      have m5 := wide_lt b2 n0
      have m6 := wide_lt b3 d0
      have m7 : (s0 * l1 + x.c * l0 * s1').natAbs < 2 ^ (60 * i + 21 + 1) := add_lt (two_lt (by omega) m1) (two_lt (by omega) m3)
      have es' := SqT.of (K := K) es
      have el' := SqT.of (K := K) el
      refine ⟨_, rfl, _, rfl, L, _, _, _, rfl, rfl, SqL.of x1, at_of (j := j) rfl x3, p1, _, rfl, SqT.of x4, rfl, _, _, rfl, _, _, rfl, _, _, rfl, rfl, ?_⟩
      have wk2 := wk.step xok
      refine ⟨_, rfl, sp, _, 0, _, rfl, rfl, es', at_of (j := 0) rfl rfl, _, rfl, lp, _, 1, _, rfl, rfl, el', at_of (j := 1) rfl rfl, _, _, rfl, rfl, wide_mul b0 b3 (by omega) (by omega) (by omega), ?_⟩
      refine ⟨_, rfl, _, rfl, lp, _, 0, _, rfl, rfl, el', at_of (j := 0) rfl rfl, _, _, rfl, rfl, wide_mul c0 b2 (by omega) (by omega) (by omega), ?_⟩
      refine ⟨_, rfl, sp, _, 1, _, rfl, rfl, es', at_of (j := 1) rfl rfl, _, _, rfl, rfl, wide_mul m2 b1 (by omega) (by omega) (by omega), _, _, rfl, rfl, ?_⟩
      refine ⟨_, rfl, sp, _, 1, _, rfl, rfl, es', at_of (j := 1) rfl rfl, _, rfl, lp, _, 1, _, rfl, rfl, el', at_of (j := 1) rfl rfl, _, _, rfl, rfl, wide_mul b1 b3 (by omega) (by omega) (by omega), ?_⟩
      refine ⟨_, _, _, rfl, wk2.s0p, wk2.s1p, m4, by omega, by omega, fun H5 p5 g y0 y1 s5 g0 ea0 ea1 e5 => ?_⟩
      have el5 := SqT.of (K := K) (s5 _ _ el)
      refine ⟨_, rfl, lp, _, 0, _, rfl, rfl, el5, at_of (j := 0) rfl rfl, _, rfl, _, _, rfl, rfl, _, rfl, _, _, rfl, rfl, _, _, rfl, rfl, wide_mul b2 n0 (by omega) (by omega) (by omega), ?_⟩
      refine ⟨_, rfl, lp, _, 1, _, rfl, rfl, el5, at_of (j := 1) rfl rfl, _, rfl, _, _, rfl, rfl, _, _, rfl, rfl, wide_mul b3 d0 (by omega) (by omega) (by omega), ?_⟩
      refine ⟨_, _, _, rfl, wk2.l0p, wk2.l1p, m6, by omega, by omega, fun H6 p6 g' z0 z1 s6 g0' ea0' ea1' e6 => ?_⟩
      have r0 := cut_lt g0 wk2.s0p ea0 m7
      have r1 := cut_lt g0 (Int.le_of_lt wk2.s1p) ea1 m4
      have r2 := cut_lt g0' wk2.l0p ea0' m5
      have r3 := cut_lt g0' (Int.le_of_lt wk2.l1p) ea1' m6
      have wk3 := wk2
      rw [show x.N = x.r + 1 - x.f from rfl, show x.D = x.r + 2 from rfl] at wk3
      rw [ea0, ea1] at wk3
      have wk4 := wk3.cutS g0
      rw [ea0', ea1'] at wk4
      have wk5 := wk4.cutL g0'
      refine ⟨p5, p6, y0, y1, z0, z1, _, _, _, _, _, _, _, rfl, (s4.trans s5).trans s6, s6 _ _ e5, e6, wk5, hf, ?_, two_lt (by omega) r0.2, two_lt (by omega) r1.2, two_lt (by omega) r2.2, two_lt (by omega) r3.2⟩
      rw [Int.mul_assoc]
      exact hM
    · rintro σ H3 ⟨sp, lp, s0, s1', l0, l1, S, Lr, M, v4, v5, v6, v7, rfl, s4, es, el, wk, hf, hM, b0, b1, b2, b3⟩
      rw [List.length_map] at hf hM b0 b1
      rw [List.drop_of_length_le (by rw [List.length_map]; exact Nat.le_refl _)] at hf hM
      have hM' : M = PD (js.map (chAt cs)) := by
        rw [← hM]
        exact (Int.mul_one M).symm
      have hS : S = TC (js.map (chAt cs)) := hf
      refine ⟨_, rfl, q _ sp s0 s1' s4 es wk.s1p ?_ (two_lt (by omega) b0) (two_lt (by omega) b1)⟩
      rw [← hM', ← hS]
      exact wk.s
end
end Ta
namespace Ta
open PySem PySem.Spec PyProof.Rows L2
/-! ### sets of rows of whole numbers and texts -/
abbrev mh (P : Program) (w : World) (k : List Key) : Int := tupleKeyHash (mixKind P w) k
abbrev IsM (P : Program) (w : World) (h : Heap) (k : List Key) (a : Addr) : Prop := IsTupleKey (mixKind P w) h k a
abbrev Row : Type := Addr × List Key
def rowM (P : Program) (w : World) (r : Row) : Int × Value := (mh P w r.2, Value.ref r.1)
theorem keep_isM {P : Program} {w : World} {h h' : Heap} {k : List Key} {b : Addr} (x : IsM P w h k b) (g : ∀ o, h.get? b = some o → o.cls = .type "tuple" → h'.get? b = some o) : IsM P w h' k b :=
  let ⟨o, its, n, ho, hc, r⟩ := x
  ⟨o, its, n, g o ho hc, hc, r⟩
section
variable {P : Program} {w : World} {A : Around} {E : Value → Shared → Prop} {s : Shared}
/-- an item of a key is a whole number or a text -/
theorem item_is {k : List Key} {vs : List Value} (h : ItemsAre (mixKind P w) k vs) : ∀ v ∈ vs, (∃ i t, v = Value.int i t) ∨ ∃ x t, v = Value.str x t := by
  induction h with
  | nil => exact fun v hv => nomatch hv
  | @cons k0 v' ks vs h1 _ ih =>
    intro v hv
    rcases List.mem_cons.mp hv with rfl | hv
    · exact (kis h1).imp (fun ⟨i, t, _, e⟩ => ⟨i, t, e⟩) fun ⟨x, t, _, e⟩ => ⟨x, t, e⟩
    · exact ih v hv
theorem item_class {v : Value} (h : (∃ i t, v = Value.int i t) ∨ ∃ x t, v = Value.str x t) (n : Nat) : ofAClassStatement n v = pure false := by
  rcases h with ⟨i, t, rfl⟩ | ⟨x, t, rfl⟩ <;> cases n <;> rfl
theorem item_hash {v : Value} (h : (∃ i t, v = Value.int i t) ∨ ∃ x t, v = Value.str x t) (n : Nat) : ∃ b, hashByValue n v = pure b := by
  rcases h with ⟨i, t, rfl⟩ | ⟨x, t, rfl⟩
  · exact ⟨true, by cases n <;> rfl⟩
  · exact ⟨false, by cases n <;> rfl⟩
theorem class_key {k : List Key} {b : Addr} {Q : Bool → Shared → Prop} (hk : IsM P w s.heap k b) (h : Q false s) : wpAny (model P w) A (ofAClassStatement 8 (.ref b)) Q E s := by
  have hT := hk.typeIs
  obtain ⟨o, items, n, ho, _, hd, hi⟩ := hk
  unfold ofAClassStatement
  refine wpAny_bind (wpAny_typeOf hT ?_)
  dsimp only
  have e : (("tuple" : String) == "tuple") = true := by decide
  simp only [e, if_true, Bool.not_true, Bool.false_eq_true, if_false]
  try refine wpAny_bind (wpAny_pure ?_)
  try simp only [Bool.not_true, Bool.false_eq_true, if_false]
  show wpAny _ _ (seqItems? (.ref b) >>= _) _ _ s
  refine wpAny_bind (wpAny_seqItems ho hd ?_)
  dsimp only
  refine wpAny_bind ?_
  show wpAny _ _ (forIn items _ _) _ _ s
  rw [← Array.forIn_toList]
  refine wpAny_forIn_list _ (fun rest r s' => r.1 = none ∧ s' = s ∧ ∀ v ∈ rest, (∃ i t, v = Value.int i t) ∨ ∃ x t, v = Value.str x t) _ ?_ ?_ _ _ ⟨rfl, rfl, item_is hi⟩
  · rintro v rest r s' ⟨_, rfl, hall⟩
    rw [item_class (hall v List.mem_cons_self)]
    refine wpAny_bind (wpAny_pure ?_)
    simp only [Bool.false_eq_true, if_false]
    exact wpAny_pure ⟨rfl, rfl, fun u hu' => hall u (List.mem_cons_of_mem _ hu')⟩
  · rintro ⟨r1, r2⟩ s' ⟨hr, rfl, _⟩
    simp only at hr
    subst hr
    exact wpAny_pure h
theorem hash_key {k : List Key} {b : Addr} {Q : Bool → Shared → Prop} (hk : IsM P w s.heap k b) (h : ∀ c, Q c s) : wpAny (model P w) A (hashByValue 8 (.ref b)) Q E s := by
  have hT := hk.typeIs
  obtain ⟨o, items, n, ho, _, hd, hi⟩ := hk
  unfold hashByValue
  refine wpAny_bind (wpAny_specialOf hT F.slot_tuple_hash.lookup ?_)
  show wpAny _ _ (seqItems? (.ref b) >>= _) _ _ s
  refine wpAny_bind (wpAny_seqItems ho hd ?_)
  refine wpAny_bind ?_
  show wpAny _ _ (forIn items _ _) _ _ s
  rw [← Array.forIn_toList]
  refine wpAny_forIn_list _ (fun rest r s' => r.1 = none ∧ s' = s ∧ ∀ v ∈ rest, (∃ i t, v = Value.int i t) ∨ ∃ x t, v = Value.str x t) _ ?_ ?_ _ _ ⟨rfl, rfl, item_is hi⟩
  · rintro v rest r s' ⟨_, rfl, hall⟩
    obtain ⟨c, hc⟩ := item_hash (hall v List.mem_cons_self) 7
    rw [hc]
    refine wpAny_bind (wpAny_pure ?_)
    cases c with
    | true =>
      simp only [Bool.not_true, Bool.false_eq_true, if_false]
      exact wpAny_pure ⟨rfl, rfl, fun u hu' => hall u (List.mem_cons_of_mem _ hu')⟩
    | false =>
      simp only [Bool.not_false, if_true]
      exact wpAny_pure (wpAny_pure (h false))
  · rintro ⟨r1, r2⟩ s' ⟨hr, rfl, _⟩
    simp only at hr
    subst hr
    exact wpAny_pure (h true)
theorem unseen {k : List Key} {b : Addr} {Q : Bool → Shared → Prop} (hk : IsM P w s.heap k b) {ys : List Value} (hy : ∀ y ∈ ys, ∃ r : Row, y = Value.ref r.1 ∧ IsM P w s.heap r.2 r.1) (h : Q false s) :
    wpAny (model P w) A (searchCouldBeSeen (.ref b) ys) Q E s := by
  unfold searchCouldBeSeen
  refine wpAny_bind ?_
  refine wpAny_forIn_list _ (fun rest r s' => r.1 = none ∧ s' = s ∧ ∀ y ∈ rest, ∃ r : Row, y = Value.ref r.1 ∧ IsM P w s.heap r.2 r.1) _ ?_ ?_ _ _ ⟨rfl, rfl, hy⟩
  · rintro v rest r s' ⟨_, rfl, hall⟩
    obtain ⟨⟨c, k'⟩, rfl, hc⟩ := hall v List.mem_cons_self
    have more := fun u hu' => hall u (List.mem_cons_of_mem _ hu')
    dsimp only
    by_cases hv : (b == c || (carriedByValue (.ref b) && carriedByValue (.ref c))) = true
    · exact wp_if_pos hv (wpAny_pure ⟨rfl, rfl, more⟩)
    · refine wp_if_neg hv (wpAny_bind (wpAny_eqIsQuiet_tuple hk ?_))
      simp only [Bool.not_true, Bool.false_eq_true, if_false]
      refine wpAny_bind (wpAny_eqIsQuiet_tuple hc ?_)
      simp only [Bool.not_true, Bool.false_eq_true, if_false]
      refine wpAny_bind (class_key hk ?_)
      simp only [Bool.false_eq_true, if_false]
      refine wpAny_bind (class_key hc ?_)
      simp only [Bool.false_eq_true, if_false]
      exact wpAny_pure ⟨rfl, rfl, more⟩
  · rintro ⟨r1, r2⟩ s' ⟨hr, rfl, _⟩
    simp only at hr
    subst hr
    exact wpAny_pure h
/-! ### a set in the heap -/
structure SetM (P : Program) (w : World) (h : Heap) (a : Addr) (L : List Row) (es : Array (Int × Value)) (ep : Nat) (t : SetTable) : Prop where
  ob : ∃ o, h.get? a = some o ∧ o.ExactSet ∧ o.data = .set es ep t
  es : es.toList = L.map (rowM P w)
  tab : TabOk t (L.map fun r => mh P w r.2)
  nd : (L.map (·.2)).Nodup
  is : ∀ r ∈ L, IsM P w h r.2 r.1
  led : w.params.followText "set-order" = true ∨ t.led = true
  room : L.length * 5 < t.mask * 3
  few : L.length < 64
variable {a : Addr} {L : List Row} {es : Array (Int × Value)} {ep : Nat} {t : SetTable}
theorem es_size (h : es.toList = L.map (rowM P w)) : es.size = L.length := by rw [← Array.length_toList, h, List.length_map]
theorem es_at (h : es.toList = L.map (rowM P w)) {i : Nat} {r : Row} (hr : L[i]? = some r) : es[i]? = some (rowM P w r) := by
  rw [← Array.getElem?_toList, h, List.getElem?_map, hr] <;> rfl
theorem fits_of {n : Nat} (h1 : t.place.size = es.size) (h2 : t.dummies = #[]) (h3 : es.size ≤ t.mask) : t.fits es.size = true := by
  unfold SetTable.fits SetTable.fill
  rw [h2, Bool.and_eq_true, beq_iff_eq, decide_eq_true_eq]
  exact ⟨h1, by show t.place.size + 0 ≤ t.mask; omega⟩
theorem SetM.fits (R : SetM P w s.heap a L es ep t) : t.fits es.size = true := by
  have h1 := R.tab.sz
  rw [List.length_map] at h1
  have h2 := es_size R.es
  have h3 := R.room
  exact fits_of (n := 0) (by omega) R.tab.dm (by omega)
theorem SetM.whole (R : SetM P w s.heap a L es ep t) : ¬ t.gaveWay = true := by
  unfold SetTable.gaveWay
  rw [mask_odd R.tab.mok]
  decide
/-- the c-th place that a search looks at -/
abbrev Pr (m : Nat) (h : Int) (c : Nat) : SetTable.Probe := nth m (runAt m (SetTable.bits h % (m + 1)) (SetTable.bits h)) c
theorem Pr_add (m : Nat) (h : Int) (c q : Nat) : nth m (Pr m h c) q = Pr m h (c + q) := (nth_add m c _ q).symm
theorem Pr_dummy (m : Nat) (h : Int) (c : Nat) : (Pr m h c).dummy = none := by
  induction c with
  | zero => rfl
  | succ c ih =>
    rw [show Pr m h (c + 1) = adv m (Pr m h c) from nth_succ m _ c]
    unfold adv
    split <;> exact ih
/-- no row of this key was passed before the c-th place -/
def NotYet (t : SetTable) (h : Int) (L : List Row) (k : List Key) (c K : Nat) : Prop := ∀ (i : Nat) (r : Row), L[i]? = some r → r.2 = k → ∃ d, c ≤ d ∧ d < K ∧ t.place.toList[i]? = some (way t.mask h d)
theorem find_row (R : SetM P w s.heap a L es ep t) {x : Addr} {k : List Key} (hx : IsM P w s.heap k x) (hu : A.units < cLine) {K : Nat} (hKf : K < 10 * SetTable.turns t.mask)
    (hK : way t.mask (mh P w k) K ∉ t.place.toList) (hKb : ∀ c, c < K → way t.mask (mh P w k) c ∈ t.place.toList) {Q : SetFound → Shared → Prop}
    (hin : k ∈ L.map (·.2) → Q (.there none) s) (hout : k ∉ L.map (·.2) → Q (.free (way t.mask (mh P w k) K) false) s) :
    ∀ (f c : Nat) (stand : Option SetTable.Probe), stand.getD (t.probeStart (mh P w k)) = Pr t.mask (mh P w k) c → c ≤ K → K < f + c → NotYet t (mh P w k) L k c K → wpAny (model P w) A (setSearchFrom a (.ref x) (mh P w k) true f stand) Q E s := by
  obtain ⟨o, ho, hex, hd⟩ := R.ob
  have hsz := R.tab.sz
  rw [List.length_map] at hsz
  intro f
  induction f with
  | zero => exact fun c _ _ h1 h2 _ => absurd h2 (by omega)
  | succ f ih =>
    intro c stand hst hc hf hny
    rw [setSearchFrom_succ]
    refine wpAny_bind (wpAny_setState_of ho hd R.fits ?_)
    dsimp only
    refine wp_if_neg R.whole ?_
    try refine wpAny_bind (wpAny_pure ?_)
    have hashes : ∀ (i : Nat) (r : Row), L[i]? = some r → (es[i]?.map (·.1)).getD 0 = mh P w r.2 := fun i r hr => by rw [es_at R.es hr] <;> rfl
    have wj : ∀ q, (nth t.mask (Pr t.mask (mh P w k) c) q).j = way t.mask (mh P w k) (c + q) := fun q => congrArg SetTable.Probe.j (Pr_add t.mask _ c q)
    have end_ : c + (K - c) = K := by omega
    rcases go_spec t R.tab.ris R.tab.dm (fun i => (es[i]?.map (·.1)).getD 0) (mh P w k) (10 * SetTable.turns t.mask) (K - c) (Pr t.mask (mh P w k) c) (Pr_dummy _ _ _) (by omega)
      (fun q hq => by rw [wj]; exact hKb _ (by omega)) (by rw [wj, end_]; exact hK) with ⟨q, i, hq, hi, _, hno, hgo⟩ | ⟨hno, hgo⟩
    · rw [wj] at hi
      have hpr : t.probe (fun i => (es[i]?.map (·.1)).getD 0) (mh P w k) (stand.getD (t.probeStart (mh P w k))) = some (.candidate (way t.mask (mh P w k) (c + q)) i (Pr t.mask (mh P w k) (c + (q + 1)))) := by
        rw [hst, ← wj, ← Pr_add]
        exact hgo
      rw [hpr]
      dsimp only
      have hil : i < L.length := by
        have h1 : i < t.place.toList.length := (List.getElem?_eq_some_iff.mp hi).1
        rw [Array.length_toList] at h1
        omega
      obtain ⟨r, hr⟩ : ∃ r, L[i]? = some r := ⟨_, List.getElem?_eq_getElem hil⟩
      have hrm := List.mem_of_getElem? hr
      have hslot : t.slot (way t.mask (mh P w k) (c + q)) = .live i := slot_live R.tab.ris hi
      have after : wpAny (model P w) A (searchRest a (.ref x) (mh P w k) true f es t (way t.mask (mh P w k) (c + q)) i (Pr t.mask (mh P w k) (c + (q + 1)))) Q E s := by
        unfold searchRest
        rw [es_at R.es hr]
        dsimp only [rowM]
        refine wpAny_bind (wpAny_holding (wpAny_eqBool_tuple hu (R.is r hrm) hx ?_))
        refine wpAny_bind (wpAny_setState_of ho hd R.fits ?_)
        dsimp only
        by_cases hkk : r.2 = k
        · refine wp_if_pos (by simp [hkk]) (wpAny_pure (hin ?_))
          rw [← hkk]
          exact List.mem_map_of_mem hrm
        · refine wp_if_neg (by simp [hkk]) ?_
          try refine wpAny_bind (wpAny_pure ?_)
          rw [sameMem]
          dsimp only
          simp only [if_true, hslot, es_at R.es hr, rowM]
          refine wpAny_bind (wpAny_isSame_ref_self (wpAny_bind (wpAny_pure ?_)))
          simp only [if_true]
          refine wp_if_neg (by simp [hkk]) ?_
          refine ih (c + (q + 1)) _ rfl (by omega) (by omega) fun i0 r0 h0 hk0 => ?_
          obtain ⟨d, d1, d2, d3⟩ := hny i0 r0 h0 hk0
          refine ⟨d, ?_, d2, d3⟩
          refine Nat.le_of_not_lt fun hlt => ?_
          rcases Nat.lt_or_ge d (c + q) with z | z
          · refine hno (d - c) i0 (by omega) (by rw [wj, show c + (d - c) = d by omega]; exact d3) ?_
            show (es[i0]?.map (·.1)).getD 0 = _
            rw [hashes i0 r0 h0, hk0]
          · have ed : d = c + q := by omega
            rw [ed] at d3
            have s2 := slot_live R.tab.ris d3
            rw [hslot] at s2
            injection s2 with s2
            rw [← s2, hr] at h0
            cases h0
            exact hkk hk0
      by_cases hl : t.led = true
      · refine wp_if_neg (by simp [hl]) ?_
        try refine wpAny_bind (wpAny_pure ?_)
        exact after
      · refine wp_if_pos (by simp [hl]) (wpAny_bind (unseen hx (fun y hy => ?_) ?_))
        · obtain ⟨e, he, rfl⟩ := List.mem_map.mp hy
          have he1 : e ∈ es ∧ e.1 = mh P w k := by simpa using he
          have he2 : e ∈ es.toList := by simpa using he1.1
          rw [R.es] at he2
          obtain ⟨r', hr', rfl⟩ := List.mem_map.mp he2
          exact ⟨r', rfl, R.is r' hr'⟩
        · refine wp_if_neg (by decide) ?_
          try refine wpAny_bind (wpAny_pure ?_)
          exact after
    · have hpr : t.probe (fun i => (es[i]?.map (·.1)).getD 0) (mh P w k) (stand.getD (t.probeStart (mh P w k))) = some (.empty (way t.mask (mh P w k) K) none) := by
        rw [hst, show way t.mask (mh P w k) K = (nth t.mask (Pr t.mask (mh P w k) c) (K - c)).j by rw [wj, end_]]
        exact hgo
      rw [hpr]
      dsimp only
      refine wpAny_pure (hout fun hm => ?_)
      obtain ⟨r0, h0, hk0⟩ := List.mem_map.mp hm
      obtain ⟨i0, hi0⟩ := List.mem_iff_getElem?.mp h0
      obtain ⟨d, d1, d2, d3⟩ := hny i0 r0 hi0 hk0
      refine hno (d - c) i0 (by omega) (by rw [wj, show c + (d - c) = d by omega]; exact d3) ?_
      show (es[i0]?.map (·.1)).getD 0 = _
      rw [hashes i0 r0 hi0, hk0]
theorem find_key (R : SetM P w s.heap a L es ep t) {x : Addr} {k : List Key} (hx : IsM P w s.heap k x) (hu : A.units < cLine) {Q : SetFound → Shared → Prop} (hin : k ∈ L.map (·.2) → Q (.there none) s)
    (hout : ∀ K, k ∉ L.map (·.2) → way t.mask (mh P w k) K ∉ t.place.toList → (∀ c, c < K → way t.mask (mh P w k) c ∈ t.place.toList) → Q (.free (way t.mask (mh P w k) K) false) s) :
    wpAny (model P w) A (setSearch a (.ref x) (mh P w k) true) Q E s := by
  have hroom := R.room
  have hsz := R.tab.sz
  rw [List.length_map] at hsz
  obtain ⟨K, hKf, hK, hKb⟩ := R.tab.first (by rw [List.length_map]; omega) (mh P w k)
  have hbig : K < 100000 := by
    have : 10 * SetTable.turns t.mask ≤ 1420 := by
      unfold SetTable.turns
      rcases R.tab.mok with e | e | e <;> omega
    omega
  unfold setSearch
  refine find_row R hx hu hKf hK hKb hin (fun hn => hout K hn hK hKb) 100000 0 none rfl (Nat.zero_le _) (by omega) fun i r hr hk => ?_
  have hil : i < t.place.toList.length := by
    have h1 := (List.getElem?_eq_some_iff.mp hr).1
    rw [Array.length_toList]
    omega
  obtain ⟨d, hd, e⟩ := R.tab.before hK (i := i) (by rw [List.getElem?_map, hr, ← hk] <;> rfl) (List.getElem?_eq_getElem hil)
  exact ⟨d, Nat.zero_le _, hd, by rw [List.getElem?_eq_getElem hil, e]⟩
end
end Ta
namespace Ta
open PySem PySem.Spec PyProof.Rows L2
section
variable {P : Program} {w : World} {A : Around} {E : Value → Shared → Prop} {s : Shared} {a : Addr} {L : List Row} {es : Array (Int × Value)} {ep : Nat} {t : SetTable}
theorem isM_but {h h' : Heap} {k : List Key} {b : Addr} {o : Obj} (hb : IsM P w h k b) (ho : h.get? a = some o) (hd : o.data = .set es ep t) (hs : Heap.SameBut a h h') : IsM P w h' k b := by
  obtain ⟨o', its, n, g1, g2, g3, g4⟩ := hb
  refine ⟨o', its, n, (hs.2 b fun z => ?_).trans g1, g2, g3, g4⟩
  rw [z, ho] at g1
  cases g1
  rw [hd] at g3
  cases g3
/-- rows taken in another order -/
theorem reorder {L : List Row} {es : Array (Int × Value)} {order : Array Nat} (hr : es.toList = L.map (rowM P w)) (hp : order.toList.Perm (List.range L.length)) :
    ∃ L2 : List Row, (order.filterMap (es[·]?)).toList = L2.map (rowM P w) ∧ L2.Perm L ∧ (L2.map fun r => mh P w r.2) = order.toList.map fun i => (es.map (·.1)).getD i 0 := by
  have lt : ∀ i ∈ order.toList, i < L.length := fun i hi => List.mem_range.mp (hp.mem_iff.mp hi)
  have e1 : ∀ l : List Nat, (∀ i ∈ l, i < L.length) → l.filterMap (fun i => es[i]?) = (l.filterMap fun i => L[i]?).map (rowM P w) ∧ ((l.filterMap fun i => L[i]?).map fun r => mh P w r.2) = l.map fun i => (es.map (·.1)).getD i 0 := by
    intro l hl
    induction l with
    | nil => exact ⟨rfl, rfl⟩
    | cons i l ih =>
      obtain ⟨i1, i2⟩ := ih fun j hj => hl j (List.mem_cons_of_mem _ hj)
      have g1 : L[i]? = some (L[i]'(hl i List.mem_cons_self)) := List.getElem?_eq_getElem (hl i List.mem_cons_self)
      have g2 := es_at hr g1
      have g3 : (es.map (·.1)).getD i 0 = mh P w (L[i]'(hl i List.mem_cons_self)).2 := by
        have : (es.map (·.1))[i]? = some (mh P w (L[i]'(hl i List.mem_cons_self)).2) := by rw [Array.getElem?_map, g2] <;> rfl
        simp [Array.getD_eq_getD_getElem?, this]
      constructor
      · rw [List.filterMap_cons_some g2, List.filterMap_cons_some g1, i1] <;> rfl
      · rw [List.filterMap_cons_some g1, List.map_cons, List.map_cons, i2, g3]
  have e2 : ∀ n, n ≤ L.length → (List.range n).filterMap (fun i => L[i]?) = L.take n := by
    intro n
    induction n with
    | zero => exact fun _ => rfl
    | succ n ih =>
      intro hn
      have g1 : L[n]? = some (L[n]'hn) := List.getElem?_eq_getElem hn
      rw [List.range_succ, List.filterMap_append, ih (Nat.le_of_lt hn), List.take_add_one, g1, List.filterMap_cons_some g1] <;> rfl
  have e3 := hp.filterMap fun i => L[i]?
  rw [e2 _ (Nat.le_refl _), List.take_length] at e3
  obtain ⟨h1, h2⟩ := e1 order.toList lt
  exact ⟨_, by simpa using h1, e3, h2⟩
theorem relaid {o : Obj} (ho : s.heap.get? a = some o) (hex : o.ExactSet) (hd : o.data = .set es ep t) (hr : es.toList = L.map (rowM P w)) (hsz : t.place.size = es.size) (hdm : t.dummies = #[]) (hfl : es.size ≤ t.mask)
    (nd : (L.map (·.2)).Nodup) (is : ∀ r ∈ L, IsM P w s.heap r.2 r.1) (ld : w.params.followText "set-order" = true ∨ t.led = true) (few : L.length < 64) {wanted M : Nat}
    (hw : SetTable.sizeAbove wanted - 1 = M) (hM : MaskOk M) (hw2 : SetTable.sizeAbove wanted ≤ 128) (hn : L.length * 5 < M * 3) {Q : Unit → Shared → Prop}
    (hQ : ∀ h' L' es' ep' t', Heap.SameBut a s.heap h' → SetM P w h' a L' es' ep' t' → L'.Perm L → Q () { s with heap := h' }) : wpAny (model P w) A (setRelay a wanted) Q E s := by
  have hsl := es_size hr
  obtain ⟨t', order, e, hp, T, em, el, _, ed⟩ := relaid_ok t (hs := es.map (·.1)) (wanted := wanted) hw hM (by rw [Array.size_map, hsl]; omega)
  rw [Array.size_map, hsl] at hp
  obtain ⟨L2, r1, r2, r3⟩ := reorder hr hp
  rw [← r3] at T
  have hs2 : (order.filterMap (es[·]?)).size = es.size := by rw [es_size r1, r2.length_eq, hsl]
  rw [setRelay_eq]
  refine wpAny_bind (wpAny_setState_of ho hd (fits_of (n := 0) hsz hdm hfl) ?_)
  dsimp only
  refine wp_if_neg (by rw [sizeLine_eq]; omega) ?_
  try refine wpAny_bind (wpAny_pure ?_)
  rw [e]
  dsimp only
  refine wpAny_bind ?_
  refine wp_if_neg (by rw [hs2]; simp) ?_
  try refine wpAny_bind (wpAny_pure ?_)
  refine wpAny_pure ?_
  dsimp only
  refine wpAny_storeSet_of ho hd ?_ (by rw [hs2, hsl, sizeLine_eq]; omega)
  have sb : Heap.SameBut a s.heap (s.heap.update a (Obj.putSet (order.filterMap (es[·]?)) t')) := Heap.SameBut.update ..
  refine hQ _ L2 _ (ep + 1) t' sb ⟨⟨_, store_at ho hd, ⟨hex.1, hex.2.1, hex.2.2⟩, rfl⟩, r1, T, (r2.map (·.2)).nodup_iff.mpr nd, fun r hr' => isM_but (is r (r2.mem_iff.mp hr')) ho hd sb, by rw [el]; exact ld, ?_, by rw [r2.length_eq]; exact few⟩ r2
  rw [r2.length_eq, em]
  exact hn
theorem TabOk.plainly {t : SetTable} {hs : List Int} (T : TabOk t hs) (b : Bool) : TabOk { t with plain := b } hs := ⟨T.ris, T.dm, T.sz, T.mok, T.bd, T.reach⟩
theorem put_row (R : SetM P w s.heap a L es ep t) {x : Addr} {k : List Key} (hx : IsM P w s.heap k x) (hu : A.units < cLine) (few : L.length + 1 < 64) {Q : Bool → Shared → Prop}
    (hQ : ∀ b h' L' es' ep' t', Heap.SameBut a s.heap h' → SetM P w h' a L' es' ep' t' → (k ∈ L.map (·.2) → L' = L) → (k ∉ L.map (·.2) → L'.Perm ((x, k) :: L)) → Q b { s with heap := h' }) :
    wpAny (model P w) A (setAddHashed a (.ref x) (mh P w k)) Q E s := by
  obtain ⟨o, ho, hex, hd⟩ := R.ob
  have hsl := es_size R.es
  have hroom := R.room
  unfold setAddHashed
  refine wpAny_holding ?_
  rw [show (100000 : Nat) = 99999 + 1 from rfl, setAddHashedIn_succ]
  refine wpAny_bind (wpAny_setState_of ho hd R.fits ?_)
  dsimp only
  refine wp_if_neg (by simp [byScan, Value.scannable]) ?_
  try refine wpAny_bind (wpAny_pure ?_)
  refine wpAny_bind (find_key R hx hu (fun hm => ?_) fun K hm hK hb => ?_)
  · dsimp only
    exact wpAny_pure (hQ false s.heap L es ep t (Heap.SameBut.refl a s.heap) R (fun _ => rfl) fun z => absurd hm z)
  · dsimp only
    refine wpAny_bind (wpAny_setState_of ho hd R.fits ?_)
    dsimp only
    obtain ⟨q1, q2, q3, q4, q5, q6, q7, q8, q9⟩ := R.tab.put hK hb
    have hin : (SetTable.insertAt es (SetTable.below t.place (way t.mask (mh P w k) K)) (mh P w k, Value.ref x)).toList = (L.take (SetTable.below t.place (way t.mask (mh P w k) K)) ++ (x, k) :: L.drop (SetTable.below t.place (way t.mask (mh P w k) K))).map (rowM P w) := by
      rw [SetTable.toList_insertAt, R.es, List.map_append, List.map_cons, List.map_take, List.map_drop] <;> rfl
    have hhs : (L.take (SetTable.below t.place (way t.mask (mh P w k) K)) ++ (x, k) :: L.drop (SetTable.below t.place (way t.mask (mh P w k) K))).map (fun r => mh P w r.2) = (L.map fun r => mh P w r.2).take (SetTable.below t.place (way t.mask (mh P w k) K)) ++ mh P w k :: (L.map fun r => mh P w r.2).drop (SetTable.below t.place (way t.mask (mh P w k) K)) := by
      rw [List.map_append, List.map_cons, List.map_take, List.map_drop]
    rw [← hhs] at q3
    generalize hpt : t.put (way t.mask (mh P w k) K) = pt at q1 q3 q4 q5 q6 q7 q8 q9 ⊢
    obtain ⟨t1, p⟩ := pt
    dsimp only at q1 q3 q4 q5 q6 q7 q8 q9 ⊢
    subst q1
    generalize hpp : SetTable.below t.place (way t.mask (mh P w k) K) = p at q2 q3 hin ⊢
    have pm := put_perm L p (x, k)
    have hlen : (L.take p ++ (x, k) :: L.drop p).length = L.length + 1 := pm.length_eq
    have hes : (SetTable.insertAt es p (mh P w k, Value.ref x)).size = L.length + 1 := by rw [es_size hin, hlen]
    generalize SetTable.insertAt es p (mh P w k, Value.ref x) = es1 at hin hes ⊢
    generalize L.take p ++ (x, k) :: L.drop p = L1 at pm hlen q3 hin
    have nd1 : (L1.map (·.2)).Nodup := (pm.map (·.2)).nodup_iff.mpr (by rw [List.map_cons]; exact List.nodup_cons.mpr ⟨hm, R.nd⟩)
    -- whichever way the table is marked
    have after : ∀ t2 : SetTable, TabOk t2 (L1.map fun r => mh P w r.2) → t2.mask = t.mask → t2.led = t.led → t2.fill = (L.map fun r => mh P w r.2).length + 1 → wpAny (model P w) A (do
        storeSet a es1 t2
        if !false && t2.tooFull then setRelay a (SetTable.grown (es.size + 1))
        return true) Q E s := by
      intro t2 T2 m2 l2 f2
      refine wpAny_bind (wpAny_storeSet_of ho hd ?_ (by rw [hes, sizeLine_eq]; omega))
      have sb : Heap.SameBut a s.heap (s.heap.update a (Obj.putSet es1 t2)) := Heap.SameBut.update ..
      have ho1 := store_at (es' := es1) (t' := t2) ho hd
      generalize s.heap.update a (Obj.putSet es1 t2) = h1 at sb ho1 ⊢
      have is1 : ∀ r ∈ L1, IsM P w h1 r.2 r.1 := fun r hr => by
        rcases List.mem_cons.mp (pm.mem_iff.mp hr) with rfl | hr
        · exact isM_but hx ho hd sb
        · exact isM_but (R.is r hr) ho hd sb
      have ld1 : w.params.followText "set-order" = true ∨ t2.led = true := by rw [l2]; exact R.led
      have fillL : t2.fill = L.length + 1 := by rw [f2, List.length_map]
      by_cases hf : t2.tooFull = true
      · have hfull : (L.length + 1) * 5 ≥ t2.mask * 3 := by
          have h := hf
          unfold SetTable.tooFull at h
          rw [decide_eq_true_eq, fillL] at h
          exact h
        have two : (t.mask = 7 ∧ L.length = 4) ∨ (t.mask = 31 ∧ L.length = 18) := by
          rcases R.tab.mok with e | e | e
          · left; rw [m2, e] at hfull; rw [e] at hroom; exact ⟨e, by omega⟩
          · right; rw [m2, e] at hfull; rw [e] at hroom; exact ⟨e, by omega⟩
          · exfalso; rw [m2, e] at hfull; omega
        have go : ∀ M, SetTable.sizeAbove (SetTable.grown (es.size + 1)) - 1 = M → MaskOk M → SetTable.sizeAbove (SetTable.grown (es.size + 1)) ≤ 128 → (L.length + 1) * 5 < M * 3 →
            wpAny (model P w) A (setRelay a (SetTable.grown (es.size + 1))) (fun _ s' => wpAny (model P w) A (pure true) Q E s') E { s with heap := h1 } := fun M g1 g2 g3 g4 => by
          refine relaid (s := { s with heap := h1 }) ho1 ⟨hex.1, hex.2.1, hex.2.2⟩ rfl hin (by rw [T2.sz, List.length_map, hlen, hes]) T2.dm (by rw [hes, m2]; rcases two with ⟨e, e2⟩ | ⟨e, e2⟩ <;> omega) nd1 is1 ld1 (by rw [hlen]; exact few) g1 g2 g3 (by rw [hlen]; exact g4) ?_
          intro h2 L2 es2 ep2 t3 sb2 R2 pm2
          exact wpAny_pure (hQ true h2 L2 es2 ep2 t3 (sb.trans sb2) R2 (fun z => absurd z hm) fun _ => pm2.trans pm)
        rw [hsl] at go ⊢
        first
          | (refine wpAny_bind ?_; refine wp_if_pos (by simp [hf]) ?_)
          | (refine wp_if_pos (by simp [hf]) ?_; refine wpAny_bind ?_)
        rcases two with ⟨_, e2⟩ | ⟨_, e2⟩
        · exact go 31 (by rw [e2, size_20]) (.inr (.inl rfl)) (by rw [e2, size_20]; decide) (by omega)
        · exact go 127 (by rw [e2, size_76]) (.inr (.inr rfl)) (by rw [e2, size_76]; decide) (by omega)
      · first
          | refine wp_if_neg (by simp [hf]) ?_
          | (refine wpAny_bind ?_; refine wp_if_neg (by simp [hf]) ?_; refine wpAny_pure ?_)
        refine wpAny_pure (hQ true h1 L1 es1 (ep + 1) t2 sb ⟨⟨_, ho1, ⟨hex.1, hex.2.1, hex.2.2⟩, rfl⟩, hin, T2, nd1, is1, ld1, ?_, by rw [hlen]; exact few⟩ (fun z => absurd z hm) fun _ => pm)
        have h := hf
        unfold SetTable.tooFull at h
        rw [decide_eq_true_eq, fillL] at h
        rw [hlen]
        omega
    by_cases hp1 : t1.plain = true
    · first
        | (refine wpAny_bind ?_; refine wp_if_pos hp1 ?_; refine hash_key hx fun c => ?_)
        | refine wp_if_pos hp1 (wpAny_bind (hash_key hx fun c => ?_))
      cases c with
      | true => exact after t1 q3 q4 q5 q9
      | false => exact after { t1 with plain := false } (TabOk.plainly q3 false) q4 q5 q9
    · first
        | (refine wpAny_bind ?_; refine wp_if_neg hp1 ?_; refine wpAny_pure ?_)
        | refine wp_if_neg hp1 ?_
      exact after t1 q3 q4 q5 q9
end
end Ta
namespace Ta
open PySem PySem.Spec PyProof.Rows L2
section
variable {P : Program} {w : World} {A : Around} {E : Value → Shared → Prop} {s : Shared}
theorem SetM.moved {h h' : Heap} {a : Addr} {L : List Row} {es : Array (Int × Value)} {ep : Nat} {t : SetTable} (R : SetM P w h a L es ep t) (ha : ∀ o, h.get? a = some o → h'.get? a = some o) (is : ∀ r ∈ L, IsM P w h' r.2 r.1) : SetM P w h' a L es ep t := by
  obtain ⟨o, ho, r⟩ := R.ob
  exact ⟨⟨o, ha o ho, r⟩, R.es, R.tab, R.nd, is, R.led, R.room, R.few⟩
abbrev emptySet (w : World) : Obj := { cls := .type "set", dict := none, data := .set #[] 0 (.fresh 0 0 (!w.params.followText "set-order")) }
theorem SetM.new {h : Heap} {a : Addr} (ho : h.get? a = some (emptySet w)) : SetM P w h a [] #[] 0 (.fresh 0 0 (!w.params.followText "set-order")) := by
  refine ⟨⟨_, ho, ⟨rfl, rfl, rfl⟩, rfl⟩, rfl, ⟨List.Pairwise.nil, rfl, rfl, .inl rfl, fun x hx => (by cases hx), fun i h j hi => (by simp at hi)⟩, List.nodup_nil, fun r hr => (by cases hr), ?_, by show 0 * 5 < 7 * 3; decide, by show 0 < 64; decide⟩
  show _ ∨ (!w.params.followText "set-order") = true
  cases w.params.followText "set-order"
  · exact .inr rfl
  · exact .inl rfl
/-- what a set has of the first i rows -/
def Has (ks : List Row) (i : Nat) (L : List Row) : Prop := (∀ r ∈ L, r ∈ ks) ∧ (∀ k, k ∈ L.map (·.2) ↔ k ∈ (ks.take i).map (·.2)) ∧ L.length ≤ i
theorem Has.next {ks L L' : List Row} {i : Nat} {x : Row} (g : Has ks i L) (h : ks[i]? = some x) (c1 : x.2 ∈ L.map (·.2) → L' = L) (c2 : x.2 ∉ L.map (·.2) → L'.Perm (x :: L)) : Has ks (i + 1) L' := by
  have tk : ∀ k, k ∈ (ks.take (i + 1)).map (·.2) ↔ k ∈ (ks.take i).map (·.2) ∨ k = x.2 := fun k => by
    rw [List.take_add_one, h, List.map_append, List.mem_append]
    exact or_congr Iff.rfl List.mem_singleton
  rcases Classical.em (x.2 ∈ L.map (·.2)) with c | c
  · rw [c1 c]
    refine ⟨g.1, fun k => ?_, Nat.le_succ_of_le g.2.2⟩
    rw [tk, g.2.1 k]
    exact ⟨.inl, fun z => z.elim id fun e => by rw [e]; exact (g.2.1 _).mp c⟩
  · have pm := c2 c
    refine ⟨fun r hr => ?_, fun k => ?_, ?_⟩
    · rcases List.mem_cons.mp (pm.mem_iff.mp hr) with rfl | hr
      · exact List.mem_of_getElem? h
      · exact g.1 r hr
    · rw [(pm.map (·.2)).mem_iff, List.map_cons, List.mem_cons, tk, g.2.1 k]
      exact or_comm
    · rw [pm.length_eq]
      exact Nat.succ_le_succ g.2.2
theorem upd_rows {I : Addr} {fp wr : List Addr} {G : Array GenState → Array GenState → Prop} {n : Nat} {Pv : Nat → Value → Prop} {St : Nat → Shared → Prop} {R : Result → Shared → Prop}
    (W : WalksS P w A.in1 I fp wr G n Pv St) (S : Addr) (out : S ∉ fp) (ks : List Row) (len : ks.length = n) (few : n < 64) (val : ∀ i v, Pv i v → ∃ r, ks[i]? = some r ∧ v = .ref r.1)
    (h0 : Heap) (is : ∀ r ∈ ks, IsM P w h0 r.2 r.1) (S0 : h0.get? S = none) (w0 : ∀ b ∈ wr, h0.get? b = none) (hu : A.in1.units < cLine) :
    ∀ (m i : Nat) (s : Shared), n - i = m → i ≤ n → St i s → (∀ b o, h0.get? b = some o → s.heap.get? b = some o) → (∃ L es ep t, SetM P w s.heap S L es ep t ∧ Has ks i L) →
      (∀ s' L es ep t, Moved (S :: wr) G s s' → SetM P w s'.heap S L es ep t → Has ks n L → (∀ b o, h0.get? b = some o → s'.heap.get? b = some o) → R (.ok (.ret .none)) s') →
      codeAny (model P w) A (.builtin "set.update.loop" ⟨[.ref S, .ref I], []⟩) R s := by
  have outw : S ∉ wr := fun h => out (W.sub _ h)
  have sub : ∀ b ∈ wr, b ∈ S :: wr := fun b hb => List.mem_cons_of_mem _ hb
  have old : ∀ {s s' : Shared}, Moved wr G s s' → (∀ b o, h0.get? b = some o → s.heap.get? b = some o) → ∀ b o, h0.get? b = some o → s'.heap.get? b = some o := fun mv k b o e => mv.heap b o (fun z => by rw [w0 b z] at e; cases e) (k b o e)
  have isAt : ∀ {h : Heap}, (∀ b o, h0.get? b = some o → h.get? b = some o) → ∀ r ∈ ks, IsM P w h r.2 r.1 := fun k r hr => keep_isM (is r hr) fun o e _ => k _ _ e
  intro m
  induction m with
  | zero =>
    intro i s hm hi st k ⟨L, es, ep, t, hS, g⟩ fin
    obtain rfl : i = n := by omega
    refine codeAny_builtin PyProof.Rows.F.entry_set_update_loop ?_
    rw [Around.under_plainId PyProof.Rows.F.plain_set_update_loop _]
    show wpAny _ A.in1 (pyNext (.ref I) >>= _) _ _ s
    refine wpAny_bind (W.done s _ _ st fun s' mv => ?_)
    have k' := old mv k
    exact wpAny_pure (fin s' L es ep t (mv.mono sub) (hS.moved (fun o e => mv.heap S o outw e) fun r hr => isAt k' r (g.1 r hr)) g k')
  | succ m ih =>
    intro i s hm hi st k ⟨L, es, ep, t, hS, g⟩ fin
    have lt : i < n := by omega
    refine codeAny_builtin PyProof.Rows.F.entry_set_update_loop ?_
    rw [Around.under_plainId PyProof.Rows.F.plain_set_update_loop _]
    show wpAny _ A.in1 (pyNext (.ref I) >>= _) _ _ s
    refine wpAny_bind (W.item i s _ _ lt st fun v s' hP st' mv => ?_)
    obtain ⟨r, hr, rfl⟩ := val i v hP
    have k' := old mv k
    have hS' := hS.moved (fun o e => mv.heap S o outw e) fun q hq => isAt k' q (g.1 q hq)
    have hx := isAt k' r (List.mem_of_getElem? hr)
    show wpAny _ A.in1 (holding [Value.ref r.1] (setAdd S (.ref r.1)) >>= _) _ _ s'
    refine wpAny_bind (wpAny_holding ?_)
    unfold setAdd
    refine wpAny_holding ?_
    refine wpAny_bind (wpAny_pyHash_tuple hu hx ?_)
    refine put_row (s := { s' with toks := s'.toks + (r.2.length + 1) }) hS' hx hu (by have := g.2.2; omega) fun b h' L' es' ep' t' sb hS2 c1 c2 => ?_
    have k2 : ∀ b o, h0.get? b = some o → h'.get? b = some o := fun b o e => (sb.2 b (fun z => by rw [z, S0] at e; cases e)).trans (k' b o e)
    refine wpAny_pure ⟨plainId_quiet PyProof.Rows.F.plain_set_update_loop _, ih (i + 1) _ (by omega) lt (W.frame _ s' _ _ st' (Nat.le_add_right _ _) fun b hb o e => ?_) k2 ⟨L', es', ep', t', hS2, g.next hr c1 c2⟩ fun s'' L2 es2 ep2 t2 mv2 hS'' g'' k'' => ?_⟩
    · rw [sb.2 b (fun z : b = S => out (by rw [← z]; exact hb))]
      exact e
    · refine fin s'' L2 es2 ep2 t2 (Moved.trans W.gtrans ((mv.mono sub).then_heap (Nat.le_add_right _ _) fun b o hb e => ?_) mv2) hS'' g'' k''
      rw [sb.2 b (fun z : b = S => hb (by rw [z]; exact List.mem_cons_self))]
      exact e
theorem set_of_rows {l : Addr} {items : Array Value} (ks : List Row) {Q : Value → Shared → Prop} (hh : A.handled = none) (hl : s.heap.IsList l items) (hit : items.toList = ks.map fun r => Value.ref r.1)
    (is : ∀ r ∈ ks, IsM P w s.heap r.2 r.1) (few : ks.length < 64) (hu : A.units + 3 < cLine)
    (h : ∀ (h' : Heap) (tk : Nat) L es ep t, SetM P w h' s.heap.objs.size L es ep t → Has ks ks.length L → (∀ b o, s.heap.get? b = some o → h'.get? b = some o) → Q (.ref s.heap.objs.size) { s with heap := h', toks := tk }) :
    wpAny (model P w) A (call (.type "set") [.ref l]) Q E s := by
  have hisz : ks.length = items.size := by rw [← Array.length_toList, hit, List.length_map]
  obtain ⟨c, tl, hmro⟩ := PySem.F.called_set.mro
  have hmade := PySem.F.called_set.made
  have hsub := PySem.F.called_set.sub
  refine wpAny_call (codeAny_of_tree ?_)
  show wpAny _ _ (callAny (.type "set") _) _ _ _
  refine wpAny_pure ⟨Code.quiet_builtin _ (by decide +kernel), codeAny_builtin PySem.F.entry_type_call ?_⟩
  rw [Around.under_plain (weight_type_call_type "set" [.ref l] []) rfl]
  have h1 := PySem.F.called_set.notType
  have h2 := PySem.F.called_set.canCreate
  have hct := PySem.F.typeCall_set_1 (.ref l)
  repeat (any_goals (first | assumption | wp_step))
  refine codeAny_mono (code_set_led1 (.ref l) (E := E) (Q₁ := fun obj s₁ => obj = .ref s.heap.objs.size ∧ s₁ = { s with heap := s.heap.push (emptySet w) }) ⟨rfl, rfl⟩) fun r s₁ hr => ?_
  cases r with
  | error e => exact hr
  | ok fl =>
    cases fl with
    | ret obj =>
      obtain ⟨rfl, rfl⟩ := hr
      have hS : (s.heap.push (emptySet w)).get? s.heap.objs.size = some (emptySet w) := Heap.get?_push_size _ rfl
      have hT : Shared.TypeIs { s with heap := s.heap.push (emptySet w) } (.ref s.heap.objs.size) "set" := ⟨_, hS, rfl⟩
      have hli := PySem.F.called_set.init.lookup
      have hbi := PySem.F.called_set.init.bind (.ref s.heap.objs.size)
      repeat (any_goals (first | assumption | wp_step))
      refine codeAny_mono (codeAny_call_builtin (R := wants (fun r s₂ => r = .none ∧ ∃ h' tk L es ep t, s₂ = { s with heap := h', toks := tk } ∧ SetM P w h' s.heap.objs.size L es ep t ∧ Has ks ks.length L ∧ (∀ b o, s.heap.get? b = some o → h'.get? b = some o)) E) PySem.F.called_set.init.plain PySem.F.entry_set_init (check_set_init_1 hT ?_)) fun r₂ s₂ hr₂ => ?_
      · obtain ⟨ol, hol, hcl, nl, hdl⟩ := id hl
        obtain ⟨ocls, odict, odata, oslots⟩ := ol
        simp only at hcl hdl
        subst hcl
        subst hdl
        have hol' : (s.heap.push (emptySet w)).get? l = some { cls := .type "list", dict := odict, data := .seq items nl, slots := oslots } := Heap.get?_push_of_some _ hol
        have hsls := PySem.F.sub_list_set
        have hslf := PySem.F.sub_list_frozenset
        have hne : (Value.type "list" == Value.type "dict") = false := by decide
        have hl1 : (s.heap.push (emptySet w)).IsList l items := ⟨_, hol', rfl, nl, rfl⟩
        unfold Builtin.«set.__init__» noKeywords Builtin.Frozenset.updateFrom
        generalize hPI : pyIter = PI
        wp_walk
        subst hPI
        refine wpAny_pyIter_list hl1 ?_
        refine wpAny_bind (wpAny_runValue ?_)
        have low : l < s.heap.objs.size := Heap.lt_size hol
        have hz : (s.heap.push (emptySet w)).objs.size = s.heap.objs.size + 1 := Heap.size_push ..
        have ne : l ≠ (s.heap.push (emptySet w)).objs.size := by rw [hz]; exact Nat.ne_of_lt (Nat.lt_succ_of_lt low)
        have out : s.heap.objs.size ∉ [(s.heap.push (emptySet w)).objs.size, l] := by
          rw [hz]
          simp only [List.mem_cons, List.not_mem_nil, or_false, not_or]
          exact ⟨Nat.ne_of_lt (Nat.lt_succ_self _), Nat.ne_of_gt low⟩
        have hh3 : A.in1.in1.in1.handled = none := by simp [hh]
        have free : ∀ b, s.heap.objs.size ≤ b → s.heap.get? b = none := fun b hb => Heap.get?_none_of_le hb
        have val : ∀ (i : Nat) (v : Value), items[i]? = some v → ∃ r, ks[i]? = some r ∧ v = .ref r.1 := fun i v hv => by
          rw [← Array.getElem?_toList, hit, List.getElem?_map] at hv
          cases hq : ks[i]? with
          | none => rw [hq] at hv; cases hv
          | some r =>
            rw [hq] at hv
            exact ⟨r, rfl, (Option.some.inj hv).symm⟩
        refine upd_rows ((Walks.list hh3 _ l ne items).toS) s.heap.objs.size out ks hisz (by rw [← hisz]; exact few) val s.heap is (free _ (Nat.le_refl _)) (fun b hb => free b (by rw [List.mem_singleton.mp hb, hz]; exact Nat.le_succ _)) hu (items.size - 0) 0 _ (by omega) (Nat.zero_le _)
          ⟨⟨_, Heap.get?_push_size _ rfl, rfl, rfl⟩, (hl1.push _)⟩ (fun b o e => Heap.get?_push_of_some _ (Heap.get?_push_of_some _ e)) ⟨[], #[], 0, _, SetM.new (Heap.get?_push_of_some _ hS), fun r hr => (nomatch hr), fun k => Iff.rfl, Nat.le_refl _⟩ ?_
        intro s' L es ep t mv hS' g' k'
        obtain ⟨h', g2, d', tk', os'⟩ := s'
        have eg : g2 = s.gens := mv.gens
        have ed : d' = s.drawn := mv.drawn
        have eo : os' = s.os := mv.os
        subst eg ed eo
        show wpAny _ _ _ _ _ _
        refine wpAny_pure ?_
        show wpAny _ _ (ret Value.none) _ _ _
        rw [← hisz] at g'
        exact wpAny_pure ⟨rfl, h', tk', L, es, ep, t, rfl, hS', g', k'⟩
      · cases r₂ with
        | error e => exact hr₂
        | ok fl₂ =>
          cases fl₂ with
          | ret r =>
            obtain ⟨rfl, h', tk, L, es, ep, t, rfl, hS', g', k'⟩ := hr₂
            repeat (any_goals (first | assumption | wp_step))
            exact h _ _ _ _ _ _ hS' g' k'
          | _ => exact hr₂.elim
    | _ => exact hr.elim
/-- sorted(x), what x gives being told by Pv -/
theorem sorted_some {r : Addr} {Pv : List Value → Prop} {Q : Value → Shared → Prop} (ok : ∀ vs, Pv vs → KeysOk P w s.heap vs ∧ vs.length ≤ sizeLine)
    (col : ∀ (R : List Value → Shared → Prop), (∀ (s' : Shared) vs, Pv vs → (∀ b o, s.heap.get? b = some o → s'.heap.get? b = some o) → s.heap.objs.size ≤ s'.heap.objs.size → s'.gens = s.gens → s'.os = s.os → R vs s') → wpAny (model P w) A.in1 (collect (.ref r)) R E s)
    (h : ∀ (s' : Shared) (p : Addr) (vs out : List Value), Pv vs → out.Perm vs → (∀ b o, s.heap.get? b = some o → s'.heap.get? b = some o) → s.heap.objs.size ≤ p → s'.gens = s.gens → s'.os = s.os → (∃ n, s'.heap.get? p = some (seqObj "list" out.toArray n)) → Q (.ref p) s') :
    wpAny (model P w) A (call (.builtin "sorted") [.ref r]) Q E s := by
  refine Calls.call_function_entry kind_sorted plain_sorted entry_sorted (args_sorted1 _) ?_
  unfold Builtin.«sorted»
  refine wpAny_bind (m := checkCount "sorted" 1 1 _) (wpAny_pure ?_)
  refine wpAny_bind (col _ fun s1 vs pv hk hsz hg ho => ?_)
  obtain ⟨kok, hz⟩ := ok vs pv
  refine wpAny_bind (wpAny_newList ?_ hz)
  have hoL : (s1.heap.push (seqObj "list" vs.toArray 0)).get? s1.heap.objs.size = some (seqObj "list" vs.toArray 0) := Heap.get?_push_size _ rfl
  show wpAny _ _ _ _ _ { s1 with heap := s1.heap.push (seqObj "list" vs.toArray 0) }
  have kp : ∀ b o, s.heap.get? b = some o → (s1.heap.push (seqObj "list" vs.toArray 0)).get? b = some o := fun b o e => Heap.get?_push_of_some _ (hk b o e)
  refine wpAny_bind (wpAny_holding (wpAny_call_entry slot_list_sort ⟨_, hoL, rfl⟩ entry_list_sort
    (SrtO.list_sort_ord (s := { s1 with heap := s1.heap.push (seqObj "list" vs.toArray 0) }) (swo_keys s.heap) hoL hz
      (fun h2 => keys_sortable kok (by omega) (fun v hv => (kok.is v hv).keeps fun b o e _ => kp b o e) fun o e => ?_) fun out hs hb => ⟨_, rfl, ?_⟩) (args_list_sort _)))
  · have e' : some o = some (seqObj "list" vs.toArray 0) := e.symm.trans hoL
    cases e'
    intro c
    exact absurd (Value.type.inj c) (by decide)
  · refine wpAny_pure ⟨_, rfl, h _ s1.heap.objs.size vs out pv hb.perm (fun b o e => ?_) hsz hg ho (sortedHeap_at hoL)⟩
    have lt : b < s1.heap.objs.size := Heap.lt_size (hk b o e)
    show (sortedHeap _ _ _ _).get? b = some o
    rw [sortedHeap_old (Nat.ne_of_lt lt) (by rw [size_push']; exact Nat.lt_succ_of_lt lt)]
    exact Heap.get?_push_of_some _ (hk b o e)
end
end Ta
namespace Ta
open PySem PySem.Spec PyProof.Rows L2
/-- sorted(set(x)), x a list of places -/
def tSortSet (K : PySem.W.Frag) (ta : TE) : TE := fun σ H Q => ta σ H fun x H1 => ∃ (l : Addr) (ks : List Row), x = .ref l ∧ SqL K H1 l (ks.map fun r => V.ref r.1) ∧ (∀ r ∈ ks, H1 r.1 = some (.tup (r.2.map kV)) ∧ PlaceOk r.2) ∧ ks.length < 64 ∧
  ∀ (L : List Row) (p : Addr), (∀ r ∈ L, r ∈ ks) → (∀ k, k ∈ L.map (·.2) ↔ k ∈ ks.map (·.2)) → L.length ≤ ks.length → H1 p = none → Q (.ref p) (upd H1 p (.lst (L.map fun r => V.ref r.1)))
theorem rows_vals : ∀ {ks : List Row} {us : List Value}, Vals (ks.map fun r => V.ref r.1) us → us = ks.map fun r => Value.ref r.1
  | [], _, .nil => rfl
  | r :: ks, _, .cons h t => by
    cases h
    rw [List.map_cons, rows_vals t]
theorem vals_rows : ∀ ks : List Row, Vals (ks.map fun r => V.ref r.1) (ks.map fun r => Value.ref r.1)
  | [] => .nil
  | r :: ks => .cons rfl (vals_rows ks)
/-- values that are rows of a list -/
theorem rows_back {L : List Row} : ∀ {vs : List Value}, (∀ v ∈ vs, ∃ r ∈ L, v = Value.ref r.1) → ∃ M : List Row, vs = M.map (fun r => Value.ref r.1) ∧ ∀ r ∈ M, r ∈ L
  | [], _ => ⟨[], rfl, fun r hr => nomatch hr⟩
  | v :: vs, h => by
    obtain ⟨r, hr, rfl⟩ := h v List.mem_cons_self
    obtain ⟨M, rfl, hM⟩ := rows_back (vs := vs) fun u hu => h u (List.mem_cons_of_mem _ hu)
    refine ⟨r :: M, rfl, fun x hx => ?_⟩
    rcases List.mem_cons.mp hx with rfl | hx
    · exact hr
    · exact hM x hx
section
variable {X : Cx}
theorem pe_sortSet {a : Expr} {ta : TE} {p p2 q pos : Pos} (hc : X.calm = true) (hu : X.A.units + 64 < cLine) (hg : Gl X "sorted") (hm : X.mg "sorted" = none) (hg2 : Gl X "set") (hm2 : X.mg "set" = none) (ha : PE X a ta) (bt : bootBuiltins "sorted" = some (.builtin "sorted"))
    (na : starEach [a] X.env = (false, eval a X.env) :: starEach [] X.env := by rfl) : PE X (.Call (.Name "sorted" p) [.Call (.Name "set" p2) [a] [] q] [] pos) (tSortSet X.K ta) := by
  refine ⟨fun pins s σ H Q I h => ?_⟩
  refine Call_ (ld_blt I hg hm bt ?_)
  refine PyProof.Rows.callWith_builtin1 (PyProof.Rows.args_cons ?_ rfl) rfl rfl
  refine Call_ (ld_blt I hg2 hm2 PyProof.Rows.boot_set ?_)
  refine PyProof.Rows.callWith_type1 (PyProof.Rows.args_cons (thn (ha.run pins s σ H _ I h) fun v s1 ⟨x, H1, I1, r1, q1⟩ => PyProof.Rows.args_nil ?_) na) na rfl
  obtain ⟨l, ks, rfl, hq, hk, few, q1⟩ := q1
  cases r1
  obtain ⟨its, r, pl, hz⟩ := I1.list hq
  have eits := rows_vals r
  subst eits
  have isK : ∀ r ∈ ks, IsM X.prog X.w s1.heap r.2 r.1 := fun r hr => key_of I1.hok (hk r hr).1
  have line := sizeLine_eq
  refine set_of_rows ks (I1.ok.hd hc) pl.isList rfl isK few (by omega) fun h' tk L es ep t R g kp => ?_
  refine PyProof.Rows.args_nil ?_
  have I2 : Inv X pins σ H1 { s1 with heap := h', toks := tk } := I1.kept kp
  obtain ⟨o, ho, hex, hd⟩ := R.ob
  have esz := es_size R.es
  have hes : es.toList.map (·.2) = L.map fun r => Value.ref r.1 := by
    rw [R.es, List.map_map] <;> rfl
  have kin : ∀ r ∈ L, KeyIn X.prog X.w h' (.ref r.1) r.2 := fun r hr => ⟨r.1, rfl, R.is r hr⟩
  have plc : ∀ r ∈ L, PlaceOk r.2 := fun r hr => (hk r (g.1 r hr)).2
  refine sorted_some (s := { s1 with heap := h', toks := tk }) (Pv := fun vs => vs.Perm (L.map fun r => Value.ref r.1)) (fun vs pv => ?_) (fun R' hR => ?_) fun s' p vs out pv po k hp hgn hos hl => ?_
  · have mem : ∀ v ∈ vs, ∃ r ∈ L, v = Value.ref r.1 ∧ keyAt h' v = r.2 := fun v hv => by
      obtain ⟨r, hr, rfl⟩ := List.mem_map.mp (pv.mem_iff.mp hv)
      exact ⟨r, hr, rfl, (kin r hr).key⟩
    refine ⟨⟨fun v hv => ?_, fun v hv => ?_, fun v hv u hu => ?_⟩, ?_⟩
    · obtain ⟨r, hr, rfl, e⟩ := mem v hv
      show KeyIn X.prog X.w h' _ (keyAt h' _)
      rw [e]
      exact kin r hr
    · obtain ⟨r, hr, rfl, e⟩ := mem v hv
      show Hd (keyAt h' _)
      rw [e]
      exact (plc r hr).hd
    · obtain ⟨r, hr, rfl, e⟩ := mem v hv
      obtain ⟨r', hr', rfl, e'⟩ := mem u hu
      show Cmpb (keyAt h' _) (keyAt h' _)
      rw [e, e']
      exact (plc r hr).cmp (plc r' hr')
    · rw [pv.length_eq, List.length_map]
      have := R.few
      omega
  · refine collect_set (A := X.A.in1) (s := { s1 with heap := h', toks := tk }) (show X.A.in1.handled = none from I2.ok.hd hc) ⟨o, ho, hex.1, hd⟩ (SetM.fits (s := { s1 with heap := h', toks := tk }) R) (by have := R.few; unfold scanBound; omega) R.tab.ris R.led fun s' vs k1 hz' g1 o1 pm => ?_
    rw [hes] at pm
    exact hR s' vs pm k1 hz' g1 o1
  · obtain ⟨M, eM, hM⟩ := rows_back (L := L) (vs := out) fun v hv => by
      obtain ⟨r, hr, e⟩ := List.mem_map.mp ((po.trans pv).mem_iff.mp hv)
      exact ⟨r, hr, e.symm⟩
    subst eM
    have pM := po.trans pv
    have lM : M.length = L.length := by
      have := pM.length_eq
      rwa [List.length_map, List.length_map] at this
    have fr : H1 p = none := I2.hok.fresh hp
    obtain ⟨n, hl⟩ := hl
    have hlen : (M.map fun r => V.ref r.1).length ≤ sizeLine := by
      rw [List.length_map, lM]
      have := R.few
      omega
    have J : Inv X pins σ (upd H1 p (.lst (M.map fun r => V.ref r.1))) { ({ s1 with heap := h', toks := tk } : Shared) with heap := s'.heap, gens := s'.gens, drawn := s'.drawn, toks := s'.toks } :=
      I2.call (ch := []) (Un.laid k hp fr) (I2.hok.laid k hp ⟨hlen, _, n, vals_rows M, hl⟩) (by rw [hgn]; exact I2.bare) (fun _ z => nomatch z)
    have e : s' = { s1 with heap := s'.heap, gens := s'.gens, drawn := s'.drawn, toks := s'.toks } := by
      cases s'
      cases s1
      cases hos
      rfl
    rw [e]
    refine ⟨.ref p, _, J, rfl, q1 M p (fun r hr => g.1 r (hM r hr)) (fun k => ?_) (by rw [lM]; exact g.2.2) fr⟩
    have g2 := g.2.1 k
    rw [List.take_length] at g2
    rw [← g2]
    constructor
    · intro hk'
      obtain ⟨r, hr, rfl⟩ := List.mem_map.mp hk'
      exact List.mem_map_of_mem (hM r hr)
    · intro hk'
      obtain ⟨r, hr, rfl⟩ := List.mem_map.mp hk'
      have hm : Value.ref r.1 ∈ M.map (fun r => Value.ref r.1) := pM.mem_iff.mpr (List.mem_map.mpr ⟨r, hr, rfl⟩)
      obtain ⟨r', hr', e'⟩ := List.mem_map.mp hm
      injection e' with e'
      have e3 : r'.2 = r.2 := by
        rw [← (kin r' (hM r' hr')).key, ← (kin r hr).key, e']
      rw [← e3]
      exact List.mem_map_of_mem hr'
end
end Ta
namespace Ta
open PySem PySem.Spec PyProof.Rows L2
/-! ### a dict whose keys are rows that may be written ones -/
def XdH (P : Program) (w : World) (h : Heap) (a : Addr) (ks : List (Addr × List Key)) : Prop := (a == sysModules) = false ∧ ∃ xs : List (List Key × Addr × Value), xs.map (fun x => (x.2.1, x.1)) = ks ∧
  ∃ o es ep, h.get? a = some o ∧ o.ExactDict ∧ o.data = .dict es ep ∧ es.toList = xs.map (entryOfKey (tupleKind (mixKind P w))) ∧ (xs.map (·.1)).Nodup
def dXO (P : Program) (w : World) (a : Addr) (ks : List (Addr × List Key)) : HO := .ext fun h => XdH P w h a ks
theorem dXO_ok {P : Program} {w : World} {H : Hp} {h : Heap} {a : Addr} {ks : List (Addr × List Key)} (x : XdH P w h a ks) : ObjOk P w H h a (dXO P w a ks) := by
  refine ⟨x, ?_, fun h1 h2 y k => ?_⟩
  · obtain ⟨_, _, _, o, _, _, e, _⟩ := x
    exact ⟨o, e⟩
  · obtain ⟨y0, xs, y1, o, es, ep, e, r⟩ := y
    exact ⟨y0, xs, y1, o, es, ep, k _ e, r⟩
def addX (ks : List (Addr × List Key)) (b : Addr) (k : List Key) : List (Addr × List Key) := if hasK (ks.map (·.2)) k = true then ks else ks ++ [(b, k)]
theorem addX_keys {ks : List (Addr × List Key)} {b : Addr} {k z : List Key} : z ∈ (addX ks b k).map (·.2) ↔ z ∈ ks.map (·.2) ∨ z = k := by
  unfold addX
  by_cases h : hasK (ks.map (·.2)) k = true
  · rw [if_pos h]
    exact ⟨.inl, fun y => y.elim id fun e => e ▸ hasK_iff.mp h⟩
  · rw [if_neg h, List.map_append, List.mem_append]
    exact or_congr Iff.rfl List.mem_singleton
theorem addX_mem {ks : List (Addr × List Key)} {b : Addr} {k : List Key} {q : Addr × List Key} (h : q ∈ addX ks b k) : q ∈ ks ∨ q = (b, k) := by
  unfold addX at h
  by_cases e : hasK (ks.map (·.2)) k = true
  · rw [if_pos e] at h
    exact .inl h
  · rw [if_neg e] at h
    exact (List.mem_append.mp h).imp id List.mem_singleton.mp
theorem addX_len (ks : List (Addr × List Key)) (b : Addr) (k : List Key) : (addX ks b k).length ≤ ks.length + 1 := by
  unfold addX
  by_cases e : hasK (ks.map (·.2)) k = true
  · rw [if_pos e]
    exact Nat.le_succ _
  · rw [if_neg e, List.length_append]
    exact Nat.le_refl _
theorem atKey_mem {xs : List (List Key × Addr × Value)} {k : List Key} : (atKey xs k).isSome = true ↔ k ∈ xs.map (·.1) := by
  unfold atKey
  rw [Option.isSome_map, List.find?_isSome]
  constructor
  · rintro ⟨x, h1, h2⟩
    rw [← of_decide_eq_true h2]
    exact List.mem_map_of_mem h1
  · intro h
    obtain ⟨x, h1, h2⟩ := List.mem_map.mp h
    exact ⟨x, h1, decide_eq_true h2⟩
theorem stored_addX (xs : List (List Key × Addr × Value)) (k : List Key) (b : Addr) (v : Value) : (storedH xs k b v).map (fun x => (x.2.1, x.1)) = addX (xs.map fun x => (x.2.1, x.1)) b k := by
  have e : (xs.map fun x => (x.2.1, x.1)).map (·.2) = xs.map (·.1) := by rw [List.map_map] <;> rfl
  unfold storedH addX
  rw [e]
  by_cases h : k ∈ xs.map (·.1)
  · rw [if_pos (atKey_mem.mpr h), if_pos (hasK_iff.mpr h), List.map_map]
    refine List.map_congr_left fun x _ => ?_
    show ((putAt k v x).2.1, (putAt k v x).1) = _
    unfold putAt
    by_cases z : x.1 = k
    · rw [if_pos z]
    · rw [if_neg z]
  · rw [if_neg (fun z => h (atKey_mem.mp z)), if_neg (fun z => h (hasK_iff.mp z)), List.map_append] <;> rfl
/-- where such a dict stands -/
def XdAt (P : Program) (w : World) (H : Hp) (a : Addr) (ks : List (Addr × List Key)) : Prop := H a = some (dXO P w a ks) ∨ (H a = some (.dT []) ∧ ks = [])
section
variable {X : Cx} {pins : List (Addr × Obj)} {σ : L2.St} {H : Hp} {s : Shared}
theorem key_sqt (I : Inv X pins σ H s) {b : Addr} {k : List Key} (h : SqT X.K H b (k.map kV)) : (tupleKind (mixKind X.prog X.w)).is s.heap k b := by
  obtain ⟨its, r, p, _⟩ := I.tuple h
  obtain ⟨o, h1, h2, n, h3⟩ := p
  exact ⟨o, its.toArray, n, h1, h2, h3, by simpa using items_are r⟩
theorem xd_get (I : Inv X pins σ H s) {a : Addr} {ks : List (Addr × List Key)} (h : XdAt X.prog X.w H a ks) : XdH X.prog X.w s.heap a ks := by
  rcases h with h | ⟨h, rfl⟩
  · exact (show ObjOk X.prog X.w H s.heap a (dXO X.prog X.w a ks) from I.hok a _ h).1
  · obtain ⟨_, z, xs, pr, r⟩ := (show ObjOk X.prog X.w H s.heap a (.dT []) from I.hok a _ h)
    cases pr
    exact ⟨z, [], rfl, r⟩
end
section
variable {X : Cx} {o i value : Expr} {pos pos' : Pos} {td ty tv : TE}
/-- d[row] = value -/
def sXPut (K : PySem.W.Frag) (P : Program) (w : World) (td ty tv : TE) : TS := fun D σ H => tv σ H fun v H1 => td σ H1 fun x H2 => ty σ H2 fun y H3 => ∃ a b k ks, x = .ref a ∧ y = .ref b ∧ XdAt P w H3 a ks ∧ (∀ q ∈ ks, SqT K H3 q.1 (q.2.map kV)) ∧ SqT K H3 b (k.map kV) ∧
  ks.length < sizeLine ∧ D.nx σ (upd H3 a (dXO P w a (addX ks b k)))
theorem ps_xput (hu : X.A.units + 1 < cLine) (ho : PE X o td) (hi : PE X i ty) (hv : PE X value tv) (hs : swapsWith value (some (.Subscript o i pos')) pos.line X.env = pure false) :
    PS X (.Assign [.Subscript o i pos'] value pos) (sXPut X.K X.prog X.w td ty tv) := by
  refine ⟨fun pins s σ H D I h => ?_⟩
  refine wpAny_Assign_Subscript (thn (hv.run pins s σ H _ I h) fun r s1 ⟨v, H1, I1, rv, q1⟩ => thn (ho.run pins s1 σ H1 _ I1 q1) fun u s2 ⟨x, H2, I2, rx, q2⟩ => thn (hi.run pins s2 σ H2 _ I2 q2) fun iv s3 ⟨y, H3, I3, ry, a, b, k, ks, ex, ey, g, gk, gb, gl, q3⟩ => ?_) hs
  subst ex ey
  obtain rfl : u = Value.ref a := rx
  obtain rfl : iv = Value.ref b := ry
  obtain ⟨z, xs, e1, o', es, ep, h1, h2, h3, h4, h5⟩ := xd_get I3 g
  have l1 : xs.length = ks.length := by rw [← e1, List.length_map]
  have all : ∀ x ∈ xs, (tupleKind (mixKind X.prog X.w)).is s3.heap x.1 x.2.1 := fun x hx => key_sqt I3 (gk (x.2.1, x.1) (by rw [← e1]; exact List.mem_map.mpr ⟨x, hx, rfl⟩))
  refine wpAny_setItem_heap (hsz := by omega) (tupleKind_room_in1 hu) (key_sqt I3 gb) ⟨o', es, ep, h1, h2, h3, h4, all, h5⟩ fun h' dd' hs => ?_
  obtain ⟨q, es', ep', hq, g2, g3, g4, _, g5⟩ := dd'
  have mu : Mut (H3 a) := by
    rcases g with g | ⟨g, _⟩ <;> rw [g] <;> exact True.intro
  refine ⟨σ, _, d_write I3 mu hs ⟨q, hq⟩ (dXO_ok ⟨z, _, ?_, q, es', ep', hq, g2, g3, g4, g5⟩), q3⟩
  rw [stored_addX, e1]
/-- sorted(d) of such a dict -/
def rSortX (K : PySem.W.Frag) (P : Program) (w : World) : List V → Hp → VK → Prop := fun vs H Q => ∃ (a : Addr) (ks : List (Addr × List Key)), vs = [.ref a] ∧ XdAt P w H a ks ∧ (∀ q ∈ ks, SqT K H q.1 (q.2.map kV)) ∧ (∀ q ∈ ks, Hd q.2) ∧ (∀ q ∈ ks, ∀ q' ∈ ks, Cmpb q.2 q'.2) ∧ ks.length ≤ sizeLine ∧
  ∀ (L : List (Addr × List Key)) (p : Addr), (L.map (·.2)).Perm (ks.map (·.2)) → (∀ q ∈ L, q ∈ ks) → H p = none → Q (.ref p) (upd H p (.lst (L.map fun q => V.ref q.1)))
theorem cr_sortX (hc : X.calm = true) : CallR X (.builtin "sorted") (rSortX X.K X.prog X.w) := by
  intro pins s σ H xs us Q I r h
  obtain ⟨a, ks, rfl, g, gk, h1, h2, hl, q⟩ := h
  obtain ⟨u, rfl, rx⟩ := vals1 r
  cases rx
  obtain ⟨lo, xs, e1, o, es, ep, ho, hx, hdt, he, hn⟩ := xd_get I g
  have l1 : xs.length = ks.length := by rw [← e1, List.length_map]
  have hsz : es.size = xs.length := by rw [← Array.length_toList, he, List.length_map]
  have ek : es.toList.map (·.key) = ks.map fun q => Value.ref q.1 := by
    rw [he, ← e1, List.map_map, List.map_map] <;> rfl
  refine sort_end (L0 := ks) I (fun q hq => ⟨q.1, rfl, key_sqt I (gk q hq)⟩) h1 h2 hl
    (fun R hR => dict_col (A := X.A.in1) lo ho hx hdt (show X.A.in1.handled = none from I.ok.hd hc) (by omega) R fun h' tk k => by rw [ek]; exact hR h' tk k) fun L p p1 p2 p3 p4 => q L p p1 p3 p4
/-- x in a tuple of data -/
def rInTD (K : PySem.W.Frag) : R2 := fun x y H Q => ∃ d ds, Dp K H x d ∧ Dp K H y (.tuple ds) ∧ SeqAt.shaped d = true ∧ SeqAt.shaped (.tuple ds) = true ∧ Q (.bl (ds.any fun z => PyData.eqv z d)) H
theorem room_tup {A : Around} {d : PyData} {ds : List PyData} (h : SeqAt.shaped d = true) (hu : A.units + 65 < cLine) : A.units + 1 + min (PyData.depthAll ds) d.depth < cLine := by
  have := SeqAt.depth_of_shaped h
  have := Nat.min_le_right (PyData.depthAll ds) d.depth
  omega
theorem op_inTD {K : PySem.W.Frag} (hK : X.K = K) (hu : X.A.units + 65 < cLine) : OpR X (compareOp .In) (rInTD K) := by
  subst hK
  intro pins s σ H x y v u Q I rx ry h
  obtain ⟨d, ds, hd, he, sd, se, q⟩ := h
  obtain ⟨as, r1⟩ := Dp.reads I d x v hd rx
  obtain ⟨bs, r2⟩ := Dp.reads I (.tuple ds) y u he ry
  exact SeqAt.in_tuple_reads r2 r1 (SeqAt.canLay_of_shaped se) (SeqAt.canLay_of_shaped sd) (room_tup sd hu) ⟨.bl _, H, I, rfl, q⟩
end
end Ta
namespace Ta
open PySem PySem.Spec PyProof.Rows L2 DX
/-! ### wholes -/
def mid1 (x : Str) (y : Key) (r : List Key) : List Key := if x = "def" ∨ x = "looks" then [.inr "module", y] else if x = "cell" then [.inr "table", y] else .inr x :: y :: r
def mid : List Key → List Key
  | .inr x :: y :: r => mid1 x y r
  | k => k
def wid1 (x : Str) : List Key := if x = "def" ∨ x = "looks" then [.inr "modules"] else if x = "cell" then [.inr "tables"] else if x = "file" then [.inr "files"] else [.inr "clock"]
def wid : List Key → List Key
  | .inr x :: _ => wid1 x
  | k => k
def wh (lev : Nat) (k : List Key) : List Key := if lev = 0 then k else if lev = 1 then mid k else wid k
theorem mid_clock : mid [.inr "clock"] = [.inr "clock"] := rfl
theorem mid_looks (m : Key) : mid [.inr "looks", m] = [.inr "module", m] := by
  show mid1 "looks" m [] = _
  unfold mid1
  rw [if_pos (Or.inr rfl)]
theorem mid_file (m : Key) : mid [.inr "file", m] = [.inr "file", m] := by
  show mid1 "file" m [] = _
  unfold mid1
  rw [if_neg (by decide +kernel), if_neg (by decide +kernel)]
theorem mid_df (m f : Key) : mid [.inr "def", m, f] = [.inr "module", m] := by
  show mid1 "def" m [f] = _
  unfold mid1
  rw [if_pos (Or.inl rfl)]
theorem mid_cell (t k : Key) : mid [.inr "cell", t, k] = [.inr "table", t] := by
  show mid1 "cell" t [k] = _
  unfold mid1
  rw [if_neg (by decide +kernel), if_pos rfl]
theorem wid_clock : wid [.inr "clock"] = [.inr "clock"] := by
  show wid1 "clock" = _
  unfold wid1
  rw [if_neg (by decide +kernel), if_neg (by decide +kernel), if_neg (by decide +kernel)]
theorem wid_looks (m : Key) : wid [.inr "looks", m] = [.inr "modules"] := by
  show wid1 "looks" = _
  unfold wid1
  rw [if_pos (Or.inr rfl)]
theorem wid_file (m : Key) : wid [.inr "file", m] = [.inr "files"] := by
  show wid1 "file" = _
  unfold wid1
  rw [if_neg (by decide +kernel), if_neg (by decide +kernel), if_pos rfl]
theorem wid_df (m f : Key) : wid [.inr "def", m, f] = [.inr "modules"] := by
  show wid1 "def" = _
  unfold wid1
  rw [if_pos (Or.inl rfl)]
theorem wid_cell (t k : Key) : wid [.inr "cell", t, k] = [.inr "tables"] := by
  show wid1 "cell" = _
  unfold wid1
  rw [if_neg (by decide +kernel), if_pos rfl]
theorem mid_strs {k : List Key} (h : PlaceOk k) : ∃ x r, mid k = (x :: r : List Str).map Sum.inr := by
  cases h with
  | clock => exact ⟨"clock", [], mid_clock⟩
  | @looks m _ => exact ⟨"module", [m], mid_looks _⟩
  | @file m _ => exact ⟨"file", [m], mid_file _⟩
  | @df m f _ _ => exact ⟨"module", [m], mid_df _ _⟩
  | @cell t k _ _ _ => exact ⟨"table", [t], mid_cell _ _⟩
theorem wid_strs {k : List Key} (h : PlaceOk k) : ∃ x r, wid k = (x :: r : List Str).map Sum.inr := by
  cases h with
  | clock => exact ⟨"clock", [], wid_clock⟩
  | @looks m _ => exact ⟨"modules", [], wid_looks _⟩
  | @file m _ => exact ⟨"files", [], wid_file _⟩
  | @df m f _ _ => exact ⟨"modules", [], wid_df _ _⟩
  | @cell t k _ _ _ => exact ⟨"tables", [], wid_cell _ _⟩
theorem wh_hd {lev : Nat} {k : List Key} (h : PlaceOk k) : Hd (wh lev k) := by
  unfold wh
  by_cases e0 : lev = 0
  · rw [if_pos e0]
    exact h.hd
  · rw [if_neg e0]
    by_cases e1 : lev = 1
    · rw [if_pos e1]
      obtain ⟨x, r, e⟩ := mid_strs h
      exact ⟨x, r.map .inr, e⟩
    · rw [if_neg e1]
      obtain ⟨x, r, e⟩ := wid_strs h
      exact ⟨x, r.map .inr, e⟩
theorem wh_cmp {lev : Nat} {k l : List Key} (h : PlaceOk k) (g : PlaceOk l) : Cmpb (wh lev k) (wh lev l) := by
  unfold wh
  by_cases e0 : lev = 0
  · rw [if_pos e0, if_pos e0]
    exact h.cmp g
  · rw [if_neg e0, if_neg e0]
    by_cases e1 : lev = 1
    · rw [if_pos e1, if_pos e1]
      obtain ⟨x, r, e⟩ := mid_strs h
      obtain ⟨y, t, e'⟩ := mid_strs g
      rw [e, e']
      exact cmpb_strs
    · rw [if_neg e1, if_neg e1]
      obtain ⟨x, r, e⟩ := wid_strs h
      obtain ⟨y, t, e'⟩ := wid_strs g
      rw [e, e']
      exact cmpb_strs
section
variable {P : Program} {w : World} {K : PySem.W.Frag} {mg : Str → Option Value} {base : Heap}
def spAskLevel : Sp := fun vs H Q _ => ∃ lev : Nat, vs = [nV lev] ∧ lev ≤ 2 ∧ Q .non H
theorem sc_ask_level : FnScope ["level"] ["level"] (defScope s_ask_level) := ⟨rfl, rfl, rfl, by decide +kernel, rfl, by decide +kernel, by decide +kernel⟩
theorem ok_ask_level (T : Tx w K mg) : Ok P w K mg base CX0 2 ("ask_level", none) ["level"] spAskLevel := by
  obtain ⟨_, G_is_whole, b_is_whole, kp_is_whole⟩ := ok_is_whole (P := P) (base := base) T
  refine mkOk T.d_ask_level sc_ask_level (fun vs H Q E h => ?_) (fun _ _ _ _ _ _ us hl => match us, hl with | [_], _ => rfl) (fun cdv A outer s H vs Q E hr h => ?_)
  · obtain ⟨lev, rfl, _⟩ := h
    rfl
  · obtain ⟨lev, rfl, l2, q⟩ := h
    refine ⟨_, (pss_one (ps_if (pt_not (pt_val (pe_call G_is_whole (hr.mono (by omega)) (by rfl) T.g_is_whole kp_is_whole b_is_whole .nil pass0 (pa_cons (pv 0) (pa_cons pe_int (pa_cons (pe_gi T.i_MOST_LEVEL) pa_nil)))))) pss_never pss_nil)), ?_⟩
    refine ⟨_, rfl, _, _, _, rfl, ?_⟩
    rw [decide_eq_true (show (0 : Int) ≤ (lev : Int) by omega), decide_eq_true (show (lev : Int) ≤ 2 by omega)]
    exact ⟨_, rfl, q⟩
def spMiddle : Sp := fun vs H Q _ => ∃ (a : Addr) (k : List Key), vs = [.ref a] ∧ H a = some (.tup (k.map kV)) ∧ PlaceOk k ∧ ∀ H' b, Same H H' → H' b = some (.tup ((mid k).map kV)) → Q (.ref b) H'
theorem sc_middle_whole : FnScope ["place"] ["place"] (defScope s_middle_whole) := ⟨rfl, rfl, rfl, by decide +kernel, rfl, by decide +kernel, by decide +kernel⟩
theorem ok_middle_whole (T : Tx w K mg) : Ok P w K mg base CX0 1 ("middle_whole", none) ["place"] spMiddle := by
  refine mkOk T.d_middle_whole sc_middle_whole (fun vs H Q E h => ?_) (fun _ _ _ _ _ _ us hl => match us, hl with | [_], _ => rfl) (fun cdv A outer s H vs Q E hr h => ?_)
  · obtain ⟨a, k, rfl, _⟩ := h
    rfl
  · obtain ⟨a, k, rfl, e, pk, q⟩ := h
    have e1 := SqT.of (K := K) e
    refine ⟨_, (pss_cons (ps_if (PW.pt (pw_or (pt_cmpR op_eq (pe_ix ix_tup (pv 0) pe_int (fun _ _ => rfl)) pe_str (nomark _)) (pw_or1 (pt_cmpR op_eq (pe_ix ix_tup (pv 0) pe_int (fun _ _ => rfl)) pe_str (nomark _))))) (pss_one (ps_ret (pe_tup (pa_cons pe_str (pa_cons (pe_ix ix_tup (pv 0) pe_int (fun _ _ => rfl)) pa_nil))))) pss_nil)
      (pss_cons (ps_if (pt_cmpR op_eq (pe_ix ix_tup (pv 0) pe_int (fun _ _ => rfl)) pe_str (nomark _)) (pss_one (ps_ret (pe_tup (pa_cons pe_str (pa_cons (pe_ix ix_tup (pv 0) pe_int (fun _ _ => rfl)) pa_nil))))) pss_nil)
      (pss_one (ps_ret (pv 0))))), ?_⟩
    have one : ∀ (x : Str) (y : V) (p : Addr), H p = none → Same H (upd H p (.tup [.str x, y])) := fun x y p np => (Same.refl H).up np
    cases pk with
    | clock =>
      refine ⟨_, rfl, a, _, 0, _, rfl, rfl, e1, at_of (j := 0) rfl rfl, rfl, _, rfl, decF (by decide +kernel) ⟨_, rfl, a, _, 0, _, rfl, rfl, e1, at_of (j := 0) rfl rfl, rfl, _, rfl, decF (by decide +kernel) ?_⟩⟩
      refine ⟨_, rfl, a, _, 0, _, rfl, rfl, e1, at_of (j := 0) rfl rfl, rfl, _, rfl, decF (by decide +kernel) ?_⟩
      exact ⟨_, rfl, q _ a (Same.refl H) e⟩
    | @looks m hm =>
      refine ⟨_, rfl, a, _, 0, _, rfl, rfl, e1, at_of (j := 0) rfl rfl, rfl, _, rfl, decF (by decide +kernel) ⟨_, rfl, a, _, 0, _, rfl, rfl, e1, at_of (j := 0) rfl rfl, rfl, _, rfl, decT rfl ?_⟩⟩
      refine ⟨_, rfl, a, _, 1, _, rfl, rfl, e1, at_of (j := 1) rfl rfl, by show 2 ≤ sizeLine; decide, fun p np => q _ p (one _ _ p np) ?_⟩
      rw [mid_looks]
      exact upd_same
    | @file m hm =>
      refine ⟨_, rfl, a, _, 0, _, rfl, rfl, e1, at_of (j := 0) rfl rfl, rfl, _, rfl, decF (by decide +kernel) ⟨_, rfl, a, _, 0, _, rfl, rfl, e1, at_of (j := 0) rfl rfl, rfl, _, rfl, decF (by decide +kernel) ?_⟩⟩
      refine ⟨_, rfl, a, _, 0, _, rfl, rfl, e1, at_of (j := 0) rfl rfl, rfl, _, rfl, decF (by decide +kernel) ?_⟩
      refine ⟨_, rfl, q _ a (Same.refl H) ?_⟩
      rw [mid_file]
      exact e
    | @df m f hm hf =>
      refine ⟨_, rfl, a, _, 0, _, rfl, rfl, e1, at_of (j := 0) rfl rfl, rfl, _, rfl, decT rfl ?_⟩
      refine ⟨_, rfl, a, _, 1, _, rfl, rfl, e1, at_of (j := 1) rfl rfl, by show 2 ≤ sizeLine; decide, fun p np => q _ p (one _ _ p np) ?_⟩
      rw [mid_df]
      exact upd_same
    | @cell t n ht h0 h9 =>
      refine ⟨_, rfl, a, _, 0, _, rfl, rfl, e1, at_of (j := 0) rfl rfl, rfl, _, rfl, decF (by decide +kernel) ⟨_, rfl, a, _, 0, _, rfl, rfl, e1, at_of (j := 0) rfl rfl, rfl, _, rfl, decF (by decide +kernel) ?_⟩⟩
      refine ⟨_, rfl, a, _, 0, _, rfl, rfl, e1, at_of (j := 0) rfl rfl, rfl, _, rfl, decT rfl ?_⟩
      refine ⟨_, rfl, a, _, 1, _, rfl, rfl, e1, at_of (j := 1) rfl rfl, by show 2 ≤ sizeLine; decide, fun p np => q _ p (one _ _ p np) ?_⟩
      rw [mid_cell]
      exact upd_same
theorem wid_key (T : Tx w K mg) {k : List Key} (h : PlaceOk k) : ∃ (x : Str) (r : List Key) (b : Addr), k = .inr x :: r ∧ KDct K w (He.ga K "WIDEST") x (.ref b) ∧ ∀ H, SqT K H b ((wid k).map kV) := by
  cases h with
  | clock =>
    obtain ⟨h1, h2⟩ := T.widest (q := ("clock", ["clock"])) (by decide +kernel)
    exact ⟨_, _, _, rfl, h1, fun H => by rw [wid_clock]; exact h2 H⟩
  | @looks m hm =>
    obtain ⟨h1, h2⟩ := T.widest (q := ("looks", ["modules"])) (by decide +kernel)
    exact ⟨_, _, _, rfl, h1, fun H => by rw [wid_looks]; exact h2 H⟩
  | @file m hm =>
    obtain ⟨h1, h2⟩ := T.widest (q := ("file", ["files"])) (by decide +kernel)
    exact ⟨_, _, _, rfl, h1, fun H => by rw [wid_file]; exact h2 H⟩
  | @df m f hm hf =>
    obtain ⟨h1, h2⟩ := T.widest (q := ("def", ["modules"])) (by decide +kernel)
    exact ⟨_, _, _, rfl, h1, fun H => by rw [wid_df]; exact h2 H⟩
  | @cell t n ht h0 h9 =>
    obtain ⟨h1, h2⟩ := T.widest (q := ("cell", ["tables"])) (by decide +kernel)
    exact ⟨_, _, _, rfl, h1, fun H => by rw [wid_cell]; exact h2 H⟩
def spWhole (K : PySem.W.Frag) : Sp := fun vs H Q _ => ∃ (a : Addr) (k : List Key) (lev : Nat), vs = [.ref a, nV lev] ∧ H a = some (.tup (k.map kV)) ∧ PlaceOk k ∧ lev ≤ 2 ∧ ∀ H' b, Same H H' → SqT K H' b ((wh lev k).map kV) → Q (.ref b) H'
theorem sc_whole : FnScope ["place", "level"] ["place", "level"] (defScope s_whole) := ⟨rfl, rfl, rfl, by decide +kernel, rfl, by decide +kernel, by decide +kernel⟩
theorem ok_whole (T : Tx w K mg) : Ok P w K mg base CX0 4 ("whole", none) ["place", "level"] (spWhole K) := by
  obtain ⟨_, G_ask_level, b_ask_level, kp_ask_level⟩ := ok_ask_level (P := P) (base := base) T
  obtain ⟨_, G_as_tuples, b_as_tuples, kp_as_tuples⟩ := ok_as_tuples (P := P) (base := base) T 2
  obtain ⟨_, G_middle_whole, b_middle_whole, kp_middle_whole⟩ := ok_middle_whole (P := P) (base := base) T
  refine mkOk T.d_whole sc_whole (fun vs H Q E h => ?_) (fun _ _ _ _ _ _ us hl => match us, hl with | [_, _], _ => rfl) (fun cdv A outer s H vs Q E hr h => ?_)
  · obtain ⟨a, k, lev, rfl, _⟩ := h
    rfl
  · obtain ⟨a, k, lev, rfl, e, pk, l2, q⟩ := h
    have kl := pk.len
    refine ⟨_, (pss_cons (ps_expr (pe_call G_ask_level (hr.mono (by omega)) (by rfl) T.g_ask_level kp_ask_level b_ask_level .nil pass0 (pa_cons (pv 1) pa_nil)))
      (pss_cons (ps_if (pt_cmpR op_eq (pv 1) pe_int (nomark _)) (pss_one (ps_ret (pe_call G_as_tuples (hr.mono (by omega)) (by rfl) T.g_as_tuples kp_as_tuples b_as_tuples .nil pass0 (pa_cons (pv 0) pa_nil)))) pss_nil)
      (pss_cons (ps_if (pt_cmpR op_eq (pv 1) pe_int (nomark _)) (pss_one (ps_ret (pe_call G_middle_whole (hr.mono (by omega)) (by rfl) T.g_middle_whole kp_middle_whole b_middle_whole .nil pass0 (pa_cons (pe_call G_as_tuples (hr.mono (by omega)) (by rfl) T.g_as_tuples kp_as_tuples b_as_tuples .nil pass0 (pa_cons (pv 0) pa_nil)) pa_nil)))) pss_nil)
      (pss_one (ps_ret (pe_ix ix_kdict (pe_glob (v := .ref (He.ga K "WIDEST")) (by rfl) T.g_WIDEST rfl) (pe_ix ix_tup (pv 0) pe_int (fun _ _ => rfl)) (fun _ _ => rfl))))))), ?_⟩
    refine ⟨_, rfl, lev, rfl, l2, ?_⟩
    have dt : Dq H (.ref a) (plD k) ∧ (plD k).depth < 2 ∧ (plD k).big ≤ 1000 := ⟨plD_dq e, by rw [plD_depth]; decide, plD_big _ (by omega)⟩
    match lev, l2, q with
    | 0, _, q =>
      refine ⟨_, rfl, rfl, _, rfl, decT rfl ?_⟩
      refine ⟨_, rfl, .ref a, plD k, rfl, dt.1, dt.2.1, dt.2.2, fun H1 v1 s1 d1 => ?_⟩
      obtain ⟨b, rfl, eb⟩ := plD_v d1
      exact q H1 b s1 (SqT.of eb)
    | 1, _, q =>
      refine ⟨_, rfl, rfl, _, rfl, decF (by decide) ?_⟩
      refine ⟨_, rfl, rfl, _, rfl, decT rfl ?_⟩
      refine ⟨_, rfl, .ref a, plD k, rfl, dt.1, dt.2.1, dt.2.2, fun H1 v1 s1 d1 => ?_⟩
      obtain ⟨b, rfl, eb⟩ := plD_v d1
      exact ⟨b, k, rfl, eb, pk, fun H2 c s2 ec => q H2 c (s1.trans s2) (SqT.of ec)⟩
    | 2, _, q =>
      refine ⟨_, rfl, rfl, _, rfl, decF (by decide) ?_⟩
      refine ⟨_, rfl, rfl, _, rfl, decF (by decide) ?_⟩
      obtain ⟨x, r, b, rfl, kd, kt⟩ := wid_key T pk
      refine ⟨_, rfl, a, _, 0, _, rfl, rfl, SqT.of e, at_of (j := 0) rfl rfl, _, _, _, rfl, rfl, kd, ?_⟩
      exact q H b (Same.refl H) (kt H)
/-- rows of places in a list or a tuple -/
def PlcAt (H : Hp) (p : Addr) (as : List (Addr × List Key)) : Prop := (H p = some (.lst (as.map fun q => V.ref q.1)) ∨ H p = some (.tup (as.map fun q => V.ref q.1))) ∧ (∀ q ∈ as, H q.1 = some (.tup (q.2.map kV)) ∧ PlaceOk q.2) ∧ as.length ≤ 5000
theorem PlcAt.mono {H H' : Hp} {p : Addr} {as : List (Addr × List Key)} (h : PlcAt H p as) (s : Same H H') : PlcAt H' p as :=
  ⟨h.1.imp (s _ _) (s _ _), fun q hq => ⟨s _ _ (h.2.1 q hq).1, (h.2.1 q hq).2⟩, h.2.2⟩
def WhT (K : PySem.W.Frag) (H : Hp) (R : Addr) (L : List (Addr × List Key)) (lev : Nat) (ks : List (List Key)) : Prop := H R = some (.tup (L.map fun q => V.ref q.1)) ∧ (∀ q ∈ L, SqT K H q.1 (q.2.map kV)) ∧ (∀ z, z ∈ L.map (·.2) ↔ ∃ k ∈ ks, z = wh lev k) ∧ L.length ≤ 5000
def spWholesOf (K : PySem.W.Frag) : Sp := fun vs H Q _ => ∃ (p : Addr) (as : List (Addr × List Key)) (lev : Nat), vs = [.ref p, nV lev] ∧ PlcAt H p as ∧ lev ≤ 2 ∧ ∀ H' R L, Same H H' → WhT K H' R L lev (as.map (·.2)) → Q (.ref R) H'
theorem sqt_same {H H' : Hp} {a : Addr} {xs : List V} (h : SqT K H a xs) (s : Same H H') : SqT K H' a xs := h.elim (fun h => .inl (h.elim (fun h => .inl (s _ _ h)) fun ⟨o, h⟩ => .inr ⟨o, s _ _ h⟩)) fun h => .inr h
theorem sqt_tups {H : Hp} {a p : Addr} {xs : List V} {o : HO} (h : SqT K H a xs) (hp : ∀ ys, Rd H p (.tup ys) → False) : SqT K (upd H p o) a xs := by
  rcases h with h | h
  · refine .inl ?_
    have ne : a ≠ p := fun z => hp xs (z ▸ h)
    rcases h with h | ⟨u, h⟩
    · refine .inl ?_
      rw [upd_ne ne]
      exact h
    · refine .inr ⟨u, ?_⟩
      rw [upd_ne ne]
      exact h
  · exact .inr h
theorem sc_wholes_of : FnScope ["places", "level", "found", "place"] ["places", "level"] (defScope s_wholes_of) := ⟨rfl, rfl, rfl, by decide +kernel, rfl, by decide +kernel, by decide +kernel⟩
theorem ok_wholes_of (T : Tx w K mg) : Ok P w K mg base CX0 5 ("wholes_of", none) ["places", "level"] (spWholesOf K) := by
  obtain ⟨_, G_whole, b_whole, kp_whole⟩ := ok_whole (P := P) (base := base) T
  refine mkOk T.d_wholes_of sc_wholes_of (fun vs H Q E h => ?_) (fun _ _ _ _ _ _ us hl => match us, hl with | [_, _], _ => rfl) (fun cdv A outer s H vs Q E hr h => ?_)
  · obtain ⟨p, as, lev, rfl, _⟩ := h
    rfl
  · obtain ⟨p, as, lev, rfl, ⟨ep, pa, few⟩, l2, q⟩ := h
    have line := sizeLine_eq
    refine ⟨_, (pss_cons (ps_set (i := 2) sc_wholes_of.nd (by rfl) (Or.inl rfl) pe_dnewT)
      (pss_cons (ps_for PassesOwn.never rfl (pi_seq (pv 0)) (pg_name (i := 3) sc_wholes_of.nd (by rfl) (Or.inl rfl)) (pss_one (ps_xput (hu_of hr) (pv 2) (pe_call G_whole (hr.mono (by omega)) (by rfl) T.g_whole kp_whole b_whole .nil pass0 (pa_cons (pv 3) (pa_cons (pv 1) pa_nil))) pe_bl rfl)))
      (pss_one (ps_ret (pe_tupleOf (by rfl) T.n_tuple (pe_callB (cr_sortX rfl) (by rfl) T.n_sorted bt_sorted (pa_cons (pv 2) pa_nil))))))), ?_⟩
    intro D nD
    have s1 : Same H (upd H D (.dT [])) := (Same.refl H).up nD
    have noD : ∀ (H' : Hp) ks, XdAt P w H' D ks → ∀ ys, Rd H' D (.tup ys) → False := fun H' ks h ys hy => by
      rcases h with h | ⟨h, _⟩ <;> rcases hy with hy | ⟨u, hy⟩ <;> rw [h] at hy <;> cases hy
    let Iv : Nat → L2.St → Hp → Prop := fun i σ H' => ∃ (ks : List (Addr × List Key)) (v : Option V), σ = [some (.ref p), some (nV lev), some (.ref D), v] ∧ Same H H' ∧ XdAt P w H' D ks ∧ (∀ q ∈ ks, SqT K H' q.1 (q.2.map kV)) ∧ ks.length ≤ i ∧ (∀ q ∈ ks, ∃ k ∈ (as.take i).map (·.2), q.2 = wh lev k) ∧ ∀ k ∈ (as.take i).map (·.2), wh lev k ∈ ks.map (·.2)
    have start : Iv 0 [some (.ref p), some (nV lev), some (.ref D), none] (upd H D (.dT [])) := ⟨[], none, rfl, s1, .inr ⟨upd_same, rfl⟩, fun q hq => (nomatch hq), Nat.le_refl _, fun q hq => (nomatch hq), fun k hk => (nomatch hk)⟩
    rcases ep with e | e
    · refine ⟨_, rfl, p, _, rfl, .inl ⟨SqL.of (s1 _ _ e), for_it (walk_list (K := K) (a := p) (xs := as.map fun q => V.ref q.1)) Iv start (fun i σ H' _ ⟨_, _, _, g, _⟩ => SqL.of (g _ _ e)) ?_ ?_⟩⟩
      · rintro i v σ H1 H2 hi ⟨ks, v1, rfl, s2, xd, sq, kl, k1, k2⟩ ⟨rfl, ey⟩
        obtain ⟨x, hx, rfl⟩ := map_get ey
        obtain ⟨ex, px⟩ := pa x (List.mem_of_getElem? hx)
        have hk : (as.map (·.2))[i]? = some x.2 := by rw [List.getElem?_map, hx]; rfl
        refine ⟨_, rfl, _, rfl, _, rfl, x.1, x.2, lev, rfl, s2 _ _ ex, px, l2, fun H3 b s3 hb => ?_⟩
        have xd3 : XdAt P w H3 D ks := xd.imp (s3 _ _) fun z => ⟨s3 _ _ z.1, z.2⟩
        have hi2 := get_lt hx
        refine ⟨D, b, _, ks, rfl, rfl, xd3, fun z hz => sqt_same (sq z hz) s3, hb, by omega, ?_⟩
        have tk : (as.take (i + 1)).map (·.2) = (as.take i).map (·.2) ++ [x.2] := by
          rw [List.take_add_one, hx, List.map_append] <;> rfl
        refine ⟨_, _, rfl, (s2.trans s3).at0 nD, .inl upd_same, fun z hz => ?_, ?_, fun z hz => ?_, fun k hk => ?_⟩
        · rcases addX_mem hz with hz | rfl
          · exact sqt_tups (sqt_same (sq z hz) s3) (noD H3 ks xd3)
          · exact sqt_tups hb (noD H3 ks xd3)
        · have := addX_len ks b (wh lev x.2)
          omega
        · rw [tk]
          rcases addX_mem hz with hz | rfl
          · obtain ⟨k, h1, h2⟩ := k1 z hz
            exact ⟨k, List.mem_append_left _ h1, h2⟩
          · exact ⟨x.2, List.mem_append_right _ List.mem_cons_self, rfl⟩
        · rw [tk] at hk
          rcases List.mem_append.mp hk with hk | hk
          · exact addX_keys.mpr (.inl (k2 k hk))
          · exact addX_keys.mpr (.inr (by rw [List.mem_singleton.mp hk]))
      · rintro σ H1 ⟨ks, v1, rfl, s2, xd, sq, kl, k1, k2⟩
        rw [List.length_map] at kl k1 k2
        rw [take_all (xs := as) (Nat.le_refl _)] at k1 k2
        have plk : ∀ k ∈ as.map (·.2), PlaceOk k := fun k hk => by
          obtain ⟨x, h1, rfl⟩ := List.mem_map.mp hk
          exact (pa x h1).2
        refine ⟨_, rfl, D, ks, rfl, xd, sq, fun z hz => ?_, fun z hz z' hz' => ?_, by omega, fun L r pm Lm nr => ?_⟩
        · obtain ⟨k, h1, h2⟩ := k1 z hz
          rw [h2]
          exact wh_hd (plk k h1)
        · obtain ⟨k, h1, h2⟩ := k1 z hz
          obtain ⟨k', h1', h2'⟩ := k1 z' hz'
          rw [h2, h2']
          exact wh_cmp (plk k h1) (plk k' h1')
        · refine .inl ⟨r, _, rfl, SqL.of upd_same, fun R nR => q _ R L ((s2.up nr).up nR) ⟨upd_same, fun z hz => ?_, fun z => ?_, ?_⟩⟩
          · exact sqt_same (sqt_same (sq z (Lm z hz)) ((Same.refl _).up nr)) ((Same.refl _).up nR)
          · rw [pm.mem_iff]
            constructor
            · intro hz
              obtain ⟨y, h1, rfl⟩ := List.mem_map.mp hz
              exact k1 y h1
            · rintro ⟨k, h1, rfl⟩
              exact k2 k h1
          · have := pm.length_eq
            rw [List.length_map, List.length_map] at this
            omega
    · refine ⟨_, rfl, p, _, rfl, .inr ⟨SqT.of (s1 _ _ e), for_it (walk_tup (K := K) (a := p) (xs := as.map fun q => V.ref q.1)) Iv start (fun i σ H' _ ⟨_, _, _, g, _⟩ => SqT.of (g _ _ e)) ?_ ?_⟩⟩
      · rintro i v σ H1 H2 hi ⟨ks, v1, rfl, s2, xd, sq, kl, k1, k2⟩ ⟨rfl, ey⟩
        obtain ⟨x, hx, rfl⟩ := map_get ey
        obtain ⟨ex, px⟩ := pa x (List.mem_of_getElem? hx)
        have hk : (as.map (·.2))[i]? = some x.2 := by rw [List.getElem?_map, hx]; rfl
        refine ⟨_, rfl, _, rfl, _, rfl, x.1, x.2, lev, rfl, s2 _ _ ex, px, l2, fun H3 b s3 hb => ?_⟩
        have xd3 : XdAt P w H3 D ks := xd.imp (s3 _ _) fun z => ⟨s3 _ _ z.1, z.2⟩
        have hi2 := get_lt hx
        refine ⟨D, b, _, ks, rfl, rfl, xd3, fun z hz => sqt_same (sq z hz) s3, hb, by omega, ?_⟩
        have tk : (as.take (i + 1)).map (·.2) = (as.take i).map (·.2) ++ [x.2] := by
          rw [List.take_add_one, hx, List.map_append] <;> rfl
        refine ⟨_, _, rfl, (s2.trans s3).at0 nD, .inl upd_same, fun z hz => ?_, ?_, fun z hz => ?_, fun k hk => ?_⟩
        · rcases addX_mem hz with hz | rfl
          · exact sqt_tups (sqt_same (sq z hz) s3) (noD H3 ks xd3)
          · exact sqt_tups hb (noD H3 ks xd3)
        · have := addX_len ks b (wh lev x.2)
          omega
        · rw [tk]
          rcases addX_mem hz with hz | rfl
          · obtain ⟨k, h1, h2⟩ := k1 z hz
            exact ⟨k, List.mem_append_left _ h1, h2⟩
          · exact ⟨x.2, List.mem_append_right _ List.mem_cons_self, rfl⟩
        · rw [tk] at hk
          rcases List.mem_append.mp hk with hk | hk
          · exact addX_keys.mpr (.inl (k2 k hk))
          · exact addX_keys.mpr (.inr (by rw [List.mem_singleton.mp hk]))
      · rintro σ H1 ⟨ks, v1, rfl, s2, xd, sq, kl, k1, k2⟩
        rw [List.length_map] at kl k1 k2
        rw [take_all (xs := as) (Nat.le_refl _)] at k1 k2
        have plk : ∀ k ∈ as.map (·.2), PlaceOk k := fun k hk => by
          obtain ⟨x, h1, rfl⟩ := List.mem_map.mp hk
          exact (pa x h1).2
        refine ⟨_, rfl, D, ks, rfl, xd, sq, fun z hz => ?_, fun z hz z' hz' => ?_, by omega, fun L r pm Lm nr => ?_⟩
        · obtain ⟨k, h1, h2⟩ := k1 z hz
          rw [h2]
          exact wh_hd (plk k h1)
        · obtain ⟨k, h1, h2⟩ := k1 z hz
          obtain ⟨k', h1', h2'⟩ := k1 z' hz'
          rw [h2, h2']
          exact wh_cmp (plk k h1) (plk k' h1')
        · refine .inl ⟨r, _, rfl, SqL.of upd_same, fun R nR => q _ R L ((s2.up nr).up nR) ⟨upd_same, fun z hz => ?_, fun z => ?_, ?_⟩⟩
          · exact sqt_same (sqt_same (sq z (Lm z hz)) ((Same.refl _).up nr)) ((Same.refl _).up nR)
          · rw [pm.mem_iff]
            constructor
            · intro hz
              obtain ⟨y, h1, rfl⟩ := List.mem_map.mp hz
              exact k1 y h1
            · rintro ⟨k, h1, rfl⟩
              exact k2 k h1
          · have := pm.length_eq
            rw [List.length_map, List.length_map] at this
            omega
def spWholes (K : PySem.W.Frag) : Sp := fun vs H Q _ => ∃ (B : Addr) (bk : Bk) (lev : Nat), vs = [.ref B, nV lev] ∧ BookAt H B bk ∧ BookOk bk ∧ lev ≤ 2 ∧ ∀ H' R L, Same H H' → WhT K H' R L lev (bk.map (·.1)) → Q (.ref R) H'
theorem sc_wholes : FnScope ["book", "level", "row"] ["book", "level"] (defScope s_wholes) := ⟨rfl, rfl, rfl, by decide +kernel, rfl, by decide +kernel, by decide +kernel⟩
theorem ok_wholes (T : Tx w K mg) : Ok P w K mg base CX0 6 ("wholes", none) ["book", "level"] (spWholes K) := by
  obtain ⟨_, G_ask_level, b_ask_level, kp_ask_level⟩ := ok_ask_level (P := P) (base := base) T
  obtain ⟨_, G_wholes_of, b_wholes_of, kp_wholes_of⟩ := ok_wholes_of (P := P) (base := base) T
  refine mkOk T.d_wholes sc_wholes (fun vs H Q E h => ?_) (fun _ _ _ _ _ _ us hl => match us, hl with | [_, _], _ => rfl) (fun cdv A outer s H vs Q E hr h => ?_)
  · obtain ⟨B, bk, lev, rfl, _⟩ := h
    rfl
  · obtain ⟨B, bk, lev, rfl, ⟨us, eB, hrs⟩, ok, l2, q⟩ := h
    have line := sizeLine_eq
    have len := hrs.length
    have few := ok.few
    refine ⟨_, (pss_cons (ps_expr (pe_call G_ask_level (hr.mono (by omega)) (by rfl) T.g_ask_level kp_ask_level b_ask_level .nil pass0 (pa_cons (pv 1) pa_nil)))
      (pss_one (ps_ret (pe_call G_wholes_of (hr.mono (by omega)) (by rfl) T.g_wholes_of kp_wholes_of b_wholes_of .nil pass0 (pa_cons (pe_lc (own := [("row", 2)]) (g := gName 2) (tt := tYes) rfl sc_wholes.nd (pi_tup (pv 0)) (blkOk_by (own := [("row", 2)]) (N := ["book", "level", "row"]) (sc := defScope s_wholes) (by decide +kernel)) (fun _ _ _ _ _ => (pg_name (i := 2) sc_wholes.nd (by rfl) (Or.inl rfl))) (fun _ _ _ _ _ => pts_nil) (fun _ _ _ _ _ => (pe_ix (ixT (K := K) rfl) (pv 2) pe_int (fun _ _ => rfl)))) (pa_cons (pv 1) pa_nil)))))), ?_⟩
    refine ⟨_, rfl, lev, rfl, l2, ?_⟩
    refine ⟨_, rfl, B, rfl, ⟨_, SqT.of eB⟩, fun D nD => lc_it (walk_tup (K := K) (a := B) (xs := us)) (GP H D fun i acc H' => ∃ as : List (Addr × List Key), acc = as.map (fun q => V.ref q.1) ∧ as.map (·.2) = (bk.take i).map (·.1) ∧ ∀ q ∈ as, H' q.1 = some (.tup (q.2.map kV))) (GP.start nD ⟨[], rfl, rfl, fun q hq => (nomatch hq)⟩) (fun i H' _ g => SqT.of (g.1 _ _ eB)) ?_ ?_⟩
    · rintro i v H1 H2 hi ⟨g1, acc, g2, as, rfl, g3, g4⟩ ⟨rfl, ey⟩
      have hi2 : i < bk.length := by omega
      obtain ⟨kc, hkc⟩ : ∃ kc, bk[i]? = some kc := ⟨_, List.getElem?_eq_getElem hi2⟩
      obtain ⟨T0, a, u, rfl, r1, r2, r3⟩ := (pair_get hrs ey hkc).mono (Tups.of g1)
      have al : as.length = i := by
        have := congrArg List.length g3
        rw [List.length_map, List.length_map, List.length_take] at this
        omega
      refine ⟨rfl, _, rfl, T0, _, 0, _, rfl, rfl, SqT.of r1, at_of (j := 0) rfl rfl, GP.push nD g1 g2 (Same.refl _) (by rw [List.length_map]; omega) ⟨as ++ [(a, kc.1)], by rw [List.map_append]; rfl, ?_, fun z hz => ?_⟩⟩
      · rw [List.take_add_one, hkc, List.map_append, List.map_append, g3] <;> rfl
      · have tp : Tups H2 (upd H2 D (.lst (as.map (fun q => V.ref q.1) ++ [.ref a]))) := Tups.upd fun xs y => by
          rw [g2] at y
          cases y
        rcases List.mem_append.mp hz with hz | hz
        · exact tp _ _ (g4 z hz)
        · rw [List.mem_singleton.mp hz]
          exact tp _ _ r2
    · rintro H1 ⟨g1, acc, g2, as, rfl, g3, g4⟩
      rw [take_all (xs := bk) (by omega)] at g3
      have al : as.length = bk.length := by
        have := congrArg List.length g3
        rwa [List.length_map, List.length_map] at this
      refine ⟨_, rfl, D, as, lev, rfl, ⟨.inl g2, fun z hz => ⟨g4 z hz, ?_⟩, by omega⟩, l2, fun H2 R L s2 hw => ?_⟩
      · have : z.2 ∈ bk.map (·.1) := by
          rw [← g3]
          exact List.mem_map_of_mem hz
        obtain ⟨kc, h1, h2⟩ := List.mem_map.mp this
        rw [← h2]
        exact ok.pl kc h1
      · rw [g3] at hw
        exact q H2 R L (g1.trans s2) hw
end
end Ta
namespace Ta
open PySem PySem.Spec PyProof.Rows L2 DX
theorem hu65_of {A : Around} {k : Nat} (hr : Room k A) : A.units + 65 < cLine := by
  have := hr.un
  omega
/-! ### wholes as data -/
theorem key_lay {k : List Key} (h : ∀ x, Sum.inr x ∈ k → (PyData.str x).canLay0 = true) : (plD k).canLay0 = true := by
  refine lay_tup fun d hd => ?_
  obtain ⟨y, hy, rfl⟩ := List.mem_map.mp hd
  cases y with
  | inl i => exact lay_int i
  | inr x => exact h x hy
theorem place_lay {k : List Key} (h : PlaceOk k) : ∀ x, Sum.inr x ∈ k → NameOk x := by
  intro x hx
  cases h with
  | clock =>
    rcases List.mem_cons.mp hx with e | hx
    · cases e
      exact nm_clock
    · cases hx
  | looks hm =>
    rcases List.mem_cons.mp hx with e | hx
    · cases e
      exact nm_looks
    · rcases List.mem_cons.mp hx with e | hx
      · cases e
        exact hm
      · cases hx
  | file hm =>
    rcases List.mem_cons.mp hx with e | hx
    · cases e
      exact nm_file
    · rcases List.mem_cons.mp hx with e | hx
      · cases e
        exact hm
      · cases hx
  | df hm hf =>
    rcases List.mem_cons.mp hx with e | hx
    · cases e
      exact nm_def
    · rcases List.mem_cons.mp hx with e | hx
      · cases e
        exact hm
      · rcases List.mem_cons.mp hx with e | hx
        · cases e
          exact hf
        · cases hx
  | cell ht _ _ =>
    rcases List.mem_cons.mp hx with e | hx
    · cases e
      exact nm_cell
    · rcases List.mem_cons.mp hx with e | hx
      · cases e
        exact ht
      · rcases List.mem_cons.mp hx with e | hx
        · cases e
        · cases hx
theorem nm_lit {x : Str} (h : nameB x = true) : (PyData.str x).canLay0 = true := lay_name (nameB_ok h)
theorem one_lay {x : Str} (h : nameB x = true) : (plD [.inr x]).canLay0 = true := key_lay fun y hy => by
  rcases List.mem_cons.mp hy with e | hy
  · cases e
    exact nm_lit h
  · cases hy
theorem two_lay {x y : Str} (h : nameB x = true) (g : NameOk y) : (plD [.inr x, .inr y]).canLay0 = true := key_lay fun z hz => by
  rcases List.mem_cons.mp hz with e | hz
  · cases e
    exact nm_lit h
  · rcases List.mem_cons.mp hz with e | hz
    · cases e
      exact lay_name g
    · cases hz
theorem wh_lay {lev : Nat} {k : List Key} (h : PlaceOk k) : (plD (wh lev k)).canLay0 = true := by
  unfold wh
  by_cases e0 : lev = 0
  · rw [if_pos e0]
    exact key_lay fun x hx => lay_name (place_lay h x hx)
  · rw [if_neg e0]
    by_cases e1 : lev = 1
    · rw [if_pos e1]
      cases h with
      | clock => rw [mid_clock]; exact one_lay (by decide +kernel)
      | looks hm => rw [mid_looks]; exact two_lay (by decide +kernel) hm
      | file hm => rw [mid_file]; exact two_lay (by decide +kernel) hm
      | df hm hf => rw [mid_df]; exact two_lay (by decide +kernel) hm
      | cell ht _ _ => rw [mid_cell]; exact two_lay (by decide +kernel) ht
    · rw [if_neg e1]
      cases h with
      | clock => rw [wid_clock]; exact one_lay (by decide +kernel)
      | looks hm => rw [wid_looks]; exact one_lay (by decide +kernel)
      | file hm => rw [wid_file]; exact one_lay (by decide +kernel)
      | df hm hf => rw [wid_df]; exact one_lay (by decide +kernel)
      | cell ht _ _ => rw [wid_cell]; exact one_lay (by decide +kernel)
theorem key_shaped {k : List Key} (h : (plD k).canLay0 = true) : SeqAt.shaped (plD k) = true := by
  unfold SeqAt.shaped
  rw [h, plD_depth] <;> rfl
theorem keys_shaped {ds : List (List Key)} (h : ∀ k ∈ ds, (plD k).canLay0 = true) : SeqAt.shaped (.tuple (ds.map fun k => plD k)) = true := by
  unfold SeqAt.shaped
  have e1 : (PyData.tuple (ds.map fun k => plD k)).canLay0 = true := lay_tup fun d hd => by
    obtain ⟨k, hk, rfl⟩ := List.mem_map.mp hd
    exact h k hk
  have e2 : (PyData.tuple (ds.map fun k => plD k)).depth ≤ 64 := by
    have := depthAll_le (n := 1) (ds := ds.map fun k => plD k) fun d hd => by
      obtain ⟨k, hk, rfl⟩ := List.mem_map.mp hd
      rw [plD_depth]
      exact Nat.le_refl _
    simp only [PyData.depth]
    omega
  rw [e1, decide_eq_true e2] <;> rfl
theorem kDs_dp {K : PySem.W.Frag} (H : Hp) : ∀ k : List Key, DpAll K H (k.map kV) (k.map kD)
  | [] => .nil
  | a :: r => .cons (kD_dq H a).dp (kDs_dp H r)
theorem sqt_dp {K : PySem.W.Frag} {H : Hp} {a : Addr} {k : List Key} (h : SqT K H a (k.map kV)) : Dp K H (.ref a) (plD k) := .tup h (kDs_dp H k)
theorem rows_dp {K : PySem.W.Frag} {H : Hp} : ∀ {L : List Row}, (∀ q ∈ L, SqT K H q.1 (q.2.map kV)) → DpAll K H (L.map fun q => V.ref q.1) ((L.map (·.2)).map fun k => plD k)
  | [], _ => .nil
  | q :: L, h => .cons (sqt_dp (h q List.mem_cons_self)) (rows_dp fun x hx => h x (List.mem_cons_of_mem _ hx))
theorem any_in {ks : List (List Key)} {k : List Key} (h : k ∈ ks) (l : (plD k).canLay0 = true) : (ks.map fun k => plD k).any (fun z => PyData.eqv z (plD k)) = true := by
  rw [List.any_eq_true]
  exact ⟨plD k, List.mem_map_of_mem h, SeqAt.eqv_refl _ l⟩
section
variable {P : Program} {w : World} {K : PySem.W.Frag} {mg : Str → Option Value} {base : Heap}
def spDiffering (K : PySem.W.Frag) : Sp := fun vs H Q _ => ∃ (p p2 : Addr) (ct ct2 : Ct), vs = [.ref p, .ref p2] ∧ WorldAt K H p ct ∧ WorldAt K H p2 ct2 ∧ CtOk ct ∧ CtOk ct2 ∧
  ∀ H' R as, Same H H' → PlcAt H' R as → (∀ k, (k ∈ ct.map (·.1) ∨ k ∈ ct2.map (·.1)) → PyData.eqv (ctAt ct k) (ctAt ct2 k) = false → k ∈ as.map (·.2)) → Q (.ref R) H'
theorem sc_differing : FnScope ["world", "other", "places", "place", "content"] ["world", "other"] (defScope s_differing) := ⟨rfl, rfl, rfl, by decide +kernel, rfl, by decide +kernel, by decide +kernel⟩
/-- the places of a world's rows, gathered -/
theorem gather {K : PySem.W.Frag} {H : Hp} {R : Addr} {us : List V} {rs : Ct} (hrs : RowsAt H us rs) {i : Nat} {v : V} {H1 H2 : Hp} {D : Addr} (hi : i < us.length) (nD : H D = none)
    (g : GP H D (fun i acc H' => ∃ as : List Row, acc = as.map (fun q => V.ref q.1) ∧ as.map (·.2) = (rs.take i).map (·.1) ∧ ∀ q ∈ as, H' q.1 = some (.tup (q.2.map kV))) i H1) (y : YAt us i H1 v H2) (few : rs.length ≤ 1000) :
    ∃ T a u, v = .ref T ∧ H2 = H1 ∧ H1 T = some (.tup [.ref a, u]) ∧ ∃ acc, H1 D = some (.lst acc) ∧ acc.length < sizeLine ∧
      GP H D (fun i acc H' => ∃ as : List Row, acc = as.map (fun q => V.ref q.1) ∧ as.map (·.2) = (rs.take i).map (·.1) ∧ ∀ q ∈ as, H' q.1 = some (.tup (q.2.map kV))) (i + 1) (upd H1 D (.lst (acc ++ [.ref a]))) := by
  obtain ⟨rfl, ey⟩ := y
  have line := sizeLine_eq
  obtain ⟨g1, acc, g2, as, rfl, g3, g4⟩ := g
  have len := hrs.length
  have hi2 : i < rs.length := by omega
  obtain ⟨kd, hkd⟩ : ∃ kd, rs[i]? = some kd := ⟨_, List.getElem?_eq_getElem hi2⟩
  obtain ⟨T, a, u, rfl, r1, r2, r3⟩ := (pair_get hrs ey hkd).mono (Tups.of g1)
  have al : as.length = i := by
    have := congrArg List.length g3
    rw [List.length_map, List.length_map, List.length_take] at this
    omega
  refine ⟨T, a, u, rfl, rfl, r1, GP.push nD g1 g2 (Same.refl _) (by rw [List.length_map]; omega) ⟨as ++ [(a, kd.1)], by rw [List.map_append]; rfl, ?_, fun z hz => ?_⟩⟩
  · rw [List.take_add_one, hkd, List.map_append, List.map_append, g3] <;> rfl
  · have tp : Tups H2 (upd H2 D (.lst (as.map (fun q => V.ref q.1) ++ [.ref a]))) := Tups.upd fun xs y => by
      rw [g2] at y
      cases y
    rcases List.mem_append.mp hz with hz | hz
    · exact tp _ _ (g4 z hz)
    · rw [List.mem_singleton.mp hz]
      exact tp _ _ r2
theorem ok_differing (T : Tx w K mg) : Ok P w K mg base CX0 10 ("differing", none) ["world", "other"] (spDiffering K) := by
  obtain ⟨_, G_World_content, b_World_content, kp_World_content⟩ := ok_World_content (P := P) (base := base) T
  refine mkOk T.d_differing sc_differing (fun vs H Q E h => ?_) (fun _ _ _ _ _ _ us hl => match us, hl with | [_, _], _ => rfl) (fun cdv A outer s H vs Q E hr h => ?_)
  · obtain ⟨p, p2, ct, ct2, rfl, _⟩ := h
    rfl
  · obtain ⟨p, p2, ct, ct2, rfl, hw, hw2, ok, ok2, q⟩ := h
    have line := sizeLine_eq
    have f1 := ok.few
    have f2 := ok2.few
    obtain ⟨dx, D1, R1, kvs, rs, w1, w2, w3, ⟨us, w4, w5⟩, w6, w7⟩ := id hw
    obtain ⟨dx', D2, R2, kvs', rs2, w1', w2', w3', ⟨us2, w4', w5'⟩, w6', w7'⟩ := id hw2
    refine ⟨_, (pss_cons (ps_set (i := 2) sc_differing.nd (by rfl) (Or.inl rfl) (pe_op op_cat (pe_lc (own := [("place", 3), ("content", 4)]) (g := gTup K 2 (gCons (gName 3) (gCons (gName 4) gNil))) (tt := tYes) rfl sc_differing.nd (pi_tup (pe_fld (pv 0) rfl)) (blkOk_by (own := [("place", 3), ("content", 4)]) (N := ["world", "other", "places", "place", "content"]) (sc := defScope s_differing) (by decide +kernel)) (fun _ _ _ _ _ => (pg_tup rfl (pgs_cons (pg_name (i := 3) sc_differing.nd (by rfl) (Or.inl rfl)) (pgs_cons (pg_name (i := 4) sc_differing.nd (by rfl) (Or.inl rfl)) pgs_nil)))) (fun _ _ _ _ _ => pts_nil) (fun _ _ _ _ _ => (pv 3))) (pe_lc (own := [("place", 3), ("content", 4)]) (g := gTup K 2 (gCons (gName 3) (gCons (gName 4) gNil))) (tt := tYes) rfl sc_differing.nd (pi_tup (pe_fld (pv 1) rfl)) (blkOk_by (own := [("place", 3), ("content", 4)]) (N := ["world", "other", "places", "place", "content"]) (sc := defScope s_differing) (by decide +kernel)) (fun _ _ _ _ _ => (pg_tup rfl (pgs_cons (pg_name (i := 3) sc_differing.nd (by rfl) (Or.inl rfl)) (pgs_cons (pg_name (i := 4) sc_differing.nd (by rfl) (Or.inl rfl)) pgs_nil)))) (fun _ _ _ _ _ => pts_nil) (fun _ _ _ _ _ => (pv 3)))))
      (pss_one (ps_ret (pe_tupleOf (by rfl) T.n_tuple (pe_lc (own := [("place", 3)]) (g := gName 3) rfl sc_differing.nd (pi_list (pe_sortSet rfl hr.units (by rfl) T.n_sorted (by rfl) T.n_set (pv 2) bt_sorted)) (blkOk_by (own := [("place", 3)]) (N := ["world", "other", "places", "place", "content"]) (sc := defScope s_differing) (by decide +kernel)) (fun _ _ _ _ _ => (pg_name (i := 3) sc_differing.nd (by rfl) (Or.inl rfl))) (fun _ _ _ _ _ => (pts_one (pt_cmpR (op_neDK (K := K) rfl hr.units) (pe_meth (pv 0) T.cls_World T.m_World_content G_World_content (hr.mono (by omega)) b_World_content .nil pass0 (pa_cons (pv 3) pa_nil)) (pe_meth (pv 1) T.cls_World T.m_World_content G_World_content (hr.mono (by omega)) b_World_content .nil pass0 (pa_cons (pv 3) pa_nil)) (nomark _)))) (fun _ _ _ _ _ => (pv 3))))))), ?_⟩
    refine ⟨_, rfl, p, _, dx, _, V.ref R1, rfl, w1, T.cls_World, T.a_World_rows, rfl, R1, rfl, ⟨_, SqT.of w4⟩, fun F nF => lc_it (walk_tup (K := K) (a := R1) (xs := us)) (GP H F fun i acc H' => ∃ as : List Row, acc = as.map (fun q => V.ref q.1) ∧ as.map (·.2) = (rs.take i).map (·.1) ∧ ∀ q ∈ as, H' q.1 = some (.tup (q.2.map kV)))
      (GP.start nF ⟨[], rfl, rfl, fun q hq => (nomatch hq)⟩) (fun i H' _ g => SqT.of (g.1 _ _ w4)) ?_ ?_⟩
    · intro i v H1 H2 hi g y
      obtain ⟨T0, a, u, rfl, rfl, r1, acc, e1, e2, e3⟩ := gather (K := K) (R := R1) w5 hi nF g y (by omega)
      exact ⟨T0, _, rfl, SqT.of r1, rfl, _, _, rfl, _, _, rfl, rfl, rfl, _, rfl, acc, e1, e2, e3⟩
    · rintro H1 ⟨g1, acc, g2, as, rfl, g3, g4⟩
      rw [take_all (xs := rs) (by rw [w5.length]; exact Nat.le_refl _)] at g3
      refine ⟨_, rfl, p2, _, dx', _, V.ref R2, rfl, g1 _ _ w1', T.cls_World, T.a_World_rows, rfl, R2, rfl, ⟨_, SqT.of (g1 _ _ w4')⟩, fun F2 nF2 => lc_it (walk_tup (K := K) (a := R2) (xs := us2)) (GP H1 F2 fun i acc H' => ∃ as : List Row, acc = as.map (fun q => V.ref q.1) ∧ as.map (·.2) = (rs2.take i).map (·.1) ∧ ∀ q ∈ as, H' q.1 = some (.tup (q.2.map kV)))
        (GP.start nF2 ⟨[], rfl, rfl, fun q hq => (nomatch hq)⟩) (fun i H' _ g => SqT.of (g.1 _ _ (g1 _ _ w4'))) ?_ ?_⟩
      · intro i v H2 H3 hi g y
        obtain ⟨T0, a, u, rfl, rfl, r1, acc, e1, e2, e3⟩ := gather (K := K) (R := R2) (RowsAt.mono w5' (Tups.of g1)) hi nF2 g y (by omega)
        exact ⟨T0, _, rfl, SqT.of r1, rfl, _, _, rfl, _, _, rfl, rfl, rfl, _, rfl, acc, e1, e2, e3⟩
      · rintro H2 ⟨g1', acc2, g2', as2, rfl, g3', g4'⟩
        rw [take_all (xs := rs2) (by rw [w5'.length]; exact Nat.le_refl _)] at g3'
        have l1 : as.length = ct.length := by
          have := congrArg List.length g3
          rw [List.length_map, List.length_map] at this
          omega
        have l2 : as2.length = ct2.length := by
          have := congrArg List.length g3'
          rw [List.length_map, List.length_map] at this
          omega
        refine ⟨F, F2, _, _, rfl, rfl, g1' _ _ g2, g2', by rw [List.length_map, List.length_map]; omega, fun G nG => ?_⟩
        have s2 := g1.trans g1'
        have mk : ∀ k, k ∈ (as ++ as2).map (·.2) ↔ k ∈ ct.map (·.1) ∨ k ∈ ct2.map (·.1) := fun k => by
          rw [List.map_append, List.mem_append, g3, g3', w6, w6']
        have eG : upd H2 G (.lst (as.map (fun q => V.ref q.1) ++ as2.map fun q => V.ref q.1)) G = some (.lst ((as ++ as2).map fun q => V.ref q.1)) := by
          rw [upd_same, List.map_append]
        have s3 : Same H (upd H2 G (.lst (as.map (fun q => V.ref q.1) ++ as2.map fun q => V.ref q.1))) := s2.up nG
        have at' : ∀ r ∈ as ++ as2, upd H2 G (.lst (as.map (fun q => V.ref q.1) ++ as2.map fun q => V.ref q.1)) r.1 = some (.tup (r.2.map kV)) ∧ PlaceOk r.2 := fun r hr => by
          refine ⟨?_, ?_⟩
          · rcases List.mem_append.mp hr with z | z
            · exact upd_of (g1' _ _ (g4 r z)) nG
            · exact upd_of (g4' r z) nG
          · rcases (mk r.2).mp (List.mem_map_of_mem hr) with z | z
            · obtain ⟨kd, h1, h2⟩ := List.mem_map.mp z
              rw [← h2]
              exact ok.pl kd h1
            · obtain ⟨kd, h1, h2⟩ := List.mem_map.mp z
              rw [← h2]
              exact ok2.pl kd h1
        generalize upd H2 G (.lst (as.map (fun q => V.ref q.1) ++ as2.map fun q => V.ref q.1)) = H3 at *
        refine ⟨_, rfl, G, as ++ as2, rfl, SqL.of eG, at', by rw [List.length_append]; omega, fun L z hL hk hl nz => ?_⟩
        have s4 : Same H (upd H3 z (.lst (L.map fun r => V.ref r.1))) := s3.up nz
        have ll : L.length ≤ 60 := by
          rw [List.length_append] at hl
          omega
        refine ⟨z, rfl, ⟨_, SqL.of upd_same⟩, fun F3 nF3 => lc_it (walk_list (K := K) (a := z) (xs := L.map fun r => V.ref r.1)) (GP (upd H3 z (.lst (L.map fun r => V.ref r.1))) F3 fun i acc _ => ∃ bs : List Row, acc = bs.map (fun q => V.ref q.1) ∧ bs.length ≤ i ∧ (∀ r ∈ bs, r ∈ L) ∧ ∀ r ∈ L.take i, PyData.eqv (ctAt ct r.2) (ctAt ct2 r.2) = false → r ∈ bs)
          (GP.start nF3 ⟨[], rfl, Nat.le_refl _, fun r hr => (nomatch hr), fun r hr => (nomatch hr)⟩) (fun i H' _ g => SqL.of (g.1 _ _ upd_same)) ?_ ?_⟩
        · rintro i v H4 H5 hi ⟨c1, acc, c2, bs, rfl, c3, c4, c5⟩ ⟨rfl, ey⟩
          obtain ⟨r, hr, rfl⟩ := map_get ey
          have rm := List.mem_of_getElem? hr
          obtain ⟨er, pr⟩ := at' r (hL r rm)
          have er5 := c1 _ _ (upd_of (u := .lst (L.map fun r => V.ref r.1)) er nz)
          have s5 := s4.trans c1
          obtain ⟨ax, aD, aR, akv, ars, a1, a2⟩ := hw.mono s5
          refine ⟨rfl, _, rfl, p, ax, _, rfl, a1, rfl, _, rfl, p, r.1, ct, r.2, rfl, ⟨ax, aD, aR, akv, ars, a1, a2⟩, er5, pr, fun H6 v6 s6 d6 => ?_⟩
          obtain ⟨bx, bD, bR, bkv, brs, b1, b2⟩ := hw2.mono (s5.trans s6)
          refine ⟨_, rfl, p2, bx, _, rfl, b1, rfl, _, rfl, p2, r.1, ct2, r.2, rfl, ⟨bx, bD, bR, bkv, brs, b1, b2⟩, s6 _ _ er5, pr, fun H7 v7 s7 d7 => ?_⟩
          refine ⟨_, _, (d6.mono (Tups.of s7)).dp, d7.dp, ctAt_shaped ok _, ctAt_shaped ok2 _, _, rfl, ?_⟩
          cases y : PyData.eqv (ctAt ct r.2) (ctAt ct2 r.2) with
          | true =>
            refine ifF rfl (GP.skip c1 c2 (s6.trans s7) ⟨bs, rfl, by omega, c4, fun x hx e => ?_⟩)
            rcases (mem_take_succ hr x).mp hx with hx | rfl
            · exact c5 x hx e
            · rw [y] at e
              cases e
          | false =>
            refine ifT rfl ⟨_, rfl, GP.push nF3 c1 c2 (s6.trans s7) (by rw [List.length_map]; have := get_lt hr; omega) ⟨bs ++ [r], by rw [List.map_append]; rfl, by rw [List.length_append]; exact Nat.add_le_add_right c3 1, fun x hx => ?_, fun x hx e => ?_⟩⟩
            · rcases List.mem_append.mp hx with hx | hx
              · exact c4 x hx
              · rw [List.mem_singleton.mp hx]
                exact rm
            · rcases (mem_take_succ hr x).mp hx with hx | rfl
              · exact List.mem_append_left _ (c5 x hx e)
              · exact List.mem_append_right _ List.mem_cons_self
        · rintro H4 ⟨c1, acc, c2, bs, rfl, c3, c4, c5⟩
          rw [List.length_map] at c3 c5
          rw [take_all (xs := L) (Nat.le_refl _)] at c5
          refine .inl ⟨F3, _, rfl, SqL.of c2, fun R nR => q _ R bs ((s4.trans c1).up nR) ⟨.inr upd_same, fun r hr => ?_, by omega⟩ fun k hk' e => ?_⟩
          · obtain ⟨er, pr⟩ := at' r (hL r (c4 r hr))
            exact ⟨upd_of (c1 _ _ (upd_of er nz)) nR, pr⟩
          · have h1 := (hk k).mpr ((mk k).mpr hk')
            obtain ⟨r, hr, rfl⟩ := List.mem_map.mp h1
            exact List.mem_map_of_mem (c5 r hr e)
def Meets' (ct ct2 : Ct) (bk : Bk) : Prop := ∃ kc ∈ bk, (kc.1 ∈ ct.map (·.1) ∨ kc.1 ∈ ct2.map (·.1)) ∧ PyData.eqv (ctAt ct kc.1) (ctAt ct2 kc.1) = false
def spChosen (K : PySem.W.Frag) : Sp := fun vs H Q _ => ∃ (p p2 L : Addr) (ct ct2 : Ct) (bks : List Bk) (lev : Nat), vs = [.ref p, .ref p2, .ref L, nV lev] ∧ WorldAt K H p ct ∧ WorldAt K H p2 ct2 ∧ CtOk ct ∧ CtOk ct2 ∧ BooksAt H L bks ∧ bks.length ≤ 40 ∧ (∀ bk ∈ bks, BookOk bk) ∧ lev ≤ 2 ∧
  ∀ H' R acc, Same H H' → H' R = some (.tup acc) → ((∃ bk ∈ bks, Meets' ct ct2 bk) → acc ≠ []) → Q (.ref R) H'
theorem sc_chosen : FnScope ["world", "other", "books", "level", "touched", "found", "at", "book", "one"] ["world", "other", "books", "level"] (defScope s_chosen) := ⟨rfl, rfl, rfl, by decide +kernel, rfl, by decide +kernel, by decide +kernel⟩
theorem ok_chosen (T : Tx w K mg) : Ok P w K mg base CX0 11 ("chosen", none) ["world", "other", "books", "level"] (spChosen K) := by
  obtain ⟨_, G_ask_level, b_ask_level, kp_ask_level⟩ := ok_ask_level (P := P) (base := base) T
  obtain ⟨_, G_differing, b_differing, kp_differing⟩ := ok_differing (P := P) (base := base) T
  obtain ⟨_, G_wholes_of, b_wholes_of, kp_wholes_of⟩ := ok_wholes_of (P := P) (base := base) T
  obtain ⟨_, G_wholes, b_wholes, kp_wholes⟩ := ok_wholes (P := P) (base := base) T
  refine mkOk T.d_chosen sc_chosen (fun vs H Q E h => ?_) (fun _ _ _ _ _ _ us hl => match us, hl with | [_, _, _, _], _ => rfl) (fun cdv A outer s H vs Q E hr h => ?_)
  · obtain ⟨p, p2, L, ct, ct2, bks, lev, rfl, _⟩ := h
    rfl
  · obtain ⟨p, p2, L, ct, ct2, bks, lev, rfl, hw, hw2, ok, ok2, hb, few, bok, l2, q⟩ := h
    have line := sizeLine_eq
    refine ⟨_, (pss_cons (ps_expr (pe_call G_ask_level (hr.mono (by omega)) (by rfl) T.g_ask_level kp_ask_level b_ask_level .nil pass0 (pa_cons (pv 3) pa_nil)))
      (pss_cons (ps_set (i := 4) sc_chosen.nd (by rfl) (Or.inr rfl) (pe_call G_wholes_of (hr.mono (by omega)) (by rfl) T.g_wholes_of kp_wholes_of b_wholes_of .nil pass0 (pa_cons (pe_call G_differing (hr.mono (by omega)) (by rfl) T.g_differing kp_differing b_differing .nil pass0 (pa_cons (pv 0) (pa_cons (pv 1) pa_nil))) (pa_cons (pv 3) pa_nil))))
      (pss_cons (ps_set (i := 5) sc_chosen.nd (by rfl) (Or.inl rfl) (pe_lst pa_nil))
      (pss_cons (ps_for PassesOwn.never rfl (pi_enum (by rfl) T.n_enumerate (pa_cons (pv 2) pa_nil)) (pg_tup rfl (pgs_cons (pg_name (i := 6) sc_chosen.nd (by rfl) (Or.inl rfl)) (pgs_cons (pg_name (i := 7) sc_chosen.nd (by rfl) (Or.inl rfl)) pgs_nil))) (pss_one (ps_if (pt_cmpR (op_neE (hu_of hr)) (pe_lc (own := [("one", 8)]) (g := gName 8) rfl sc_chosen.nd (pi_tup (pe_call G_wholes (hr.mono (by omega)) (by rfl) T.g_wholes kp_wholes b_wholes .nil pass0 (pa_cons (pv 7) (pa_cons (pv 3) pa_nil)))) (blkOk_by (own := [("one", 8)]) (N := ["world", "other", "books", "level", "touched", "found", "at", "book", "one"]) (sc := defScope s_chosen) (by decide +kernel)) (fun _ _ _ _ _ => (pg_name (i := 8) sc_chosen.nd (by rfl) (Or.inl rfl))) (fun _ _ _ _ _ => (pts_one (pt_cmpR (op_inTD (K := K) rfl (hu65_of hr)) (pv 8) (pv 4) (by rfl)))) (fun _ _ _ _ _ => (pv 8))) (pe_lst pa_nil) (nomark _)) (pss_one (ps_expr (pe_bm PySem.F.plainAttrs_list PySem.F.slot_list_append PySem.F.type_list_append mt_append (pv 5) (pa_cons (pv 6) pa_nil)))) pss_nil)))
      (pss_one (ps_ret (pe_tupleOf (by rfl) T.n_tuple (pv 5)))))))), ?_⟩
    refine ⟨_, rfl, lev, rfl, l2, ?_⟩
    refine ⟨_, rfl, _, rfl, p, p2, ct, ct2, rfl, hw, hw2, ok, ok2, fun H1 R1 as s1 pl hd => ?_⟩
    refine ⟨_, rfl, R1, as, lev, rfl, pl, l2, fun H2 W L2 s2 ⟨eW, sqW, memW, lenW⟩ => ?_⟩
    refine ⟨Nat.zero_le _, fun F nF => ?_⟩
    have s3 := s1.trans s2
    have nF0 : H F = none := s3.free nF
    obtain ⟨Bs, eL, pb⟩ := hb.mono s3
    have bl := pb.length
    have layW : ∀ k ∈ L2.map (·.2), (plD k).canLay0 = true := fun k hk => by
      obtain ⟨k', h1, rfl⟩ := (memW k).mp hk
      obtain ⟨r, h2, rfl⟩ := List.mem_map.mp h1
      exact wh_lay (pl.2.1 r h2).2
    refine ⟨_, rfl, L, _, rfl, SqL.of (upd_of eL nF), for_it (walk_enum (K := K) (a := L) (xs := Bs.map V.ref)) (fun i σ H' => ∃ (acc : List V) (v6 v7 : Option V), σ = [some (.ref p), some (.ref p2), some (.ref L), some (nV lev), some (.ref W), some (.ref F), v6, v7, none] ∧ Same H2 H' ∧ H' F = some (.lst acc) ∧ acc.length ≤ i ∧ ((∃ bk ∈ bks.take i, Meets' ct ct2 bk) → acc ≠ []))
      ⟨[], none, none, rfl, (Same.refl H2).up nF, upd_same, Nat.le_refl _, fun h => by obtain ⟨_, h, _⟩ := h; cases h⟩ (fun i σ H' _ ⟨_, _, _, _, g, _⟩ => SqL.of (g _ _ eL)) ?_ ?_⟩
    · rintro i v σ H3 H4 hi ⟨acc, v6, v7, rfl, s4, eF, al, am⟩ ⟨t, x, y, rfl, nt, rfl, ex, ey⟩
      cases ex
      obtain ⟨B, hB, rfl⟩ := ref_get ey
      have hi2 : i < bks.length := by
        have := get_lt hB
        omega
      obtain ⟨bk, hbk⟩ : ∃ bk, bks[i]? = some bk := ⟨_, List.getElem?_eq_getElem hi2⟩
      have okb := bok bk (List.mem_of_getElem? hbk)
      refine ⟨t, _, rfl, SqT.of upd_same, rfl, _, _, rfl, _, _, rfl, rfl, ?_⟩
      have s5 : Same H2 (upd H3 t (.tup [.int i, .ref B])) := s4.up nt
      have eF5 := upd_of (u := .tup [.int i, .ref B]) eF nt
      generalize upd H3 t (.tup [.int i, .ref B]) = H5 at *
      refine ⟨_, rfl, _, rfl, B, bk, lev, rfl, (pair_get pb hB hbk).mono (Tups.of s5), okb, l2, fun H6 R M s6 ⟨eR, sqM, memM, lenM⟩ => ?_⟩
      have s7 := s5.trans s6
      refine ⟨R, rfl, ⟨_, SqT.of eR⟩, fun D nD => lc_it (walk_tup (K := K) (a := R) (xs := M.map fun q => V.ref q.1)) (GP H6 D fun i acc _ => acc.length ≤ i ∧ ((∃ k ∈ (M.take i).map (·.2), k ∈ L2.map (·.2)) → acc ≠ [])) (GP.start nD ⟨Nat.le_refl _, fun h => by obtain ⟨_, h, _⟩ := h; cases h⟩) (fun i H' _ g => SqT.of (g.1 _ _ eR)) ?_ ?_⟩
      · rintro j v H7 H8 hj ⟨g1, acc2, g2, g3, g4⟩ ⟨rfl, ey2⟩
        obtain ⟨m, hm, rfl⟩ := map_get ey2
        have mm := List.mem_of_getElem? hm
        have laym : (plD m.2).canLay0 = true := by
          obtain ⟨k', h1, h2⟩ := (memM m.2).mp (List.mem_map_of_mem mm)
          obtain ⟨kc, h3, rfl⟩ := List.mem_map.mp h1
          rw [h2]
          exact wh_lay (okb.pl kc h3)
        refine ⟨rfl, _, rfl, _, rfl, plD m.2, (L2.map (·.2)).map (fun k => plD k), sqt_dp (sqt_same (sqM m mm) g1), .tup (SqT.of (g1 _ _ (s7 _ _ eW))) (rows_dp fun z hz => sqt_same (sqt_same (sqW z hz) s7) g1), key_shaped laym, keys_shaped layW, _, rfl, ?_⟩
        have tk : ∀ k, k ∈ (M.take (j + 1)).map (·.2) ↔ k ∈ (M.take j).map (·.2) ∨ k = m.2 := fun k => by
          rw [List.take_add_one, hm, List.map_append, List.mem_append]
          exact or_congr Iff.rfl List.mem_singleton
        cases z : ((L2.map (·.2)).map fun k => plD k).any fun z => PyData.eqv z (plD m.2) with
        | true =>
          refine ifT rfl ⟨_, rfl, GP.push nD g1 g2 (Same.refl _) (by have := get_lt hm; omega) ⟨by rw [List.length_append]; exact Nat.add_le_add_right g3 1, fun _ => by simp⟩⟩
        | false =>
          refine ifF rfl (GP.skip g1 g2 (Same.refl _) ⟨by omega, fun hk => ?_⟩)
          obtain ⟨k, h1, h2⟩ := hk
          rcases (tk k).mp h1 with h1 | rfl
          · exact g4 ⟨k, h1, h2⟩
          · rw [any_in h2 laym] at z
            cases z
      · rintro H7 ⟨g1, acc2, g2, g3, g4⟩
        rw [List.length_map, take_all (xs := M) (Nat.le_refl _)] at g4
        have s8 := s7.trans g1
        have tk2 : ∀ bk', bk' ∈ bks.take (i + 1) ↔ bk' ∈ bks.take i ∨ bk' = bk := mem_take_succ hbk
        have hit : Meets' ct ct2 bk → acc2 ≠ [] := fun ⟨kc, h1, h2, h3⟩ => by
          refine g4 ⟨wh lev kc.1, (memM _).mpr ⟨kc.1, List.mem_map_of_mem h1, rfl⟩, (memW _).mpr ⟨kc.1, hd kc.1 h2 h3, rfl⟩⟩
        refine ⟨Nat.zero_le _, fun b nb => ⟨D, b, acc2, rfl, rfl, SqL.of (upd_of g2 nb), SqL.of upd_same, _, rfl, ?_⟩⟩
        have eF7 := upd_of (u := .lst []) (g1 _ _ (s6 _ _ eF5)) nb
        have s9 : Same H2 (upd H7 b (.lst [])) := s8.up nb
        cases acc2 with
        | nil =>
          refine ifF rfl ⟨acc, _, _, rfl, s9, eF7, by omega, fun ⟨bk', h1, h2⟩ => ?_⟩
          rcases (tk2 bk').mp h1 with h1 | rfl
          · exact am ⟨bk', h1, h2⟩
          · exact absurd rfl (hit h2)
        | cons y ys =>
          refine ifT rfl ⟨_, rfl, .inl ⟨rfl, _, Or.inl (Or.inl eF7)⟩, _, rfl, F, _, _, rfl, rfl, eF7, by omega, ?_⟩
          exact ⟨_, _, _, rfl, s9.at0 nF, upd_same, by rw [List.length_append]; exact Nat.add_le_add_right al 1, fun _ => by simp⟩
    · rintro σ H3 ⟨acc, v6, v7, rfl, s4, eF, al, am⟩
      rw [List.length_map, take_all (xs := bks) (by omega)] at am
      exact ⟨_, rfl, .inl ⟨F, _, rfl, SqL.of eF, fun R nR => q _ R acc ((s3.trans s4).up nR) upd_same am⟩⟩
end
end Ta
namespace Ta
open PySem PySem.Spec PyProof.Rows L2 DX
theorem head_ne {x y : Str} {r s : List Key} (h : (Sum.inr x : Key) :: r = Sum.inr y :: s) : x = y := by
  injection h with h1 _
  exact Sum.inr.inj h1
/-! ### what may stand at a place of a kind -/
theorem at_df {ct : Ct} (ok : CtOk ct) {m f : Str} : ctAt ct [.inr "def", .inr m, .inr f] = .none ∨ Ex 3 (ctAt ct [.inr "def", .inr m, .inr f]) := by
  unfold ctAt
  cases z : ctGet ct [.inr "def", .inr m, .inr f] with
  | none => exact .inl rfl
  | some d =>
    refine .inr ?_
    have h := ok.co _ (ctGet_mem z)
    show Ex 3 d
    revert h
    generalize hk : ([.inr "def", .inr m, .inr f] : List Key) = k
    intro h
    cases h with
    | df h => exact h
    | looks _ _ _ _ => exact absurd (congrArg List.length hk) (by simp)
    | file _ _ => exact absurd (congrArg List.length hk) (by simp)
    | cell _ _ =>
      have := congrArg (fun l => l[2]?) hk
      simp at this
    | clock _ _ => exact absurd (congrArg List.length hk) (by simp)
theorem at_looks {ct : Ct} (ok : CtOk ct) {m : Str} : ctAt ct [.inr "looks", .inr m] = .none ∨ ∃ xs : List Str, ctAt ct [.inr "looks", .inr m] = .tuple (xs.map .str) ∧ xs.length ≤ 6 ∧ ∀ x ∈ xs, NameOk x := by
  unfold ctAt
  cases z : ctGet ct [.inr "looks", .inr m] with
  | none => exact .inl rfl
  | some d =>
    refine .inr ?_
    have h := ok.co _ (ctGet_mem z)
    show ∃ xs : List Str, d = .tuple (xs.map .str) ∧ _
    revert h
    generalize hk : ([.inr "looks", .inr m] : List Key) = k
    intro h
    cases h with
    | df h => exact absurd (congrArg List.length hk) (by simp)
    | looks h1 h2 _ _ => exact ⟨_, rfl, h1, h2⟩
    | file _ _ =>
      exact absurd (head_ne hk) (by decide +kernel)
    | cell _ _ => exact absurd (congrArg List.length hk) (by simp)
    | clock _ _ => exact absurd (congrArg List.length hk) (by simp)
theorem at_file {ct : Ct} (ok : CtOk ct) {m : Str} : ctAt ct [.inr "file", .inr m] = .none ∨ ∃ is : List Int, ctAt ct [.inr "file", .inr m] = .tuple (is.map .int) ∧ is.length ≤ 12 ∧ ∀ i ∈ is, 0 ≤ i ∧ i ≤ 999999 := by
  unfold ctAt
  cases z : ctGet ct [.inr "file", .inr m] with
  | none => exact .inl rfl
  | some d =>
    refine .inr ?_
    have h := ok.co _ (ctGet_mem z)
    show ∃ is : List Int, d = .tuple (is.map .int) ∧ _
    revert h
    generalize hk : ([.inr "file", .inr m] : List Key) = k
    intro h
    cases h with
    | df h => exact absurd (congrArg List.length hk) (by simp)
    | looks _ _ _ _ =>
      exact absurd (head_ne hk) (by decide +kernel)
    | file h1 h2 => exact ⟨_, rfl, h1, h2⟩
    | cell _ _ => exact absurd (congrArg List.length hk) (by simp)
    | clock _ _ => exact absurd (congrArg List.length hk) (by simp)
theorem at_cell {ct : Ct} (ok : CtOk ct) {t : Str} {n : Int} : ctAt ct [.inr "cell", .inr t, .inl n] = .none ∨ ∃ i : Int, ctAt ct [.inr "cell", .inr t, .inl n] = .int i ∧ 0 ≤ i ∧ i ≤ 999999 := by
  unfold ctAt
  cases z : ctGet ct [.inr "cell", .inr t, .inl n] with
  | none => exact .inl rfl
  | some d =>
    refine .inr ?_
    have h := ok.co _ (ctGet_mem z)
    show ∃ i : Int, d = .int i ∧ _
    revert h
    generalize hk : ([.inr "cell", .inr t, .inl n] : List Key) = k
    intro h
    cases h with
    | df h =>
      have := congrArg (fun l => l[2]?) hk
      simp at this
    | looks _ _ _ _ => exact absurd (congrArg List.length hk) (by simp)
    | file _ _ => exact absurd (congrArg List.length hk) (by simp)
    | cell h1 h2 => exact ⟨_, rfl, h1, h2⟩
    | clock _ _ => exact absurd (congrArg List.length hk) (by simp)
theorem at_clock {ct : Ct} (ok : CtOk ct) : ctAt ct [.inr "clock"] = .none ∨ ∃ i : Int, ctAt ct [.inr "clock"] = .int i ∧ 0 ≤ i ∧ i ≤ 999999 := by
  unfold ctAt
  cases z : ctGet ct [.inr "clock"] with
  | none => exact .inl rfl
  | some d =>
    refine .inr ?_
    have h := ok.co _ (ctGet_mem z)
    show ∃ i : Int, d = .int i ∧ _
    revert h
    generalize hk : ([.inr "clock"] : List Key) = k
    intro h
    cases h with
    | df h => exact absurd (congrArg List.length hk) (by simp)
    | looks _ _ _ _ => exact absurd (congrArg List.length hk) (by simp)
    | file _ _ => exact absurd (congrArg List.length hk) (by simp)
    | cell _ _ => exact absurd (congrArg List.length hk) (by simp)
    | clock h1 h2 => exact ⟨_, rfl, h1, h2⟩
theorem Dq.noneI {H : Hp} {v : V} (h : Dq H v .none) : v = .non := by
  cases h
  rfl
theorem Ex.tup {n : Nat} {d : PyData} (h : Ex n d) : ∃ ds, d = .tuple ds := by
  cases n with
  | zero => exact h.elim
  | succ n =>
    obtain ⟨q, _, ds, e, _⟩ := h
    exact ⟨_, e⟩
theorem AskSt.tups {K : PySem.W.Frag} {g : Gh} {H H' : Hp} {kvs : List (List Key × V)} (h : AskSt K g H kvs) (k : Keep [g.D] H H') : Tups H H' := Tups.keep k fun a ha xs e => by
  rw [List.mem_singleton.mp ha, h.kn] at e
  cases e
section
variable {P : Program} {w : World} {K : PySem.W.Frag} {mg : Str → Option Value} {base : Heap}
def spMet (K : PySem.W.Frag) : Sp := fun vs H Q _ => ∃ (g : Gh) (m f : Str) (kvs : List (List Key × V)), vs = [.ref g.a, .str m, .str f] ∧ GhOk K g ∧ AskSt K g H kvs ∧ NameOk m ∧ NameOk f ∧ kvs.length + 8 < 4000 ∧
  ∀ H' v kvs', Keep [g.D] H H' → AskSt K g H' kvs' → kvs' ≠ [] → kvs'.length ≤ kvs.length + 8 → (v = .non ∨ ∃ T m' e d, v = .ref T ∧ H' T = some (.tup [.str m', e]) ∧ NameOk m' ∧ Dq H' e d ∧ Ex 3 d) → Q v H'
theorem sc_met_from : FnScope ["asker", "m", "f", "own", "others", "n", "other"] ["asker", "m", "f"] (defScope s_met_from) := ⟨rfl, rfl, rfl, by decide +kernel, rfl, by decide +kernel, by decide +kernel⟩
theorem ok_met_from (T : Tx w K mg) : Ok P w K mg base CX0 11 ("met_from", none) ["asker", "m", "f"] (spMet K) := by
  obtain ⟨_, G_WorldAsker_ask, b_WorldAsker_ask, kp_WorldAsker_ask⟩ := ok_WorldAsker_ask (P := P) (base := base) T
  refine mkOk T.d_met_from sc_met_from (fun vs H Q E h => ?_) (fun _ _ _ _ _ _ us hl => match us, hl with | [_, _, _], _ => rfl) (fun cdv A outer s H vs Q E hr h => ?_)
  · obtain ⟨g, m, f, kvs, rfl, _⟩ := h
    rfl
  · obtain ⟨g, m, f, kvs, rfl, gok, st, hm, hf, few, q⟩ := h
    obtain ⟨dx, ea⟩ := st.as
    refine ⟨_, (pss_cons (ps_set (i := 3) sc_met_from.nd (by rfl) (Or.inl rfl) (pe_meth (pv 0) T.cls_WorldAsker T.m_WorldAsker_ask G_WorldAsker_ask (hr.mono (by omega)) b_WorldAsker_ask .nil pass0 (pa_cons (pe_tup (pa_cons pe_str (pa_cons (pv 1) (pa_cons (pv 2) pa_nil)))) pa_nil)))
      (pss_cons (ps_if (pt_cmpR op_notN (pv 3) pe_non (nomark _)) (pss_one (ps_ret (pe_tup (pa_cons (pv 1) (pa_cons (pv 3) pa_nil))))) pss_nil)
      (pss_cons (ps_set (i := 4) sc_met_from.nd (by rfl) (Or.inl rfl) (pe_meth (pv 0) T.cls_WorldAsker T.m_WorldAsker_ask G_WorldAsker_ask (hr.mono (by omega)) b_WorldAsker_ask .nil pass0 (pa_cons (pe_tup (pa_cons pe_str (pa_cons (pv 1) pa_nil))) pa_nil)))
      (pss_cons (ps_if (pt_cmpR op_notN (pv 4) pe_non (nomark _)) (pss_one (ps_for PassesOwn.never rfl (pi_tup (pv 4)) (pg_name (i := 5) sc_met_from.nd (by rfl) (Or.inl rfl)) (pss_cons (ps_set (i := 6) sc_met_from.nd (by rfl) (Or.inl rfl) (pe_meth (pv 0) T.cls_WorldAsker T.m_WorldAsker_ask G_WorldAsker_ask (hr.mono (by omega)) b_WorldAsker_ask .nil pass0 (pa_cons (pe_tup (pa_cons pe_str (pa_cons (pv 5) (pa_cons (pv 2) pa_nil)))) pa_nil)))
      (pss_one (ps_if (pt_cmpR op_notN (pv 6) pe_non (nomark _)) (pss_one (ps_ret (pe_tup (pa_cons (pv 5) (pa_cons (pv 6) pa_nil))))) pss_nil))))) pss_nil)
      (pss_one (ps_ret pe_non)))))), ?_⟩
    refine ⟨_, rfl, g.a, dx, _, rfl, ea, rfl, _, rfl, _, rfl, by show 3 ≤ sizeLine; decide, fun b nb => ?_⟩
    have s1 : L2.Same H (upd H b (.tup [.str "def", .str m, .str f])) := (Same.refl H).up nb
    refine ⟨g, b, [.inr "def", .inr m, .inr f], kvs, rfl, gok, st.keep s1, upd_same, .df hm hf, by omega, fun H1 v1 kvs1 k1 st1 n1 l1 d1 => ?_⟩
    have K1 : Keep [g.D] H H1 := (Keep.of s1).trans k1
    rcases at_df gok.ok (m := m) (f := f) with e | e
    · rw [e] at d1
      have := d1.noneI
      subst this
      refine ⟨_, rfl, rfl, _, rfl, ifF rfl ?_⟩
      obtain ⟨dx1, ea1⟩ := st1.as
      refine ⟨_, rfl, g.a, dx1, _, rfl, ea1, rfl, _, rfl, by show 2 ≤ sizeLine; decide, fun b2 nb2 => ?_⟩
      have s2 : L2.Same H1 (upd H1 b2 (.tup [.str "looks", .str m])) := (Same.refl H1).up nb2
      refine ⟨g, b2, [.inr "looks", .inr m], kvs1, rfl, gok, st1.keep s2, upd_same, .looks hm, by omega, fun H2 v2 kvs2 k2 st2 n2 l2 d2 => ?_⟩
      have K2 : Keep [g.D] H H2 := K1.trans ((Keep.of s2).trans k2)
      rcases at_looks gok.ok (m := m) with e2 | ⟨xs, e2, x6, xn⟩
      · rw [e2] at d2
        have := d2.noneI
        subst this
        refine ⟨_, rfl, rfl, _, rfl, ifF rfl ?_⟩
        exact q H2 .non kvs2 K2 st2 n2 (by omega) (.inl rfl)
      · rw [e2] at d2
        obtain ⟨L, us, rfl, eL, hs⟩ := d2.tupI
        have := strs_v hs
        subst this
        refine ⟨_, rfl, rfl, _, rfl, ifT rfl ?_⟩
        refine ⟨_, rfl, L, rfl, ⟨_, SqT.of eL⟩, for_it (walk_tup (K := K) (a := L) (xs := xs.map V.str)) (fun i σ H' => ∃ (kvs' : List (List Key × V)) (v5 v6 : Option V), σ = [some (.ref g.a), some (.str m), some (.str f), some .non, some (.ref L), v5, v6] ∧ Keep [g.D] H2 H' ∧ AskSt K g H' kvs' ∧ kvs' ≠ [] ∧ kvs'.length ≤ kvs.length + 2 + i)
          ⟨kvs2, none, none, rfl, Keep.refl _ _, st2, n2, by omega⟩ (fun i σ H' _ ⟨_, _, _, _, k', _⟩ => SqT.of (st2.tups k' _ _ eL)) ?_ ?_⟩
        · rintro i v σ H3 H4 hi ⟨kvs3, v5, v6, rfl, k3, st3, n3, l3⟩ ⟨rfl, ey⟩
          obtain ⟨x, hx, rfl⟩ := map_get ey
          have hi2 := get_lt hx
          have xok := xn x (List.mem_of_getElem? hx)
          obtain ⟨dx3, ea3⟩ := st3.as
          refine ⟨_, rfl, g.a, dx3, _, rfl, ea3, rfl, _, rfl, _, rfl, by show 3 ≤ sizeLine; decide, fun b3 nb3 => ?_⟩
          have s3 : L2.Same H4 (upd H4 b3 (.tup [.str "def", .str x, .str f])) := (Same.refl H4).up nb3
          refine ⟨g, b3, [.inr "def", .inr x, .inr f], kvs3, rfl, gok, st3.keep s3, upd_same, .df xok hf, by omega, fun H5 v7 kvs5 k5 st5 n5 l5 d5 => ?_⟩
          have K5 : Keep [g.D] H2 H5 := k3.trans ((Keep.of s3).trans k5)
          rcases at_df gok.ok (m := x) (f := f) with e5 | e5
          · rw [e5] at d5
            have := d5.noneI
            subst this
            refine ⟨_, rfl, rfl, _, rfl, ifF rfl ?_⟩
            exact ⟨kvs5, _, _, rfl, K5, st5, n5, by omega⟩
          · obtain ⟨ds, e6⟩ := e5.tup
            obtain ⟨c, us, rfl, ec, hs'⟩ := (show Dq H5 v7 (.tuple ds) by rw [← e6]; exact d5).tupI
            refine ⟨_, rfl, rfl, _, rfl, ifT rfl ?_⟩
            refine ⟨_, rfl, _, rfl, by show 2 ≤ sizeLine; decide, fun r nr => ?_⟩
            have s6 : L2.Same H5 (upd H5 r (.tup [.str x, .ref c])) := (Same.refl H5).up nr
            exact q _ (.ref r) kvs5 ((K2.trans K5).trans (Keep.of s6)) (st5.keep s6) n5 (by omega) (.inr ⟨r, x, .ref c, _, rfl, upd_same, xok, d5.mono (Tups.of s6), e5⟩)
        · rintro σ H3 ⟨kvs3, v5, v6, rfl, k3, st3, n3, l3⟩
          rw [List.length_map] at l3
          exact q H3 .non kvs3 (K2.trans k3) st3 n3 (by omega) (.inl rfl)
    · obtain ⟨ds, e6⟩ := e.tup
      obtain ⟨c, us, rfl, ec, hs'⟩ := (show Dq H1 v1 (.tuple ds) by rw [← e6]; exact d1).tupI
      refine ⟨_, rfl, rfl, _, rfl, ifT rfl ?_⟩
      refine ⟨_, rfl, _, rfl, by show 2 ≤ sizeLine; decide, fun r nr => ?_⟩
      have s6 : L2.Same H1 (upd H1 r (.tup [.str m, .ref c])) := (Same.refl H1).up nr
      exact q _ (.ref r) kvs1 (K1.trans (Keep.of s6)) (st1.keep s6) n1 (by omega) (.inr ⟨r, m, .ref c, _, rfl, upd_same, hm, d1.mono (Tups.of s6), e⟩)
end
end Ta
namespace Ta
open PySem PySem.Spec PyProof.Rows L2 DX
/-! ### the state of a walk -/
def wkf (a C : Addr) (st op : Nat) : List (Str × V) := [("asker", .ref a), ("most_steps", .int 400), ("most_open", .int 12), ("cells", .ref C), ("steps", .int (st : Int)), ("opened", .int (op : Int))]
structure Wh where
  g : Gh
  wk : Addr
  C : Addr
abbrev Wh.S (x : Wh) : List Addr := [x.g.D, x.wk, x.C]
structure WhOk (K : PySem.W.Frag) (x : Wh) : Prop where
  g : GhOk K x.g
  nw : x.g.H0 x.wk = none
  nC : x.g.H0 x.C = none
  CD : x.C ≠ x.g.D
  wa : x.wk ≠ x.g.a
structure CellOk (cv : List Key × V) : Prop where
  ex : ∃ (t : Str) (k i : Int), cv.1 = [.inr "cell", .inr t, .inl k] ∧ cv.2 = .int i ∧ NameOk t ∧ 0 ≤ k ∧ k ≤ 999999 ∧ 0 ≤ i ∧ i ≤ 999999
structure WalkSt (K : PySem.W.Frag) (x : Wh) (H : Hp) (st op : Nat) (cvs : List (List Key × V)) : Prop where
  wk : ∃ dx, H x.wk = some (.ins (He.ga K "Walk") dx (wkf x.g.a x.C st op))
  ce : H x.C = some (.dT cvs)
  cen : ∀ cv ∈ cvs, CellOk cv
  nd : (cvs.map (·.1)).Nodup
structure St (K : PySem.W.Frag) (x : Wh) (H : Hp) (st op : Nat) (b : Bool) (c : Int) (kvs cvs : List (List Key × V)) : Prop where
  a : AskSt K x.g H kvs
  w : WalkSt K x H st op cvs
  kl : (kvs.length : Int) ≤ 8 * st + c
  cl : 8 * (cvs.length : Int) ≤ 8 * st + c
  ne : b = true → kvs ≠ []
  s4 : st ≤ 400
  o12 : op ≤ 12
  c8 : c ≤ 8
section
variable {K : PySem.W.Frag} {x : Wh} {H H' : Hp} {st op : Nat} {b : Bool} {c : Int} {kvs cvs : List (List Key × V)}
theorem St.few (h : St K x H st op b c kvs cvs) : kvs.length ≤ 3208 ∧ cvs.length ≤ 401 := by
  have := h.kl
  have := h.cl
  have := h.s4
  have := h.c8
  omega
/-- everything but the walk's own things is as it was -/
theorem St.keep (h : St K x H st op b c kvs cvs) (s : L2.Same H H') : St K x H' st op b c kvs cvs := by
  obtain ⟨a, ⟨⟨dx, w1⟩, w2, w3, w4⟩, r1, r2, r3, r4, r5, r6⟩ := h
  exact ⟨a.keep s, ⟨⟨dx, s _ _ w1⟩, s _ _ w2, w3, w4⟩, r1, r2, r3, r4, r5, r6⟩
theorem St.notTup (h : St K x H st op b c kvs cvs) : ∀ a ∈ x.S, ∀ xs, H a ≠ some (.tup xs) := fun a ha xs e => by
  obtain ⟨dx, w1⟩ := h.w.wk
  rcases List.mem_cons.mp ha with rfl | ha
  · rw [h.a.kn] at e
    cases e
  · rcases List.mem_cons.mp ha with rfl | ha
    · rw [w1] at e
      cases e
    · rw [List.mem_singleton.mp ha, h.w.ce] at e
      cases e
theorem St.tups (h : St K x H st op b c kvs cvs) (k : Keep x.S H H') : Tups H H' := Tups.keep k h.notTup
theorem St.lst (h : St K x H st op b c kvs cvs) (k : Keep x.S H H') {L : Addr} {xs : List V} (e : H L = some (.lst xs)) : H' L = some (.lst xs) := by
  refine k L _ (fun z => ?_) e
  obtain ⟨dx, w1⟩ := h.w.wk
  rcases List.mem_cons.mp z with rfl | z
  · rw [h.a.kn] at e
    cases e
  · rcases List.mem_cons.mp z with rfl | z
    · rw [w1] at e
      cases e
    · rw [List.mem_singleton.mp z, h.w.ce] at e
      cases e
/-- a list of one's own changes -/
theorem St.put (ok : WhOk K x) (h : St K x H st op b c kvs cvs) {L : Addr} {xs : List V} {o : HO} (e : H L = some (.lst xs)) (n : x.g.H0 L = none) : St K x (upd H L o) st op b c kvs cvs := by
  obtain ⟨⟨s0, ⟨dx, as⟩, kn, en, nd⟩, ⟨⟨dx', w1⟩, w2, w3, w4⟩, r1, r2, r3, r4, r5, r6⟩ := h
  have tp : Tups H (upd H L o) := Tups.upd fun ys z => by
    rw [e] at z
    cases z
  refine ⟨⟨s0.at0 n, ⟨dx, ?_⟩, ?_, fun kv hk => ⟨(en kv hk).1, (en kv hk).2.mono tp⟩, nd⟩, ⟨⟨dx', ?_⟩, ?_, w3, w4⟩, r1, r2, r3, r4, r5, r6⟩
  · rw [upd_ne (ne_of as e (by intro z; cases z))]
    exact as
  · rw [upd_ne (ne_of kn e (by intro z; cases z))]
    exact kn
  · rw [upd_ne (ne_of w1 e (by intro z; cases z))]
    exact w1
  · rw [upd_ne (ne_of w2 e (by intro z; cases z))]
    exact w2
theorem AskSt.but (h : AskSt K x.g H kvs) {q : Addr} {o u : HO} (e : H q = some o) (n : x.g.H0 q = none) (nt : ∀ ys, o ≠ .tup ys) (na : q ≠ x.g.a) (nD : q ≠ x.g.D) : AskSt K x.g (upd H q u) kvs := by
  obtain ⟨s0, ⟨dx, as⟩, kn, en, nd⟩ := h
  have tp : Tups H (upd H q u) := Tups.upd fun ys z => by
    rw [e] at z
    exact nt _ (Option.some.inj z)
  refine ⟨s0.at0 n, ⟨dx, ?_⟩, ?_, fun kv hk => ⟨(en kv hk).1, (en kv hk).2.mono tp⟩, nd⟩
  · rw [upd_ne na.symm]
    exact as
  · rw [upd_ne nD.symm]
    exact kn
/-- the walk's own fields change -/
theorem St.setW (ok : WhOk K x) (h : St K x H st op b c kvs cvs) {st' op' : Nat} {c' : Int} {dx : Addr} (s4 : st' ≤ 400) (o12 : op' ≤ 12) (cc : c + 8 * st = c' + 8 * st') (c8 : c' ≤ 8) :
    St K x (upd H x.wk (.ins (He.ga K "Walk") dx (wkf x.g.a x.C st' op'))) st' op' b c' kvs cvs := by
  obtain ⟨dx0, w1⟩ := h.w.wk
  have nD : x.wk ≠ x.g.D := ne_of w1 h.a.kn (by intro z; cases z)
  have nC : x.C ≠ x.wk := ne_of h.w.ce w1 (by intro z; cases z)
  have kl := h.kl
  have cl := h.cl
  refine ⟨h.a.but w1 ok.nw (fun ys z => by cases z) ok.wa nD, ⟨⟨dx, upd_same⟩, ?_, h.w.cen, h.w.nd⟩, by omega, by omega, h.ne, s4, o12, c8⟩
  rw [upd_ne nC]
  exact h.w.ce
/-- a cell is put in -/
theorem St.setC (ok : WhOk K x) (h : St K x H st op b c kvs cvs) {k : List Key} {v : V} {c' : Int} (cv : CellOk (k, v)) (cc : c + 8 ≤ c') (c8 : c' ≤ 8) :
    St K x (upd H x.C (.dT (putK cvs k v))) st op b c' kvs (putK cvs k v) := by
  obtain ⟨dx0, w1⟩ := h.w.wk
  have nC : x.wk ≠ x.C := ne_of w1 h.w.ce (by intro z; cases z)
  obtain ⟨dxa, ea⟩ := h.a.as
  have na : x.C ≠ x.g.a := ne_of h.w.ce ea (by intro z; cases z)
  have kl := h.kl
  have cl := h.cl
  have pl : (putK cvs k v).length ≤ cvs.length + 1 := length_putK cvs k v
  refine ⟨h.a.but h.w.ce ok.nC (fun ys z => by cases z) na ok.CD, ⟨⟨dx0, ?_⟩, upd_same, fun z hz => ?_, ?_⟩, by omega, by omega, h.ne, h.s4, h.o12, c8⟩
  · rw [upd_ne nC]
    exact w1
  · by_cases hk : k ∈ cvs.map (·.1)
    · have hs : (valV cvs k).isSome = true := valV_in hk
      unfold putK at hz
      rw [if_pos (by rw [valV_any]; exact hs)] at hz
      obtain ⟨y, hy, rfl⟩ := List.mem_map.mp hz
      by_cases e : y.1 = k
      · rw [if_pos e, e]
        exact cv
      · rw [if_neg e]
        exact h.w.cen y hy
    · rcases putK_mem hz hk with hz | rfl
      · exact h.w.cen z hz
      · exact cv
  · rw [putK_keys]
    exact addK_nd h.w.nd
/-- the asker's dict grew -/
theorem St.asked (ok : WhOk K x) (h : St K x H st op b c kvs cvs) {kvs' : List (List Key × V)} {n : Nat} {c' : Int} (k : Keep [x.g.D] H H') (a : AskSt K x.g H' kvs') (ne : kvs' ≠ []) (l : kvs'.length ≤ kvs.length + n) (cc : c + n ≤ c') (c8 : c' ≤ 8) :
    St K x H' st op true c' kvs' cvs := by
  obtain ⟨dx0, w1⟩ := h.w.wk
  have nD : x.wk ≠ x.g.D := ne_of w1 h.a.kn (by intro z; cases z)
  have kl := h.kl
  have cl := h.cl
  exact ⟨a, ⟨⟨dx0, k _ _ (fun z => nD (List.mem_singleton.mp z)) w1⟩, k _ _ (fun z => ok.CD (List.mem_singleton.mp z)) h.w.ce, h.w.cen, h.w.nd⟩, by omega, by omega, fun _ => ne, h.s4, h.o12, c8⟩
theorem St.weak (h : St K x H st op b c kvs cvs) {b' : Bool} {c' : Int} (hb : b' = true → b = true) (cc : c ≤ c') (c8 : c' ≤ 8) : St K x H st op b' c' kvs cvs := by
  have kl := h.kl
  have cl := h.cl
  exact ⟨h.a, h.w, by omega, by omega, fun z => h.ne (hb z), h.s4, h.o12, c8⟩
theorem keepD (k : Keep [x.g.D] H H') : Keep x.S H H' := k.mono fun a ha => by
  rw [List.mem_singleton.mp ha]
  exact List.mem_cons_self
end
/-- a walk's state, whichever -/
def Ws (K : PySem.W.Frag) (x : Wh) (H : Hp) (b : Bool) : Prop := ∃ st op c kvs cvs, St K x H st op b c kvs cvs
/-- what an end that is let out promises -/
def Xp (K : PySem.W.Frag) (x : Wh) (H : Hp) (b : Bool) (E : XK) : Prop := ∀ d v H', H' d = some (.xd [("outcome", v)]) → Keep x.S H H' → Ws K x H' b → E (.ref (He.ga K "Ended")) (some d) H'
def Qp (K : PySem.W.Frag) (x : Wh) (H : Hp) (op : Nat) (b : Bool) (c : Int) (Q : VK) : Prop := ∀ H' st' i kvs' cvs', Keep x.S H H' → St K x H' st' op b c kvs' cvs' → 0 ≤ i → i ≤ 999999 → Q (.int i) H'
/-- numbers in a list or a tuple -/
def NumsAt (H : Hp) (v : V) : Prop := ∃ (a : Addr) (is : List Int), v = .ref a ∧ (H a = some (.lst (is.map V.int)) ∨ H a = some (.tup (is.map V.int))) ∧ is.length ≤ 4 ∧ ∀ i ∈ is, 0 ≤ i ∧ i ≤ 999999
theorem NumsAt.keep {K : PySem.W.Frag} {x : Wh} {H H' : Hp} {st op : Nat} {b : Bool} {c : Int} {kvs cvs : List (List Key × V)} (h : St K x H st op b c kvs cvs) (k : Keep x.S H H') {v : V} (n : NumsAt H v) : NumsAt H' v := by
  obtain ⟨a, is, e, g, r⟩ := n
  exact ⟨a, is, e, g.imp (h.lst k) (h.tups k _ _), r⟩
theorem Xp.mono {K : PySem.W.Frag} {x : Wh} {H H' : Hp} {b b' : Bool} {E : XK} (h : Xp K x H b E) (k : Keep x.S H H') (hb : b = true → b' = true) : Xp K x H' b' E := fun d v H2 e k2 ⟨st, op, c, kvs, cvs, s⟩ => h d v H2 e (k.trans k2) ⟨st, op, c, kvs, cvs, s.weak hb (Int.le_refl _) s.c8⟩
section
variable {P : Program} {w : World} {K : PySem.W.Frag} {mg : Str → Option Value} {base : Heap}
/-! ### Ended -/
def spEnded (K : PySem.W.Frag) : Sp := fun vs H Q _ => ∃ (a : Addr) (v : V), vs = [.ref a, v] ∧ H a = some (exo a (He.ga K "Ended") none) ∧ ∀ dx, H dx = none → dx ≠ a → Q .non (upd (upd H dx (exd dx [("outcome", v)])) a (exo a (He.ga K "Ended") (some dx)))
theorem sc_Ended___init__ : FnScope ["self", "outcome"] ["self", "outcome"] (defScope s_Ended___init__) := ⟨rfl, rfl, rfl, by decide +kernel, rfl, by decide +kernel, by decide +kernel⟩
theorem ok_Ended___init__ (T : Tx w K mg) : Ok P w K mg base CX0 1 ("Ended", some "__init__") ["self", "outcome"] (spEnded K) := by
  refine mkOk T.d_Ended___init__ sc_Ended___init__ (fun vs H Q E h => ?_) (fun _ _ _ _ _ _ us hl => match us, hl with | [_, _], _ => rfl) (fun cdv A outer s H vs Q E hr h => ?_)
  · obtain ⟨a, v, rfl, _⟩ := h
    rfl
  · obtain ⟨a, v, rfl, ea, q⟩ := h
    refine ⟨_, (pss_one (ps_ost (pv 0) (pv 1))), ?_⟩
    exact ⟨_, rfl, _, rfl, a, _, rfl, T.oex, T.a_Ended_outcome, .inl ⟨ea, fun dx n ne => q dx n ne⟩⟩
/-- raising it -/
theorem raised {x : Wh} {H : Hp} {b : Bool} {E : XK} {st op : Nat} {c : Int} {kvs cvs : List (List Key × V)} (h : St K x H st op b c kvs cvs) (q : Xp K x H b E) (v : V) : ∀ a, H a = none → spEnded K [.ref a, v] (upd H a (exo a (He.ga K "Ended") none))
    (fun z H2 => z = .non ∧ ∃ (d : Addr) (fs : List (Str × V)), H2 a = some (exo a (He.ga K "Ended") (some d)) ∧ H2 d = some (exd d fs) ∧ H d = none ∧ E (.ref (He.ga K "Ended")) (some d) (upd (del H2 a) d (.xd fs))) (fun _ _ _ => False) := by
  intro a na
  refine ⟨a, v, rfl, upd_same, fun dx nd ne => ⟨rfl, dx, [("outcome", v)], upd_same, ?_, ?_, ?_⟩⟩
  · rw [upd_ne ne]
    exact upd_same
  · rwa [upd_ne ne] at nd
  · have nd' : H dx = none := by rwa [upd_ne ne] at nd
    have sm : L2.Same H (upd (del (upd (upd (upd H a (exo a (He.ga K "Ended") none)) dx (exd dx [("outcome", v)])) a (exo a (He.ga K "Ended") (some dx))) a) dx (.xd [("outcome", v)])) := fun b' o e => by
      have n1 : b' ≠ a := ne_of_none e na
      have n2 : b' ≠ dx := ne_of_none e nd'
      rw [upd_ne n2, del_ne n1, upd_ne n1, upd_ne n2, upd_ne n1]
      exact e
    exact q dx v _ upd_same (Keep.of sm) ⟨st, op, c, kvs, cvs, h.keep sm⟩
end
end Ta
namespace Ta
open PySem PySem.Spec PyProof.Rows L2 DX
section
variable {P : Program} {w : World} {K : PySem.W.Frag} {mg : Str → Option Value} {base : Heap}
def spWalkInit (K : PySem.W.Frag) : Sp := fun vs H Q _ => ∃ (p a dx : Addr), vs = [.ref p, .ref a, .int 400, .int 12] ∧ H p = some (.ins (He.ga K "Walk") dx []) ∧
  ∀ H' C, Keep [p] H H' → H C = none → C ≠ p → H' p = some (.ins (He.ga K "Walk") dx (wkf a C 0 0)) → H' C = some (.dT []) → Q .non H'
theorem sc_Walk___init__ : FnScope ["self", "asker", "most_steps", "most_open"] ["self", "asker", "most_steps", "most_open"] (defScope s_Walk___init__) := ⟨rfl, rfl, rfl, by decide +kernel, rfl, by decide +kernel, by decide +kernel⟩
theorem ok_Walk___init__ (T : Tx w K mg) : Ok P w K mg base CX0 1 ("Walk", some "__init__") ["self", "asker", "most_steps", "most_open"] (spWalkInit K) := by
  refine mkOk T.d_Walk___init__ sc_Walk___init__ (fun vs H Q E h => ?_) (fun _ _ _ _ _ _ us hl => match us, hl with | [_, _, _, _], _ => rfl) (fun cdv A outer s H vs Q E hr h => ?_)
  · obtain ⟨p, a, dx, rfl, _⟩ := h
    rfl
  · obtain ⟨p, a, dx, rfl, ep, q⟩ := h
    refine ⟨_, (pss_cons (ps_fld (pv 0) (pv 1) rfl)
      (pss_cons (ps_fld (pv 0) (pv 2) rfl)
      (pss_cons (ps_fld (pv 0) (pv 3) rfl)
      (pss_cons (ps_fld (pv 0) pe_dnewT rfl)
      (pss_cons (ps_fld (pv 0) pe_int rfl)
      (pss_one (ps_fld (pv 0) pe_int rfl))))))), ?_⟩
    have m : p ∈ [p] := List.mem_singleton.mpr rfl
    refine ⟨_, rfl, _, rfl, p, _, dx, _, rfl, ep, T.cls_Walk, T.a_Walk_asker, by decide, ?_⟩
    refine ⟨_, rfl, _, rfl, p, _, dx, _, rfl, upd_same, T.cls_Walk, T.a_Walk_most_steps, (show (1 : Nat) < 1000 by decide), ?_⟩
    refine ⟨_, rfl, _, rfl, p, _, dx, _, rfl, upd_same, T.cls_Walk, T.a_Walk_most_open, (show (2 : Nat) < 1000 by decide), ?_⟩
    refine fun C nC => ?_
    have nCp : C ≠ p := fun z => by rw [z, upd_same] at nC; cases nC
    refine ⟨_, rfl, p, _, dx, _, rfl, upd_of upd_same nC, T.cls_Walk, T.a_Walk_cells, (show (3 : Nat) < 1000 by decide), ?_⟩
    refine ⟨_, rfl, p, _, dx, _, rfl, upd_same, T.cls_Walk, T.a_Walk_steps, (show (4 : Nat) < 1000 by decide), ?_⟩
    refine ⟨_, rfl, p, _, dx, _, rfl, upd_same, T.cls_Walk, T.a_Walk_opened, (show (5 : Nat) < 1000 by decide), ?_⟩
    have k3 := (((Keep.refl [p] H).at m (o := .ins (He.ga K "Walk") dx (putF "asker" (.ref a) []))).at m (o := .ins (He.ga K "Walk") dx (putF "most_steps" (.int 400) (putF "asker" (.ref a) [])))).at m (o := .ins (He.ga K "Walk") dx (putF "most_open" (.int 12) (putF "most_steps" (.int 400) (putF "asker" (.ref a) []))))
    refine q _ C (((((k3.up nC).at m).at m).at m)) ?_ nCp upd_same ?_
    · rwa [upd_ne nCp, upd_ne nCp, upd_ne nCp] at nC
    · rw [upd_ne nCp, upd_ne nCp, upd_ne nCp]
      exact upd_same
theorem cell_key (t : Str) (k : Int) : (V.str "cell" :: .str t :: .int k :: []) = ([.inr "cell", .inr t, .inl k] : List Key).map kV := rfl
/-! ### told_at -/
def spTold (K : PySem.W.Frag) : Sp := fun vs H Q _ => ∃ (x : Wh) (word name : Str) (k : Int) (st op : Nat) (b : Bool) (c : Int) (kvs cvs : List (List Key × V)), vs = [.ref x.wk, .str word, .str name, .int k] ∧ WhOk K x ∧ St K x H st op b c kvs cvs ∧ c ≤ 0 ∧ NameOk name ∧ 0 ≤ k ∧ k ≤ 999999 ∧
  ∀ H' v kvs', Keep x.S H H' → St K x H' st op b (c + 8) kvs' cvs → (v = .non ∨ ∃ i : Int, v = .int i ∧ 0 ≤ i ∧ i ≤ 999999) → Q v H'
theorem sc_Walk_told_at : FnScope ["self", "word", "name", "k", "row"] ["self", "word", "name", "k"] (defScope s_Walk_told_at) := ⟨rfl, rfl, rfl, by decide +kernel, rfl, by decide +kernel, by decide +kernel⟩
theorem ok_Walk_told_at (T : Tx w K mg) : Ok P w K mg base CX0 11 ("Walk", some "told_at") ["self", "word", "name", "k"] (spTold K) := by
  obtain ⟨_, G_WorldAsker_ask, b_WorldAsker_ask, kp_WorldAsker_ask⟩ := ok_WorldAsker_ask (P := P) (base := base) T
  refine mkOk T.d_Walk_told_at sc_Walk_told_at (fun vs H Q E h => ?_) (fun _ _ _ _ _ _ us hl => match us, hl with | [_, _, _, _], _ => rfl) (fun cdv A outer s H vs Q E hr h => ?_)
  · obtain ⟨x, word, name, k, st, op, b, c, kvs, cvs, rfl, _⟩ := h
    rfl
  · obtain ⟨x, word, name, k, st, op, b, c, kvs, cvs, rfl, ok, hs, c0, nm, k0, k9, q⟩ := h
    have fw := hs.few
    obtain ⟨dx, ew⟩ := hs.w.wk
    refine ⟨_, (pss_cons (ps_if (pt_cmpR op_eq (pv 1) pe_str (nomark _)) (pss_cons (ps_if (pt_cmp (pc_din (hu_of hr) (pe_tup (pa_cons pe_str (pa_cons (pv 2) (pa_cons (pv 3) pa_nil)))) (pe_fld (pv 0) rfl)) (by rfl)) (pss_one (ps_ret (pe_dget (hu_of hr) (pe_fld (pv 0) rfl) (pe_tup (pa_cons pe_str (pa_cons (pv 2) (pa_cons (pv 3) pa_nil)))) (fun _ _ => rfl)))) pss_nil)
      (pss_one (ps_ret (pe_meth (pe_fld (pv 0) rfl) T.cls_WorldAsker T.m_WorldAsker_ask G_WorldAsker_ask (hr.mono (by omega)) b_WorldAsker_ask .nil pass0 (pa_cons (pe_tup (pa_cons pe_str (pa_cons (pv 2) (pa_cons (pv 3) pa_nil)))) pa_nil))))) pss_nil)
      (pss_cons (ps_set (i := 4) sc_Walk_told_at.nd (by rfl) (Or.inl rfl) (pe_meth (pe_fld (pv 0) rfl) T.cls_WorldAsker T.m_WorldAsker_ask G_WorldAsker_ask (hr.mono (by omega)) b_WorldAsker_ask .nil pass0 (pa_cons (pe_tup (pa_cons pe_str (pa_cons (pv 2) pa_nil))) pa_nil)))
      (pss_one (ps_ret (pe_ifExp (PW.pt (pw_and (pt_cmpR op_notN (pv 4) pe_non (nomark _)) (pw_and1 (pt_cmpR op_lt (pv 3) (pe_callB call_len_seq (by rfl) T.n_len bt_len (pa_cons (pv 4) pa_nil)) (nomark _))))) (pe_ix ix_tup (pv 4) (pv 3) (fun _ _ => rfl)) pe_non))))), ?_⟩
    have put : ∀ (p : Addr) (xs : List V), H p = none → L2.Same H (upd H p (.tup xs)) := fun p xs np => (Same.refl H).up np
    by_cases hw : word = "cell"
    · subst hw
      refine ⟨_, rfl, rfl, _, rfl, decT rfl ?_⟩
      refine ⟨_, rfl, _, rfl, by show 3 ≤ sizeLine; decide, fun p np => ?_⟩
      have s1 := put p [.str "cell", .str name, .int k] np
      have hs1 := hs.keep s1
      obtain ⟨dx1, ew1⟩ := hs1.w.wk
      refine ⟨_, rfl, x.wk, _, dx1, _, V.ref x.C, rfl, ew1, T.cls_Walk, T.a_Walk_cells, rfl, x.C, _, rfl, DGet.t (b := p) (k := [.inr "cell", .inr name, .inl k]) hs1.w.ce upd_same, _, rfl, ?_⟩
      cases hv : valV cvs [.inr "cell", .inr name, .inl k] with
      | some v =>
        refine ifT rfl ?_
        obtain ⟨t', k', i', e1, e2, _, _, _, i0, i9⟩ := (hs.w.cen _ (valV_mem hv)).ex
        refine ⟨_, rfl, x.wk, _, dx1, _, V.ref x.C, rfl, ew1, T.cls_Walk, T.a_Walk_cells, rfl, _, rfl, _, rfl, by show 3 ≤ sizeLine; decide, fun p2 np2 => ?_⟩
        have hs2 := hs1.keep ((Same.refl _).up (o := .tup [.str "cell", .str name, .int k]) np2)
        refine ⟨x.C, v, rfl, ?_, ?_⟩
        · have := DGet.t (b := p2) (k := [.inr "cell", .inr name, .inl k]) hs2.w.ce upd_same
          rw [hv] at this
          exact this
        · exact q _ v kvs (Keep.of (s1.up np2)) (hs2.weak id (by omega) (by omega)) (.inr ⟨i', e2, i0, i9⟩)
      | none =>
        refine ifF rfl ?_
        obtain ⟨dxa, ea1⟩ := hs1.a.as
        refine ⟨_, rfl, x.wk, _, dx1, _, V.ref x.g.a, rfl, ew1, T.cls_Walk, T.a_Walk_asker, rfl, x.g.a, dxa, _, rfl, ea1, rfl, _, rfl, _, rfl, by show 3 ≤ sizeLine; decide, fun p2 np2 => ?_⟩
        have s2 := (Same.refl (upd H p (.tup [.str "cell", .str name, .int k]))).up (o := .tup [.str "cell", .str name, .int k]) np2
        have hs2 := hs1.keep s2
        refine ⟨x.g, p2, [.inr "cell", .inr name, .inl k], kvs, rfl, ok.g, hs2.a, upd_same, .cell nm k0 k9, by omega, fun H3 v kvs3 k3 a3 n3 l3 d3 => ?_⟩
        have hs3 := hs2.asked ok k3 a3 n3 l3 (c' := c + 8) (by omega) (by omega)
        refine q H3 v kvs3 ((Keep.of (s1.trans s2)).trans (keepD k3)) (hs3.weak (fun _ => rfl) (Int.le_refl _) (by omega)) ?_
        rcases at_cell ok.g.ok (t := name) (n := k) with e | ⟨i, e, i0, i9⟩
        · rw [e] at d3
          exact .inl d3.noneI
        · rw [e] at d3
          exact .inr ⟨i, d3.intI, i0, i9⟩
    · refine ⟨_, rfl, rfl, _, rfl, decF (fun z => hw (V.str.inj z)) ?_⟩
      obtain ⟨dxa, ea1⟩ := hs.a.as
      refine ⟨_, rfl, x.wk, _, dx, _, V.ref x.g.a, rfl, ew, T.cls_Walk, T.a_Walk_asker, rfl, x.g.a, dxa, _, rfl, ea1, rfl, _, rfl, by show 2 ≤ sizeLine; decide, fun p2 np2 => ?_⟩
      have s2 := (Same.refl H).up (o := .tup [.str "file", .str name]) np2
      have hs2 := hs.keep s2
      refine ⟨x.g, p2, [.inr "file", .inr name], kvs, rfl, ok.g, hs2.a, upd_same, .file nm, by omega, fun H3 v kvs3 k3 a3 n3 l3 d3 => ?_⟩
      have hs3 := hs2.asked ok k3 a3 n3 l3 (c' := c + 8) (by omega) (by omega)
      have fin := fun (v : V) hv => q H3 v kvs3 ((Keep.of s2).trans (keepD k3)) (hs3.weak (fun _ => rfl) (Int.le_refl _) (by omega)) hv
      rcases at_file ok.g.ok (m := name) with e | ⟨is, e, il, ir⟩
      · rw [e] at d3
        have := d3.noneI
        subst this
        exact ⟨_, rfl, rfl, _, rfl, ifF rfl (fin .non (.inl rfl))⟩
      · rw [e] at d3
        obtain ⟨L, us, rfl, eL, hus⟩ := d3.tupI
        have := ints_v hus
        subst this
        refine ⟨_, rfl, rfl, _, rfl, ifT rfl ?_⟩
        refine ⟨_, rfl, _, rfl, L, _, rfl, .inr (SqT.of eL), _, _, rfl, rfl, _, rfl, ?_⟩
        by_cases hk : k < ((is.map V.int).length : Int)
        · refine ifT (decide_eq_true hk) ?_
          rw [List.length_map] at hk
          have hk2 : k.toNat < is.length := by omega
          have hi : is[k.toNat]? = some is[k.toNat] := List.getElem?_eq_getElem hk2
          obtain ⟨i0, i9⟩ := ir _ (List.mem_of_getElem? hi)
          refine ⟨_, rfl, _, rfl, L, _, k, _, rfl, rfl, SqT.of eL, at_of (j := k.toNat) (by omega) (by rw [List.getElem?_map, hi]; rfl), fin _ (.inr ⟨_, rfl, i0, i9⟩)⟩
        · exact ifF (decide_eq_false hk) (fin .non (.inl rfl))
/-! ### all_cells -/
def spAllCells (K : PySem.W.Frag) : Sp := fun vs H Q _ => ∃ (x : Wh) (st op : Nat) (b : Bool) (c : Int) (kvs cvs : List (List Key × V)), vs = [.ref x.wk] ∧ WhOk K x ∧ St K x H st op b c kvs cvs ∧ ∀ H' v, L2.Same H H' → Q v H'
theorem sc_Walk_all_cells : FnScope ["self", "place"] ["self"] (defScope s_Walk_all_cells) := ⟨rfl, rfl, rfl, by decide +kernel, rfl, by decide +kernel, by decide +kernel⟩
theorem ok_Walk_all_cells (T : Tx w K mg) : Ok P w K mg base CX0 1 ("Walk", some "all_cells") ["self"] (spAllCells K) := by
  refine mkOk T.d_Walk_all_cells sc_Walk_all_cells (fun vs H Q E h => ?_) (fun _ _ _ _ _ _ us hl => match us, hl with | [_], _ => rfl) (fun cdv A outer s H vs Q E hr h => ?_)
  · obtain ⟨x, st, op, b, c, kvs, cvs, rfl, _⟩ := h
    rfl
  · obtain ⟨x, st, op, b, c, kvs, cvs, rfl, ok, hs, q⟩ := h
    have fw := hs.few
    have line := sizeLine_eq
    obtain ⟨dx, ew⟩ := hs.w.wk
    have pl : ∀ k ∈ cvs.map (·.1), PlaceOk k := fun k hk => by
      obtain ⟨cv, h1, rfl⟩ := List.mem_map.mp hk
      obtain ⟨t, n, i, e1, _, h3, h4, h5, _⟩ := (hs.w.cen cv h1).ex
      rw [e1]
      exact .cell h3 h4 h5
    refine ⟨_, (pss_one (ps_ret (pe_tupleOf (by rfl) T.n_tuple (pe_lc (own := [("place", 1)]) (g := gName 1) (tt := tYes) rfl sc_Walk_all_cells.nd (pi_list (pe_callB (cr_sortD rfl) (by rfl) T.n_sorted bt_sorted (pa_cons (pe_fld (pv 0) rfl) pa_nil))) (blkOk_by (own := [("place", 1)]) (N := ["self", "place"]) (sc := defScope s_Walk_all_cells) (by decide +kernel)) (fun _ _ _ _ _ => (pg_name (i := 1) sc_Walk_all_cells.nd (by rfl) (Or.inl rfl))) (fun _ _ _ _ _ => pts_nil) (fun _ _ _ _ _ => (pe_tup (pa_cons (pv 1) (pa_cons (pe_dget (hu_of hr) (pe_fldK (K := K) rfl (pv 0) rfl) (pv 1) (fun _ _ => rfl)) pa_nil)))))))), ?_⟩
    refine ⟨_, rfl, x.wk, _, dx, _, V.ref x.C, rfl, ew, T.cls_Walk, T.a_Walk_cells, rfl, x.C, cvs, rfl, .inl hs.w.ce, fun k hk => (pl k hk).hd, fun k hk l hl => (pl k hk).cmp (pl l hl), fun L p pm pw at' np => ?_⟩
    have s1 : L2.Same H (upd H p (.lst (L.map fun q => V.ref q.1))) := (Same.refl H).up np
    have Ll : L.length = cvs.length := by
      have h1 := pm.length_eq
      rwa [List.length_map, List.length_map] at h1
    refine ⟨p, rfl, ⟨_, SqL.of upd_same⟩, fun F nF => lc_it (walk_list (K := K) (a := p) (xs := L.map fun q => V.ref q.1)) (GP (upd H p (.lst (L.map fun q => V.ref q.1))) F fun i acc H' => acc.length = i) (GP.start nF rfl) (fun i H' _ g => SqL.of (g.1 _ _ upd_same)) ?_ ?_⟩
    · rintro i v H1 H2 hi ⟨g1, acc, g2, g3⟩ ⟨rfl, ey⟩
      obtain ⟨r, hr', rfl⟩ := map_get ey
      have xm : r.2 ∈ cvs.map (·.1) := pm.mem_iff.mp (List.mem_map_of_mem (List.mem_of_getElem? hr'))
      have ex := at' r (List.mem_of_getElem? hr')
      have s2 := s1.trans g1
      obtain ⟨v, hv⟩ : ∃ v, valV cvs r.2 = some v := Option.isSome_iff_exists.mp (valV_in xm)
      refine ⟨rfl, _, rfl, _, rfl, x.wk, _, dx, _, V.ref x.C, rfl, s2 _ _ ew, T.cls_Walk, T.a_Walk_cells, rfl, _, rfl, x.C, v, rfl, .inr ⟨cvs, r.2, r.1, .inl (s2 _ _ hs.w.ce), rfl, s2 _ _ ex, hv.symm⟩, by show 2 ≤ sizeLine; decide, fun z nz => ?_⟩
      refine GP.push nF g1 g2 ((Same.refl _).up nz) (by have := get_lt hr'; omega) ?_
      rw [List.length_append, g3] <;> rfl
    · rintro H1 ⟨g1, acc, g2, g3⟩
      exact .inl ⟨F, _, rfl, SqL.of g2, fun R nR => q _ _ ((s1.trans g1).up nR)⟩
end
end Ta
namespace Ta
open PySem PySem.Spec PyProof.Rows L2 DX
def clv (r : Nat) : Nat := 15 + 16 * r
def wlv (r n : Nat) : Nat := clv r + 2 + 4 * n
/-! ### the promises of a walk's methods; r: how many calls may still be opened; n: how deep the expression is -/
def spWork (K : PySem.W.Frag) (r n : Nat) : Sp := fun vs H Q E => ∃ (x : Wh) (ev : V) (d : PyData) (m : Str) (nv : V) (st : Nat) (b : Bool) (c : Int) (kvs cvs : List (List Key × V)), vs = [.ref x.wk, ev, .str m, nv] ∧ r ≤ 12 ∧ WhOk K x ∧ St K x H st (12 - r) b c kvs cvs ∧ Dq H ev d ∧ Ex n d ∧ NameOk m ∧ NumsAt H nv ∧
  Qp K x H (12 - r) b c Q ∧ Xp K x H b E
def spWorkAll (K : PySem.W.Frag) (r n : Nat) : Sp := fun vs H Q E => ∃ (x : Wh) (ea : Addr) (us : List V) (ds : List PyData) (m : Str) (nv : V) (st : Nat) (b : Bool) (c : Int) (kvs cvs : List (List Key × V)), vs = [.ref x.wk, .ref ea, .str m, nv] ∧ r ≤ 12 ∧ WhOk K x ∧ St K x H st (12 - r) b c kvs cvs ∧
  H ea = some (.tup us) ∧ DqAll H us ds ∧ ds.length ≤ 4 ∧ (∀ d ∈ ds, Ex n d) ∧ NameOk m ∧ NumsAt H nv ∧
  (∀ (H' : Hp) (L : Addr) (is : List Int) (st' : Nat) (kvs' cvs' : List (List Key × V)), Keep x.S H H' → St K x H' st' (12 - r) b c kvs' cvs' → H' L = some (.lst (is.map V.int)) → is.length = ds.length → (∀ i ∈ is, 0 ≤ i ∧ i ≤ 999999) → Q (.ref L) H') ∧ Xp K x H b E
def spReckon (K : PySem.W.Frag) (r n : Nat) : Sp := fun vs H Q E => ∃ (x : Wh) (ev : V) (word : Str) (d1 d2 : PyData) (m : Str) (nv : V) (st : Nat) (b : Bool) (c : Int) (kvs cvs : List (List Key × V)), vs = [.ref x.wk, ev, .str m, nv] ∧ r ≤ 12 ∧ WhOk K x ∧ St K x H st (12 - r) b c kvs cvs ∧
  Dq H ev (.tuple [.str word, d1, d2]) ∧ Ex n d1 ∧ Ex n d2 ∧ NameOk m ∧ NumsAt H nv ∧ Qp K x H (12 - r) b c Q ∧ Xp K x H b E
/-- what goes on -/
inductive Goes (n : Nat) : PyData → Prop
  | if_ {d1 d2 d3 : PyData} : Ex n d1 → Ex n d2 → Ex n d3 → Goes n (.tuple [.str "if", d1, d2, d3])
  | stop {d1 : PyData} : Ex n d1 → Goes n (.tuple [.str "stop", d1])
  | call {f : Str} {ds : List PyData} : NameOk f → ds.length ≤ 4 → (∀ d ∈ ds, Ex n d) → Goes n (.tuple [.str "call", .str f, .tuple ds])
  | pick {d1 : PyData} {fs : List Str} {ds : List PyData} : Ex n d1 → 1 ≤ fs.length → fs.length ≤ 4 → (∀ f ∈ fs, NameOk f) → ds.length ≤ 4 → (∀ d ∈ ds, Ex n d) → Goes n (.tuple [.str "pick", d1, .tuple (fs.map .str), .tuple ds])
def spGoOn (K : PySem.W.Frag) (r n : Nat) : Sp := fun vs H Q E => ∃ (x : Wh) (ev : V) (d : PyData) (m : Str) (nv : V) (st : Nat) (b : Bool) (c : Int) (kvs cvs : List (List Key × V)), vs = [.ref x.wk, ev, .str m, nv] ∧ r ≤ 12 ∧ WhOk K x ∧ St K x H st (12 - r) b c kvs cvs ∧ c ≤ 0 ∧
  Dq H ev d ∧ Goes n d ∧ NameOk m ∧ NumsAt H nv ∧ Qp K x H (12 - r) b (c + 8) Q ∧ Xp K x H b E
inductive Looks (n : Nat) : PyData → Prop
  | clock : Looks n (.tuple [.str "clock"])
  | at_ {word name : Str} {d1 d2 : PyData} : word ≠ "clock" → NameOk name → Ex n d1 → Ex n d2 → Looks n (.tuple [.str word, .str name, d1, d2])
def spLook (K : PySem.W.Frag) (r n : Nat) : Sp := fun vs H Q E => ∃ (x : Wh) (ev : V) (d : PyData) (m : Str) (nv : V) (st : Nat) (b : Bool) (c : Int) (kvs cvs : List (List Key × V)), vs = [.ref x.wk, ev, .str m, nv] ∧ r ≤ 12 ∧ WhOk K x ∧ St K x H st (12 - r) b c kvs cvs ∧ c ≤ 0 ∧
  Dq H ev d ∧ Looks n d ∧ NameOk m ∧ NumsAt H nv ∧ Qp K x H (12 - r) b (c + 8) Q ∧ Xp K x H b E
def spCall (K : PySem.W.Frag) (r : Nat) : Sp := fun vs H Q E => ∃ (x : Wh) (m f : Str) (nv : V) (st : Nat) (b : Bool) (c : Int) (kvs cvs : List (List Key × V)), vs = [.ref x.wk, .str m, .str f, nv] ∧ r ≤ 12 ∧ WhOk K x ∧ St K x H st (12 - r) b c kvs cvs ∧ c ≤ 0 ∧ NameOk m ∧ NameOk f ∧ NumsAt H nv ∧
  Qp K x H (12 - r) true (c + 8) Q ∧ Xp K x H (b || decide (0 < r)) E
theorem Qp.mono {K : PySem.W.Frag} {x : Wh} {H H' : Hp} {op : Nat} {b b' : Bool} {c c' : Int} {Q : VK} (h : Qp K x H op b c Q) (k : Keep x.S H H') (hb : b = true → b' = true) (cc : c' ≤ c) (c8 : c ≤ 8) : Qp K x H' op b' c' Q :=
  fun H2 st' i kvs' cvs' k2 s i0 i9 => h H2 st' i kvs' cvs' (k.trans k2) (s.weak hb cc c8) i0 i9
section
variable {P : Program} {w : World} {K : PySem.W.Frag} {mg : Str → Option Value} {base : Heap}
theorem sc_Walk_work_all : FnScope ["self", "expressions", "m", "numbers", "worths", "expression"] ["self", "expressions", "m", "numbers"] (defScope s_Walk_work_all) := ⟨rfl, rfl, rfl, by decide +kernel, rfl, by decide +kernel, by decide +kernel⟩
theorem ok_Walk_work_all (T : Tx w K mg) (r n k : Nat) (ih : Ok P w K mg base (L2.CX P w) k ("Walk", some "work") ["self", "expression", "m", "numbers"] (spWork K r n)) : Ok P w K mg base (L2.CX P w) (k + 1) ("Walk", some "work_all") ["self", "expressions", "m", "numbers"] (spWorkAll K r n) := by
  obtain ⟨_, G_Walk_work, b_Walk_work, kp_Walk_work⟩ := ih
  refine mkOkX T.d_Walk_work_all sc_Walk_work_all (fun vs H Q E h => ?_) (fun _ _ _ _ _ _ us hl => match us, hl with | [_, _, _, _], _ => rfl) (fun cdv A outer s H vs Q E hr h => ?_)
  · obtain ⟨x, ea, us, ds, m, nv, st, b, c, kvs, cvs, rfl, _⟩ := h
    rfl
  · obtain ⟨x, ea, us, ds, m, nv, st, b, c, kvs, cvs, rfl, r12, ok, hs, eE, hd, l4, hx, hm, hn, q, xp⟩ := h
    have line := sizeLine_eq
    have len := hd.length
    refine ⟨_, (pss_cons (ps_set (i := 4) sc_Walk_work_all.nd (by rfl) (Or.inl rfl) (pe_lst pa_nil))
      (pss_cons (ps_for (passes_of rfl) rfl (pi_tup (pv 1)) (pg_name (i := 5) sc_Walk_work_all.nd (by rfl) (Or.inl rfl)) (pss_one (ps_expr (pe_bm PySem.F.plainAttrs_list PySem.F.slot_list_append PySem.F.type_list_append mt_append (pv 4) (pa_cons (pe_meth (pv 0) T.cls_Walk T.m_Walk_work G_Walk_work (hr.mono (by omega)) b_Walk_work .nil (passes_call (takes_of rfl rfl rfl rfl) (fun _ _ _ _ h => h)) (pa_cons (pv 5) (pa_cons (pv 2) (pa_cons (pv 3) pa_nil)))) pa_nil)))))
      (pss_one (ps_ret (pv 4))))), ?_⟩
    refine ⟨Nat.zero_le _, fun F nF => ?_⟩
    have s1 : L2.Same H (upd H F (.lst [])) := (Same.refl H).up nF
    have hs1 := hs.keep s1
    have nF0 : x.g.H0 F = none := hs.a.s0.free nF
    refine ⟨_, rfl, ea, rfl, ⟨_, SqT.of (s1 _ _ eE)⟩, for_it (walk_tup (K := K) (a := ea) (xs := us)) (fun i σ H' => ∃ (is : List Int) (st' : Nat) (kvs' cvs' : List (List Key × V)) (v5 : Option V), σ = [some (.ref x.wk), some (.ref ea), some (.str m), some nv, some (.ref F), v5] ∧ Keep x.S H H' ∧ H' F = some (.lst (is.map V.int)) ∧ is.length = i ∧ (∀ i ∈ is, 0 ≤ i ∧ i ≤ 999999) ∧ St K x H' st' (12 - r) b c kvs' cvs')
      ⟨[], st, kvs, cvs, none, rfl, Keep.of s1, upd_same, rfl, fun i hi => (nomatch hi), hs1⟩ (fun i σ H' _ ⟨_, _, _, _, _, _, k', _⟩ => SqT.of (hs.tups k' _ _ eE)) ?_ ?_⟩
    · rintro i v σ H1 H2 hi ⟨is, st', kvs', cvs', v5, rfl, k1, eF, il, ir, hs2⟩ ⟨rfl, ey⟩
      have hi2 : i < ds.length := by omega
      obtain ⟨d, hdi⟩ : ∃ d, ds[i]? = some d := ⟨_, List.getElem?_eq_getElem hi2⟩
      obtain ⟨v', hv', hd'⟩ := hd.get hdi
      obtain rfl : v = v' := Option.some.inj (ey.symm.trans hv')
      obtain ⟨dx, ew⟩ := hs2.w.wk
      refine ⟨_, rfl, .inl ⟨rfl, _, Or.inl (Or.inl eF)⟩, _, rfl, x.wk, dx, _, rfl, ew, rfl, _, rfl, _, rfl, _, rfl, x, v, d, m, nv, st', b, c, kvs', cvs', rfl, r12, ok, hs2, hd'.mono (hs.tups k1), hx d (List.mem_of_getElem? hdi), hm, hn.keep hs k1, fun H3 st3 j kvs3 cvs3 k3 hs3 j0 j9 => ?_, xp.mono k1 id⟩
      have eF3 := hs2.lst k3 eF
      refine ⟨F, _, _, rfl, rfl, eF3, by rw [List.length_map]; omega, is ++ [j], st3, kvs3, cvs3, _, rfl, (k1.trans k3).at0 nF, ?_, by rw [List.length_append, il]; rfl, fun z hz => ?_, hs3.put ok eF3 nF0⟩
      · rw [upd_same, List.map_append] <;> rfl
      · rcases List.mem_append.mp hz with hz | hz
        · exact ir z hz
        · rw [List.mem_singleton.mp hz]
          exact ⟨j0, j9⟩
    · rintro σ H1 ⟨is, st', kvs', cvs', v5, rfl, k1, eF, il, ir, hs2⟩
      exact ⟨_, rfl, q H1 F is st' kvs' cvs' k1 hs2 eF (by omega) ir⟩
theorem sc_Walk_reckon : FnScope ["self", "expression", "m", "numbers", "a", "b"] ["self", "expression", "m", "numbers"] (defScope s_Walk_reckon) := ⟨rfl, rfl, rfl, by decide +kernel, rfl, by decide +kernel, by decide +kernel⟩
theorem ok_Walk_reckon (T : Tx w K mg) (r n k : Nat) (ih : Ok P w K mg base (L2.CX P w) k ("Walk", some "work_all") ["self", "expressions", "m", "numbers"] (spWorkAll K r n)) : Ok P w K mg base (L2.CX P w) (k + 1) ("Walk", some "reckon") ["self", "expression", "m", "numbers"] (spReckon K r n) := by
  obtain ⟨_, G_Walk_work_all, b_Walk_work_all, kp_Walk_work_all⟩ := ih
  refine mkOkX T.d_Walk_reckon sc_Walk_reckon (fun vs H Q E h => ?_) (fun _ _ _ _ _ _ us hl => match us, hl with | [_, _, _, _], _ => rfl) (fun cdv A outer s H vs Q E hr h => ?_)
  · obtain ⟨x, ev, word, d1, d2, m, nv, st, b, c, kvs, cvs, rfl, _⟩ := h
    rfl
  · obtain ⟨x, ev, word, d1, d2, m, nv, st, b, c, kvs, cvs, rfl, r12, ok, hs, hd, x1, x2, hm, hn, q, xp⟩ := h
    obtain ⟨a, us, rfl, ea, hus⟩ := hd.tupI
    cases hus with
    | @cons v0 vs0 _ _ h0 hr0 =>
    cases hr0 with
    | @cons v1 vs1 _ _ h1 hr1 =>
    cases hr1 with
    | @cons v2 vs2 _ _ h2 hr2 =>
    cases hr2
    have e0 := h0.strI
    subst e0
    obtain ⟨dx, ew⟩ := hs.w.wk
    refine ⟨_, (pss_cons (ps_asg (pe_meth (pv 0) T.cls_Walk T.m_Walk_work_all G_Walk_work_all (hr.mono (by omega)) b_Walk_work_all .nil (passes_call (takes_of rfl rfl rfl rfl) (fun _ _ _ _ h => h)) (pa_cons (pe_slice sl_tup (pv 1) (po_some pe_int) po_none) (pa_cons (pv 2) (pa_cons (pv 3) pa_nil)))) (pg_lst rfl (pgs_cons (pg_name (i := 4) sc_Walk_reckon.nd (by rfl) (Or.inl rfl)) (pgs_cons (pg_name (i := 5) sc_Walk_reckon.nd (by rfl) (Or.inl rfl)) pgs_nil))))
      (pss_cons (ps_if (pt_cmpR op_eq (pe_ix ix_tup (pv 1) pe_int (fun _ _ => rfl)) pe_str (nomark _)) (pss_one (ps_ret (pe_op op_mod (pe_op op_add (pv 4) (pv 5)) (pe_gi T.i_ROUND)))) pss_nil)
      (pss_cons (ps_if (pt_cmpR op_eq (pe_ix ix_tup (pv 1) pe_int (fun _ _ => rfl)) pe_str (nomark _)) (pss_one (ps_ret (pe_op op_mod (pe_op op_sub (pv 4) (pv 5)) (pe_gi T.i_ROUND)))) pss_nil)
      (pss_cons (ps_if (pt_cmpR op_eq (pe_ix ix_tup (pv 1) pe_int (fun _ _ => rfl)) pe_str (nomark _)) (pss_one (ps_ret (pe_op op_mod (pe_op op_mul (pv 4) (pv 5)) (pe_gi T.i_ROUND)))) pss_nil)
      (pss_cons (ps_if (pt_cmpR op_eq (pe_ix ix_tup (pv 1) pe_int (fun _ _ => rfl)) pe_str (nomark _)) (pss_one (ps_ret (pe_callTy call_int1 (by rfl) T.n_int bt_int (pa_cons (pe_cmpR op_lt (pv 4) (pv 5) (nomark _)) pa_nil)))) pss_nil)
      (pss_one (ps_ret (pe_callTy call_int1 (by rfl) T.n_int bt_int (pa_cons (pe_cmpR op_eq (pv 4) (pv 5) (nomark _)) pa_nil))))))))), ?_⟩
    refine ⟨_, rfl, x.wk, dx, _, rfl, ew, rfl, _, rfl, _, rfl, a, _, rfl, SqT.of ea, ?_, fun p np => ?_⟩
    · rintro ⟨z, _⟩
      exact absurd z (show ¬ (1 : Nat) = 0 by decide)
    · have s1 : L2.Same H (upd H p (.tup [v1, v2])) := (Same.refl H).up np
      refine ⟨_, rfl, _, rfl, x, p, [v1, v2], [d1, d2], m, nv, st, b, c, kvs, cvs, rfl, r12, ok, hs.keep s1, upd_same, .cons (h1.mono (Tups.of s1)) (.cons (h2.mono (Tups.of s1)) .nil), (show 2 ≤ 4 by decide), fun d hd' => ?_, hm, hn.keep hs (Keep.of s1), fun H2 L is st2 kvs2 cvs2 k2 hs2 eL il ir => ?_, xp.mono (Keep.of s1) id⟩
      · rcases List.mem_cons.mp hd' with rfl | hd'
        · exact x1
        · rw [List.mem_singleton.mp hd']
          exact x2
      · match is, il, ir, eL with
        | [i, j], _, ir, eL =>
        have k3 : Keep x.S H H2 := (Keep.of s1).trans k2
        have e2 := SqT.of (K := K) (hs.tups k3 _ _ ea)
        obtain ⟨i0, i9⟩ := ir i List.mem_cons_self
        obtain ⟨j0, j9⟩ := ir j (List.mem_cons_of_mem _ List.mem_cons_self)
        have fin : ∀ z : Int, 0 ≤ z → z ≤ 999999 → Q (.int z) H2 := fun z z0 z9 => q H2 st2 z kvs2 cvs2 k3 hs2 z0 z9
        have md : ∀ z : Int, 0 ≤ z % 1000000 ∧ z % 1000000 ≤ 999999 := fun z => by omega
        have b01 : ∀ t : Bool, 0 ≤ (if t = true then (1 : Int) else 0) ∧ (if t = true then (1 : Int) else 0) ≤ 999999 := fun t => by cases t <;> decide
        refine ⟨L, _, rfl, SqL.of eL, rfl, _, _, rfl, _, _, rfl, rfl, ?_⟩
        refine ⟨_, rfl, a, _, 0, _, rfl, rfl, e2, at_of (j := 0) rfl rfl, rfl, _, rfl, ?_⟩
        by_cases w1 : word = "add"
        · refine decT (by rw [w1]) ⟨_, rfl, _, rfl, _, _, rfl, rfl, _, _, rfl, rfl, (show (0 : Int) < 1000000 by decide), fin _ (md _).1 (md _).2⟩
        · refine decF (fun z => w1 (V.str.inj z)) ?_
          refine ⟨_, rfl, a, _, 0, _, rfl, rfl, e2, at_of (j := 0) rfl rfl, rfl, _, rfl, ?_⟩
          by_cases w2 : word = "sub"
          · refine decT (by rw [w2]) ⟨_, rfl, _, rfl, _, _, rfl, rfl, _, _, rfl, rfl, (show (0 : Int) < 1000000 by decide), fin _ (md _).1 (md _).2⟩
          · refine decF (fun z => w2 (V.str.inj z)) ?_
            refine ⟨_, rfl, a, _, 0, _, rfl, rfl, e2, at_of (j := 0) rfl rfl, rfl, _, rfl, ?_⟩
            by_cases w3 : word = "mul"
            · refine decT (by rw [w3]) ⟨_, rfl, _, rfl, _, _, rfl, rfl, .inl ⟨by omega, by omega⟩, _, _, rfl, rfl, (show (0 : Int) < 1000000 by decide), fin _ (md _).1 (md _).2⟩
            · refine decF (fun z => w3 (V.str.inj z)) ?_
              refine ⟨_, rfl, a, _, 0, _, rfl, rfl, e2, at_of (j := 0) rfl rfl, rfl, _, rfl, ?_⟩
              by_cases w4 : word = "less"
              · refine decT (by rw [w4]) ⟨_, rfl, _, rfl, _, _, rfl, rfl, .inr ⟨_, rfl, fin _ (b01 _).1 (b01 _).2⟩⟩
              · exact decF (fun z => w4 (V.str.inj z)) ⟨_, rfl, _, rfl, rfl, .inr ⟨_, rfl, fin _ (b01 _).1 (b01 _).2⟩⟩
end
end Ta
namespace Ta
open PySem PySem.Spec PyProof.Rows L2 DX
section
variable {P : Program} {w : World} {K : PySem.W.Frag} {mg : Str → Option Value} {base : Heap}
theorem sc_Walk_go_on : FnScope ["self", "expression", "m", "numbers", "chosen", "k", "worths"] ["self", "expression", "m", "numbers"] (defScope s_Walk_go_on) := ⟨rfl, rfl, rfl, by decide +kernel, rfl, by decide +kernel, by decide +kernel⟩
theorem ok_Walk_go_on (T : Tx w K mg) (r n k : Nat) (k2 : 2 ≤ k) (ih : Ok P w K mg base (L2.CX P w) k ("Walk", some "work") ["self", "expression", "m", "numbers"] (spWork K r n)) (ih2 : Ok P w K mg base (L2.CX P w) k ("Walk", some "work_all") ["self", "expressions", "m", "numbers"] (spWorkAll K r n))
    (ih3 : Ok P w K mg base (L2.CX P w) k ("Walk", some "call") ["self", "m", "f", "numbers"] (spCall K r)) : Ok P w K mg base (L2.CX P w) (k + 1) ("Walk", some "go_on") ["self", "expression", "m", "numbers"] (spGoOn K r n) := by
  obtain ⟨_, G_Walk_work, b_Walk_work, kp_Walk_work⟩ := ih
  obtain ⟨_, G_Walk_work_all, b_Walk_work_all, kp_Walk_work_all⟩ := ih2
  obtain ⟨_, G_Walk_call, b_Walk_call, kp_Walk_call⟩ := ih3
  obtain ⟨_, G_Ended___init__, b_Ended___init__, kp_Ended___init__⟩ := ok_Ended___init__ (P := P) (base := base) T
  refine mkOkX T.d_Walk_go_on sc_Walk_go_on (fun vs H Q E h => ?_) (fun _ _ _ _ _ _ us hl => match us, hl with | [_, _, _, _], _ => rfl) (fun cdv A outer s H vs Q E hr h => ?_)
  · obtain ⟨x, ev, d, m, nv, st, b, c, kvs, cvs, rfl, _⟩ := h
    rfl
  · obtain ⟨x, ev, d, m, nv, st, b, c, kvs, cvs, rfl, r12, ok, hs, c0, hd, hg, hm, hn, q, xp⟩ := h
    obtain ⟨dx, ew⟩ := hs.w.wk
    refine ⟨_, (pss_cons (ps_if (pt_cmpR op_eq (pe_ix ix_tup (pv 1) pe_int (fun _ _ => rfl)) pe_str (nomark _)) (pss_cons (ps_set (i := 4) sc_Walk_go_on.nd (by rfl) (Or.inl rfl) (pe_op op_add pe_int (pe_callTy call_int1 (by rfl) T.n_int bt_int (pa_cons (pe_cmpR op_eq (pe_meth (pv 0) T.cls_Walk T.m_Walk_work G_Walk_work (hr.mono (by omega)) b_Walk_work .nil (passes_call (takes_of rfl rfl rfl rfl) (fun _ _ _ _ h => h)) (pa_cons (pe_ix ix_tup (pv 1) pe_int (fun _ _ => rfl)) (pa_cons (pv 2) (pa_cons (pv 3) pa_nil)))) pe_int (nomark _)) pa_nil))))
      (pss_one (ps_ret (pe_meth (pv 0) T.cls_Walk T.m_Walk_work G_Walk_work (hr.mono (by omega)) b_Walk_work .nil (passes_call (takes_of rfl rfl rfl rfl) (fun _ _ _ _ h => h)) (pa_cons (pe_ix ix_tup (pv 1) (pv 4) (fun _ _ => rfl)) (pa_cons (pv 2) (pa_cons (pv 3) pa_nil))))))) pss_nil)
      (pss_cons (ps_if (pt_cmpR op_eq (pe_ix ix_tup (pv 1) pe_int (fun _ _ => rfl)) pe_str (nomark _)) (pss_one (ps_raise rfl (takes_of rfl rfl rfl rfl) (pmk_oex T.oex T.i_init.1 T.i_init.2 G_Ended___init__ (hr.mono (by omega)) b_Ended___init__ .nil pass0 (by rfl) T.g_Ended (pa_cons (pe_tup (pa_cons pe_str (pa_cons (pe_meth (pv 0) T.cls_Walk T.m_Walk_work G_Walk_work (hr.mono (by omega)) b_Walk_work .nil (passes_call (takes_of rfl rfl rfl rfl) (fun _ _ _ _ h => h)) (pa_cons (pe_ix ix_tup (pv 1) pe_int (fun _ _ => rfl)) (pa_cons (pv 2) (pa_cons (pv 3) pa_nil)))) pa_nil))) pa_nil)))) pss_nil)
      (pss_cons (ps_if (pt_cmpR op_eq (pe_ix ix_tup (pv 1) pe_int (fun _ _ => rfl)) pe_str (nomark _)) (pss_one (ps_ret (pe_meth (pv 0) T.cls_Walk T.m_Walk_call G_Walk_call (hr.mono (by omega)) b_Walk_call .nil (passes_call (takes_of rfl rfl rfl rfl) (fun _ _ _ _ h => h)) (pa_cons (pv 2) (pa_cons (pe_ix ix_tup (pv 1) pe_int (fun _ _ => rfl)) (pa_cons (pe_meth (pv 0) T.cls_Walk T.m_Walk_work_all G_Walk_work_all (hr.mono (by omega)) b_Walk_work_all .nil (passes_call (takes_of rfl rfl rfl rfl) (fun _ _ _ _ h => h)) (pa_cons (pe_ix ix_tup (pv 1) pe_int (fun _ _ => rfl)) (pa_cons (pv 2) (pa_cons (pv 3) pa_nil)))) pa_nil)))))) pss_nil)
      (pss_cons (ps_set (i := 5) sc_Walk_go_on.nd (by rfl) (Or.inl rfl) (pe_meth (pv 0) T.cls_Walk T.m_Walk_work G_Walk_work (hr.mono (by omega)) b_Walk_work .nil (passes_call (takes_of rfl rfl rfl rfl) (fun _ _ _ _ h => h)) (pa_cons (pe_ix ix_tup (pv 1) pe_int (fun _ _ => rfl)) (pa_cons (pv 2) (pa_cons (pv 3) pa_nil)))))
      (pss_cons (ps_set (i := 6) sc_Walk_go_on.nd (by rfl) (Or.inl rfl) (pe_meth (pv 0) T.cls_Walk T.m_Walk_work_all G_Walk_work_all (hr.mono (by omega)) b_Walk_work_all .nil (passes_call (takes_of rfl rfl rfl rfl) (fun _ _ _ _ h => h)) (pa_cons (pe_ix ix_tup (pv 1) pe_int (fun _ _ => rfl)) (pa_cons (pv 2) (pa_cons (pv 3) pa_nil)))))
      (pss_one (ps_ret (pe_meth (pv 0) T.cls_Walk T.m_Walk_call G_Walk_call (hr.mono (by omega)) b_Walk_call .nil (passes_call (takes_of rfl rfl rfl rfl) (fun _ _ _ _ h => h)) (pa_cons (pv 2) (pa_cons (pe_ix ix_tup (pe_ix ix_tup (pv 1) pe_int (fun _ _ => rfl)) (pe_op op_mod (pv 5) (pe_callB call_len_seq (by rfl) T.n_len bt_len (pa_cons (pe_ix ix_tup (pv 1) pe_int (fun _ _ => rfl)) pa_nil))) (fun _ _ => rfl)) (pa_cons (pv 6) pa_nil))))))))))), ?_⟩
    cases hg with
    | @if_ d1 d2 d3 x1 x2 x3 =>
      obtain ⟨a, us, rfl, ea, hus⟩ := hd.tupI
      cases hus with
      | @cons v0 vs0 _ _ h0 hr0 =>
      cases hr0 with
      | @cons v1 vs1 _ _ h1 hr1 =>
      cases hr1 with
      | @cons v2 vs2 _ _ h2 hr2 =>
      cases hr2 with
      | @cons v3 vs3 _ _ h3 hr3 =>
      cases hr3
      have e0 := h0.strI
      subst e0
      have eS := SqT.of (K := K) ea
      refine ⟨_, rfl, a, _, 0, _, rfl, rfl, eS, at_of (j := 0) rfl rfl, rfl, _, rfl, decT rfl ?_⟩
      refine ⟨_, rfl, x.wk, dx, _, rfl, ew, rfl, _, rfl, a, _, 1, _, rfl, rfl, eS, at_of (j := 1) rfl rfl, _, rfl, _, rfl, x, v1, d1, m, nv, st, b, c, kvs, cvs, rfl, r12, ok, hs, h1, x1, hm, hn, fun H1 st1 i kvs1 cvs1 k1 hs1 i0 i9 => ?_, xp⟩
      refine ⟨rfl, .inr ⟨_, rfl, _, _, rfl, rfl, ?_⟩⟩
      have eS1 := SqT.of (K := K) (hs.tups k1 _ _ ea)
      obtain ⟨dx1, ew1⟩ := hs1.w.wk
      cases t : decide (V.int i = V.int 0) with
      | true =>
        refine ⟨_, rfl, x.wk, dx1, _, rfl, ew1, rfl, _, rfl, _, rfl, a, _, 3, _, rfl, rfl, eS1, at_of (j := 3) rfl rfl, _, rfl, _, rfl, x, v3, d3, m, nv, st1, b, c, kvs1, cvs1, rfl, r12, ok, hs1, h3.mono (hs.tups k1), x3, hm, hn.keep hs k1, q.mono k1 id (by omega) (by omega), xp.mono k1 id⟩
      | false =>
        refine ⟨_, rfl, x.wk, dx1, _, rfl, ew1, rfl, _, rfl, _, rfl, a, _, 2, _, rfl, rfl, eS1, at_of (j := 2) rfl rfl, _, rfl, _, rfl, x, v2, d2, m, nv, st1, b, c, kvs1, cvs1, rfl, r12, ok, hs1, h2.mono (hs.tups k1), x2, hm, hn.keep hs k1, q.mono k1 id (by omega) (by omega), xp.mono k1 id⟩
    | @stop d1 x1 =>
      obtain ⟨a, us, rfl, ea, hus⟩ := hd.tupI
      cases hus with
      | @cons v0 vs0 _ _ h0 hr0 =>
      cases hr0 with
      | @cons v1 vs1 _ _ h1 hr1 =>
      cases hr1
      have e0 := h0.strI
      subst e0
      have eS := SqT.of (K := K) ea
      refine ⟨_, rfl, a, _, 0, _, rfl, rfl, eS, at_of (j := 0) rfl rfl, rfl, _, rfl, decF (by decide +kernel) ?_⟩
      refine ⟨_, rfl, a, _, 0, _, rfl, rfl, eS, at_of (j := 0) rfl rfl, rfl, _, rfl, decT rfl ?_⟩
      refine ⟨_, rfl, x.wk, dx, _, rfl, ew, rfl, _, rfl, a, _, 1, _, rfl, rfl, eS, at_of (j := 1) rfl rfl, _, rfl, _, rfl, x, v1, d1, m, nv, st, b, c, kvs, cvs, rfl, r12, ok, hs, h1, x1, hm, hn, fun H1 st1 i kvs1 cvs1 k1 hs1 i0 i9 => ?_, xp⟩
      refine ⟨by show 2 ≤ sizeLine; decide, fun p np => ⟨(show 1 ≤ 1000 by decide), raised (hs1.keep ((Same.refl H1).up np)) (xp.mono (k1.trans (Keep.of ((Same.refl H1).up np))) id) _⟩⟩
    | @call f ds nf l4 xd =>
      obtain ⟨a, us, rfl, ea, hus⟩ := hd.tupI
      cases hus with
      | @cons v0 vs0 _ _ h0 hr0 =>
      cases hr0 with
      | @cons v1 vs1 _ _ h1 hr1 =>
      cases hr1 with
      | @cons v2 vs2 _ _ h2 hr2 =>
      cases hr2
      have e0 := h0.strI
      subst e0
      have e1 := h1.strI
      subst e1
      obtain ⟨aa, as, rfl, eaa, has⟩ := h2.tupI
      have eS := SqT.of (K := K) ea
      refine ⟨_, rfl, a, _, 0, _, rfl, rfl, eS, at_of (j := 0) rfl rfl, rfl, _, rfl, decF (by decide +kernel) ?_⟩
      refine ⟨_, rfl, a, _, 0, _, rfl, rfl, eS, at_of (j := 0) rfl rfl, rfl, _, rfl, decF (by decide +kernel) ?_⟩
      refine ⟨_, rfl, a, _, 0, _, rfl, rfl, eS, at_of (j := 0) rfl rfl, rfl, _, rfl, decT rfl ?_⟩
      refine ⟨_, rfl, x.wk, dx, _, rfl, ew, rfl, _, rfl, _, rfl, a, _, 1, _, rfl, rfl, eS, at_of (j := 1) rfl rfl, _, rfl, x.wk, dx, _, rfl, ew, rfl, _, rfl, a, _, 2, _, rfl, rfl, eS, at_of (j := 2) rfl rfl, _, rfl, _, rfl, x, aa, as, ds, m, nv, st, b, c, kvs, cvs, rfl, r12, ok, hs, eaa, has, l4, xd, hm, hn, fun H1 L is st1 kvs1 cvs1 k1 hs1 eL il ir => ?_, xp⟩
      exact ⟨x, m, f, .ref L, st1, b, c, kvs1, cvs1, rfl, r12, ok, hs1, c0, hm, nf, ⟨L, is, rfl, .inl eL, by omega, ir⟩, q.mono k1 (fun _ => rfl) (Int.le_refl _) (by omega), xp.mono k1 (fun z => by rw [z]; rfl)⟩
    | @pick d1 fs ds x1 f1 f4 nf l4 xd =>
      obtain ⟨a, us, rfl, ea, hus⟩ := hd.tupI
      cases hus with
      | @cons v0 vs0 _ _ h0 hr0 =>
      cases hr0 with
      | @cons v1 vs1 _ _ h1 hr1 =>
      cases hr1 with
      | @cons v2 vs2 _ _ h2 hr2 =>
      cases hr2 with
      | @cons v3 vs3 _ _ h3 hr3 =>
      cases hr3
      have e0 := h0.strI
      subst e0
      obtain ⟨fa', fvs, rfl, efa, hfs⟩ := h2.tupI
      have e2 := strs_v hfs
      subst e2
      obtain ⟨aa, as, rfl, eaa, has⟩ := h3.tupI
      have eS := SqT.of (K := K) ea
      refine ⟨_, rfl, a, _, 0, _, rfl, rfl, eS, at_of (j := 0) rfl rfl, rfl, _, rfl, decF (by decide +kernel) ?_⟩
      refine ⟨_, rfl, a, _, 0, _, rfl, rfl, eS, at_of (j := 0) rfl rfl, rfl, _, rfl, decF (by decide +kernel) ?_⟩
      refine ⟨_, rfl, a, _, 0, _, rfl, rfl, eS, at_of (j := 0) rfl rfl, rfl, _, rfl, decF (by decide +kernel) ?_⟩
      refine ⟨_, rfl, x.wk, dx, _, rfl, ew, rfl, _, rfl, a, _, 1, _, rfl, rfl, eS, at_of (j := 1) rfl rfl, _, rfl, _, rfl, x, v1, d1, m, nv, st, b, c, kvs, cvs, rfl, r12, ok, hs, h1, x1, hm, hn, fun H1 st1 i kvs1 cvs1 k1 hs1 i0 i9 => ?_, xp⟩
      have eS1 := SqT.of (K := K) (hs.tups k1 _ _ ea)
      obtain ⟨dx1, ew1⟩ := hs1.w.wk
      refine ⟨_, rfl, x.wk, dx1, _, rfl, ew1, rfl, _, rfl, a, _, 3, _, rfl, rfl, eS1, at_of (j := 3) rfl rfl, _, rfl, _, rfl, x, aa, as, ds, m, nv, st1, b, c, kvs1, cvs1, rfl, r12, ok, hs1, hs.tups k1 _ _ eaa, DqAll.mono (hs.tups k1) has, l4, xd, hm, hn.keep hs k1, fun H2 L is st2 kvs2 cvs2 k2 hs2 eL il ir => ?_, xp.mono k1 id⟩
      have k3 := k1.trans k2
      have eS2 := SqT.of (K := K) (hs.tups k3 _ _ ea)
      have ef2 := SqT.of (K := K) (hs.tups k3 _ _ efa)
      obtain ⟨dx2, ew2⟩ := hs2.w.wk
      have fl : 0 < ((fs.map V.str).length : Int) := by rw [List.length_map]; omega
      have il2 : (i % ((fs.map V.str).length : Int)).toNat < fs.length := by
        have h5 := Int.emod_lt_of_pos i fl
        have h6 := Int.emod_nonneg i (Int.ne_of_gt fl)
        rw [List.length_map] at h5 h6 ⊢
        omega
      have hf : fs[(i % ((fs.map V.str).length : Int)).toNat]? = some fs[(i % ((fs.map V.str).length : Int)).toNat] := List.getElem?_eq_getElem il2
      refine ⟨_, rfl, x.wk, dx2, _, rfl, ew2, rfl, _, rfl, _, rfl, a, _, 2, _, rfl, rfl, eS2, at_of (j := 2) rfl rfl, _, rfl, _, rfl, a, _, 2, _, rfl, rfl, eS2, at_of (j := 2) rfl rfl, fa', _, rfl, .inr ef2, _, _, rfl, rfl, fl, fa', _, _, _, rfl, rfl, ef2, at_of (j := (i % ((fs.map V.str).length : Int)).toNat) (by have := Int.emod_nonneg i (Int.ne_of_gt fl); omega) (by rw [List.getElem?_map, hf]; rfl), _, rfl, ?_⟩
      exact ⟨x, m, _, .ref L, st2, b, c, kvs2, cvs2, rfl, r12, ok, hs2, c0, hm, nf _ (List.mem_of_getElem? hf), ⟨L, is, rfl, .inl eL, by omega, ir⟩, q.mono k3 (fun _ => rfl) (Int.le_refl _) (by omega), xp.mono k3 (fun z => by rw [z]; rfl)⟩
end
end Ta
namespace Ta
open PySem PySem.Spec PyProof.Rows L2 DX
theorem pno_inj {i j : Int} (h : i ≠ j) : ¬ V.int i = V.int j := fun z => h (V.int.inj z)
section
variable {P : Program} {w : World} {K : PySem.W.Frag} {mg : Str → Option Value} {base : Heap}
theorem sc_Walk_look : FnScope ["self", "expression", "m", "numbers", "told", "k", "worth"] ["self", "expression", "m", "numbers"] (defScope s_Walk_look) := ⟨rfl, rfl, rfl, by decide +kernel, rfl, by decide +kernel, by decide +kernel⟩
theorem ok_Walk_look (T : Tx w K mg) (r n k : Nat) (k2 : 11 ≤ k) (ih : Ok P w K mg base (L2.CX P w) k ("Walk", some "work") ["self", "expression", "m", "numbers"] (spWork K r n)) : Ok P w K mg base (L2.CX P w) (k + 1) ("Walk", some "look") ["self", "expression", "m", "numbers"] (spLook K r n) := by
  obtain ⟨_, G_Walk_work, b_Walk_work, kp_Walk_work⟩ := ih
  obtain ⟨_, G_WorldAsker_ask, b_WorldAsker_ask, kp_WorldAsker_ask⟩ := ok_WorldAsker_ask (P := P) (base := base) T
  obtain ⟨_, G_Walk_told_at, b_Walk_told_at, kp_Walk_told_at⟩ := ok_Walk_told_at (P := P) (base := base) T
  refine mkOkX T.d_Walk_look sc_Walk_look (fun vs H Q E h => ?_) (fun _ _ _ _ _ _ us hl => match us, hl with | [_, _, _, _], _ => rfl) (fun cdv A outer s H vs Q E hr h => ?_)
  · obtain ⟨x, ev, d, m, nv, st, b, c, kvs, cvs, rfl, _⟩ := h
    rfl
  · obtain ⟨x, ev, d, m, nv, st, b, c, kvs, cvs, rfl, r12, ok, hs, c0, hd, hg, hm, hn, q, xp⟩ := h
    obtain ⟨dx, ew⟩ := hs.w.wk
    have fw := hs.few
    refine ⟨_, (pss_cons (ps_if (pt_cmpR op_eq (pe_ix ix_tup (pv 1) pe_int (fun _ _ => rfl)) pe_str (nomark _)) (pss_cons (ps_set (i := 4) sc_Walk_look.nd (by rfl) (Or.inl rfl) (pe_meth (pe_fld (pv 0) rfl) T.cls_WorldAsker T.m_WorldAsker_ask G_WorldAsker_ask (hr.mono (by omega)) b_WorldAsker_ask .nil pass0 (pa_cons (pe_tup (pa_cons pe_str pa_nil)) pa_nil)))
      (pss_one (ps_ret (pe_ifExp (pt_cmpR op_isN (pv 4) pe_non (nomark _)) pe_int (pv 4))))) pss_nil)
      (pss_cons (ps_set (i := 5) sc_Walk_look.nd (by rfl) (Or.inl rfl) (pe_meth (pv 0) T.cls_Walk T.m_Walk_work G_Walk_work (hr.mono (by omega)) b_Walk_work .nil (passes_call (takes_of rfl rfl rfl rfl) (fun _ _ _ _ h => h)) (pa_cons (pe_ix ix_tup (pv 1) pe_int (fun _ _ => rfl)) (pa_cons (pv 2) (pa_cons (pv 3) pa_nil)))))
      (pss_cons (ps_if (pt_cmpR op_eq (pe_ix ix_tup (pv 1) pe_int (fun _ _ => rfl)) pe_str (nomark _)) (pss_cons (ps_set (i := 6) sc_Walk_look.nd (by rfl) (Or.inl rfl) (pe_meth (pv 0) T.cls_Walk T.m_Walk_work G_Walk_work (hr.mono (by omega)) b_Walk_work .nil (passes_call (takes_of rfl rfl rfl rfl) (fun _ _ _ _ h => h)) (pa_cons (pe_ix ix_tup (pv 1) pe_int (fun _ _ => rfl)) (pa_cons (pv 2) (pa_cons (pv 3) pa_nil)))))
      (pss_cons (ps_dput (hu_of hr) (pe_fld (pv 0) rfl) (pe_tup (pa_cons pe_str (pa_cons (pe_ix ix_tup (pv 1) pe_int (fun _ _ => rfl)) (pa_cons (pv 5) pa_nil)))) (pv 6) rfl)
      (pss_one (ps_ret (pv 6))))) pss_nil)
      (pss_cons (ps_set (i := 4) sc_Walk_look.nd (by rfl) (Or.inl rfl) (pe_meth (pv 0) T.cls_Walk T.m_Walk_told_at G_Walk_told_at (hr.mono (by omega)) b_Walk_told_at .nil pass0 (pa_cons (pe_ix ix_tup (pv 1) pe_int (fun _ _ => rfl)) (pa_cons (pe_ix ix_tup (pv 1) pe_int (fun _ _ => rfl)) (pa_cons (pv 5) pa_nil)))))
      (pss_one (ps_ret (pe_ifExp (pt_cmpR op_isN (pv 4) pe_non (nomark _)) (pe_meth (pv 0) T.cls_Walk T.m_Walk_work G_Walk_work (hr.mono (by omega)) b_Walk_work .nil (passes_call (takes_of rfl rfl rfl rfl) (fun _ _ _ _ h => h)) (pa_cons (pe_ix ix_tup (pv 1) pe_int (fun _ _ => rfl)) (pa_cons (pv 2) (pa_cons (pv 3) pa_nil)))) (pv 4)))))))), ?_⟩
    cases hg with
    | clock =>
      obtain ⟨a, us, rfl, ea, hus⟩ := hd.tupI
      cases hus with
      | @cons v0 vs0 _ _ h0 hr0 =>
      cases hr0
      have e0 := h0.strI
      subst e0
      have eS := SqT.of (K := K) ea
      obtain ⟨dxa, ea1⟩ := hs.a.as
      refine ⟨_, rfl, a, _, 0, _, rfl, rfl, eS, at_of (j := 0) rfl rfl, rfl, _, rfl, decT rfl ?_⟩
      refine ⟨_, rfl, x.wk, _, dx, _, V.ref x.g.a, rfl, ew, T.cls_Walk, T.a_Walk_asker, rfl, x.g.a, dxa, _, rfl, ea1, rfl, by show 1 ≤ sizeLine; decide, fun p np => ?_⟩
      have s1 := (Same.refl H).up (o := .tup [.str "clock"]) np
      have hs1 := hs.keep s1
      refine ⟨x.g, p, [.inr "clock"], kvs, rfl, ok.g, hs1.a, upd_same, .clock, by omega, fun H3 v kvs3 k3 a3 n3 l3 d3 => ?_⟩
      have hs3 := hs1.asked ok k3 a3 n3 l3 (c' := c + 8) (by omega) (by omega)
      have fin : ∀ i : Int, 0 ≤ i → i ≤ 999999 → Q (.int i) H3 := fun i i0 i9 => q H3 st i kvs3 cvs ((Keep.of s1).trans (keepD k3)) (hs3.weak (fun _ => rfl) (Int.le_refl _) (by omega)) i0 i9
      rcases at_clock ok.g.ok with e | ⟨i, e, i0, i9⟩
      · rw [e] at d3
        have := d3.noneI
        subst this
        exact ⟨_, rfl, rfl, _, rfl, ifT rfl (fin 0 (by decide) (by decide))⟩
      · rw [e] at d3
        have := d3.intI
        subst this
        exact ⟨_, rfl, rfl, _, rfl, ifF rfl ⟨_, rfl, fin i i0 i9⟩⟩
    | @at_ word name d1 d2 wc nm x1 x2 =>
      obtain ⟨a, us, rfl, ea, hus⟩ := hd.tupI
      cases hus with
      | @cons v0 vs0 _ _ h0 hr0 =>
      cases hr0 with
      | @cons v1 vs1 _ _ h1 hr1 =>
      cases hr1 with
      | @cons v2 vs2 _ _ h2 hr2 =>
      cases hr2 with
      | @cons v3 vs3 _ _ h3 hr3 =>
      cases hr3
      have e0 := h0.strI
      subst e0
      have e1 := h1.strI
      subst e1
      have eS := SqT.of (K := K) ea
      refine ⟨_, rfl, a, _, 0, _, rfl, rfl, eS, at_of (j := 0) rfl rfl, rfl, _, rfl, decF (fun z => wc (V.str.inj z)) ?_⟩
      refine ⟨_, rfl, x.wk, dx, _, rfl, ew, rfl, _, rfl, a, _, 2, _, rfl, rfl, eS, at_of (j := 2) rfl rfl, _, rfl, _, rfl, x, v2, d1, m, nv, st, b, c, kvs, cvs, rfl, r12, ok, hs, h2, x1, hm, hn, fun H1 st1 i kvs1 cvs1 k1 hs1 i0 i9 => ?_, xp⟩
      have eS1 := SqT.of (K := K) (hs.tups k1 _ _ ea)
      obtain ⟨dx1, ew1⟩ := hs1.w.wk
      refine ⟨_, rfl, a, _, 0, _, rfl, rfl, eS1, at_of (j := 0) rfl rfl, rfl, _, rfl, ?_⟩
      by_cases wp : word = "put"
      · refine decT (by rw [wp]) ?_
        refine ⟨_, rfl, x.wk, dx1, _, rfl, ew1, rfl, _, rfl, a, _, 3, _, rfl, rfl, eS1, at_of (j := 3) rfl rfl, _, rfl, _, rfl, x, v3, d2, m, nv, st1, b, c, kvs1, cvs1, rfl, r12, ok, hs1, h3.mono (hs.tups k1), x2, hm, hn.keep hs k1, fun H2 st2 j kvs2 cvs2 k2 hs2 j0 j9 => ?_, xp.mono k1 id⟩
        have k3 := k1.trans k2
        have eS2 := SqT.of (K := K) (hs.tups k3 _ _ ea)
        obtain ⟨dx2, ew2⟩ := hs2.w.wk
        refine ⟨_, rfl, _, rfl, x.wk, _, dx2, _, V.ref x.C, rfl, ew2, T.cls_Walk, T.a_Walk_cells, rfl, _, rfl, a, _, 1, _, rfl, rfl, eS2, at_of (j := 1) rfl rfl, _, rfl, by show 3 ≤ sizeLine; decide, fun p np => ?_⟩
        have s3 := (Same.refl H2).up (o := .tup [.str "cell", .str name, .int i]) np
        have hs3 := hs2.keep s3
        have line := sizeLine_eq
        have fw3 := hs3.few
        refine ⟨x.C, _, rfl, DPut.t (b := p) (k := [.inr "cell", .inr name, .inl i]) hs3.w.ce upd_same (by omega), ?_⟩
        have hs4 := hs3.setC ok (k := [.inr "cell", .inr name, .inl i]) (v := .int j) (c' := c + 8) ⟨name, i, j, rfl, rfl, nm, i0, i9, j0, j9⟩ (Int.le_refl _) (by omega)
        refine ⟨_, rfl, q _ st2 j kvs2 _ ((k3.trans (Keep.of s3)).at (List.mem_cons_of_mem _ (List.mem_cons_of_mem _ List.mem_cons_self))) hs4 j0 j9⟩
      · refine decF (fun z => wp (V.str.inj z)) ?_
        refine ⟨_, rfl, x.wk, dx1, _, rfl, ew1, rfl, _, rfl, a, _, 0, _, rfl, rfl, eS1, at_of (j := 0) rfl rfl, _, rfl, a, _, 1, _, rfl, rfl, eS1, at_of (j := 1) rfl rfl, _, rfl, x, word, name, i, st1, 12 - r, b, c, kvs1, cvs1, rfl, ok, hs1, c0, nm, i0, i9, fun H2 v kvs2 k2 hs2 hv => ?_⟩
        have k3 := k1.trans k2
        have eS2 := SqT.of (K := K) (hs.tups k3 _ _ ea)
        obtain ⟨dx2, ew2⟩ := hs2.w.wk
        rcases hv with rfl | ⟨j, rfl, j0, j9⟩
        · refine ⟨_, rfl, rfl, _, rfl, ifT rfl ?_⟩
          exact ⟨_, rfl, x.wk, dx2, _, rfl, ew2, rfl, _, rfl, a, _, 3, _, rfl, rfl, eS2, at_of (j := 3) rfl rfl, _, rfl, _, rfl, x, v3, d2, m, nv, st1, b, c + 8, kvs2, cvs1, rfl, r12, ok, hs2, h3.mono (hs.tups k3), x2, hm, hn.keep hs k3, q.mono k3 id (Int.le_refl _) (by omega), xp.mono k3 id⟩
        · exact ⟨_, rfl, rfl, _, rfl, ifF rfl ⟨_, rfl, q H2 st1 j kvs2 cvs1 k3 hs2 j0 j9⟩⟩
theorem sc_Walk_work : FnScope ["self", "expression", "m", "numbers", "word"] ["self", "expression", "m", "numbers"] (defScope s_Walk_work) := ⟨rfl, rfl, rfl, by decide +kernel, rfl, by decide +kernel, by decide +kernel⟩
theorem ok_work_never (T : Tx w K mg) : Ok P w K mg base (L2.CX P w) 1 ("Walk", some "work") ["self", "expression", "m", "numbers"] (fun _ _ _ _ => False) := by
  refine mkOkX T.d_Walk_work sc_Walk_work (k := 0) (fun vs H Q E h => ?_) (fun _ _ _ _ _ _ us hl => match us, hl with | [_, _, _, _], _ => rfl) (fun cdv A outer s H vs Q E hr h => ?_)
  · exact h.elim
  · exact h.elim
theorem sc_Walk_call : FnScope ["self", "m", "f", "numbers", "told", "worth"] ["self", "m", "f", "numbers"] (defScope s_Walk_call) := ⟨rfl, rfl, rfl, by decide +kernel, rfl, by decide +kernel, by decide +kernel⟩
theorem ok_call0 (T : Tx w K mg) : Ok P w K mg base (L2.CX P w) (clv 0) ("Walk", some "call") ["self", "m", "f", "numbers"] (spCall K 0) := by
  obtain ⟨_, G_met_from, b_met_from, kp_met_from⟩ := ok_met_from (P := P) (base := base) T
  obtain ⟨_, G_Ended___init__, b_Ended___init__, kp_Ended___init__⟩ := ok_Ended___init__ (P := P) (base := base) T
  obtain ⟨_, G_Walk_work, b_Walk_work, kp_Walk_work⟩ := ok_work_never (P := P) (base := base) T
  refine mkOkX T.d_Walk_call sc_Walk_call (k := 14) (fun vs H Q E h => ?_) (fun _ _ _ _ _ _ us hl => match us, hl with | [_, _, _, _], _ => rfl) (fun cdv A outer s H vs Q E hr h => ?_)
  · obtain ⟨x, m, f, nv, st, b, c, kvs, cvs, rfl, _⟩ := h
    rfl
  · obtain ⟨x, m, f, nv, st, b, c, kvs, cvs, rfl, r12, ok, hs, c0, hm, hf, hn, q, xp⟩ := h
    obtain ⟨dx, ew⟩ := hs.w.wk
    refine ⟨_, (pss_cons (ps_if (pt_cmpR op_eq (pe_fld (pv 0) rfl) (pe_fld (pv 0) rfl) (nomark _)) (pss_one (ps_raise rfl (takes_of rfl rfl rfl rfl) (pmk_oex T.oex T.i_init.1 T.i_init.2 G_Ended___init__ (hr.mono (by omega)) b_Ended___init__ .nil pass0 (by rfl) T.g_Ended (pa_cons (pe_tup (pa_cons pe_str (pa_cons pe_int pa_nil))) pa_nil)))) pss_nil)
      (pss_cons (ps_set (i := 4) sc_Walk_call.nd (by rfl) (Or.inl rfl) (pe_call G_met_from (hr.mono (by omega)) (by rfl) T.g_met_from kp_met_from b_met_from .nil pass0 (pa_cons (pe_fld (pv 0) rfl) (pa_cons (pv 1) (pa_cons (pv 2) pa_nil)))))
      (pss_cons (ps_if (pt_cmpR op_isN (pv 4) pe_non (nomark _)) (pss_one (ps_raise rfl (takes_of rfl rfl rfl rfl) (pmk_oex T.oex T.i_init.1 T.i_init.2 G_Ended___init__ (hr.mono (by omega)) b_Ended___init__ .nil pass0 (by rfl) T.g_Ended (pa_cons (pe_tup (pa_cons pe_str (pa_cons pe_int pa_nil))) pa_nil)))) pss_nil)
      (pss_cons (ps_fldaug (pv 0) pe_int in_add)
      (pss_cons (ps_set (i := 5) sc_Walk_call.nd (by rfl) (Or.inl rfl) (pe_meth (pv 0) T.cls_Walk T.m_Walk_work G_Walk_work (hr.mono (by omega)) b_Walk_work .nil (passes_call (takes_of rfl rfl rfl rfl) (fun _ _ _ _ h => h)) (pa_cons (pe_ix ix_tup (pv 4) pe_int (fun _ _ => rfl)) (pa_cons (pe_ix ix_tup (pv 4) pe_int (fun _ _ => rfl)) (pa_cons (pv 3) pa_nil)))))
      (pss_cons (ps_fldaug (pv 0) pe_int in_sub)
      (pss_one (ps_ret (pv 5))))))))), ?_⟩
    refine ⟨_, rfl, x.wk, _, dx, _, V.int 12, rfl, ew, T.cls_Walk, T.a_Walk_opened, rfl, _, rfl, x.wk, _, dx, _, V.int 12, rfl, ew, T.cls_Walk, T.a_Walk_most_open, rfl, rfl, _, rfl, decT rfl ?_⟩
    refine ⟨by show 2 ≤ sizeLine; decide, fun p np => ⟨(show 1 ≤ 1000 by decide), raised (hs.keep ((Same.refl H).up np)) (xp.mono (Keep.of ((Same.refl H).up np)) (fun z => by simpa using z)) _⟩⟩
theorem ok_callS (T : Tx w K mg) (r : Nat) (ih : Ok P w K mg base (L2.CX P w) (wlv r 3) ("Walk", some "work") ["self", "expression", "m", "numbers"] (spWork K r 3)) : Ok P w K mg base (L2.CX P w) (clv (r + 1)) ("Walk", some "call") ["self", "m", "f", "numbers"] (spCall K (r + 1)) := by
  obtain ⟨_, G_met_from, b_met_from, kp_met_from⟩ := ok_met_from (P := P) (base := base) T
  obtain ⟨_, G_Ended___init__, b_Ended___init__, kp_Ended___init__⟩ := ok_Ended___init__ (P := P) (base := base) T
  obtain ⟨_, G_Walk_work, b_Walk_work, kp_Walk_work⟩ := ih
  have lv : clv (r + 1) = (wlv r 3 + 1) + 1 := by unfold wlv clv; omega
  have l11 : 11 ≤ wlv r 3 := by unfold wlv clv; omega
  rw [lv]
  refine mkOkX T.d_Walk_call sc_Walk_call (fun vs H Q E h => ?_) (fun _ _ _ _ _ _ us hl => match us, hl with | [_, _, _, _], _ => rfl) (fun cdv A outer s H vs Q E hr h => ?_)
  · obtain ⟨x, m, f, nv, st, b, c, kvs, cvs, rfl, _⟩ := h
    rfl
  · obtain ⟨x, m, f, nv, st, b, c, kvs, cvs, rfl, r12, ok, hs, c0, hm, hf, hn, q, xp⟩ := h
    obtain ⟨dx, ew⟩ := hs.w.wk
    have fw := hs.few
    refine ⟨_, (pss_cons (ps_if (pt_cmpR op_eq (pe_fld (pv 0) rfl) (pe_fld (pv 0) rfl) (nomark _)) (pss_one (ps_raise rfl (takes_of rfl rfl rfl rfl) (pmk_oex T.oex T.i_init.1 T.i_init.2 G_Ended___init__ (hr.mono (by omega)) b_Ended___init__ .nil pass0 (by rfl) T.g_Ended (pa_cons (pe_tup (pa_cons pe_str (pa_cons pe_int pa_nil))) pa_nil)))) pss_nil)
      (pss_cons (ps_set (i := 4) sc_Walk_call.nd (by rfl) (Or.inl rfl) (pe_call G_met_from (hr.mono (by omega)) (by rfl) T.g_met_from kp_met_from b_met_from .nil pass0 (pa_cons (pe_fld (pv 0) rfl) (pa_cons (pv 1) (pa_cons (pv 2) pa_nil)))))
      (pss_cons (ps_if (pt_cmpR op_isN (pv 4) pe_non (nomark _)) (pss_one (ps_raise rfl (takes_of rfl rfl rfl rfl) (pmk_oex T.oex T.i_init.1 T.i_init.2 G_Ended___init__ (hr.mono (by omega)) b_Ended___init__ .nil pass0 (by rfl) T.g_Ended (pa_cons (pe_tup (pa_cons pe_str (pa_cons pe_int pa_nil))) pa_nil)))) pss_nil)
      (pss_cons (ps_fldaug (pv 0) pe_int in_add)
      (pss_cons (ps_set (i := 5) sc_Walk_call.nd (by rfl) (Or.inl rfl) (pe_meth (pv 0) T.cls_Walk T.m_Walk_work G_Walk_work (hr.mono (by omega)) b_Walk_work .nil (passes_call (takes_of rfl rfl rfl rfl) (fun _ _ _ _ h => h)) (pa_cons (pe_ix ix_tup (pv 4) pe_int (fun _ _ => rfl)) (pa_cons (pe_ix ix_tup (pv 4) pe_int (fun _ _ => rfl)) (pa_cons (pv 3) pa_nil)))))
      (pss_cons (ps_fldaug (pv 0) pe_int in_sub)
      (pss_one (ps_ret (pv 5))))))))), ?_⟩
    refine ⟨_, rfl, x.wk, _, dx, _, V.int ((12 - (r + 1) : Nat) : Int), rfl, ew, T.cls_Walk, T.a_Walk_opened, rfl, _, rfl, x.wk, _, dx, _, V.int 12, rfl, ew, T.cls_Walk, T.a_Walk_most_open, rfl, rfl, _, rfl, decF (pno_inj (by omega)) ?_⟩
    refine ⟨_, rfl, x.wk, _, dx, _, V.ref x.g.a, rfl, ew, T.cls_Walk, T.a_Walk_asker, rfl, _, rfl, _, rfl, x.g, m, f, kvs, rfl, ok.g, hs.a, hm, hf, by omega, fun H1 v kvs1 k1 a1 n1 l1 hv => ?_⟩
    have hs1 := hs.asked ok k1 a1 n1 l1 (c' := c + 8) (by omega) (by omega)
    have K1 := keepD (x := x) k1
    have tr : ∀ z : Bool, (b || decide (0 < r + 1)) = true := fun _ => by
      rw [decide_eq_true (Nat.succ_pos r), Bool.or_true]
    rcases hv with rfl | ⟨t, m', e, d, rfl, et, nm', de, xe⟩
    · refine ⟨_, rfl, rfl, _, rfl, ifT rfl ?_⟩
      refine ⟨by show 2 ≤ sizeLine; decide, fun p np => ⟨(show 1 ≤ 1000 by decide), raised (hs1.keep ((Same.refl H1).up np)) (xp.mono (K1.trans (Keep.of ((Same.refl H1).up np))) fun _ => rfl) _⟩⟩
    · refine ⟨_, rfl, rfl, _, rfl, ifF rfl ?_⟩
      obtain ⟨dx1, ew1⟩ := hs1.w.wk
      refine ⟨_, rfl, x.wk, _, dx1, _, V.int ((12 - (r + 1) : Nat) : Int), rfl, ew1, T.cls_Walk, T.a_Walk_opened, rfl, _, _, rfl, rfl, dx1, _, ew1, (show (6 : Nat) < 1000 by decide), ?_⟩
      have eop : putF "opened" (.int (((12 - (r + 1) : Nat) : Int) + 1)) (wkf x.g.a x.C st (12 - (r + 1))) = wkf x.g.a x.C st (12 - r) := by
        have : (((12 - (r + 1) : Nat) : Int) + 1) = ((12 - r : Nat) : Int) := by omega
        rw [this] <;> rfl
      rw [eop]
      have hs2 := hs1.setW ok (st' := st) (op' := 12 - r) (c' := c + 8) (dx := dx1) hs1.s4 (by omega) rfl hs1.c8
      have K2 : Keep x.S H (upd H1 x.wk (.ins (He.ga K "Walk") dx1 (wkf x.g.a x.C st (12 - r)))) := K1.at (List.mem_cons_of_mem _ List.mem_cons_self)
      have K12 : Keep x.S H1 (upd H1 x.wk (.ins (He.ga K "Walk") dx1 (wkf x.g.a x.C st (12 - r)))) := (Keep.refl _ _).at (List.mem_cons_of_mem _ List.mem_cons_self)
      have et2 := SqT.of (K := K) (hs1.tups K12 _ _ et)
      have de2 := de.mono (hs1.tups K12)
      have hn2 := hn.keep hs K2
      have xp2 := xp.mono (b' := true) K2 fun _ => rfl
      obtain ⟨dx2, ew2⟩ := hs2.w.wk
      generalize upd H1 x.wk (.ins (He.ga K "Walk") dx1 (wkf x.g.a x.C st (12 - r))) = H2 at *
      refine ⟨_, rfl, x.wk, dx2, _, rfl, ew2, rfl, _, rfl, t, _, 1, _, rfl, rfl, et2, at_of (j := 1) rfl rfl, _, rfl, t, _, 0, _, rfl, rfl, et2, at_of (j := 0) rfl rfl, _, rfl, x, e, d, m', nv, st, true, c + 8, kvs1, cvs, rfl, by omega, ok, hs2, de2, xe, nm', hn2, fun H3 st3 i kvs3 cvs3 k3 hs3 i0 i9 => ?_, xp2⟩
      obtain ⟨dx3, ew3⟩ := hs3.w.wk
      refine ⟨_, rfl, x.wk, _, dx3, _, V.int ((12 - r : Nat) : Int), rfl, ew3, T.cls_Walk, T.a_Walk_opened, rfl, _, _, rfl, rfl, dx3, _, ew3, (show (6 : Nat) < 1000 by decide), ?_⟩
      have eop2 : putF "opened" (.int (((12 - r : Nat) : Int) - 1)) (wkf x.g.a x.C st3 (12 - r)) = wkf x.g.a x.C st3 (12 - (r + 1)) := by
        have : (((12 - r : Nat) : Int) - 1) = ((12 - (r + 1) : Nat) : Int) := by omega
        rw [this] <;> rfl
      rw [eop2]
      exact ⟨_, rfl, q _ st3 i kvs3 cvs3 ((K2.trans k3).at (List.mem_cons_of_mem _ List.mem_cons_self)) (hs3.setW ok (st' := st3) (op' := 12 - (r + 1)) (c' := c + 8) (dx := dx3) hs3.s4 (by omega) rfl hs3.c8) i0 i9⟩
end
end Ta
namespace Ta
open PySem PySem.Spec PyProof.Rows L2 DX
/-- what work may be given -/
inductive Sh (n : Nat) : PyData → Prop
  | num {i : Int} : 0 ≤ i → i ≤ 999999 → Sh n (.tuple [.str "num", .int i])
  | arg {i : Int} : 0 ≤ i → i ≤ 3 → Sh n (.tuple [.str "arg", .int i])
  | two {word : Str} {d1 d2 : PyData} : word ∈ (["add", "sub", "mul", "less", "same"] : List Str) → Ex n d1 → Ex n d2 → Sh n (.tuple [.str word, d1, d2])
  | goes {d : PyData} {word : Str} {ds : List PyData} : word ∈ (["if", "call", "pick", "stop"] : List Str) → d = .tuple (.str word :: ds) → Goes n d → Sh n d
  | looks {d : PyData} {word : Str} {ds : List PyData} : word ∈ (["clock", "cell", "put", "file"] : List Str) → d = .tuple (.str word :: ds) → Looks n d → Sh n d
theorem fit_name {E : PyData → Prop} {d : PyData} (h : Fit E "name" d) : ∃ x : Str, d = .str x ∧ NameOk x := by
  generalize hs : ("name" : Str) = s at h
  cases h with
  | name h => exact ⟨_, rfl, h⟩
  | number _ _ => exact absurd hs (by decide +kernel)
  | index _ _ => exact absurd hs (by decide +kernel)
  | names _ _ _ => exact absurd hs (by decide +kernel)
  | args _ _ => exact absurd hs (by decide +kernel)
  | part _ => exact absurd hs (by decide +kernel)
theorem fit_number {E : PyData → Prop} {d : PyData} (h : Fit E "number" d) : ∃ i : Int, d = .int i ∧ 0 ≤ i ∧ i ≤ 999999 := by
  generalize hs : ("number" : Str) = s at h
  cases h with
  | number h1 h2 => exact ⟨_, rfl, h1, h2⟩
  | name _ => exact absurd hs (by decide +kernel)
  | index _ _ => exact absurd hs (by decide +kernel)
  | names _ _ _ => exact absurd hs (by decide +kernel)
  | args _ _ => exact absurd hs (by decide +kernel)
  | part _ => exact absurd hs (by decide +kernel)
theorem fit_index {E : PyData → Prop} {d : PyData} (h : Fit E "index" d) : ∃ i : Int, d = .int i ∧ 0 ≤ i ∧ i ≤ 3 := by
  generalize hs : ("index" : Str) = s at h
  cases h with
  | index h1 h2 => exact ⟨_, rfl, h1, h2⟩
  | name _ => exact absurd hs (by decide +kernel)
  | number _ _ => exact absurd hs (by decide +kernel)
  | names _ _ _ => exact absurd hs (by decide +kernel)
  | args _ _ => exact absurd hs (by decide +kernel)
  | part _ => exact absurd hs (by decide +kernel)
theorem fit_names {E : PyData → Prop} {d : PyData} (h : Fit E "names" d) : ∃ xs : List Str, d = .tuple (xs.map .str) ∧ 1 ≤ xs.length ∧ xs.length ≤ 4 ∧ ∀ x ∈ xs, NameOk x := by
  generalize hs : ("names" : Str) = s at h
  cases h with
  | names h1 h2 h3 => exact ⟨_, rfl, h1, h2, h3⟩
  | name _ => exact absurd hs (by decide +kernel)
  | number _ _ => exact absurd hs (by decide +kernel)
  | index _ _ => exact absurd hs (by decide +kernel)
  | args _ _ => exact absurd hs (by decide +kernel)
  | part _ => exact absurd hs (by decide +kernel)
theorem fit_args {E : PyData → Prop} {d : PyData} (h : Fit E "args" d) : ∃ ds : List PyData, d = .tuple ds ∧ ds.length ≤ 4 ∧ ∀ d ∈ ds, E d := by
  generalize hs : ("args" : Str) = s at h
  cases h with
  | args h1 h2 => exact ⟨_, rfl, h1, h2⟩
  | name _ => exact absurd hs (by decide +kernel)
  | number _ _ => exact absurd hs (by decide +kernel)
  | index _ _ => exact absurd hs (by decide +kernel)
  | names _ _ _ => exact absurd hs (by decide +kernel)
  | part _ => exact absurd hs (by decide +kernel)
theorem fit_part {E : PyData → Prop} {d : PyData} (h : Fit E "part" d) : E d := by
  generalize hs : ("part" : Str) = s at h
  cases h with
  | part h => exact h
  | name _ => exact absurd hs (by decide +kernel)
  | number _ _ => exact absurd hs (by decide +kernel)
  | index _ _ => exact absurd hs (by decide +kernel)
  | names _ _ _ => exact absurd hs (by decide +kernel)
  | args _ _ => exact absurd hs (by decide +kernel)
theorem sqt_sm {K : PySem.W.Frag} {H H' : Hp} {a : Addr} {xs : List V} (h : SqT K H a xs) (s : L2.Same H H') : SqT K H' a xs := h.elim (fun h => .inl (h.elim (fun h => .inl (s _ _ h)) fun ⟨o, h⟩ => .inr ⟨o, s _ _ h⟩)) fun h => .inr h
theorem inV_yes {x : Str} {xs : List Str} (h : x ∈ xs) : inV (V.str x) (xs.map V.str) = true := by
  unfold inV
  rw [List.any_eq_true]
  exact ⟨V.str x, List.mem_map_of_mem h, by simp [eqV]⟩
theorem inV_no {x : Str} {xs ys : List Str} (h : x ∈ xs) (d : xs.all (fun z => !decide (z ∈ ys)) = true) : inV (V.str x) (ys.map V.str) = false := inV_str fun z => by
  have := List.all_eq_true.mp d x h
  rw [decide_eq_true z] at this
  cases this
theorem sh_of {n : Nat} {d : PyData} (h : Ex (n + 1) d) : Sh n d := by
  obtain ⟨q, hq, ds, rfl, p⟩ := h
  unfold shapes at hq
  rcases List.mem_cons.mp hq with rfl | hq
  · -- num
    cases p with
    | cons p1 p =>
    cases p
    obtain ⟨i, rfl, a1, a2⟩ := fit_number p1
    exact .num a1 a2
  rcases List.mem_cons.mp hq with rfl | hq
  · -- arg
    cases p with
    | cons p1 p =>
    cases p
    obtain ⟨i, rfl, a1, a2⟩ := fit_index p1
    exact .arg a1 a2
  rcases List.mem_cons.mp hq with rfl | hq
  · -- clock
    cases p
    exact .looks (word := "clock") (by decide +kernel) rfl .clock
  rcases List.mem_cons.mp hq with rfl | hq
  · -- add
    cases p with
    | cons p1 p =>
    cases p with
    | cons p2 p =>
    cases p
    exact .two (by decide +kernel) (fit_part p1) (fit_part p2)
  rcases List.mem_cons.mp hq with rfl | hq
  · -- sub
    cases p with
    | cons p1 p =>
    cases p with
    | cons p2 p =>
    cases p
    exact .two (by decide +kernel) (fit_part p1) (fit_part p2)
  rcases List.mem_cons.mp hq with rfl | hq
  · -- mul
    cases p with
    | cons p1 p =>
    cases p with
    | cons p2 p =>
    cases p
    exact .two (by decide +kernel) (fit_part p1) (fit_part p2)
  rcases List.mem_cons.mp hq with rfl | hq
  · -- less
    cases p with
    | cons p1 p =>
    cases p with
    | cons p2 p =>
    cases p
    exact .two (by decide +kernel) (fit_part p1) (fit_part p2)
  rcases List.mem_cons.mp hq with rfl | hq
  · -- same
    cases p with
    | cons p1 p =>
    cases p with
    | cons p2 p =>
    cases p
    exact .two (by decide +kernel) (fit_part p1) (fit_part p2)
  rcases List.mem_cons.mp hq with rfl | hq
  · -- if
    cases p with
    | cons p1 p =>
    cases p with
    | cons p2 p =>
    cases p with
    | cons p3 p =>
    cases p
    exact .goes (word := "if") (by decide +kernel) rfl (.if_ (fit_part p1) (fit_part p2) (fit_part p3))
  rcases List.mem_cons.mp hq with rfl | hq
  · -- stop
    cases p with
    | cons p1 p =>
    cases p
    exact .goes (word := "stop") (by decide +kernel) rfl (.stop (fit_part p1))
  rcases List.mem_cons.mp hq with rfl | hq
  · -- call
    cases p with
    | cons p1 p =>
    cases p with
    | cons p2 p =>
    cases p
    obtain ⟨f, rfl, nf⟩ := fit_name p1
    obtain ⟨as, rfl, l4, xd⟩ := fit_args p2
    exact .goes (word := "call") (by decide +kernel) rfl (.call nf l4 xd)
  rcases List.mem_cons.mp hq with rfl | hq
  · -- pick
    cases p with
    | cons p1 p =>
    cases p with
    | cons p2 p =>
    cases p with
    | cons p3 p =>
    cases p
    obtain ⟨fs, rfl, f1, f4, nf⟩ := fit_names p2
    obtain ⟨as, rfl, l4, xd⟩ := fit_args p3
    exact .goes (word := "pick") (by decide +kernel) rfl (.pick (fit_part p1) f1 f4 nf l4 xd)
  rcases List.mem_cons.mp hq with rfl | hq
  · -- cell
    cases p with
    | cons p1 p =>
    cases p with
    | cons p2 p =>
    cases p with
    | cons p3 p =>
    cases p
    obtain ⟨f, rfl, nf⟩ := fit_name p1
    exact .looks (word := "cell") (by decide +kernel) rfl (.at_ (by decide +kernel) nf (fit_part p2) (fit_part p3))
  rcases List.mem_cons.mp hq with rfl | hq
  · -- put
    cases p with
    | cons p1 p =>
    cases p with
    | cons p2 p =>
    cases p with
    | cons p3 p =>
    cases p
    obtain ⟨f, rfl, nf⟩ := fit_name p1
    exact .looks (word := "put") (by decide +kernel) rfl (.at_ (by decide +kernel) nf (fit_part p2) (fit_part p3))
  obtain rfl := List.mem_singleton.mp hq
  · -- file
    cases p with
    | cons p1 p =>
    cases p with
    | cons p2 p =>
    cases p with
    | cons p3 p =>
    cases p
    obtain ⟨f, rfl, nf⟩ := fit_name p1
    exact .looks (word := "file") (by decide +kernel) rfl (.at_ (by decide +kernel) nf (fit_part p2) (fit_part p3))
section
variable {P : Program} {w : World} {K : PySem.W.Frag} {mg : Str → Option Value} {base : Heap}
theorem ok_work (T : Tx w K mg) (r n k : Nat) (k2 : 11 ≤ k) (ih1 : Ok P w K mg base (L2.CX P w) k ("Walk", some "reckon") ["self", "expression", "m", "numbers"] (spReckon K r n)) (ih2 : Ok P w K mg base (L2.CX P w) k ("Walk", some "go_on") ["self", "expression", "m", "numbers"] (spGoOn K r n))
    (ih3 : Ok P w K mg base (L2.CX P w) k ("Walk", some "look") ["self", "expression", "m", "numbers"] (spLook K r n)) : Ok P w K mg base (L2.CX P w) (k + 1) ("Walk", some "work") ["self", "expression", "m", "numbers"] (spWork K r (n + 1)) := by
  obtain ⟨_, G_Walk_reckon, b_Walk_reckon, kp_Walk_reckon⟩ := ih1
  obtain ⟨_, G_Walk_go_on, b_Walk_go_on, kp_Walk_go_on⟩ := ih2
  obtain ⟨_, G_Walk_look, b_Walk_look, kp_Walk_look⟩ := ih3
  obtain ⟨_, G_Ended___init__, b_Ended___init__, kp_Ended___init__⟩ := ok_Ended___init__ (P := P) (base := base) T
  refine mkOkX T.d_Walk_work sc_Walk_work (fun vs H Q E h => ?_) (fun _ _ _ _ _ _ us hl => match us, hl with | [_, _, _, _], _ => rfl) (fun cdv A outer s H vs Q E hr h => ?_)
  · obtain ⟨x, ev, d, m, nv, st, b, c, kvs, cvs, rfl, _⟩ := h
    rfl
  · obtain ⟨x, ev, d, m, nv, st, b, c, kvs, cvs, rfl, r12, ok, hs, hd, hx, hm, hn, q, xp⟩ := h
    obtain ⟨dx, ew⟩ := hs.w.wk
    have s4 := hs.s4
    have c8 := hs.c8
    have line := sizeLine_eq
    refine ⟨_, (pss_cons (ps_if (pt_cmpR op_eq (pe_fld (pv 0) rfl) (pe_fld (pv 0) rfl) (nomark _)) (pss_one (ps_raise rfl (takes_of rfl rfl rfl rfl) (pmk_oex T.oex T.i_init.1 T.i_init.2 G_Ended___init__ (hr.mono (by omega)) b_Ended___init__ .nil pass0 (by rfl) T.g_Ended (pa_cons (pe_tup (pa_cons pe_str (pa_cons pe_int pa_nil))) pa_nil)))) pss_nil)
      (pss_cons (ps_fldaug (pv 0) pe_int in_add)
      (pss_cons (ps_set (i := 4) sc_Walk_work.nd (by rfl) (Or.inl rfl) (pe_ix ix_tup (pv 1) pe_int (fun _ _ => rfl)))
      (pss_cons (ps_if (pt_cmpR op_eq (pv 4) pe_str (nomark _)) (pss_one (ps_ret (pe_ix ix_tup (pv 1) pe_int (fun _ _ => rfl)))) pss_nil)
      (pss_cons (ps_if (pt_cmpR op_eq (pv 4) pe_str (nomark _)) (pss_one (ps_ret (pe_ix ix_tup (pe_op op_catA (pe_tupleOf (by rfl) T.n_tuple (pv 3)) (pe_tup (pa_cons pe_int (pa_cons pe_int (pa_cons pe_int (pa_cons pe_int pa_nil)))))) (pe_ix ix_tup (pv 1) pe_int (fun _ _ => rfl)) (fun _ _ => rfl)))) pss_nil)
      (pss_cons (ps_if (pt_cmpR op_in_seq (pv 4) (pe_tup (pa_cons pe_str (pa_cons pe_str (pa_cons pe_str (pa_cons pe_str (pa_cons pe_str pa_nil)))))) (by rfl)) (pss_one (ps_ret (pe_meth (pv 0) T.cls_Walk T.m_Walk_reckon G_Walk_reckon (hr.mono (by omega)) b_Walk_reckon .nil (passes_call (takes_of rfl rfl rfl rfl) (fun _ _ _ _ h => h)) (pa_cons (pv 1) (pa_cons (pv 2) (pa_cons (pv 3) pa_nil)))))) pss_nil)
      (pss_cons (ps_if (pt_cmpR op_in_seq (pv 4) (pe_tup (pa_cons pe_str (pa_cons pe_str (pa_cons pe_str (pa_cons pe_str pa_nil))))) (by rfl)) (pss_one (ps_ret (pe_meth (pv 0) T.cls_Walk T.m_Walk_go_on G_Walk_go_on (hr.mono (by omega)) b_Walk_go_on .nil (passes_call (takes_of rfl rfl rfl rfl) (fun _ _ _ _ h => h)) (pa_cons (pv 1) (pa_cons (pv 2) (pa_cons (pv 3) pa_nil)))))) pss_nil)
      (pss_one (ps_ret (pe_meth (pv 0) T.cls_Walk T.m_Walk_look G_Walk_look (hr.mono (by omega)) b_Walk_look .nil (passes_call (takes_of rfl rfl rfl rfl) (fun _ _ _ _ h => h)) (pa_cons (pv 1) (pa_cons (pv 2) (pa_cons (pv 3) pa_nil))))))))))))), ?_⟩
    refine ⟨_, rfl, x.wk, _, dx, _, V.int (st : Int), rfl, ew, T.cls_Walk, T.a_Walk_steps, rfl, _, rfl, x.wk, _, dx, _, V.int 400, rfl, ew, T.cls_Walk, T.a_Walk_most_steps, rfl, rfl, _, rfl, ?_⟩
    by_cases es : (st : Int) = 400
    · refine decT (by rw [es]) ?_
      refine ⟨by show 2 ≤ sizeLine; decide, fun p np => ⟨(show 1 ≤ 1000 by decide), raised (hs.keep ((Same.refl H).up np)) (xp.mono (Keep.of ((Same.refl H).up np)) id) _⟩⟩
    refine decF (fun z => es (V.int.inj z)) ?_
    refine ⟨_, rfl, x.wk, _, dx, _, V.int (st : Int), rfl, ew, T.cls_Walk, T.a_Walk_steps, rfl, _, _, rfl, rfl, dx, _, ew, (show (6 : Nat) < 1000 by decide), ?_⟩
    have est : putF "steps" (.int ((st : Int) + 1)) (wkf x.g.a x.C st (12 - r)) = wkf x.g.a x.C (st + 1) (12 - r) := rfl
    rw [est]
    have hs2 := hs.setW ok (st' := st + 1) (op' := 12 - r) (c' := c - 8) (dx := dx) (by omega) hs.o12 (by omega) (by omega)
    have K2 : Keep x.S H (upd H x.wk (.ins (He.ga K "Walk") dx (wkf x.g.a x.C (st + 1) (12 - r)))) := (Keep.refl _ _).at (List.mem_cons_of_mem _ List.mem_cons_self)
    have hd2 := hd.mono (hs.tups K2)
    have hn2 := hn.keep hs K2
    have q2 : Qp K x _ (12 - r) b (c - 8 + 8) Q := q.mono K2 id (by omega) c8
    have xp2 := xp.mono K2 (b' := b) id
    clear hn hd ew
    generalize upd H x.wk (.ins (He.ga K "Walk") dx (wkf x.g.a x.C (st + 1) (12 - r))) = H1 at *
    have sh := sh_of hx
    have words : ∃ (word : Str) (ds : List PyData), d = .tuple (.str word :: ds) := by
      cases sh with
      | num _ _ => exact ⟨_, _, rfl⟩
      | arg _ _ => exact ⟨_, _, rfl⟩
      | two _ _ _ => exact ⟨_, _, rfl⟩
      | goes _ e _ => exact ⟨_, _, e⟩
      | looks _ e _ => exact ⟨_, _, e⟩
    obtain ⟨word, ds, ed⟩ := words
    obtain ⟨a, us, rfl, ea, hus⟩ := (show Dq H1 ev (.tuple (.str word :: ds)) by rw [← ed]; exact hd2).tupI
    cases hus with
    | @cons v0 vs0 _ _ h0 hr0 =>
    have e0 := h0.strI
    subst e0
    have eS := SqT.of (K := K) ea
    refine ⟨_, rfl, a, _, 0, _, rfl, rfl, eS, at_of (j := 0) rfl rfl, ?_⟩
    cases sh with
    | @num i i0 i9 =>
      injection ed with ed
      injection ed with e1 e2
      injection e1 with e1
      subst e1 e2
      cases hr0 with
      | @cons v1 vs1 _ _ h1 hr1 =>
      cases hr1
      have e3 := h1.intI
      subst e3
      refine ⟨_, rfl, rfl, _, rfl, decT rfl ⟨_, rfl, a, _, 1, _, rfl, rfl, eS, at_of (j := 1) rfl rfl, q2 H1 (st + 1) i kvs cvs (Keep.refl _ _) (hs2.weak id (by omega) (by omega)) i0 i9⟩⟩
    | @arg i i0 i3 =>
      injection ed with ed
      injection ed with e1 e2
      injection e1 with e1
      subst e1 e2
      cases hr0 with
      | @cons v1 vs1 _ _ h1 hr1 =>
      cases hr1
      have e3 := h1.intI
      subst e3
      refine ⟨_, rfl, rfl, _, rfl, decF (by decide +kernel) ?_⟩
      refine ⟨_, rfl, rfl, _, rfl, decT rfl ?_⟩
      obtain ⟨na, is, rfl, hna, l4, ir⟩ := hn2
      -- the numbers and four noughts
      have all : ∀ z ∈ is ++ [0, 0, 0, 0], (0 : Int) ≤ z ∧ z ≤ 999999 := fun z hz => by
        rcases List.mem_append.mp hz with hz | hz
        · exact ir z hz
        · rcases List.mem_cons.mp hz with rfl | hz
          · decide
          · rcases List.mem_cons.mp hz with rfl | hz
            · decide
            · rcases List.mem_cons.mp hz with rfl | hz
              · decide
              · rw [List.mem_singleton.mp hz]
                decide
      have got : ∃ z : Int, (is ++ [0, 0, 0, 0])[i.toNat]? = some z ∧ 0 ≤ z ∧ z ≤ 999999 := by
        have hl : i.toNat < (is ++ [0, 0, 0, 0] : List Int).length := by
          rw [List.length_append]
          show i.toNat < is.length + 4
          omega
        exact ⟨_, List.getElem?_eq_getElem hl, all _ (List.getElem_mem hl)⟩
      obtain ⟨z, hz, z0, z9⟩ := got
      have fin : ∀ H' : Hp, L2.Same H1 H' → Q (.int z) H' := fun H' s' => q2 H' (st + 1) z kvs cvs (Keep.of s') ((hs2.keep s').weak id (by omega) (by omega)) z0 z9
      rcases hna with hna | hna
      · exact ⟨_, rfl, .inl ⟨na, _, rfl, SqL.of hna, fun t nt => ⟨by show 4 ≤ sizeLine; decide, fun t2 nt2 => ⟨t, t2, _, _, rfl, rfl, SqT.of (upd_of upd_same nt2), SqT.of upd_same, by rw [List.length_map]; show is.length + 4 ≤ sizeLine; omega, fun e0' => (by
          have e0 : is = [] := List.map_eq_nil_iff.mp e0'
          exact ⟨_, rfl, a, _, 1, _, rfl, rfl, sqt_sm eS (((Same.refl H1).up nt).up nt2), at_of (j := 1) rfl rfl, t2, _, i, _, rfl, rfl, (SqT.of (xs := (is ++ [0, 0, 0, 0]).map V.int) (by rw [upd_same, e0]; rfl)), at_of (j := i.toNat) (by omega) (by rw [List.getElem?_map, hz]; rfl), fin _ (((Same.refl H1).up nt).up nt2)⟩), fun _ e1 => (nomatch e1), fun _ _ p np => ⟨_, rfl, a, _, 1, _, rfl, rfl, sqt_sm eS ((((Same.refl H1).up nt).up nt2).up np), at_of (j := 1) rfl rfl, p, _, i, _, rfl, rfl, (SqT.of (xs := (is ++ [0, 0, 0, 0]).map V.int) (by rw [upd_same, List.map_append]; rfl)), at_of (j := i.toNat) (by omega) (by rw [List.getElem?_map, hz]; rfl), fin _ ((((Same.refl H1).up nt).up nt2).up np)⟩⟩⟩⟩⟩
      · exact ⟨_, rfl, .inr ⟨na, _, rfl, SqT.of hna, ⟨by show 4 ≤ sizeLine; decide, fun t2 nt2 => ⟨na, t2, _, _, rfl, rfl, SqT.of (upd_of hna nt2), SqT.of upd_same, by rw [List.length_map]; show is.length + 4 ≤ sizeLine; omega, fun e0' => (by
          have e0 : is = [] := List.map_eq_nil_iff.mp e0'
          exact ⟨_, rfl, a, _, 1, _, rfl, rfl, sqt_sm eS ((Same.refl H1).up nt2), at_of (j := 1) rfl rfl, t2, _, i, _, rfl, rfl, (SqT.of (xs := (is ++ [0, 0, 0, 0]).map V.int) (by rw [upd_same, e0]; rfl)), at_of (j := i.toNat) (by omega) (by rw [List.getElem?_map, hz]; rfl), fin _ ((Same.refl H1).up nt2)⟩), fun _ e1 => (nomatch e1), fun _ _ p np => ⟨_, rfl, a, _, 1, _, rfl, rfl, sqt_sm eS (((Same.refl H1).up nt2).up np), at_of (j := 1) rfl rfl, p, _, i, _, rfl, rfl, (SqT.of (xs := (is ++ [0, 0, 0, 0]).map V.int) (by rw [upd_same, List.map_append]; rfl)), at_of (j := i.toNat) (by omega) (by rw [List.getElem?_map, hz]; rfl), fin _ (((Same.refl H1).up nt2).up np)⟩⟩⟩⟩⟩
    | @two word' d1 d2 hw x1 x2 =>
      have hd3 : Dq H1 (.ref a) (.tuple [.str word', d1, d2]) := hd2
      injection ed with ed
      injection ed with e1 e2
      injection e1 with e1
      subst e1 e2
      refine ⟨_, rfl, rfl, _, rfl, decF (fun z => absurd (V.str.inj z ▸ hw : ("num" : Str) ∈ _) (by decide +kernel)) ?_⟩
      refine ⟨_, rfl, rfl, _, rfl, decF (fun z => absurd (V.str.inj z ▸ hw : ("arg" : Str) ∈ _) (by decide +kernel)) ?_⟩
      refine ⟨_, rfl, by show 5 ≤ sizeLine; decide, fun p np => ⟨p, _, rfl, .inr (SqT.of upd_same), rfl, rfl, _, rfl, ifT (inV_yes hw) ?_⟩⟩
      have s1 := (Same.refl H1).up (o := .tup [.str "add", .str "sub", .str "mul", .str "less", .str "same"]) np
      have hs3 := hs2.keep s1
      obtain ⟨dx3, ew3⟩ := hs3.w.wk
      exact ⟨_, rfl, x.wk, dx3, _, rfl, ew3, rfl, _, rfl, _, rfl, _, rfl, x, .ref a, word', d1, d2, m, nv, st + 1, b, c - 8, kvs, cvs, rfl, r12, ok, hs3, hd3.mono (Tups.of s1), x1, x2, hm, hn2.keep hs2 (Keep.of s1), q2.mono (Keep.of s1) id (by omega) (by omega), xp2.mono (Keep.of s1) id⟩
    | @goes d' word' ds' hw e hg =>
      have hd3 := hd2
      rw [ed] at e
      injection e with e
      injection e with e1 e2
      injection e1 with e1
      subst e1 e2
      refine ⟨_, rfl, rfl, _, rfl, decF (fun z => absurd (V.str.inj z ▸ hw : ("num" : Str) ∈ _) (by decide +kernel)) ?_⟩
      refine ⟨_, rfl, rfl, _, rfl, decF (fun z => absurd (V.str.inj z ▸ hw : ("arg" : Str) ∈ _) (by decide +kernel)) ?_⟩
      refine ⟨_, rfl, by show 5 ≤ sizeLine; decide, fun p np => ⟨p, _, rfl, .inr (SqT.of upd_same), rfl, rfl, _, rfl, ifF (inV_no (ys := ["add", "sub", "mul", "less", "same"]) hw (by decide +kernel)) ?_⟩⟩
      refine ⟨_, rfl, by show 4 ≤ sizeLine; decide, fun p' np' => ⟨p', _, rfl, .inr (SqT.of upd_same), rfl, rfl, _, rfl, ifT (inV_yes hw) ?_⟩⟩
      have s1 := ((Same.refl H1).up (o := .tup [.str "add", .str "sub", .str "mul", .str "less", .str "same"]) np).up (o := .tup [.str "if", .str "call", .str "pick", .str "stop"]) np'
      have hs3 := hs2.keep s1
      obtain ⟨dx3, ew3⟩ := hs3.w.wk
      exact ⟨_, rfl, x.wk, dx3, _, rfl, ew3, rfl, _, rfl, _, rfl, _, rfl, x, .ref a, d, m, nv, st + 1, b, c - 8, kvs, cvs, rfl, r12, ok, hs3, by omega, hd3.mono (Tups.of s1), hg, hm, hn2.keep hs2 (Keep.of s1), q2.mono (Keep.of s1) id (Int.le_refl _) (by omega), xp2.mono (Keep.of s1) id⟩
    | @looks d' word' ds' hw e hg =>
      have hd3 := hd2
      rw [ed] at e
      injection e with e
      injection e with e1 e2
      injection e1 with e1
      subst e1 e2
      refine ⟨_, rfl, rfl, _, rfl, decF (fun z => absurd (V.str.inj z ▸ hw : ("num" : Str) ∈ _) (by decide +kernel)) ?_⟩
      refine ⟨_, rfl, rfl, _, rfl, decF (fun z => absurd (V.str.inj z ▸ hw : ("arg" : Str) ∈ _) (by decide +kernel)) ?_⟩
      refine ⟨_, rfl, by show 5 ≤ sizeLine; decide, fun p np => ⟨p, _, rfl, .inr (SqT.of upd_same), rfl, rfl, _, rfl, ifF (inV_no (ys := ["add", "sub", "mul", "less", "same"]) hw (by decide +kernel)) ?_⟩⟩
      refine ⟨_, rfl, by show 4 ≤ sizeLine; decide, fun p' np' => ⟨p', _, rfl, .inr (SqT.of upd_same), rfl, rfl, _, rfl, ifF (inV_no (ys := ["if", "call", "pick", "stop"]) hw (by decide +kernel)) ?_⟩⟩
      have s1 := ((Same.refl H1).up (o := .tup [.str "add", .str "sub", .str "mul", .str "less", .str "same"]) np).up (o := .tup [.str "if", .str "call", .str "pick", .str "stop"]) np'
      have hs3 := hs2.keep s1
      obtain ⟨dx3, ew3⟩ := hs3.w.wk
      exact ⟨_, rfl, x.wk, dx3, _, rfl, ew3, rfl, _, rfl, _, rfl, _, rfl, x, .ref a, d, m, nv, st + 1, b, c - 8, kvs, cvs, rfl, r12, ok, hs3, by omega, hd3.mono (Tups.of s1), hg, hm, hn2.keep hs2 (Keep.of s1), q2.mono (Keep.of s1) id (Int.le_refl _) (by omega), xp2.mono (Keep.of s1) id⟩
theorem ok_works (T : Tx w K mg) (r : Nat) (hc : Ok P w K mg base (L2.CX P w) (clv r) ("Walk", some "call") ["self", "m", "f", "numbers"] (spCall K r)) : ∀ n, Ok P w K mg base (L2.CX P w) (wlv r n) ("Walk", some "work") ["self", "expression", "m", "numbers"] (spWork K r n)
  | 0 => by
    refine Ok.mono (j := 1) ?_ (by unfold wlv clv; omega)
    refine mkOkX T.d_Walk_work sc_Walk_work (k := 0) (fun vs H Q E h => ?_) (fun _ _ _ _ _ _ us hl => match us, hl with | [_, _, _, _], _ => rfl) (fun cdv A outer s H vs Q E hr h => ?_)
    · obtain ⟨x, ev, d, m, nv, st, b, c, kvs, cvs, rfl, _⟩ := h
      rfl
    · obtain ⟨x, ev, d, m, nv, st, b, c, kvs, cvs, rfl, _, _, _, _, h, _⟩ := h
      exact h.elim
  | n + 1 => by
    have ih := ok_works T r hc n
    have l1 : 11 ≤ wlv r n := by unfold wlv clv; omega
    have wa := ok_Walk_work_all T r n _ ih
    have rk := ok_Walk_reckon T r n _ wa
    have go := ok_Walk_go_on T r n (wlv r n + 1) (by omega) (ih.mono (by omega)) wa (hc.mono (by unfold wlv; omega))
    have lk := ok_Walk_look T r n (wlv r n) l1 ih
    have e : wlv r (n + 1) = (wlv r n + 3) + 1 := by unfold wlv; omega
    rw [e]
    exact ok_work T r n (wlv r n + 3) (by omega) (rk.mono (by omega)) (go.mono (by omega)) (lk.mono (by omega))
theorem ok_call (T : Tx w K mg) : ∀ r, Ok P w K mg base (L2.CX P w) (clv r) ("Walk", some "call") ["self", "m", "f", "numbers"] (spCall K r)
  | 0 => ok_call0 T
  | r + 1 => ok_callS T r (ok_works T r (ok_call T r) 3)
end
end Ta
namespace Ta
open PySem PySem.Spec PyProof.Rows L2 DX
/-- o.m(e, ..), what is let out being told with the slots -/
def tMethE (C : Addr) (m : Str) (sp : Sp) (E : L2.St → XK) (ta : TE) (t : TA) : TE := fun σ H Q => ta σ H fun x H1 => ∃ a dx fs, x = .ref a ∧ H1 a = some (.ins C dx fs) ∧ fs.lookup m = none ∧ t σ H1 fun vs H2 => sp (x :: vs) H2 Q (E σ)
section
variable {X : Cx} {CX : CXT} {k : Nat} {f C : Addr} {fd : FuncData} {ps : List Str} {sp : Sp} {E : L2.St → XK} {m : Str} {pos apos : Pos} {e o : Expr} {es : List Expr} {ta : TE} {t : TA}
theorem pe_methE {pl : Sem Bool} (he : PE X o ta) (c : Cls X.K C) (hm : Meth X.K C m f) (F : FnOk X.prog X.w X.K X.mg X.base CX k f fd ps sp) (hr : Room k X.A) (hb : Binds X.K fd ps []) (hx : ∀ σ, PassesAt CX X σ (E σ)) (ha : PA X (e :: es) t)
    (hst : starEach (e :: es) X.env = (false, eval e X.env) :: starEach es X.env := by rfl) (hpl : (backTo pos (starEach es X.env)).any (·.1) = false := by rfl)
    (ht : eval (.Call (.Attribute o m apos) (e :: es) [] pos) X.env = (do
      let ov ← eval o X.env
      standAt apos.atName
      let (f, first) ← holding [ov] (getMethod ov m pl)
      callWith pos f first (backTo pos (starEach (e :: es) X.env)) (backToKw pos (keywordEach [] X.env))) := by rfl) :
    PE X (.Call (.Attribute o m apos) (e :: es) [] pos) (tMethE C m sp E ta t) := by
  refine ⟨fun pins s σ H Q I h => ?_⟩
  refine PySem.W.methodCall_KW (pl := pl) (thn (he.run pins s σ H _ I h) fun u s1 ⟨x, H1, I1, rx, a, dx, fs, ex, ea, l, q⟩ => ?_) ht
  subst ex
  obtain rfl : u = Value.ref a := rx
  refine getmeth_ok I1 ea c hm l ?_
  refine PySem.W.callWith_K (first := [.ref a]) (h₀ := X.base) I.ok.mod.kin hm.kp (thn (ha.run pos pins s1 σ H1 _ I1 q) fun us s2 ⟨vs, H2, I2, r, q2⟩ => ⟨I2.kIn, ?_⟩) hst hpl
  exact run_fnS (us := .ref a :: us) (vs := .ref a :: vs) F hr hb (hx σ) I2 (.cons rfl r) q2
end
theorem NumsAt.same {H H' : Hp} (s : L2.Same H H') {v : V} (n : NumsAt H v) : NumsAt H' v := by
  obtain ⟨a, is, e, g, r⟩ := n
  exact ⟨a, is, e, g.imp (s _ _) (s _ _), r⟩
section
variable {P : Program} {w : World} {K : PySem.W.Frag} {mg : Str → Option Value} {base : Heap}
def spWalked (K : PySem.W.Frag) : Sp := fun vs H Q _ => ∃ (g : Gh) (t : Addr) (m f : Str) (nv wv : V), vs = [.ref g.a, .ref t] ∧ GhOk K g ∧ AskSt K g H [] ∧ H t = some (.tup [.str m, .str f, nv, wv]) ∧ NameOk m ∧ NameOk f ∧ NumsAt H nv ∧
  ∀ H' R u y z kvs, Keep [g.D] H H' → AskSt K g H' kvs → kvs ≠ [] → kvs.length ≤ 4000 → H' R = some (.tup [u, y, z]) → Q (.ref R) H'
theorem sc_walked : FnScope ["asker", "a_try", "m", "f", "numbers", "wanted", "walk", "outcome", "end"] ["asker", "a_try"] (defScope s_walked) := ⟨rfl, rfl, rfl, by decide +kernel, rfl, by decide +kernel, by decide +kernel⟩
theorem ok_walked (T : Tx w K mg) : Ok P w K mg base CX0 215 ("walked", none) ["asker", "a_try"] (spWalked K) := by
  obtain ⟨_, G_Walk_call, b_Walk_call, kp_Walk_call⟩ := ok_call (P := P) (base := base) T 12
  obtain ⟨_, G_Walk___init__, b_Walk___init__, kp_Walk___init__⟩ := ok_Walk___init__ (P := P) (base := base) T
  obtain ⟨_, G_Walk_all_cells, b_Walk_all_cells, kp_Walk_all_cells⟩ := ok_Walk_all_cells (P := P) (base := base) T
  have l12 : clv 12 = 207 := rfl
  refine mkOk T.d_walked sc_walked (fun vs H Q E h => ?_) (fun _ _ _ _ _ _ us hl => match us, hl with | [_, _], _ => rfl) (fun cdv A outer s H vs Q E hr h => ?_)
  · obtain ⟨g, t, m, f, nv, wv, rfl, _⟩ := h
    rfl
  · obtain ⟨g, t, m, f, nv, wv, rfl, gok, as, et, hm, hf, hn, q⟩ := h
    refine ⟨_, (pss_cons (ps_asg (pv 1) (pg_tup rfl (pgs_cons (pg_name (i := 2) sc_walked.nd (by rfl) (Or.inl rfl)) (pgs_cons (pg_name (i := 3) sc_walked.nd (by rfl) (Or.inl rfl)) (pgs_cons (pg_name (i := 4) sc_walked.nd (by rfl) (Or.inl rfl)) (pgs_cons (pg_name (i := 5) sc_walked.nd (by rfl) (Or.inl rfl)) pgs_nil))))))
      (pss_cons (ps_set (i := 6) sc_walked.nd (by rfl) (Or.inl rfl) (pe_make T.mk_Walk G_Walk___init__ (hr.mono (by omega)) (by rfl) T.g_Walk b_Walk___init__ .nil pass0 (pa_cons (pv 0) (pa_cons (pe_gi T.i_MOST_STEPS) (pa_cons (pe_gi T.i_MOST_OPEN) pa_nil)))))
      (pss_cons (ps_try_as (i := 8) (tb := fun W => tAsg (tTup (tCons (tC (.str "worth")) (tCons (tMethE (He.ga K "Walk") "call" (spCall K 12) (WE W) (tVar 6) (tCons (tVar 2) (tCons (tVar 3) (tCons (tVar 4) tNil)))) tNil))) (gName 7)) (ts := fun a cls d => tAsg (tXf a cls d (He.ga K "Ended") "outcome" (tVar 8)) (gName 7)) (Wout := fun _ _ _ _ => False) rfl rfl sc_walked.nd rfl rfl ⟨rfl, by decide, Or.inl T.g_Ended⟩ takes0
        (fun W pn xe tk _ => pss_one (ps_set (i := 7) sc_walked.nd (by rfl) (Or.inl rfl) (by exact (pe_tup (pa_cons pe_str (pa_cons (pe_methE (pv 6) T.cls_Walk T.m_Walk_call G_Walk_call (hr.mono (by omega)) b_Walk_call (fun σ => passAt tk σ) (by exact (pa_cons (pv 2) (pa_cons (pv 3) (pa_cons (pv 4) pa_nil))))) pa_nil))))))
        (fun a oe cls d pn hz hf => pss_one (ps_set (i := 7) sc_walked.nd (by rfl) (Or.inl rfl) (by exact (pe_xf T.xf T.a_Ended_outcome hz hf (pv 8))))))
      (pss_one (ps_ret (pe_tup (pa_cons (pv 7) (pa_cons (pe_meth0 (pv 6) T.cls_Walk T.m_Walk_all_cells G_Walk_all_cells (hr.mono (by omega)) b_Walk_all_cells .nil pass0) (pa_cons (pe_fld (pv 6) rfl) pa_nil))))))))), ?_⟩
    refine ⟨_, rfl, t, _, rfl, SqT.of et, rfl, _, _, rfl, _, _, rfl, _, _, rfl, _, _, rfl, rfl, ?_⟩
    refine ⟨_, rfl, fun wk dx nw nd ne => ?_⟩
    refine ⟨wk, g.a, dx, rfl, upd_same, fun H1 C k1 nC nCw e1 e2 => ⟨rfl, ?_⟩⟩
    have sI : L2.Same H H1 := fun b o e => k1 b o (fun z => by rw [List.mem_singleton.mp z, nw] at e; cases e) (by
      rw [upd_ne (ne_of_none e nw), upd_ne (ne_of_none e nd)]
      exact e)
    have nC0 : H C = none := by
      cases z : H C with
      | none => rfl
      | some o =>
        rw [upd_ne nCw, upd_ne (ne_of_none z nd), z] at nC
        cases nC
    obtain ⟨dxa, ea⟩ := as.as
    have h3 : C ≠ g.D := fun z => by
      rw [z, as.kn] at nC0
      cases nC0
    have h4 : wk ≠ g.a := fun z => by
      rw [z, ea] at nw
      cases nw
    have ok : WhOk K ⟨g, wk, C⟩ := ⟨gok, as.s0.free nw, as.s0.free nC0, h3, h4⟩
    have hs : St K ⟨g, wk, C⟩ H1 0 0 false 0 [] [] := ⟨as.keep sI, ⟨⟨dx, e1⟩, e2, fun cv hc => (nomatch hc), List.nodup_nil⟩, by decide, by decide, fun z => (nomatch z), by decide, by decide, by decide⟩
    -- what is left, whichever way the walk ended
    have down : ∀ H2, Keep (Wh.S ⟨g, wk, C⟩) H1 H2 → Keep [g.D] H H2 := fun H2 k b o nb e => by
      refine k b o (fun z => ?_) (sI b o e)
      rcases List.mem_cons.mp z with z | z
      · exact nb (List.mem_singleton.mpr z)
      · rcases List.mem_cons.mp z with z | z
        · have z' : b = wk := z
          rw [z', nw] at e
          cases e
        · have z' : b = C := List.mem_singleton.mp z
          rw [z', nC0] at e
          cases e
    have fin : ∀ (H2 : Hp), Keep (Wh.S ⟨g, wk, C⟩) H1 H2 → Ws K ⟨g, wk, C⟩ H2 true → ∃ (st op : Nat) (c : Int) (kvs cvs : List (List Key × V)) (dx2 : Addr), St K ⟨g, wk, C⟩ H2 st op true c kvs cvs ∧ H2 wk = some (.ins (He.ga K "Walk") dx2 (wkf g.a C st op)) ∧
        ∀ (H3 : Hp) (u y z : V) (R : Addr), L2.Same H2 H3 → H3 R = none → Q (.ref R) (upd H3 R (.tup [u, y, z])) := fun H2 k ⟨st, op, c, kvs, cvs, s2⟩ => by
      obtain ⟨dx2, ew2⟩ := s2.w.wk
      refine ⟨st, op, c, kvs, cvs, dx2, s2, ew2, fun H3 u y z R s3 nR => ?_⟩
      have fw := s2.few
      exact q _ R u y z kvs ((down H2 k).trans (Keep.of (s3.up nR))) ((s2.a.keep s3).keep ((Same.refl H3).up nR)) (s2.ne rfl) (by omega) upd_same
    refine ⟨_, rfl, wk, dx, _, rfl, e1, rfl, _, rfl, _, rfl, _, rfl, ⟨g, wk, C⟩, m, f, nv, 0, false, 0, [], [], rfl, Nat.le_refl _, ok, hs, by decide, hm, hf, hn.same sI, fun H2 st2 i kvs2 cvs2 k2 s2 i0 i9 => ?_, fun d v H2 ed k2 ws => ?_⟩
    · refine ⟨by show 2 ≤ sizeLine; decide, fun p np => ?_⟩
      have sp := (Same.refl H2).up (o := .tup [.str "worth", .int i]) np
      obtain ⟨st, op, c, kvs, cvs, dx3, s3, ew3, fin⟩ := fin _ (k2.trans (Keep.of sp)) ⟨st2, _, _, kvs2, cvs2, s2.keep sp⟩
      refine ⟨_, rfl, _, rfl, wk, dx3, _, rfl, ew3, rfl, ⟨g, wk, C⟩, st, op, true, c, kvs, cvs, rfl, ok, s3, fun H4 v4 s4 => ?_⟩
      refine ⟨_, rfl, wk, _, dx3, _, V.int (st : Int), rfl, s4 _ _ ew3, T.cls_Walk, T.a_Walk_steps, rfl, by show 3 ≤ sizeLine; decide, fun R nR => fin H4 _ _ _ R s4 nR⟩
    · refine ⟨true, T.exm, fun _ a0 na0 => ?_, fun z => (nomatch z)⟩
      refine ⟨_, rfl, rfl, rfl, d, _, v, rfl, ed, rfl, ?_⟩
      obtain ⟨st, op, c, kvs, cvs, dx3, s3, ew3, fin⟩ := fin _ k2 ws
      refine ⟨_, rfl, _, rfl, wk, dx3, _, rfl, ew3, rfl, ⟨g, wk, C⟩, st, op, true, c, kvs, cvs, rfl, ok, s3, fun H4 v4 s4 => ?_⟩
      refine ⟨_, rfl, wk, _, dx3, _, V.int (st : Int), rfl, s4 _ _ ew3, T.cls_Walk, T.a_Walk_steps, rfl, by show 3 ≤ sizeLine; decide, fun R nR => fin H4 _ _ _ R s4 nR⟩
def spRun (K : PySem.W.Frag) : Sp := fun vs H Q _ => ∃ (p t : Addr) (ct : Ct) (m f : Str) (nv wv : V), vs = [.ref p, .ref t] ∧ WorldAt K H p ct ∧ CtOk ct ∧ H t = some (.tup [.str m, .str f, nv, wv]) ∧ NameOk m ∧ NameOk f ∧ NumsAt H nv ∧
  ∀ H' R u B y z bk, L2.Same H H' → H' R = some (.tup [u, .ref B, y, z]) → BookAt H' B bk → BookOk bk → bk ≠ [] → (∀ kc ∈ bk, datO kc.2 = ctAt ct kc.1) → Q (.ref R) H'
theorem sc_run : FnScope ["world", "a_try", "asker", "outcome", "traces", "steps"] ["world", "a_try"] (defScope s_run) := ⟨rfl, rfl, rfl, by decide +kernel, rfl, by decide +kernel, by decide +kernel⟩
theorem ok_run (T : Tx w K mg) : Ok P w K mg base CX0 216 ("run", none) ["world", "a_try"] (spRun K) := by
  obtain ⟨_, G_WorldAsker___init__, b_WorldAsker___init__, kp_WorldAsker___init__⟩ := ok_WorldAsker___init__ (P := P) (base := base) T
  obtain ⟨_, G_walked, b_walked, kp_walked⟩ := ok_walked (P := P) (base := base) T
  obtain ⟨_, G_WorldAsker_all_asked, b_WorldAsker_all_asked, kp_WorldAsker_all_asked⟩ := ok_WorldAsker_all_asked (P := P) (base := base) T
  refine mkOk T.d_run sc_run (fun vs H Q E h => ?_) (fun _ _ _ _ _ _ us hl => match us, hl with | [_, _], _ => rfl) (fun cdv A outer s H vs Q E hr h => ?_)
  · obtain ⟨p, t, ct, m, f, nv, wv, rfl, _⟩ := h
    rfl
  · obtain ⟨p, t, ct, m, f, nv, wv, rfl, hw, cok, et, hm, hf, hn, q⟩ := h
    refine ⟨_, (pss_cons (ps_set (i := 2) sc_run.nd (by rfl) (Or.inl rfl) (pe_make T.mk_WorldAsker G_WorldAsker___init__ (hr.mono (by omega)) (by rfl) T.g_WorldAsker b_WorldAsker___init__ .nil pass0 (pa_cons (pv 0) pa_nil)))
      (pss_cons (ps_asg (pe_call G_walked (hr.mono (by omega)) (by rfl) T.g_walked kp_walked b_walked .nil pass0 (pa_cons (pv 2) (pa_cons (pv 1) pa_nil))) (pg_tup rfl (pgs_cons (pg_name (i := 3) sc_run.nd (by rfl) (Or.inl rfl)) (pgs_cons (pg_name (i := 4) sc_run.nd (by rfl) (Or.inl rfl)) (pgs_cons (pg_name (i := 5) sc_run.nd (by rfl) (Or.inl rfl)) pgs_nil)))))
      (pss_one (ps_ret (pe_tup (pa_cons (pv 3) (pa_cons (pe_meth0 (pv 2) T.cls_WorldAsker T.m_WorldAsker_all_asked G_WorldAsker_all_asked (hr.mono (by omega)) b_WorldAsker_all_asked .nil pass0) (pa_cons (pv 4) (pa_cons (pv 5) pa_nil))))))))), ?_⟩
    refine ⟨_, rfl, fun a dx na nd ne => ?_⟩
    refine ⟨a, p, dx, rfl, upd_same, fun D nD => ⟨rfl, ?_⟩⟩
    have nDa : D ≠ a := fun z => by rw [z, upd_same] at nD; cases nD
    have nD0 : H D = none := by
      cases z : H D with
      | none => rfl
      | some o =>
        rw [upd_ne nDa, upd_ne (ne_of_none z nd), z] at nD
        cases nD
    have sI : L2.Same H (upd (upd (upd (upd (upd H dx (.own a)) a (.ins (He.ga K "WorldAsker") dx [])) a (.ins (He.ga K "WorldAsker") dx [("world", .ref p)])) D (.dT [])) a (.ins (He.ga K "WorldAsker") dx [("world", .ref p), ("known", .ref D)])) := fun b o e => by
      have n1 := ne_of_none e na
      have n2 := ne_of_none e nd
      have n3 := ne_of_none e nD0
      rw [upd_ne n1, upd_ne n3, upd_ne n1, upd_ne n1, upd_ne n2]
      exact e
    have as : AskSt K ⟨H, ct, p, a, D⟩ (upd (upd (upd (upd (upd H dx (.own a)) a (.ins (He.ga K "WorldAsker") dx [])) a (.ins (He.ga K "WorldAsker") dx [("world", .ref p)])) D (.dT [])) a (.ins (He.ga K "WorldAsker") dx [("world", .ref p), ("known", .ref D)])) [] :=
      ⟨sI, ⟨dx, upd_same⟩, by rw [upd_ne nDa, upd_same], fun kv hk => (nomatch hk), List.nodup_nil⟩
    have gok : GhOk K ⟨H, ct, p, a, D⟩ := ⟨hw, cok, nD0⟩
    generalize upd (upd (upd (upd (upd H dx (.own a)) a (.ins (He.ga K "WorldAsker") dx [])) a (.ins (He.ga K "WorldAsker") dx [("world", .ref p)])) D (.dT [])) a (.ins (He.ga K "WorldAsker") dx [("world", .ref p), ("known", .ref D)]) = H1 at *
    refine ⟨_, rfl, _, rfl, ⟨H, ct, p, a, D⟩, t, m, f, nv, wv, rfl, gok, as, sI _ _ et, hm, hf, hn.same sI, fun H2 R u y z kvs k2 as2 n2 l2 eR => ?_⟩
    refine ⟨R, _, rfl, SqT.of eR, rfl, _, _, rfl, _, _, rfl, _, _, rfl, rfl, ?_⟩
    obtain ⟨dx2, ea2⟩ := as2.as
    refine ⟨_, rfl, _, rfl, a, dx2, _, rfl, ea2, rfl, ⟨H, ct, p, a, D⟩, kvs, rfl, gok, as2, l2, fun H3 B s3 hb => ?_⟩
    refine ⟨_, rfl, _, rfl, by show 4 ≤ sizeLine; decide, fun R2 nR2 => ?_⟩
    have s4 := (Same.refl H3).up (o := .tup [u, .ref B, y, z]) nR2
    refine q _ R2 u B y z (bookOf ct kvs) ((as2.s0.trans s3).trans s4) upd_same (hb.mono (Tups.of s4)) ⟨fun kc hk => ?_, ?_, ?_⟩ ?_ fun kc hk => ?_
    · obtain ⟨kv, h1, rfl⟩ := List.mem_map.mp hk
      exact (as2.en kv h1).1
    · unfold bookOf
      rw [List.map_map]
      exact as2.nd
    · rw [bookOf, List.length_map]
      exact l2
    · intro e
      exact n2 (List.map_eq_nil_iff.mp e)
    · obtain ⟨kv, h1, rfl⟩ := List.mem_map.mp hk
      rfl
end
end Ta
namespace Ta
open PySem PySem.Spec PyProof.Rows L2 DX
/-- the stream: two numbers -/
def Stm (H : Hp) (s : Addr) : Prop := ∃ c m : Int, H s = some (.lst [.int c, .int m])
theorem ifB {b : Bool} {P Q : Prop} (h1 : b = true → P) (h2 : b = false → Q) : if b = true then P else Q := by
  cases b with
  | true => exact ifT rfl (h1 rfl)
  | false => exact ifF rfl (h2 rfl)
theorem Stm.mono {H H' : Hp} {s : Addr} (h : Stm H s) (k : L2.Same H H') : Stm H' s := by
  obtain ⟨c, m, e⟩ := h
  exact ⟨c, m, k _ _ e⟩
section
variable {P : Program} {w : World} {K : PySem.W.Frag} {mg : Str → Option Value} {base : Heap}
def spStream (K : PySem.W.Frag) : Sp := fun vs H Q _ => ∃ (a : Addr) (ns : List Int) (k : Nat), vs = [.ref a, nV k] ∧ SqL K H a (ns.map V.int) ∧ k < 1000 ∧ ∀ H' s, H s = none → L2.Same H H' → Stm H' s → Q (.ref s) H'
theorem sc__law_stream : FnScope ["_law_script", "_law_k", "_law_cell", "_law_mixed"] ["_law_script", "_law_k"] (defScope s__law_stream) := ⟨rfl, rfl, rfl, by decide +kernel, rfl, by decide +kernel, by decide +kernel⟩
theorem ok_law_stream (T : Tx w K mg) : Ok P w K mg base CX0 1 ("_law_stream", none) ["_law_script", "_law_k"] (spStream K) := by
  refine mkOk T.d__law_stream sc__law_stream (fun vs H Q E h => ?_) (fun _ _ _ _ _ _ us hl => match us, hl with | [_, _], _ => rfl) (fun cdv A outer s H vs Q E hr h => ?_)
  · obtain ⟨a, ns, k, rfl, _⟩ := h
    rfl
  · obtain ⟨a, ns, k, rfl, hs, hk, q⟩ := h
    refine ⟨_, (pss_cons (ps_if (pt_cmpR op_lt (pv 1) (pe_callB call_len_seq (by rfl) T.n_len bt_len (pa_cons (pv 0) pa_nil)) (nomark _)) (pss_cons (ps_set (i := 2) sc__law_stream.nd (by rfl) (Or.inl rfl) (pe_ix ix_list (pv 0) (pv 1) (fun _ _ => rfl)))
      (pss_cons (ps_set (i := 3) sc__law_stream.nd (by rfl) (Or.inl rfl) (pe_op op_add (pe_op op_add (pe_op op_mod (pv 2) pe_int) (pe_op op_mul (pv 1) (pv 1))) pe_int))
      (pss_cons (ps_if (pt_cmpR op_lt (pv 2) (pe_op op_pow pe_int pe_int) (nomark _)) (pss_one (ps_set (i := 2) sc__law_stream.nd (by rfl) (Or.inl rfl) pe_int)) pss_nil)
      (pss_one (ps_ret (pe_lst (pa_cons (pv 2) (pa_cons (pv 3) pa_nil)))))))) pss_nil)
      (pss_one (ps_ret (pe_lst (pa_cons pe_int (pa_cons (pe_op op_add (pe_op op_mul (pv 1) (pv 1)) pe_int) pa_nil)))))), ?_⟩
    have hc : (-(2:Int) ^ 64 < (k : Int) ∧ (k : Int) < 2 ^ 64) := by omega
    refine ⟨_, rfl, _, rfl, a, _, rfl, .inl hs, _, _, rfl, rfl, _, rfl, ifB (fun z => ?_) fun z => ?_⟩
    · have z1 : k < ns.length := by
        have := of_decide_eq_true z
        rw [List.length_map] at this
        omega
      have z2 : (ns.map V.int)[k]? = some (V.int ns[k]) := by
        rw [List.getElem?_map, List.getElem?_eq_getElem z1]
        rfl
      refine ⟨_, rfl, _, rfl, a, _, _, _, rfl, rfl, hs, atI_nat z2, ?_⟩
      refine ⟨_, rfl, _, _, rfl, rfl, show (0 : Int) < 2147483629 by decide, _, rfl, _, rfl, _, _, rfl, rfl, .inl hc, _, _, rfl, rfl, _, _, rfl, rfl, ?_⟩
      refine ⟨_, rfl, _, _, rfl, rfl, ⟨by decide, by decide, by decide⟩, _, _, rfl, rfl, _, rfl, ifB (fun y => ?_) fun y => ?_⟩
      · exact ⟨_, rfl, _, rfl, by show 2 ≤ sizeLine; decide, fun s ns' => q _ s ns' ((Same.refl H).up ns') ⟨_, _, upd_same⟩⟩
      · exact ⟨_, rfl, _, rfl, by show 2 ≤ sizeLine; decide, fun s ns' => q _ s ns' ((Same.refl H).up ns') ⟨_, _, upd_same⟩⟩
    · exact ⟨_, rfl, _, rfl, _, _, rfl, rfl, .inl hc, _, _, rfl, rfl, by show 2 ≤ sizeLine; decide, fun s ns' => q _ s ns' ((Same.refl H).up ns') ⟨_, _, upd_same⟩⟩
def spTake : Sp := fun vs H Q _ => ∃ (s : Addr) (n : Int), vs = [.ref s, .int n] ∧ Stm H s ∧ 0 < n ∧ n < 1000000 ∧ ∀ H' (r : Nat), (r : Int) < n → Keep [s] H H' → Stm H' s → Q (nV r) H'
theorem sc__law_take : FnScope ["_law_stream_here", "_law_most", "_law_digit"] ["_law_stream_here", "_law_most"] (defScope s__law_take) := ⟨rfl, rfl, rfl, by decide +kernel, rfl, by decide +kernel, by decide +kernel⟩
theorem ok_law_take (T : Tx w K mg) : Ok P w K mg base CX0 1 ("_law_take", none) ["_law_stream_here", "_law_most"] spTake := by
  refine mkOk T.d__law_take sc__law_take (fun vs H Q E h => ?_) (fun _ _ _ _ _ _ us hl => match us, hl with | [_, _], _ => rfl) (fun cdv A outer s H vs Q E hr h => ?_)
  · obtain ⟨s, n, rfl, _⟩ := h
    rfl
  · obtain ⟨s, n, rfl, ⟨c, m, e⟩, n0, n9, q⟩ := h
    refine ⟨_, (pss_cons (ps_if (pt_cmpR op_eq (pe_ix ix_list (pv 0) pe_int (fun _ _ => rfl)) pe_int (nomark _)) (pss_cons (ps_asg (pe_op op_mod (pe_op op_add (pe_op op_mul (pe_ix ix_list (pv 0) pe_int (fun _ _ => rfl)) pe_int) pe_int) pe_int) (pg_sub (pv 0) pe_int set_list))
      (pss_one (ps_ret (pe_op op_mod (pe_op op_mod (pe_op op_mul (pe_ix ix_list (pv 0) pe_int (fun _ _ => rfl)) (pe_ix ix_list (pv 0) pe_int (fun _ _ => rfl))) pe_int) (pv 1))))) pss_nil)
      (pss_cons (ps_set (i := 2) sc__law_take.nd (by rfl) (Or.inl rfl) (pe_op op_mod (pe_ix ix_list (pv 0) pe_int (fun _ _ => rfl)) (pv 1)))
      (pss_cons (ps_asg (pe_op op_fdiv (pe_ix ix_list (pv 0) pe_int (fun _ _ => rfl)) (pv 1)) (pg_sub (pv 0) pe_int set_list))
      (pss_one (ps_ret (pv 2)))))), ?_⟩
    have k1 : ∀ u, Keep [s] H (upd H s u) := fun u b o nb eb => by
      rw [upd_ne (fun z => nb (List.mem_singleton.mpr z))]
      exact eb
    have fin : ∀ (H' : Hp) (i : Int), 0 ≤ i → i < n → Keep [s] H H' → Stm H' s → Q (.int i) H' := fun H' i i0 i9 k sm => by
      have z : i = (i.toNat : Int) := by omega
      rw [z]
      exact q H' i.toNat (by omega) k sm
    refine ⟨_, rfl, s, _, 0, _, rfl, rfl, SqL.of e, at_of (j := 0) rfl rfl, rfl, _, rfl, ifB (fun z => ?_) fun z => ?_⟩
    · refine ⟨_, rfl, s, _, 1, _, rfl, rfl, SqL.of e, at_of (j := 1) rfl rfl, _, _, rfl, rfl, .inr (by decide), _, _, rfl, rfl, _, _, rfl, rfl, show (0 : Int) < 2147483647 by decide, ?_⟩
      refine ⟨_, rfl, s, _, 1, 1, rfl, rfl, e, rfl, ?_⟩
      refine ⟨_, rfl, s, _, 1, _, rfl, rfl, SqL.of upd_same, at_of (j := 1) rfl rfl, _, rfl, s, _, 1, _, rfl, rfl, SqL.of upd_same, at_of (j := 1) rfl rfl, _, _, rfl, rfl, .inl ?_, _, _, rfl, rfl, show (0 : Int) < 2147483629 by decide, _, rfl, _, _, rfl, rfl, n0, ?_⟩
      · have h1 := Int.emod_nonneg (m * 48271 + 12345) (show (2147483647 : Int) ≠ 0 by decide)
        have h2 := Int.emod_lt_of_pos (m * 48271 + 12345) (show (0 : Int) < 2147483647 by decide)
        omega
      · exact fin _ _ (Int.emod_nonneg _ (by omega)) (Int.emod_lt_of_pos _ n0) (k1 _) ⟨_, _, upd_same⟩
    · refine ⟨_, rfl, s, _, 0, _, rfl, rfl, SqL.of e, at_of (j := 0) rfl rfl, _, rfl, _, _, rfl, rfl, n0, ?_⟩
      refine ⟨_, rfl, s, _, 0, _, rfl, rfl, SqL.of e, at_of (j := 0) rfl rfl, _, rfl, _, _, rfl, rfl, ⟨n0, by omega⟩, ?_⟩
      refine ⟨_, rfl, s, _, 0, 0, rfl, rfl, e, rfl, ?_⟩
      exact ⟨_, rfl, fin _ _ (Int.emod_nonneg _ (by omega)) (Int.emod_lt_of_pos _ n0) (k1 _) ⟨_, _, upd_same⟩⟩
end
end Ta
namespace Ta
open PySem PySem.Spec PyProof.Rows L2 DX
/-- from H on only the stream changed -/
structure Sk (s : Addr) (H H' : Hp) : Prop where
  k : Keep [s] H H'
  m : Stm H s
  m' : Stm H' s
theorem Sk.refl {s : Addr} {H : Hp} (h : Stm H s) : Sk s H H := ⟨Keep.refl _ _, h, h⟩
theorem Sk.trans {s : Addr} {H H1 H2 : Hp} (a : Sk s H H1) (b : Sk s H1 H2) : Sk s H H2 := ⟨a.k.trans b.k, a.m, b.m'⟩
theorem Sk.same {s : Addr} {H H1 H2 : Hp} (a : Sk s H H1) (b : L2.Same H1 H2) : Sk s H H2 := ⟨a.k.trans (Keep.of b), a.m, a.m'.mono b⟩
theorem Sk.at {s a : Addr} {H H' : Hp} {o : HO} (k : Sk s H H') (e : H a = some o) (n : ∀ xs, o ≠ .lst xs) : H' a = some o := k.k a o (fun z => by
  obtain ⟨c, m, e'⟩ := k.m
  rw [List.mem_singleton.mp z, e'] at e
  exact n _ (Option.some.inj e).symm) e
theorem Sk.tups {s : Addr} {H H' : Hp} (k : Sk s H H') : Tups H H' := fun a xs e => k.at e fun ys z => (nomatch z)
theorem Sk.lst {s a : Addr} {H H' : Hp} {o : HO} (k : Sk s H H') (e : H a = some o) (n : a ≠ s) : H' a = some o := k.k a o (fun z => n (List.mem_singleton.mp z)) e
theorem Stm.ne {s a : Addr} {H : Hp} (h : Stm H s) (n : H a = none) : a ≠ s := fun z => by
  obtain ⟨c, m, e⟩ := h
  rw [z, e] at n
  cases n
/-- new things are not the old ones -/
def GK (s : Addr) (H : Hp) (D : Addr) (G : V → Hp → Prop) (i : Nat) (H' : Hp) : Prop := Sk s H H' ∧ ∃ acc, H' D = some (.lst acc) ∧ acc.length = i ∧ ∀ v ∈ acc, G v H'
theorem GK.start {s : Addr} {H : Hp} {D : Addr} {G : V → Hp → Prop} (h : Stm H s) (nD : H D = none) : GK s H D G 0 (upd H D (.lst [])) :=
  ⟨(Sk.refl h).same ((Same.refl H).up nD), [], upd_same, rfl, fun v z => (nomatch z)⟩
theorem GK.push {s : Addr} {H : Hp} {D : Addr} {G : V → Hp → Prop} {i : Nat} {H1 H2 : Hp} {y : V} (nD : H D = none) (g : GK s H D G i H1) (k : Sk s H1 H2) (y2 : G y H2) (hi : i < sizeLine) (mono : ∀ v H H', Tups H H' → G v H → G v H') :
    ∃ acc, H2 D = some (.lst acc) ∧ acc.length < sizeLine ∧ GK s H D G (i + 1) (upd H2 D (.lst (acc ++ [y]))) := by
  obtain ⟨g1, acc, g2, g3, g4⟩ := g
  have ne := g1.m.ne nD
  have e2 := k.lst g2 ne
  have t2 : Tups H2 (upd H2 D (.lst (acc ++ [y]))) := Tups.upd fun ys z => by
    rw [e2] at z
    cases z
  refine ⟨acc, e2, by omega, ⟨?_, g1.m, ?_⟩, _, upd_same, ?_, ?_⟩
  · intro b o nb eb
    rw [upd_ne (ne_of_none eb nD)]
    exact (g1.trans k).k b o nb eb
  · obtain ⟨c, m, e⟩ := k.m'
    exact ⟨c, m, by rw [upd_ne ne.symm]; exact e⟩
  · rw [List.length_append, g3]
    rfl
  · intro v hv
    rcases List.mem_append.mp hv with hv | hv
    · exact mono v _ _ t2 (mono v _ _ k.tups (g4 v hv))
    · rw [List.mem_singleton.mp hv]
      exact mono y _ _ t2 y2
theorem inV_mem {m : Str} : ∀ {xs : List Str}, m ∈ xs → inV (V.str m) (xs.map V.str) = true
  | [], h => by cases h
  | x :: xs, h => by
    show (eqV (V.str x) (V.str m) || inV (V.str m) (xs.map V.str)) = true
    rcases List.mem_cons.mp h with rfl | h
    · rw [show eqV (V.str m) (V.str m) = true by simp [eqV], Bool.true_or]
    · rw [inV_mem h, Bool.or_true]
/-- a sign of a text of signs -/
def signB (z : Str) (n : Nat) : Bool := (List.range n).all fun (r : Nat) => match atI z.cps.toList (r : Int) with
  | some c => nameB ⟨#[c]⟩
  | none => false
theorem sign_at {z : Str} {n r : Nat} (h : signB z n = true) (hr : (r : Int) < n) : ∃ c, atI z.cps.toList (r : Int) = some c ∧ NameOk ⟨#[c]⟩ := by
  have h1 := List.all_eq_true.mp h r (List.mem_range.mpr (by omega))
  split at h1
  · rename_i c e
    exact ⟨c, e, nameB_ok h1⟩
  · cases h1
def NatV (n : Nat) (v : V) : Prop := ∃ r : Nat, v = nV r ∧ (r : Int) < n
theorem natVs {n : Nat} : ∀ {vs : List V}, (∀ v ∈ vs, NatV n v) → ∃ is : List Int, vs = is.map V.int ∧ ∀ i ∈ is, 0 ≤ i ∧ i < n
  | [], _ => ⟨[], rfl, fun i z => (nomatch z)⟩
  | v :: vs, h => by
    obtain ⟨is, e, h2⟩ := natVs fun v hv => h v (List.mem_cons_of_mem _ hv)
    obtain ⟨r, rfl, hr⟩ := h v (List.mem_cons_self ..)
    refine ⟨(r : Int) :: is, by rw [e] <;> rfl, fun i hi => ?_⟩
    rcases List.mem_cons.mp hi with rfl | hi
    · exact ⟨by omega, hr⟩
    · exact h2 i hi
theorem ints_dq (H : Hp) : ∀ is : List Int, DqAll H (is.map V.int) (is.map PyData.int)
  | [] => .nil
  | i :: is => .cons (.int i) (ints_dq H is)
theorem strs_dq (H : Hp) : ∀ is : List Str, DqAll H (is.map V.str) (is.map PyData.str)
  | [] => .nil
  | i :: is => .cons (.str i) (strs_dq H is)
section
variable {P : Program} {w : World} {K : PySem.W.Frag} {mg : Str → Option Value} {base : Heap}
def spLooks2 : Sp := fun vs H Q _ => ∃ (s : Addr) (m : Str), vs = [.ref s, .str m] ∧ Stm H s ∧ ∀ H' v d, Sk s H H' → ContOk [.inr "looks", .inr m] d → Dq H' v d → Q v H'
theorem sc__law_looks : FnScope ["_law_stream_here", "_law_m", "_law_found", "_law_k", "_law_n"] ["_law_stream_here", "_law_m"] (defScope s__law_looks) := ⟨rfl, rfl, rfl, by decide +kernel, rfl, by decide +kernel, by decide +kernel⟩
theorem ok_law_looks (T : Tx w K mg) : Ok P w K mg base CX0 2 ("_law_looks", none) ["_law_stream_here", "_law_m"] spLooks2 := by
  obtain ⟨_, G__law_take, b__law_take, kp__law_take⟩ := ok_law_take (P := P) (base := base) T
  refine mkOk T.d__law_looks sc__law_looks (fun vs H Q E h => ?_) (fun _ _ _ _ _ _ us hl => match us, hl with | [_, _], _ => rfl) (fun cdv A outer s H vs Q E hr h => ?_)
  · obtain ⟨s, m, rfl, _⟩ := h
    rfl
  · obtain ⟨s, m, rfl, sm, q⟩ := h
    refine ⟨_, (pss_cons (ps_set (i := 2) sc__law_looks.nd (by rfl) (Or.inl rfl) (pe_lst pa_nil))
      (pss_cons (ps_for PassesOwn.never rfl (pi_range1 (by rfl) T.n_range (pa_cons (pe_call G__law_take (hr.mono (by omega)) (by rfl) T.g__law_take kp__law_take b__law_take .nil pass0 (pa_cons (pv 0) (pa_cons pe_int pa_nil))) pa_nil)) (pg_name (i := 3) sc__law_looks.nd (by rfl) (Or.inl rfl)) (pss_cons (ps_set (i := 4) sc__law_looks.nd (by rfl) (Or.inl rfl) (pe_ix ix_str pe_str (pe_call G__law_take (hr.mono (by omega)) (by rfl) T.g__law_take kp__law_take b__law_take .nil pass0 (pa_cons (pv 0) (pa_cons pe_int pa_nil))) (fun _ _ => rfl)))
      (pss_one (ps_if (PW.pt (pw_and (pt_cmpR op_ne (pv 4) (pv 1) (nomark _)) (pw_and1 (pt_cmpR op_notIn_seq (pv 4) (pv 2) (by rfl))))) (pss_one (ps_expr (pe_bm PySem.F.plainAttrs_list PySem.F.slot_list_append PySem.F.type_list_append mt_append (pv 2) (pa_cons (pv 4) pa_nil)))) pss_nil))))
      (pss_one (ps_ret (pe_tupleOf (by rfl) T.n_tuple (pv 2)))))), ?_⟩
    refine ⟨Nat.zero_le _, fun F nF => ?_⟩
    have nFs := sm.ne nF
    have k0 := (Sk.refl sm).same ((Same.refl H).up (o := .lst []) nF)
    refine ⟨_, rfl, s, 4, rfl, k0.m', by decide, by decide, fun H1 n hn k1 sm1 => ⟨_, rfl, by omega, by omega, ?_⟩⟩
    have k1' : Sk s H H1 := k0.trans ⟨k1, k0.m', sm1⟩
    have eF1 : H1 F = some (.lst []) := Sk.lst ⟨k1, k0.m', sm1⟩ upd_same nFs
    refine for_it (walk_range (lo := 0) (n := (n : Int).toNat)) (fun i σ H' => ∃ v3 v4 xs, σ = [some (.ref s), some (.str m), some (.ref F), v3, v4] ∧ Sk s H H' ∧ H' F = some (.lst (xs.map V.str)) ∧ xs.length ≤ i ∧ (∀ x ∈ xs, NameOk x) ∧ xs.Nodup ∧ m ∉ xs)
      ⟨none, none, [], rfl, k1', eF1, Nat.le_refl _, fun x z => (nomatch z), List.nodup_nil, List.not_mem_nil⟩ (fun i σ H' _ g => trivial) ?_ ?_
    · rintro i v σ H3 H2 hi ⟨v3, v4, xs, rfl, k2, eF, l, ok, nd, nm⟩ ⟨rfl, rfl⟩
      refine ⟨_, rfl, s, 4, rfl, k2.m', by decide, by decide, fun H4 r hr k3 sm4 => ?_⟩
      have k3' : Sk s H2 H4 := ⟨k3, k2.m', sm4⟩
      obtain ⟨c, e1, e2⟩ := sign_at (z := "abcd") (n := 4) (by decide +kernel) hr
      refine ⟨_, _, c, rfl, rfl, by decide +kernel, e1, ?_⟩
      have eF4 := k3'.lst eF nFs
      have k4 : Sk s H H4 := k2.trans k3'
      refine ⟨_, rfl, _, rfl, rfl, _, rfl, ifB (fun z => ?_) fun z => ?_⟩
      · have z1 : ¬ (V.str ⟨#[c]⟩ = V.str m) := fun y => by
          rw [decide_eq_true y] at z
          cases z
        refine ⟨_, rfl, _, rfl, F, _, rfl, .inl (SqL.of eF4), rfl, flat_strs xs, _, rfl, ifB (fun y => ?_) fun y => ?_⟩
        · have y1 : (⟨#[c]⟩ : Str) ∉ xs := fun hm => by
            have : inV (V.str ⟨#[c]⟩) (xs.map V.str) = true := inV_mem hm
            have y' : (!inV (V.str ⟨#[c]⟩) (xs.map V.str)) = true := y
            rw [this] at y'
            cases y'
          refine ⟨_, rfl, .inl ⟨rfl, _, Or.inl (Or.inl eF4)⟩, _, rfl, F, _, _, rfl, rfl, eF4, by rw [List.length_map]; have := sizeLine_eq; omega, ?_⟩
          have kF : Sk s H (upd H4 F (.lst (xs.map V.str ++ [V.str ⟨#[c]⟩]))) := ⟨fun b o nb eb => by
            rw [upd_ne (ne_of_none eb nF)]
            exact k4.k b o nb eb, sm, by
            obtain ⟨c', m', e⟩ := sm4
            exact ⟨c', m', by rw [upd_ne (Ne.symm nFs)]; exact e⟩⟩
          refine ⟨_, _, xs ++ [⟨#[c]⟩], rfl, kF, by rw [upd_same, List.map_append] <;> rfl, by rw [List.length_append]; exact Nat.succ_le_succ l, fun x hx => ?_, ?_, fun hx => ?_⟩
          · rcases List.mem_append.mp hx with hx | hx
            · exact ok x hx
            · rw [List.mem_singleton.mp hx]
              exact e2
          · refine List.nodup_append.mpr ⟨nd, List.nodup_cons.mpr ⟨List.not_mem_nil, List.nodup_nil⟩, fun a ha b hb e => y1 ?_⟩
            rw [← List.mem_singleton.mp hb, ← e]
            exact ha
          · rcases List.mem_append.mp hx with hx | hx
            · exact nm hx
            · exact z1 (by rw [List.mem_singleton.mp hx])
        · exact ⟨_, _, xs, rfl, k4, eF4, Nat.le_succ_of_le l, ok, nd, nm⟩
      · exact ⟨_, _, xs, rfl, k4, eF4, Nat.le_succ_of_le l, ok, nd, nm⟩
    · rintro σ H2 ⟨v3, v4, xs, rfl, k2, eF, l, ok, nd, nm⟩
      refine ⟨_, rfl, .inl ⟨_, _, rfl, SqL.of eF, fun p np => ?_⟩⟩
      have s2 := (Same.refl H2).up (o := .tup (xs.map V.str)) np
      exact q _ _ _ (k2.same s2) (.looks (by omega) ok nd nm) (.tup upd_same (strs_dq _ xs))
/-- a try in the heap -/
def TryAt (H : Hp) (t : Addr) : Prop := ∃ m f nv wv, H t = some (.tup [.str m, .str f, nv, wv]) ∧ NameOk m ∧ NameOk f ∧ ∃ (a : Addr) (is : List Int), nv = .ref a ∧ H a = some (.tup (is.map V.int)) ∧ is.length ≤ 4 ∧ ∀ i ∈ is, 0 ≤ i ∧ i ≤ 999999
theorem TryAt.mono {H H' : Hp} {t : Addr} (h : TryAt H t) (k : Tups H H') : TryAt H' t := by
  obtain ⟨m, f, nv, wv, h1, h2, h3, a, is, h4, h5, h6⟩ := h
  exact ⟨m, f, nv, wv, k _ _ h1, h2, h3, a, is, h4, k _ _ h5, h6⟩
def spTry2 : Sp := fun vs H Q _ => ∃ (s : Addr), vs = [.ref s] ∧ Stm H s ∧ ∀ H' t, Sk s H H' → TryAt H' t → Q (.ref t) H'
theorem sc__law_try : FnScope ["_law_stream_here", "_law_numbers", "_law_k"] ["_law_stream_here"] (defScope s__law_try) := ⟨rfl, rfl, rfl, by decide +kernel, rfl, by decide +kernel, by decide +kernel⟩
theorem ok_law_try (T : Tx w K mg) : Ok P w K mg base CX0 2 ("_law_try", none) ["_law_stream_here"] spTry2 := by
  obtain ⟨_, G__law_take, b__law_take, kp__law_take⟩ := ok_law_take (P := P) (base := base) T
  refine mkOk T.d__law_try sc__law_try (fun vs H Q E h => ?_) (fun _ _ _ _ _ _ us hl => match us, hl with | [_], _ => rfl) (fun cdv A outer s H vs Q E hr h => ?_)
  · obtain ⟨s, rfl, _⟩ := h
    rfl
  · obtain ⟨s, rfl, sm, q⟩ := h
    have line := sizeLine_eq
    refine ⟨_, (pss_cons (ps_set (i := 1) sc__law_try.nd (by rfl) (Or.inl rfl) (pe_tupleOf (by rfl) T.n_tuple (pe_lc (own := [("_law_k", 2)]) (g := gName 2) (tt := tYes) rfl sc__law_try.nd (pi_range1 (by rfl) T.n_range (pa_cons (pe_call G__law_take (hr.mono (by omega)) (by rfl) T.g__law_take kp__law_take b__law_take .nil pass0 (pa_cons (pv 0) (pa_cons pe_int pa_nil))) pa_nil)) (blkOk_by (own := [("_law_k", 2)]) (N := ["_law_stream_here", "_law_numbers", "_law_k"]) (sc := defScope s__law_try) (by decide +kernel)) (fun _ _ _ _ _ => (pg_name (i := 2) sc__law_try.nd (by rfl) (Or.inl rfl))) (fun _ _ _ _ _ => pts_nil) (fun _ _ _ _ _ => (pe_call G__law_take (hr.mono (by omega)) (by rfl) T.g__law_take kp__law_take b__law_take .nil pass0 (pa_cons (pv 0) (pa_cons pe_int pa_nil)))))))
      (pss_one (ps_ret (pe_tup (pa_cons (pe_ix ix_str pe_str (pe_call G__law_take (hr.mono (by omega)) (by rfl) T.g__law_take kp__law_take b__law_take .nil pass0 (pa_cons (pv 0) (pa_cons pe_int pa_nil))) (fun _ _ => rfl)) (pa_cons (pe_ix ix_str pe_str (pe_call G__law_take (hr.mono (by omega)) (by rfl) T.g__law_take kp__law_take b__law_take .nil pass0 (pa_cons (pv 0) (pa_cons pe_int pa_nil))) (fun _ _ => rfl)) (pa_cons (pv 1) (pa_cons (pe_tup (pa_cons pe_str (pa_cons (pe_call G__law_take (hr.mono (by omega)) (by rfl) T.g__law_take kp__law_take b__law_take .nil pass0 (pa_cons (pv 0) (pa_cons pe_int pa_nil))) pa_nil))) pa_nil)))))))), ?_⟩
    refine ⟨_, rfl, s, 3, rfl, sm, by decide, by decide, fun H1 n hn k1 sm1 => ⟨_, rfl, by omega, by omega, ?_⟩⟩
    have s1 : Sk s H H1 := ⟨k1, sm, sm1⟩
    intro D nD
    refine lc_it (walk_range (lo := 0) (n := (n : Int).toNat)) (GK s H1 D fun v _ => NatV 4 v) (GK.start sm1 nD) (fun i H' _ g => trivial) ?_ ?_
    · rintro i v H3 H2 hi g ⟨rfl, rfl⟩
      refine ⟨rfl, _, rfl, s, 4, rfl, g.1.m', by decide, by decide, fun H4 r hr k3 sm4 => ?_⟩
      exact GK.push nD g ⟨k3, g.1.m', sm4⟩ ⟨r, rfl, hr⟩ (by omega) fun _ _ _ _ z => z
    · rintro H2 ⟨k2, acc, eD, len, all⟩
      obtain ⟨is, rfl, his⟩ := natVs all
      rw [List.length_map] at len
      refine .inl ⟨_, _, rfl, SqL.of eD, fun p np => ?_⟩
      have s2 := s1.trans (k2.same ((Same.refl H2).up (o := .tup (is.map V.int)) np))
      have ep : upd H2 p (.tup (is.map V.int)) p = some (.tup (is.map V.int)) := upd_same
      generalize upd H2 p (.tup (is.map V.int)) = H5 at *
      refine ⟨_, rfl, s, 4, rfl, s2.m', by decide, by decide, fun H6 r hr k3 sm6 => ?_⟩
      have s6 : Sk s H5 H6 := ⟨k3, s2.m', sm6⟩
      obtain ⟨c, e1, e2⟩ := sign_at (z := "abcd") (n := 4) (by decide +kernel) hr
      refine ⟨_, _, c, rfl, rfl, by decide +kernel, e1, ?_⟩
      refine ⟨_, rfl, s, 3, rfl, sm6, by decide, by decide, fun H7 r7 hr7 k7 sm7 => ?_⟩
      have s7 : Sk s H6 H7 := ⟨k7, sm6, sm7⟩
      obtain ⟨c7, e7, e8⟩ := sign_at (z := "fgh") (n := 3) (by decide +kernel) hr7
      refine ⟨_, _, c7, rfl, rfl, by decide +kernel, e7, ?_⟩
      refine ⟨_, rfl, _, rfl, s, 3, rfl, sm7, by decide, by decide, fun H8 r8 hr8 k8 sm8 => ?_⟩
      have s8 : Sk s H7 H8 := ⟨k8, sm7, sm8⟩
      refine ⟨by show 2 ≤ sizeLine; decide, fun p2 np2 => ⟨by show 4 ≤ sizeLine; decide, fun p3 np3 => ?_⟩⟩
      have s9 := (Same.refl H8).up (o := .tup [.str "worth", nV r8]) np2
      have s10 := s9.up (o := .tup [.str ⟨#[c]⟩, .str ⟨#[c7]⟩, .ref p, .ref p2]) np3
      have sA := ((s6.trans s7).trans s8).same s10
      refine q _ p3 (s2.trans sA) ⟨_, _, _, _, upd_same, e2, e8, p, is, rfl, sA.at ep (fun xs z => (nomatch z)), by omega, fun i hi => ⟨(his i hi).1, by have := (his i hi).2; omega⟩⟩
end
end Ta
namespace Ta
open PySem PySem.Spec PyProof.Rows L2 DX
section
variable {P : Program} {w : World} {K : PySem.W.Frag} {mg : Str → Option Value} {base : Heap}
def spChance2 : Sp := fun vs H Q _ => ∃ (s : Addr), vs = [.ref s] ∧ Stm H s ∧ ∀ H' t x, Sk s H H' → H' t = some (.tup (ChV x)) → x.Ok → Q (.ref t) H'
theorem sc__law_chance : FnScope ["_law_stream_here", "_law_runs"] ["_law_stream_here"] (defScope s__law_chance) := ⟨rfl, rfl, rfl, by decide +kernel, rfl, by decide +kernel, by decide +kernel⟩
theorem ok_law_chance (T : Tx w K mg) : Ok P w K mg base CX0 2 ("_law_chance", none) ["_law_stream_here"] spChance2 := by
  obtain ⟨_, G__law_take, b__law_take, kp__law_take⟩ := ok_law_take (P := P) (base := base) T
  refine mkOk T.d__law_chance sc__law_chance (fun vs H Q E h => ?_) (fun _ _ _ _ _ _ us hl => match us, hl with | [_], _ => rfl) (fun cdv A outer s H vs Q E hr h => ?_)
  · obtain ⟨s, rfl, _⟩ := h
    rfl
  · obtain ⟨s, rfl, sm, q⟩ := h
    have line := sizeLine_eq
    refine ⟨_, (pss_cons (ps_set (i := 1) sc__law_chance.nd (by rfl) (Or.inl rfl) (pe_ix ix_list (pe_lst (pa_cons pe_int (pa_cons pe_int (pa_cons (pe_call G__law_take (hr.mono (by omega)) (by rfl) T.g__law_take kp__law_take b__law_take .nil pass0 (pa_cons (pv 0) (pa_cons pe_int pa_nil))) (pa_cons pe_int pa_nil))))) (pe_call G__law_take (hr.mono (by omega)) (by rfl) T.g__law_take kp__law_take b__law_take .nil pass0 (pa_cons (pv 0) (pa_cons pe_int pa_nil))) (fun _ _ => rfl)))
      (pss_one (ps_ret (pe_tup (pa_cons (pv 1) (pa_cons (pe_call G__law_take (hr.mono (by omega)) (by rfl) T.g__law_take kp__law_take b__law_take .nil pass0 (pa_cons (pv 0) (pa_cons (pe_op op_add (pv 1) pe_int) pa_nil))) (pa_cons (pe_ix ix_list (pe_lst (pa_cons pe_int (pa_cons (pe_op op_add pe_int (pe_call G__law_take (hr.mono (by omega)) (by rfl) T.g__law_take kp__law_take b__law_take .nil pass0 (pa_cons (pv 0) (pa_cons pe_int pa_nil)))) (pa_cons pe_int pa_nil)))) (pe_call G__law_take (hr.mono (by omega)) (by rfl) T.g__law_take kp__law_take b__law_take .nil pass0 (pa_cons (pv 0) (pa_cons pe_int pa_nil))) (fun _ _ => rfl)) pa_nil))))))), ?_⟩
    refine ⟨_, rfl, s, 10, rfl, sm, by decide, by decide, fun H1 r1 hr1 k1 sm1 => ⟨by show 4 ≤ sizeLine; decide, fun L nL => ?_⟩⟩
    have s1 : Sk s H H1 := ⟨k1, sm, sm1⟩
    have s2 := s1.same ((Same.refl H1).up (o := .lst [.int 0, .int 1, nV r1, .int 1000]) nL)
    have eL : upd H1 L (.lst [.int 0, .int 1, nV r1, .int 1000]) L = some (.lst [.int 0, .int 1, nV r1, .int 1000]) := upd_same
    have nLs := sm1.ne nL
    generalize upd H1 L (.lst [.int 0, .int 1, nV r1, .int 1000]) = H2 at *
    refine ⟨_, rfl, s, 4, rfl, s2.m', by decide, by decide, fun H3 r3 hr3 k3 sm3 => ?_⟩
    have s3 : Sk s H2 H3 := ⟨k3, s2.m', sm3⟩
    obtain ⟨runs, e1, r0, r9⟩ : ∃ runs : Nat, ([.int 0, .int 1, nV r1, .int 1000] : List V)[r3]? = some (nV runs) ∧ 0 ≤ runs ∧ runs ≤ 1000 := by
      match r3, hr3 with
      | 0, _ => exact ⟨0, rfl, by decide, by decide⟩
      | 1, _ => exact ⟨1, rfl, by decide, by decide⟩
      | 2, _ => exact ⟨r1, rfl, by omega, by omega⟩
      | 3, _ => exact ⟨1000, rfl, by decide, by decide⟩
      | n + 4, h => omega
    refine ⟨L, _, _, _, rfl, rfl, SqL.of (s3.lst eL nLs), atI_nat e1, ?_⟩
    refine ⟨_, rfl, ?_⟩
    refine ⟨_, rfl, _, rfl, _, _, rfl, rfl, s, _, rfl, sm3, ?_, ?_, fun H4 r4 hr4 k4 sm4 => ?_⟩
    · omega
    · omega
    have s4 : Sk s H3 H4 := ⟨k4, sm3, sm4⟩
    refine ⟨_, rfl, s, 9, rfl, sm4, by decide, by decide, fun H5 r5 hr5 k5 sm5 => ?_⟩
    have s5 : Sk s H4 H5 := ⟨k5, sm4, sm5⟩
    refine ⟨_, _, rfl, rfl, by show 3 ≤ sizeLine; decide, fun M nM => ?_⟩
    have s6 := s5.same ((Same.refl H5).up (o := .lst [.int 1, .int (1 + (r5 : Int)), .int 100000]) nM)
    have eM : upd H5 M (.lst [.int 1, .int (1 + (r5 : Int)), .int 100000]) M = some (.lst [.int 1, .int (1 + (r5 : Int)), .int 100000]) := upd_same
    have nMs := sm5.ne nM
    refine ⟨_, rfl, s, 3, rfl, s6.m', by decide, by decide, fun H7 r7 hr7 k7 sm7 => ?_⟩
    have s7 : Sk s _ H7 := ⟨k7, s6.m', sm7⟩
    obtain ⟨c, e2, c0, c9⟩ : ∃ c : Int, ([.int 1, .int (1 + (r5 : Int)), .int 100000] : List V)[r7]? = some (.int c) ∧ 1 ≤ c ∧ c ≤ 100000 := by
      match r7, hr7 with
      | 0, _ => exact ⟨1, rfl, by decide, by decide⟩
      | 1, _ => exact ⟨1 + (r5 : Int), rfl, by omega, by omega⟩
      | 2, _ => exact ⟨100000, rfl, by decide, by decide⟩
      | n + 3, h => omega
    refine ⟨M, _, _, _, rfl, rfl, SqL.of (s7.lst eM nMs), atI_nat e2, ?_⟩
    refine ⟨by show 3 ≤ sizeLine; decide, fun t nt => ?_⟩
    exact q _ t ⟨runs, r4, c⟩ ((((s2.trans s3).trans s4).trans (s6.trans s7)).same ((Same.refl H7).up nt)) upd_same ⟨by show (0 : Int) ≤ runs; omega, by show (runs : Int) ≤ 1000; omega, by show (0 : Int) ≤ r4; omega, by show (r4 : Int) ≤ runs; omega, c0, c9⟩
end
end Ta
namespace Ta
open PySem PySem.Spec PyProof.Rows L2 DX
theorem ex_mk {n : Nat} {x : Str} {ss : List Str} {ds : List PyData} (h : (x, ss) ∈ shapes) (p : Paired (Fit (Ex n)) ss ds) : Ex (n + 1) (.tuple (.str x :: ds)) := ⟨(x, ss), h, ds, rfl, p⟩
theorem ex_leaf1 (n : Nat) {i : Int} (h0 : 0 ≤ i) (h9 : i ≤ 999999) : Ex (n + 1) (.tuple [.str "num", .int i]) := ex_mk (ss := ["number"]) (by decide +kernel) (.cons (.number h0 h9) .nil)
theorem ex_leaf2 (n : Nat) {i : Int} (h0 : 0 ≤ i) (h9 : i ≤ 3) : Ex (n + 1) (.tuple [.str "arg", .int i]) := ex_mk (ss := ["index"]) (by decide +kernel) (.cons (.index h0 h9) .nil)
theorem ex_leaf3 (n : Nat) : Ex (n + 1) (.tuple [.str "clock"]) := ex_mk (ss := []) (by decide +kernel) .nil
def ExV (n : Nat) (v : V) (H : Hp) : Prop := ∃ d, Dq H v d ∧ Ex n d
theorem exVs {n : Nat} {H : Hp} : ∀ {vs : List V}, (∀ v ∈ vs, ExV n v H) → ∃ ds, DqAll H vs ds ∧ ∀ d ∈ ds, Ex n d
  | [], _ => ⟨[], .nil, fun i z => (nomatch z)⟩
  | v :: vs, h => by
    obtain ⟨ds, e, h2⟩ := exVs fun v hv => h v (List.mem_cons_of_mem _ hv)
    obtain ⟨d, h3, h4⟩ := h v (List.mem_cons_self ..)
    refine ⟨d :: ds, .cons h3 e, fun i hi => ?_⟩
    rcases List.mem_cons.mp hi with rfl | hi
    · exact h4
    · exact h2 i hi
def NmV (v : V) : Prop := ∃ x, v = .str x ∧ NameOk x
theorem nmVs : ∀ {vs : List V}, (∀ v ∈ vs, NmV v) → ∃ xs : List Str, vs = xs.map V.str ∧ ∀ x ∈ xs, NameOk x
  | [], _ => ⟨[], rfl, fun i z => (nomatch z)⟩
  | v :: vs, h => by
    obtain ⟨is, e, h2⟩ := nmVs fun v hv => h v (List.mem_cons_of_mem _ hv)
    obtain ⟨r, rfl, hr⟩ := h v (List.mem_cons_self ..)
    refine ⟨r :: is, by rw [e] <;> rfl, fun i hi => ?_⟩
    rcases List.mem_cons.mp hi with rfl | hi
    · exact hr
    · exact h2 i hi
section
variable {P : Program} {w : World} {K : PySem.W.Frag} {mg : Str → Option Value} {base : Heap}
def spEx (n : Nat) : Sp := fun vs H Q _ => ∃ (s : Addr), vs = [.ref s, nV n] ∧ Stm H s ∧ ∀ H' v d, Sk s H H' → Dq H' v d → Ex (n + 1) d → Q v H'
/-- one level below -/
def spExD : Nat → Sp
  | 0 => fun _ _ _ _ => False
  | n + 1 => spEx n
def spPart : Nat → Sp
  | 0 => fun _ _ _ _ => False
  | n + 1 => spEx (n + 1)
theorem sc__law_asking : FnScope ["_law_stream_here", "_law_deep", "_law_key", "_law_worth", "_law_way"] ["_law_stream_here", "_law_deep"] (defScope s__law_asking) := ⟨rfl, rfl, rfl, by decide +kernel, rfl, by decide +kernel, by decide +kernel⟩
theorem ok_law_asking (T : Tx w K mg) (n : Nat) (ih : Ok P w K mg base CX0 (2 * n + 2) ("_law_expression", none) ["_law_stream_here", "_law_deep"] (spEx n)) : Ok P w K mg base CX0 (2 * n + 3) ("_law_asking", none) ["_law_stream_here", "_law_deep"] (spEx (n + 1)) := by
  obtain ⟨_, G__law_take, b__law_take, kp__law_take⟩ := ok_law_take (P := P) (base := base) T
  obtain ⟨_, G__law_expression, b__law_expression, kp__law_expression⟩ := ih
  refine mkOk T.d__law_asking sc__law_asking (k := 2 * n + 2) (fun vs H Q E h => ?_) (fun _ _ _ _ _ _ us hl => match us, hl with | [_, _], _ => rfl) (fun cdv A outer s H vs Q E hr h => ?_)
  · obtain ⟨s, rfl, _⟩ := h
    rfl
  · obtain ⟨s, rfl, sm, q⟩ := h
    have line := sizeLine_eq
    have dne : [V.ref s, V.int (((n + 1 : Nat) : Int) - 1)] = [V.ref s, nV n] := by rw [show (((n + 1 : Nat) : Int) - 1) = (n : Int) by omega]
    refine ⟨_, (pss_cons (ps_set (i := 2) sc__law_asking.nd (by rfl) (Or.inl rfl) (pe_call G__law_expression (hr.mono (by omega)) (by rfl) T.g__law_expression kp__law_expression b__law_expression .nil pass0 (pa_cons (pv 0) (pa_cons (pe_op op_sub (pv 1) pe_int) pa_nil))))
      (pss_cons (ps_if (pt_cmpR op_eq (pe_call G__law_take (hr.mono (by omega)) (by rfl) T.g__law_take kp__law_take b__law_take .nil pass0 (pa_cons (pv 0) (pa_cons pe_int pa_nil))) pe_int (nomark _)) (pss_one (ps_set (i := 2) sc__law_asking.nd (by rfl) (Or.inl rfl) (pe_tup (pa_cons pe_str (pa_cons (pe_ix ix_list (pe_lst (pa_cons pe_int (pa_cons pe_int (pa_cons pe_int (pa_cons pe_int (pa_cons pe_int pa_nil)))))) (pe_call G__law_take (hr.mono (by omega)) (by rfl) T.g__law_take kp__law_take b__law_take .nil pass0 (pa_cons (pv 0) (pa_cons pe_int pa_nil))) (fun _ _ => rfl)) pa_nil))))) pss_nil)
      (pss_cons (ps_set (i := 3) sc__law_asking.nd (by rfl) (Or.inl rfl) (pe_call G__law_expression (hr.mono (by omega)) (by rfl) T.g__law_expression kp__law_expression b__law_expression .nil pass0 (pa_cons (pv 0) (pa_cons (pe_op op_sub (pv 1) pe_int) pa_nil))))
      (pss_cons (ps_set (i := 4) sc__law_asking.nd (by rfl) (Or.inl rfl) (pe_call G__law_take (hr.mono (by omega)) (by rfl) T.g__law_take kp__law_take b__law_take .nil pass0 (pa_cons (pv 0) (pa_cons pe_int pa_nil))))
      (pss_cons (ps_if (pt_cmpR op_eq (pv 4) pe_int (nomark _)) (pss_one (ps_ret (pe_tup (pa_cons pe_str (pa_cons (pe_ix ix_str pe_str (pe_call G__law_take (hr.mono (by omega)) (by rfl) T.g__law_take kp__law_take b__law_take .nil pass0 (pa_cons (pv 0) (pa_cons pe_int pa_nil))) (fun _ _ => rfl)) (pa_cons (pv 2) (pa_cons (pv 3) pa_nil))))))) pss_nil)
      (pss_one (ps_ret (pe_tup (pa_cons (pe_ix ix_list (pe_lst (pa_cons pe_str (pa_cons pe_str (pa_cons pe_str (pa_cons pe_str pa_nil))))) (pv 4) (fun _ _ => rfl)) (pa_cons (pe_ix ix_str pe_str (pe_call G__law_take (hr.mono (by omega)) (by rfl) T.g__law_take kp__law_take b__law_take .nil pass0 (pa_cons (pv 0) (pa_cons pe_int pa_nil))) (fun _ _ => rfl)) (pa_cons (pv 2) (pa_cons (pv 3) pa_nil)))))))))))), ?_⟩
    refine ⟨_, rfl, _, rfl, _, _, rfl, rfl, s, dne, sm, fun H1 v d k1 dv ex => ?_⟩
    refine ⟨_, rfl, s, 2, rfl, k1.m', by decide, by decide, fun H2 r2 hr2 k2 sm2 => ?_⟩
    have s2 : Sk s H H2 := k1.trans ⟨k2, k1.m', sm2⟩
    have dv2 : Dq H2 v d := dv.mono (Sk.tups ⟨k2, k1.m', sm2⟩)
    refine ⟨rfl, _, rfl, ifB (fun z => ?_) fun z => ?_⟩
    · refine ⟨by show 5 ≤ sizeLine; decide, fun L nL => ?_⟩
      have sL := s2.same ((Same.refl H2).up (o := .lst [.int 0, .int 1, .int 2, .int 3, .int 900000]) nL)
      have eL : upd H2 L (.lst [.int 0, .int 1, .int 2, .int 3, .int 900000]) L = some (.lst [.int 0, .int 1, .int 2, .int 3, .int 900000]) := upd_same
      have nLs := sm2.ne nL
      generalize upd H2 L (.lst [.int 0, .int 1, .int 2, .int 3, .int 900000]) = HL at *
      refine ⟨_, rfl, s, 5, rfl, sL.m', by decide, by decide, fun H9 r9 hr9 k9 sm9 => ?_⟩
      have s9 : Sk s HL H9 := ⟨k9, sL.m', sm9⟩
      obtain ⟨i, ei, i0, i9⟩ : ∃ i : Int, ([.int 0, .int 1, .int 2, .int 3, .int 900000] : List V)[r9]? = some (.int i) ∧ 0 ≤ i ∧ i ≤ 999999 := by
        match r9, hr9 with
        | 0, _ => exact ⟨0, rfl, by decide, by decide⟩
        | 1, _ => exact ⟨1, rfl, by decide, by decide⟩
        | 2, _ => exact ⟨2, rfl, by decide, by decide⟩
        | 3, _ => exact ⟨3, rfl, by decide, by decide⟩
        | 4, _ => exact ⟨900000, rfl, by decide, by decide⟩
        | n + 5, h => omega
      refine ⟨L, _, _, _, rfl, rfl, SqL.of (s9.lst eL nLs), atI_nat ei, by show 2 ≤ sizeLine; decide, fun p np => ?_⟩
      obtain ⟨H3, eH3⟩ : ∃ H3, H3 = upd H9 p (.tup [.str "num", .int i]) := ⟨_, rfl⟩
      have s3 : Sk s H H3 := eH3 ▸ (sL.trans s9).same ((Same.refl H9).up np)
      obtain ⟨v3, ev3⟩ : ∃ v3, v3 = V.ref p := ⟨_, rfl⟩
      have dv3 : Dq H3 v3 (.tuple [.str "num", .int i]) := eH3 ▸ ev3 ▸ .tup upd_same (.cons (.str _) (.cons (.int _) .nil))
      have ex3 : Ex (n + 1) (.tuple [.str "num", .int i]) := ex_leaf1 n i0 i9
      rw [← eH3, ← ev3]
      refine ⟨_, rfl, _, rfl, _, _, rfl, rfl, s, dne, s3.m', fun H4 v4 d4 k4 dv4 ex4 => ?_⟩
      refine ⟨_, rfl, s, 5, rfl, k4.m', by decide, by decide, fun H5 r5 hr5 k5 sm5 => ?_⟩
      have s5 : Sk s H4 H5 := ⟨k5, k4.m', sm5⟩
      refine ⟨_, rfl, rfl, _, rfl, ifB (fun y => ?_) fun y => ?_⟩
      · refine ⟨_, rfl, s, 2, rfl, sm5, by decide, by decide, fun H6 r6 hr6 k6 sm6 => ?_⟩
        have s6 : Sk s H5 H6 := ⟨k6, sm5, sm6⟩
        obtain ⟨c, e1, e2⟩ := sign_at (z := "pq") (n := 2) (by decide +kernel) hr6
        refine ⟨_, _, c, rfl, rfl, by decide +kernel, e1, _, rfl, _, rfl, by show 4 ≤ sizeLine; decide, fun p np => ?_⟩
        have s7 := (s5.trans s6).same ((Same.refl H6).up (o := .tup [.str "file", .str ⟨#[c]⟩, v3, v4]) np)
        exact q _ _ _ (s3.trans (k4.trans s7)) (.tup upd_same (.cons (.str _) (.cons (.str _) (.cons (dv3.mono (k4.trans s7).tups) (.cons (dv4.mono s7.tups) .nil))))) (ex_mk (ss := ["name", "part", "part"]) (by decide +kernel) (.cons (.name e2) (.cons (.part ex3) (.cons (.part ex4) .nil))))
      · obtain ⟨word, ew, hw⟩ : ∃ word : Str, ([.str "cell", .str "cell", .str "cell", .str "put"] : List V)[r5]? = some (.str word) ∧ (word, (["name", "part", "part"] : List Str)) ∈ shapes := by
          match r5, hr5, y with
          | 0, _, _ => exact ⟨"cell", rfl, by decide +kernel⟩
          | 1, _, _ => exact ⟨"cell", rfl, by decide +kernel⟩
          | 2, _, _ => exact ⟨"cell", rfl, by decide +kernel⟩
          | 3, _, _ => exact ⟨"put", rfl, by decide +kernel⟩
          | 4, _, y => exact absurd rfl (of_decide_eq_false y)
          | n + 5, h, _ => omega
        refine ⟨by show 4 ≤ sizeLine; decide, fun L nL => ?_⟩
        have sL := s5.same ((Same.refl H5).up (o := .lst [.str "cell", .str "cell", .str "cell", .str "put"]) nL)
        refine ⟨_, rfl, L, _, _, _, rfl, rfl, SqL.of upd_same, atI_nat ew, ?_⟩
        refine ⟨_, rfl, s, 2, rfl, sL.m', by decide, by decide, fun H6 r6 hr6 k6 sm6 => ?_⟩
        have s6 : Sk s _ H6 := ⟨k6, sL.m', sm6⟩
        obtain ⟨c, e1, e2⟩ := sign_at (z := "tu") (n := 2) (by decide +kernel) hr6
        refine ⟨_, _, c, rfl, rfl, by decide +kernel, e1, _, rfl, _, rfl, by show 4 ≤ sizeLine; decide, fun p np => ?_⟩
        have s7 := (sL.trans s6).same ((Same.refl H6).up (o := .tup [.str word, .str ⟨#[c]⟩, v3, v4]) np)
        exact q _ _ _ (s3.trans (k4.trans s7)) (.tup upd_same (.cons (.str _) (.cons (.str _) (.cons (dv3.mono (k4.trans s7).tups) (.cons (dv4.mono s7.tups) .nil))))) (ex_mk (ss := ["name", "part", "part"]) hw (.cons (.name e2) (.cons (.part ex3) (.cons (.part ex4) .nil))))
    · have s3 := s2
      have dv3 := dv2
      have ex3 := ex
      have hv : v = v := rfl
      generalize hh : v = v3 at *
      refine ⟨_, rfl, _, rfl, _, _, rfl, rfl, s, dne, s3.m', fun H4 v4 d4 k4 dv4 ex4 => ?_⟩
      refine ⟨_, rfl, s, 5, rfl, k4.m', by decide, by decide, fun H5 r5 hr5 k5 sm5 => ?_⟩
      have s5 : Sk s H4 H5 := ⟨k5, k4.m', sm5⟩
      refine ⟨_, rfl, rfl, _, rfl, ifB (fun y => ?_) fun y => ?_⟩
      · refine ⟨_, rfl, s, 2, rfl, sm5, by decide, by decide, fun H6 r6 hr6 k6 sm6 => ?_⟩
        have s6 : Sk s H5 H6 := ⟨k6, sm5, sm6⟩
        obtain ⟨c, e1, e2⟩ := sign_at (z := "pq") (n := 2) (by decide +kernel) hr6
        refine ⟨_, _, c, rfl, rfl, by decide +kernel, e1, _, rfl, _, rfl, by show 4 ≤ sizeLine; decide, fun p np => ?_⟩
        have s7 := (s5.trans s6).same ((Same.refl H6).up (o := .tup [.str "file", .str ⟨#[c]⟩, v3, v4]) np)
        exact q _ _ _ (s3.trans (k4.trans s7)) (.tup upd_same (.cons (.str _) (.cons (.str _) (.cons (dv3.mono (k4.trans s7).tups) (.cons (dv4.mono s7.tups) .nil))))) (ex_mk (ss := ["name", "part", "part"]) (by decide +kernel) (.cons (.name e2) (.cons (.part ex3) (.cons (.part ex4) .nil))))
      · obtain ⟨word, ew, hw⟩ : ∃ word : Str, ([.str "cell", .str "cell", .str "cell", .str "put"] : List V)[r5]? = some (.str word) ∧ (word, (["name", "part", "part"] : List Str)) ∈ shapes := by
          match r5, hr5, y with
          | 0, _, _ => exact ⟨"cell", rfl, by decide +kernel⟩
          | 1, _, _ => exact ⟨"cell", rfl, by decide +kernel⟩
          | 2, _, _ => exact ⟨"cell", rfl, by decide +kernel⟩
          | 3, _, _ => exact ⟨"put", rfl, by decide +kernel⟩
          | 4, _, y => exact absurd rfl (of_decide_eq_false y)
          | n + 5, h, _ => omega
        refine ⟨by show 4 ≤ sizeLine; decide, fun L nL => ?_⟩
        have sL := s5.same ((Same.refl H5).up (o := .lst [.str "cell", .str "cell", .str "cell", .str "put"]) nL)
        refine ⟨_, rfl, L, _, _, _, rfl, rfl, SqL.of upd_same, atI_nat ew, ?_⟩
        refine ⟨_, rfl, s, 2, rfl, sL.m', by decide, by decide, fun H6 r6 hr6 k6 sm6 => ?_⟩
        have s6 : Sk s _ H6 := ⟨k6, sL.m', sm6⟩
        obtain ⟨c, e1, e2⟩ := sign_at (z := "tu") (n := 2) (by decide +kernel) hr6
        refine ⟨_, _, c, rfl, rfl, by decide +kernel, e1, _, rfl, _, rfl, by show 4 ≤ sizeLine; decide, fun p np => ?_⟩
        have s7 := (sL.trans s6).same ((Same.refl H6).up (o := .tup [.str word, .str ⟨#[c]⟩, v3, v4]) np)
        exact q _ _ _ (s3.trans (k4.trans s7)) (.tup upd_same (.cons (.str _) (.cons (.str _) (.cons (dv3.mono (k4.trans s7).tups) (.cons (dv4.mono s7.tups) .nil))))) (ex_mk (ss := ["name", "part", "part"]) hw (.cons (.name e2) (.cons (.part ex3) (.cons (.part ex4) .nil))))
end
end Ta
namespace Ta
open PySem PySem.Spec PyProof.Rows L2 DX
theorem mem_cutV {xs : List V} {lo hi : Option Int} {v : V} (h : v ∈ cutV xs lo hi) : v ∈ xs := List.mem_of_mem_drop (List.mem_of_mem_take h)
theorem ExV.mono {n : Nat} {v : V} {H H' : Hp} (h : ExV n v H) (t : Tups H H') : ExV n v H' := by
  obtain ⟨d, h1, h2⟩ := h
  exact ⟨d, h1.mono t, h2⟩
section
variable {P : Program} {w : World} {K : PySem.W.Frag} {mg : Str → Option Value} {base : Heap}
theorem sc__law_calling : FnScope ["_law_stream_here", "_law_deep", "_law_args", "_law_names", "_law_k"] ["_law_stream_here", "_law_deep"] (defScope s__law_calling) := ⟨rfl, rfl, rfl, by decide +kernel, rfl, by decide +kernel, by decide +kernel⟩
theorem ok_law_calling (T : Tx w K mg) (n : Nat) (ih : Ok P w K mg base CX0 (2 * n + 2) ("_law_expression", none) ["_law_stream_here", "_law_deep"] (spEx n)) : Ok P w K mg base CX0 (2 * n + 3) ("_law_calling", none) ["_law_stream_here", "_law_deep"] (spEx (n + 1)) := by
  obtain ⟨_, G__law_take, b__law_take, kp__law_take⟩ := ok_law_take (P := P) (base := base) T
  obtain ⟨_, G__law_expression, b__law_expression, kp__law_expression⟩ := ih
  refine mkOk T.d__law_calling sc__law_calling (k := 2 * n + 2) (fun vs H Q E h => ?_) (fun _ _ _ _ _ _ us hl => match us, hl with | [_, _], _ => rfl) (fun cdv A outer s H vs Q E hr h => ?_)
  · obtain ⟨s, rfl, _⟩ := h
    rfl
  · obtain ⟨s, rfl, sm, q⟩ := h
    have line := sizeLine_eq
    have dne : [V.ref s, V.int (((n + 1 : Nat) : Int) - 1)] = [V.ref s, nV n] := by rw [show (((n + 1 : Nat) : Int) - 1) = (n : Int) by omega]
    refine ⟨_, (pss_cons (ps_setLc (own := [("_law_k", 4)]) (g := gName 4) (tt := tYes) (i := 2) rfl sc__law_calling.nd rfl rfl (sw_true rfl rfl rfl (by decide +kernel)) (pi_range1 (by rfl) T.n_range (pa_cons (pe_call G__law_take (hr.mono (by omega)) (by rfl) T.g__law_take kp__law_take b__law_take .nil pass0 (pa_cons (pv 0) (pa_cons pe_int pa_nil))) pa_nil)) (blkOk_by (own := [("_law_k", 4)]) (N := ["_law_stream_here", "_law_deep", "_law_args", "_law_names", "_law_k"]) (sc := defScope s__law_calling) (by decide +kernel)) (fun _ _ _ _ _ => (pg_name (i := 4) sc__law_calling.nd (by rfl) (Or.inl rfl))) (fun _ _ _ _ _ => pts_nil) (fun _ _ _ _ _ => (pe_call G__law_expression (hr.mono (by omega)) (by rfl) T.g__law_expression kp__law_expression b__law_expression .nil pass0 (pa_cons (pv 0) (pa_cons (pe_op op_sub (pv 1) pe_int) pa_nil)))))
      (pss_cons (ps_if (pt_cmpR op_gt (pe_call G__law_take (hr.mono (by omega)) (by rfl) T.g__law_take kp__law_take b__law_take .nil pass0 (pa_cons (pv 0) (pa_cons pe_int pa_nil))) pe_int (nomark _)) (pss_one (ps_ret (pe_tup (pa_cons pe_str (pa_cons (pe_ix ix_str pe_str (pe_call G__law_take (hr.mono (by omega)) (by rfl) T.g__law_take kp__law_take b__law_take .nil pass0 (pa_cons (pv 0) (pa_cons pe_int pa_nil))) (fun _ _ => rfl)) (pa_cons (pe_tupleOf (by rfl) T.n_tuple (pv 2)) pa_nil)))))) pss_nil)
      (pss_cons (ps_setLc (own := [("_law_k", 4)]) (g := gName 4) (tt := tYes) (i := 3) rfl sc__law_calling.nd rfl rfl (sw_true rfl rfl rfl (by decide +kernel)) (pi_range1 (by rfl) T.n_range (pa_cons (pe_op op_add pe_int (pe_call G__law_take (hr.mono (by omega)) (by rfl) T.g__law_take kp__law_take b__law_take .nil pass0 (pa_cons (pv 0) (pa_cons pe_int pa_nil)))) pa_nil)) (blkOk_by (own := [("_law_k", 4)]) (N := ["_law_stream_here", "_law_deep", "_law_args", "_law_names", "_law_k"]) (sc := defScope s__law_calling) (by decide +kernel)) (fun _ _ _ _ _ => (pg_name (i := 4) sc__law_calling.nd (by rfl) (Or.inl rfl))) (fun _ _ _ _ _ => pts_nil) (fun _ _ _ _ _ => (pe_ix ix_str pe_str (pe_call G__law_take (hr.mono (by omega)) (by rfl) T.g__law_take kp__law_take b__law_take .nil pass0 (pa_cons (pv 0) (pa_cons pe_int pa_nil))) (fun _ _ => rfl))))
      (pss_one (ps_ret (pe_tup (pa_cons pe_str (pa_cons (pe_call G__law_expression (hr.mono (by omega)) (by rfl) T.g__law_expression kp__law_expression b__law_expression .nil pass0 (pa_cons (pv 0) (pa_cons (pe_op op_sub (pv 1) pe_int) pa_nil))) (pa_cons (pe_tupleOf (by rfl) T.n_tuple (pv 3)) (pa_cons (pe_tupleOf (by rfl) T.n_tuple (pe_slice sl_list (pv 2) po_none (po_some pe_int))) pa_nil)))))))))), ?_⟩
    refine ⟨_, rfl, s, 3, rfl, sm, by decide, by decide, fun H1 r1 hr1 k1 sm1 => ⟨_, rfl, by omega, by omega, ?_⟩⟩
    have s1 : Sk s H H1 := ⟨k1, sm, sm1⟩
    intro D nD
    refine lc_it (walk_range (lo := 0) (n := (r1 : Int).toNat)) (GK s H1 D (ExV (n + 1))) (GK.start sm1 nD) (fun i H' _ g => trivial) ?_ ?_
    · rintro i v H3 H2 hi g ⟨rfl, rfl⟩
      refine ⟨rfl, _, rfl, _, rfl, _, _, rfl, rfl, s, dne, g.1.m', fun H4 v d k4 dv ex => ?_⟩
      exact GK.push nD g k4 ⟨d, dv, ex⟩ (by omega) fun _ _ _ t z => z.mono t
    · rintro H2 ⟨k2, acc, eD, len, all⟩
      have nDs := sm1.ne nD
      refine ⟨_, rfl, s, 3, rfl, k2.m', by decide, by decide, fun H3 r3 hr3 k3 sm3 => ?_⟩
      have s3 : Sk s H2 H3 := ⟨k3, k2.m', sm3⟩
      have eD3 := s3.lst eD nDs
      refine ⟨_, _, rfl, rfl, _, rfl, ifB (fun z => ?_) fun z => ?_⟩
      · refine ⟨_, rfl, s, 3, rfl, sm3, by decide, by decide, fun H4 r4 hr4 k4 sm4 => ?_⟩
        have s4 : Sk s H3 H4 := ⟨k4, sm3, sm4⟩
        obtain ⟨c, e1, e2⟩ := sign_at (z := "fgh") (n := 3) (by decide +kernel) hr4
        refine ⟨_, _, c, rfl, rfl, by decide +kernel, e1, ?_⟩
        refine ⟨_, rfl, .inl ⟨_, _, rfl, SqL.of (s4.lst eD3 nDs), fun p np => ?_⟩⟩
        refine ⟨by show 3 ≤ sizeLine; decide, fun p2 np2 => ?_⟩
        have sA := ((Same.refl H4).up (o := .tup acc) np).up (o := .tup [.str "call", .str ⟨#[c]⟩, .ref p]) np2
        have sB := (s3.trans s4).same sA
        obtain ⟨ds, h1, h2⟩ := exVs fun v hv => (all v hv).mono sB.tups
        have l1 := h1.length
        have ep : upd (upd H4 p (.tup acc)) p2 (.tup [.str "call", .str ⟨#[c]⟩, .ref p]) p = some (.tup acc) := upd_of upd_same np2
        exact q _ _ _ (s1.trans (k2.trans sB)) (.tup upd_same (.cons (.str _) (.cons (.str _) (.cons (.tup ep h1) .nil)))) (ex_mk (ss := ["name", "args"]) (by decide +kernel) (.cons (.name e2) (.cons (.args (by omega) h2) .nil)))
      · refine ⟨_, rfl, s, 3, rfl, sm3, by decide, by decide, fun H4 r4 hr4 k4 sm4 => ⟨_, _, rfl, rfl, _, rfl, by omega, by omega, ?_⟩⟩
        have s4 : Sk s H3 H4 := ⟨k4, sm3, sm4⟩
        have eD4 := s4.lst eD3 nDs
        intro F nF
        refine lc_it (walk_range (lo := 0) (n := (1 + (r4 : Int)).toNat)) (GK s H4 F (fun v _ => NmV v)) (GK.start sm4 nF) (fun i H' _ g => trivial) ?_ ?_
        · rintro i v H6 H5 hi g ⟨rfl, rfl⟩
          refine ⟨rfl, _, rfl, s, 3, rfl, g.1.m', by decide, by decide, fun H7 r7 hr7 k7 sm7 => ?_⟩
          obtain ⟨c, e1, e2⟩ := sign_at (z := "fgh") (n := 3) (by decide +kernel) hr7
          refine ⟨_, _, c, rfl, rfl, by decide +kernel, e1, ?_⟩
          exact GK.push nF g ⟨k7, g.1.m', sm7⟩ ⟨_, rfl, e2⟩ (by omega) fun _ _ _ _ z => z
        · rintro H5 ⟨k5, accF, eF, lenF, allF⟩
          have nFs := sm4.ne nF
          have eD5 := k5.lst eD4 nDs
          refine ⟨_, rfl, _, rfl, _, _, rfl, rfl, s, dne, k5.m', fun H6 v d k6 dv ex => ?_⟩
          have eD6 := k6.lst eD5 nDs
          have eF6 := k6.lst eF nFs
          refine ⟨_, rfl, .inl ⟨_, _, rfl, SqL.of eF6, fun p np => ?_⟩⟩
          have eD7 : upd H6 p (.tup accF) D = some (.lst acc) := upd_of eD6 np
          refine ⟨_, rfl, _, rfl, D, _, rfl, SqL.of eD7, fun L nL => .inl ⟨_, _, rfl, SqL.of upd_same, fun p2 np2 => ?_⟩⟩
          refine ⟨by show 4 ≤ sizeLine; decide, fun p3 np3 => ?_⟩
          have sA := (((Same.refl H6).up (o := .tup accF) np).up (o := .lst (cutV acc none (some 1))) nL).up (o := .tup (cutV acc none (some 1))) np2
          have ep2 : (upd (upd (upd H6 p (.tup accF)) L (.lst (cutV acc none (some 1)))) p2 (.tup (cutV acc none (some 1)))) p2 = some (.tup (cutV acc none (some 1))) := upd_same
          have ep : (upd (upd (upd H6 p (.tup accF)) L (.lst (cutV acc none (some 1)))) p2 (.tup (cutV acc none (some 1)))) p = some (.tup accF) := upd_of (upd_of upd_same nL) np2
          generalize (upd (upd (upd H6 p (.tup accF)) L (.lst (cutV acc none (some 1)))) p2 (.tup (cutV acc none (some 1)))) = H8 at *
          have s8 := (Same.refl H8).up (o := .tup [.str "pick", v, .ref p, .ref p2]) np3
          have sB := (s3.trans (s4.trans (k5.trans k6))).same (sA.trans s8)
          obtain ⟨xs, rfl, hx⟩ := nmVs allF
          obtain ⟨ds, h1, h2⟩ := exVs (n := n + 1) (vs := cutV acc none (some 1)) fun v hv => (all v (mem_cutV hv)).mono sB.tups
          have l1 := h1.length
          have l2 := cutV_length acc none (some 1)
          rw [List.length_map] at lenF
          refine q _ _ _ (s1.trans (k2.trans sB)) (.tup upd_same (.cons (.str _) (.cons (dv.mono (Tups.of (sA.trans s8))) (.cons (.tup (s8 _ _ ep) (strs_dq _ xs)) (.cons (.tup (s8 _ _ ep2) h1) .nil))))) (ex_mk (ss := ["part", "names", "args"]) (by decide +kernel) (.cons (.part ex) (.cons (.names (by omega) (by omega) hx) (.cons (.args (by omega) h2) .nil))))
end
end Ta
namespace Ta
open PySem PySem.Spec PyProof.Rows L2 DX
section
variable {P : Program} {w : World} {K : PySem.W.Frag} {mg : Str → Option Value} {base : Heap}
theorem law_calling_never (T : Tx w K mg) : Ok P w K mg base CX0 1 ("_law_calling", none) ["_law_stream_here", "_law_deep"] (fun _ _ _ _ => False) := by
  refine mkOk T.d__law_calling sc__law_calling (k := 0) (fun vs H Q E h => h.elim) (fun _ _ _ _ _ _ us hl => match us, hl with | [_, _], _ => rfl) (fun cdv A outer s H vs Q E hr h => h.elim)
theorem law_asking_never (T : Tx w K mg) : Ok P w K mg base CX0 1 ("_law_asking", none) ["_law_stream_here", "_law_deep"] (fun _ _ _ _ => False) := by
  refine mkOk T.d__law_asking sc__law_asking (k := 0) (fun vs H Q E h => h.elim) (fun _ _ _ _ _ _ us hl => match us, hl with | [_, _], _ => rfl) (fun cdv A outer s H vs Q E hr h => h.elim)
theorem sc__law_expression : FnScope ["_law_stream_here", "_law_deep", "_law_way", "_law_one", "_law_other", "_law_word"] ["_law_stream_here", "_law_deep"] (defScope s__law_expression) := ⟨rfl, rfl, rfl, by decide +kernel, rfl, by decide +kernel, by decide +kernel⟩
theorem law_expression_never (T : Tx w K mg) : Ok P w K mg base CX0 1 ("_law_expression", none) ["_law_stream_here", "_law_deep"] (fun _ _ _ _ => False) := by
  refine mkOk T.d__law_expression sc__law_expression (k := 0) (fun vs H Q E h => h.elim) (fun _ _ _ _ _ _ us hl => match us, hl with | [_, _], _ => rfl) (fun cdv A outer s H vs Q E hr h => h.elim)
theorem ok_law_expression0 (T : Tx w K mg) : Ok P w K mg base CX0 2 ("_law_expression", none) ["_law_stream_here", "_law_deep"] (spEx 0) := by
  obtain ⟨_, G__law_take, b__law_take, kp__law_take⟩ := ok_law_take (P := P) (base := base) T
  obtain ⟨_, G__law_expression, b__law_expression, kp__law_expression⟩ := law_expression_never (P := P) (base := base) T
  obtain ⟨_, G__law_calling, b__law_calling, kp__law_calling⟩ := law_calling_never (P := P) (base := base) T
  obtain ⟨_, G__law_asking, b__law_asking, kp__law_asking⟩ := law_asking_never (P := P) (base := base) T
  refine mkOk T.d__law_expression sc__law_expression (k := 1) (fun vs H Q E h => ?_) (fun _ _ _ _ _ _ us hl => match us, hl with | [_, _], _ => rfl) (fun cdv A outer s H vs Q E hr h => ?_)
  · obtain ⟨s, rfl, _⟩ := h
    rfl
  · obtain ⟨s, rfl, sm, q⟩ := h
    have line := sizeLine_eq
    refine ⟨_, (pss_cons (ps_set (i := 2) sc__law_expression.nd (by rfl) (Or.inl rfl) (pe_call G__law_take (hr.mono (by omega)) (by rfl) T.g__law_take kp__law_take b__law_take .nil pass0 (pa_cons (pv 0) (pa_cons pe_int pa_nil))))
      (pss_cons (ps_if (PW.pt (pw_or (pt_cmpR op_eq (pv 1) pe_int (nomark _)) (pw_or1 (pt_cmpR op_eq (pv 2) pe_int (nomark _))))) (pss_one (ps_ret (pe_ix ix_list (pe_lst (pa_cons (pe_tup (pa_cons pe_str (pa_cons (pe_call G__law_take (hr.mono (by omega)) (by rfl) T.g__law_take kp__law_take b__law_take .nil pass0 (pa_cons (pv 0) (pa_cons pe_int pa_nil))) pa_nil))) (pa_cons (pe_tup (pa_cons pe_str (pa_cons (pe_call G__law_take (hr.mono (by omega)) (by rfl) T.g__law_take kp__law_take b__law_take .nil pass0 (pa_cons (pv 0) (pa_cons pe_int pa_nil))) pa_nil))) (pa_cons (pe_tup (pa_cons pe_str pa_nil)) pa_nil)))) (pe_call G__law_take (hr.mono (by omega)) (by rfl) T.g__law_take kp__law_take b__law_take .nil pass0 (pa_cons (pv 0) (pa_cons pe_int pa_nil))) (fun _ _ => rfl)))) pss_nil)
      (pss_cons (ps_if (pt_cmpR op_lt (pv 2) pe_int (nomark _)) (pss_one (ps_ret (pe_call G__law_calling (hr.mono (by omega)) (by rfl) T.g__law_calling kp__law_calling b__law_calling .nil pass0 (pa_cons (pv 0) (pa_cons (pv 1) pa_nil))))) pss_nil)
      (pss_cons (ps_if (pt_cmpR op_lt (pv 2) pe_int (nomark _)) (pss_one (ps_ret (pe_call G__law_asking (hr.mono (by omega)) (by rfl) T.g__law_asking kp__law_asking b__law_asking .nil pass0 (pa_cons (pv 0) (pa_cons (pv 1) pa_nil))))) pss_nil)
      (pss_cons (ps_set (i := 3) sc__law_expression.nd (by rfl) (Or.inl rfl) (pe_call G__law_expression (hr.mono (by omega)) (by rfl) T.g__law_expression kp__law_expression b__law_expression .nil pass0 (pa_cons (pv 0) (pa_cons (pe_op op_sub (pv 1) pe_int) pa_nil))))
      (pss_cons (ps_set (i := 4) sc__law_expression.nd (by rfl) (Or.inl rfl) (pe_call G__law_expression (hr.mono (by omega)) (by rfl) T.g__law_expression kp__law_expression b__law_expression .nil pass0 (pa_cons (pv 0) (pa_cons (pe_op op_sub (pv 1) pe_int) pa_nil))))
      (pss_cons (ps_set (i := 5) sc__law_expression.nd (by rfl) (Or.inl rfl) (pe_ix ix_list (pe_lst (pa_cons pe_str (pa_cons pe_str (pa_cons pe_str (pa_cons pe_str (pa_cons pe_str (pa_cons pe_str (pa_cons pe_str pa_nil)))))))) (pe_call G__law_take (hr.mono (by omega)) (by rfl) T.g__law_take kp__law_take b__law_take .nil pass0 (pa_cons (pv 0) (pa_cons pe_int pa_nil))) (fun _ _ => rfl)))
      (pss_cons (ps_if (pt_cmpR op_eq (pv 5) pe_str (nomark _)) (pss_one (ps_ret (pe_tup (pa_cons pe_str (pa_cons (pv 3) (pa_cons (pv 4) (pa_cons (pe_call G__law_expression (hr.mono (by omega)) (by rfl) T.g__law_expression kp__law_expression b__law_expression .nil pass0 (pa_cons (pv 0) (pa_cons (pe_op op_sub (pv 1) pe_int) pa_nil))) pa_nil))))))) pss_nil)
      (pss_cons (ps_if (pt_cmpR op_eq (pv 5) pe_str (nomark _)) (pss_one (ps_ret (pe_tup (pa_cons pe_str (pa_cons (pv 4) pa_nil))))) pss_nil)
      (pss_one (ps_ret (pe_tup (pa_cons (pv 5) (pa_cons (pv 3) (pa_cons (pv 4) pa_nil))))))))))))))), ?_⟩
    refine ⟨_, rfl, s, 9, rfl, sm, by decide, by decide, fun H1 r1 hr1 k1 sm1 => ?_⟩
    have s1 : Sk s H H1 := ⟨k1, sm, sm1⟩
    refine ⟨_, rfl, rfl, _, rfl, ifT (decide_eq_true rfl) (ifT rfl ?_)⟩
    refine ⟨_, rfl, s, 5, rfl, sm1, by decide, by decide, fun H2 r2 hr2 k2 sm2 => ⟨by show 2 ≤ sizeLine; decide, fun p np => ?_⟩⟩
    have s2 : Sk s H1 H2 := ⟨k2, sm1, sm2⟩
    have t2 := s2.same ((Same.refl H2).up (o := .tup [.str "num", nV r2]) np)
    have e2 : upd H2 p (.tup [.str "num", nV r2]) p = some (.tup [.str "num", nV r2]) := upd_same
    generalize upd H2 p (.tup [.str "num", nV r2]) = G2 at *
    refine ⟨_, rfl, s, 4, rfl, t2.m', by decide, by decide, fun H3 r3 hr3 k3 sm3 => ⟨by show 2 ≤ sizeLine; decide, fun p2 np2 => ?_⟩⟩
    have s3 : Sk s G2 H3 := ⟨k3, t2.m', sm3⟩
    have t3 := s3.same ((Same.refl H3).up (o := .tup [.str "arg", nV r3]) np2)
    have e3 : upd H3 p2 (.tup [.str "arg", nV r3]) p2 = some (.tup [.str "arg", nV r3]) := upd_same
    have e3' := t3.at e2 (fun xs z => (nomatch z))
    generalize upd H3 p2 (.tup [.str "arg", nV r3]) = G3 at *
    refine ⟨by show 1 ≤ sizeLine; decide, fun p3 np3 => ⟨by show 3 ≤ sizeLine; decide, fun L nL => ?_⟩⟩
    have u4 := ((Same.refl G3).up (o := .tup [.str "clock"]) np3).up (o := .lst [.ref p, .ref p2, .ref p3]) nL
    have e4 : upd (upd G3 p3 (.tup [.str "clock"])) L (.lst [.ref p, .ref p2, .ref p3]) p3 = some (.tup [.str "clock"]) := upd_of upd_same nL
    have e5 : upd (upd G3 p3 (.tup [.str "clock"])) L (.lst [.ref p, .ref p2, .ref p3]) L = some (.lst [.ref p, .ref p2, .ref p3]) := upd_same
    have nLs : L ≠ s := (t3.m'.mono ((Same.refl G3).up (o := .tup [.str "clock"]) np3)).ne nL
    have t4 := t3.same u4
    have e6 := u4 _ _ e3'
    have e7 := u4 _ _ e3
    generalize upd (upd G3 p3 (.tup [.str "clock"])) L (.lst [.ref p, .ref p2, .ref p3]) = G4 at *
    refine ⟨_, rfl, s, 3, rfl, t4.m', by decide, by decide, fun H5 r5 hr5 k5 sm5 => ?_⟩
    have s5 : Sk s G4 H5 := ⟨k5, t4.m', sm5⟩
    have sA : Sk s H H5 := s1.trans (t2.trans (t4.trans s5))
    obtain ⟨v, d, ev, dv, ex⟩ : ∃ v d, ([.ref p, .ref p2, .ref p3] : List V)[r5]? = some v ∧ Dq H5 v d ∧ Ex (0 + 1) d := by
      match r5, hr5 with
      | 0, _ => exact ⟨_, _, rfl, .tup (s5.at e6 (fun xs z => (nomatch z))) (.cons (.str _) (.cons (.int _) .nil)), ex_leaf1 _ (by omega) (by omega)⟩
      | 1, _ => exact ⟨_, _, rfl, .tup (s5.at e7 (fun xs z => (nomatch z))) (.cons (.str _) (.cons (.int _) .nil)), ex_leaf2 _ (by omega) (by omega)⟩
      | 2, _ => exact ⟨_, _, rfl, .tup (s5.at e4 (fun xs z => (nomatch z))) (.cons (.str _) .nil), ex_leaf3 _⟩
      | n + 3, h => omega
    exact ⟨L, _, _, _, rfl, rfl, SqL.of (s5.lst e5 nLs), atI_nat ev, q _ _ _ sA dv ex⟩
theorem ok_law_expressionS (T : Tx w K mg) (n : Nat) (ih : Ok P w K mg base CX0 (2 * n + 2) ("_law_expression", none) ["_law_stream_here", "_law_deep"] (spEx n)) : Ok P w K mg base CX0 (2 * n + 4) ("_law_expression", none) ["_law_stream_here", "_law_deep"] (spEx (n + 1)) := by
  obtain ⟨_, G__law_take, b__law_take, kp__law_take⟩ := ok_law_take (P := P) (base := base) T
  obtain ⟨_, G__law_calling, b__law_calling, kp__law_calling⟩ := ok_law_calling (P := P) (base := base) T n ih
  obtain ⟨_, G__law_asking, b__law_asking, kp__law_asking⟩ := ok_law_asking (P := P) (base := base) T n ih
  obtain ⟨_, G__law_expression, b__law_expression, kp__law_expression⟩ := ih
  refine mkOk T.d__law_expression sc__law_expression (k := 2 * n + 3) (fun vs H Q E h => ?_) (fun _ _ _ _ _ _ us hl => match us, hl with | [_, _], _ => rfl) (fun cdv A outer s H vs Q E hr h => ?_)
  · obtain ⟨s, rfl, _⟩ := h
    rfl
  · obtain ⟨s, rfl, sm, q⟩ := h
    have line := sizeLine_eq
    have dne : [V.ref s, V.int (((n + 1 : Nat) : Int) - 1)] = [V.ref s, nV n] := by rw [show (((n + 1 : Nat) : Int) - 1) = (n : Int) by omega]
    refine ⟨_, (pss_cons (ps_set (i := 2) sc__law_expression.nd (by rfl) (Or.inl rfl) (pe_call G__law_take (hr.mono (by omega)) (by rfl) T.g__law_take kp__law_take b__law_take .nil pass0 (pa_cons (pv 0) (pa_cons pe_int pa_nil))))
      (pss_cons (ps_if (PW.pt (pw_or (pt_cmpR op_eq (pv 1) pe_int (nomark _)) (pw_or1 (pt_cmpR op_eq (pv 2) pe_int (nomark _))))) (pss_one (ps_ret (pe_ix ix_list (pe_lst (pa_cons (pe_tup (pa_cons pe_str (pa_cons (pe_call G__law_take (hr.mono (by omega)) (by rfl) T.g__law_take kp__law_take b__law_take .nil pass0 (pa_cons (pv 0) (pa_cons pe_int pa_nil))) pa_nil))) (pa_cons (pe_tup (pa_cons pe_str (pa_cons (pe_call G__law_take (hr.mono (by omega)) (by rfl) T.g__law_take kp__law_take b__law_take .nil pass0 (pa_cons (pv 0) (pa_cons pe_int pa_nil))) pa_nil))) (pa_cons (pe_tup (pa_cons pe_str pa_nil)) pa_nil)))) (pe_call G__law_take (hr.mono (by omega)) (by rfl) T.g__law_take kp__law_take b__law_take .nil pass0 (pa_cons (pv 0) (pa_cons pe_int pa_nil))) (fun _ _ => rfl)))) pss_nil)
      (pss_cons (ps_if (pt_cmpR op_lt (pv 2) pe_int (nomark _)) (pss_one (ps_ret (pe_call G__law_calling (hr.mono (by omega)) (by rfl) T.g__law_calling kp__law_calling b__law_calling .nil pass0 (pa_cons (pv 0) (pa_cons (pv 1) pa_nil))))) pss_nil)
      (pss_cons (ps_if (pt_cmpR op_lt (pv 2) pe_int (nomark _)) (pss_one (ps_ret (pe_call G__law_asking (hr.mono (by omega)) (by rfl) T.g__law_asking kp__law_asking b__law_asking .nil pass0 (pa_cons (pv 0) (pa_cons (pv 1) pa_nil))))) pss_nil)
      (pss_cons (ps_set (i := 3) sc__law_expression.nd (by rfl) (Or.inl rfl) (pe_call G__law_expression (hr.mono (by omega)) (by rfl) T.g__law_expression kp__law_expression b__law_expression .nil pass0 (pa_cons (pv 0) (pa_cons (pe_op op_sub (pv 1) pe_int) pa_nil))))
      (pss_cons (ps_set (i := 4) sc__law_expression.nd (by rfl) (Or.inl rfl) (pe_call G__law_expression (hr.mono (by omega)) (by rfl) T.g__law_expression kp__law_expression b__law_expression .nil pass0 (pa_cons (pv 0) (pa_cons (pe_op op_sub (pv 1) pe_int) pa_nil))))
      (pss_cons (ps_set (i := 5) sc__law_expression.nd (by rfl) (Or.inl rfl) (pe_ix ix_list (pe_lst (pa_cons pe_str (pa_cons pe_str (pa_cons pe_str (pa_cons pe_str (pa_cons pe_str (pa_cons pe_str (pa_cons pe_str pa_nil)))))))) (pe_call G__law_take (hr.mono (by omega)) (by rfl) T.g__law_take kp__law_take b__law_take .nil pass0 (pa_cons (pv 0) (pa_cons pe_int pa_nil))) (fun _ _ => rfl)))
      (pss_cons (ps_if (pt_cmpR op_eq (pv 5) pe_str (nomark _)) (pss_one (ps_ret (pe_tup (pa_cons pe_str (pa_cons (pv 3) (pa_cons (pv 4) (pa_cons (pe_call G__law_expression (hr.mono (by omega)) (by rfl) T.g__law_expression kp__law_expression b__law_expression .nil pass0 (pa_cons (pv 0) (pa_cons (pe_op op_sub (pv 1) pe_int) pa_nil))) pa_nil))))))) pss_nil)
      (pss_cons (ps_if (pt_cmpR op_eq (pv 5) pe_str (nomark _)) (pss_one (ps_ret (pe_tup (pa_cons pe_str (pa_cons (pv 4) pa_nil))))) pss_nil)
      (pss_one (ps_ret (pe_tup (pa_cons (pv 5) (pa_cons (pv 3) (pa_cons (pv 4) pa_nil))))))))))))))), ?_⟩
    refine ⟨_, rfl, s, 9, rfl, sm, by decide, by decide, fun H1 r1 hr1 k1 sm1 => ?_⟩
    have s1 : Sk s H H1 := ⟨k1, sm, sm1⟩
    refine ⟨_, rfl, rfl, _, rfl, ifF (decide_eq_false fun z => by have := V.int.inj z; omega) ⟨_, rfl, rfl, _, rfl, ifB (fun z => ?_) fun z => ?_⟩⟩
    · skip
      refine ⟨_, rfl, s, 5, rfl, sm1, by decide, by decide, fun H2 r2 hr2 k2 sm2 => ⟨by show 2 ≤ sizeLine; decide, fun p np => ?_⟩⟩
      have s2 : Sk s H1 H2 := ⟨k2, sm1, sm2⟩
      have t2 := s2.same ((Same.refl H2).up (o := .tup [.str "num", nV r2]) np)
      have e2 : upd H2 p (.tup [.str "num", nV r2]) p = some (.tup [.str "num", nV r2]) := upd_same
      generalize upd H2 p (.tup [.str "num", nV r2]) = G2 at *
      refine ⟨_, rfl, s, 4, rfl, t2.m', by decide, by decide, fun H3 r3 hr3 k3 sm3 => ⟨by show 2 ≤ sizeLine; decide, fun p2 np2 => ?_⟩⟩
      have s3 : Sk s G2 H3 := ⟨k3, t2.m', sm3⟩
      have t3 := s3.same ((Same.refl H3).up (o := .tup [.str "arg", nV r3]) np2)
      have e3 : upd H3 p2 (.tup [.str "arg", nV r3]) p2 = some (.tup [.str "arg", nV r3]) := upd_same
      have e3' := t3.at e2 (fun xs z => (nomatch z))
      generalize upd H3 p2 (.tup [.str "arg", nV r3]) = G3 at *
      refine ⟨by show 1 ≤ sizeLine; decide, fun p3 np3 => ⟨by show 3 ≤ sizeLine; decide, fun L nL => ?_⟩⟩
      have u4 := ((Same.refl G3).up (o := .tup [.str "clock"]) np3).up (o := .lst [.ref p, .ref p2, .ref p3]) nL
      have e4 : upd (upd G3 p3 (.tup [.str "clock"])) L (.lst [.ref p, .ref p2, .ref p3]) p3 = some (.tup [.str "clock"]) := upd_of upd_same nL
      have e5 : upd (upd G3 p3 (.tup [.str "clock"])) L (.lst [.ref p, .ref p2, .ref p3]) L = some (.lst [.ref p, .ref p2, .ref p3]) := upd_same
      have nLs : L ≠ s := (t3.m'.mono ((Same.refl G3).up (o := .tup [.str "clock"]) np3)).ne nL
      have t4 := t3.same u4
      have e6 := u4 _ _ e3'
      have e7 := u4 _ _ e3
      generalize upd (upd G3 p3 (.tup [.str "clock"])) L (.lst [.ref p, .ref p2, .ref p3]) = G4 at *
      refine ⟨_, rfl, s, 3, rfl, t4.m', by decide, by decide, fun H5 r5 hr5 k5 sm5 => ?_⟩
      have s5 : Sk s G4 H5 := ⟨k5, t4.m', sm5⟩
      have sA : Sk s H H5 := s1.trans (t2.trans (t4.trans s5))
      obtain ⟨v, d, ev, dv, ex⟩ : ∃ v d, ([.ref p, .ref p2, .ref p3] : List V)[r5]? = some v ∧ Dq H5 v d ∧ Ex ((n + 1) + 1) d := by
        match r5, hr5 with
        | 0, _ => exact ⟨_, _, rfl, .tup (s5.at e6 (fun xs z => (nomatch z))) (.cons (.str _) (.cons (.int _) .nil)), ex_leaf1 _ (by omega) (by omega)⟩
        | 1, _ => exact ⟨_, _, rfl, .tup (s5.at e7 (fun xs z => (nomatch z))) (.cons (.str _) (.cons (.int _) .nil)), ex_leaf2 _ (by omega) (by omega)⟩
        | 2, _ => exact ⟨_, _, rfl, .tup (s5.at e4 (fun xs z => (nomatch z))) (.cons (.str _) .nil), ex_leaf3 _⟩
        | n + 3, h => omega
      exact ⟨L, _, _, _, rfl, rfl, SqL.of (s5.lst e5 nLs), atI_nat ev, q _ _ _ sA dv ex⟩
    · refine ⟨_, rfl, _, _, rfl, rfl, _, rfl, ifB (fun z => ⟨_, rfl, _, rfl, s, rfl, sm1, fun H2 v d k2 dv ex => q _ _ _ (s1.trans k2) dv ex⟩) fun z => ?_⟩
      refine ⟨_, rfl, _, _, rfl, rfl, _, rfl, ifB (fun z => ⟨_, rfl, _, rfl, s, rfl, sm1, fun H2 v d k2 dv ex => q _ _ _ (s1.trans k2) dv ex⟩) fun z => ?_⟩
      refine ⟨_, rfl, _, rfl, _, _, rfl, rfl, s, dne, sm1, fun H2 v2 d2 k2 dv2 ex2 => ?_⟩
      refine ⟨_, rfl, _, rfl, _, _, rfl, rfl, s, dne, k2.m', fun H3 v3 d3 k3 dv3 ex3 => ?_⟩
      refine ⟨by show 7 ≤ sizeLine; decide, fun L nL => ?_⟩
      have sL := k3.same ((Same.refl H3).up (o := .lst [.str "add", .str "sub", .str "mul", .str "less", .str "same", .str "if", .str "stop"]) nL)
      have eL : upd H3 L (.lst [.str "add", .str "sub", .str "mul", .str "less", .str "same", .str "if", .str "stop"]) L = some (.lst [.str "add", .str "sub", .str "mul", .str "less", .str "same", .str "if", .str "stop"]) := upd_same
      have dv3L := dv3.mono (Tups.of ((Same.refl H3).up (o := .lst [.str "add", .str "sub", .str "mul", .str "less", .str "same", .str "if", .str "stop"]) nL))
      have nLs := k3.m'.ne nL
      generalize upd H3 L (.lst [.str "add", .str "sub", .str "mul", .str "less", .str "same", .str "if", .str "stop"]) = HL at *
      refine ⟨_, rfl, s, 7, rfl, sL.m', by decide, by decide, fun H5 r5 hr5 k5 sm5 => ?_⟩
      have s5 : Sk s HL H5 := ⟨k5, sL.m', sm5⟩
      obtain ⟨word, ew, hw⟩ : ∃ word : Str, ([.str "add", .str "sub", .str "mul", .str "less", .str "same", .str "if", .str "stop"] : List V)[r5]? = some (.str word) ∧ (word = "if" ∨ word = "stop" ∨ (word, (["part", "part"] : List Str)) ∈ shapes) := by
        match r5, hr5 with
        | 0, _ => exact ⟨"add", rfl, .inr (.inr (by decide +kernel))⟩
        | 1, _ => exact ⟨"sub", rfl, .inr (.inr (by decide +kernel))⟩
        | 2, _ => exact ⟨"mul", rfl, .inr (.inr (by decide +kernel))⟩
        | 3, _ => exact ⟨"less", rfl, .inr (.inr (by decide +kernel))⟩
        | 4, _ => exact ⟨"same", rfl, .inr (.inr (by decide +kernel))⟩
        | 5, _ => exact ⟨"if", rfl, .inl rfl⟩
        | 6, _ => exact ⟨"stop", rfl, .inr (.inl rfl)⟩
        | n + 7, h => omega
      refine ⟨L, _, _, _, rfl, rfl, SqL.of (s5.lst eL nLs), atI_nat ew, ?_⟩
      have dv2' := dv2.mono (sL.trans s5).tups
      have dv3' := dv3L.mono s5.tups
      have sA : Sk s H H5 := s1.trans (k2.trans (sL.trans s5))
      refine ⟨_, rfl, rfl, _, rfl, ifB (fun y => ?_) fun y => ?_⟩
      · refine ⟨_, rfl, _, rfl, _, rfl, _, rfl, _, _, rfl, rfl, s, dne, sm5, fun H6 v6 d6 k6 dv6 ex6 => ⟨by show 4 ≤ sizeLine; decide, fun p np => ?_⟩⟩
        have s7 := k6.same ((Same.refl H6).up (o := .tup [.str "if", v2, v3, v6]) np)
        exact q _ _ _ (sA.trans s7) (.tup upd_same (.cons (.str _) (.cons (dv2'.mono s7.tups) (.cons (dv3'.mono s7.tups) (.cons (dv6.mono (Tups.of ((Same.refl H6).up (o := .tup [.str "if", v2, v3, v6]) np))) .nil))))) (ex_mk (ss := ["part", "part", "part"]) (by decide +kernel) (.cons (.part ex2) (.cons (.part ex3) (.cons (.part ex6) .nil))))
      · refine ⟨_, rfl, rfl, _, rfl, ifB (fun x => ?_) fun x => ?_⟩
        · refine ⟨_, rfl, by show 2 ≤ sizeLine; decide, fun p np => ?_⟩
          have s7 := (Same.refl H5).up (o := .tup [.str "stop", v3]) np
          exact q _ _ _ (sA.same s7) (.tup upd_same (.cons (.str _) (.cons (dv3'.mono (Tups.of s7)) .nil))) (ex_mk (ss := ["part"]) (by decide +kernel) (.cons (.part ex3) .nil))
        · have hs : (word, (["part", "part"] : List Str)) ∈ shapes := by
            rcases hw with rfl | rfl | h
            · exact absurd rfl (of_decide_eq_false y)
            · exact absurd rfl (of_decide_eq_false x)
            · exact h
          refine ⟨_, rfl, _, rfl, _, rfl, by show 3 ≤ sizeLine; decide, fun p np => ?_⟩
          have s7 := (Same.refl H5).up (o := .tup [.str word, v2, v3]) np
          exact q _ _ _ (sA.same s7) (.tup upd_same (.cons (.str _) (.cons (dv2'.mono (Tups.of s7)) (.cons (dv3'.mono (Tups.of s7)) .nil)))) (ex_mk (ss := ["part", "part"]) hs (.cons (.part ex2) (.cons (.part ex3) .nil)))
theorem ok_law_expression (T : Tx w K mg) : ∀ n : Nat, Ok P w K mg base CX0 (2 * n + 2) ("_law_expression", none) ["_law_stream_here", "_law_deep"] (spEx n)
  | 0 => ok_law_expression0 T
  | n + 1 => ok_law_expressionS T n (ok_law_expression T n)
end
end Ta
namespace Ta
open PySem PySem.Spec PyProof.Rows L2 DX
theorem Fit.mono {E E' : PyData → Prop} (m : ∀ d, E d → E' d) {x : Str} {d : PyData} (h : Fit E x d) : Fit E' x d := by
  cases h with
  | number a b => exact .number a b
  | index a b => exact .index a b
  | name a => exact .name a
  | names a b c => exact .names a b c
  | args a b => exact .args a fun d hd => m d (b d hd)
  | part a => exact .part (m _ a)
theorem ex_up : ∀ {n : Nat} {d : PyData}, Ex n d → Ex (n + 1) d
  | 0, _, h => h.elim
  | n + 1, d, ⟨q, hq, ds, e, p⟩ => ⟨q, hq, ds, e, Paired.mapP p fun _ _ z => Fit.mono (fun d hd => ex_up hd) z⟩
section
variable {P : Program} {w : World} {K : PySem.W.Frag} {mg : Str → Option Value} {base : Heap}
def spPutIn : Sp := fun vs H Q _ => ∃ (s a : Addr) (k : List Key), vs = [.ref s, .ref a] ∧ Stm H s ∧ H a = some (.tup (k.map kV)) ∧ PlaceOk k ∧ ∀ H' v d, Sk s H H' → Dq H' v d → ContOk k d → Q v H'
theorem sc__law_put_in : FnScope ["_law_stream_here", "_law_place", "_law_k"] ["_law_stream_here", "_law_place"] (defScope s__law_put_in) := ⟨rfl, rfl, rfl, by decide +kernel, rfl, by decide +kernel, by decide +kernel⟩
theorem ok_law_put_in (T : Tx w K mg) : Ok P w K mg base CX0 5 ("_law_put_in", none) ["_law_stream_here", "_law_place"] spPutIn := by
  obtain ⟨_, G__law_take, b__law_take, kp__law_take⟩ := ok_law_take (P := P) (base := base) T
  obtain ⟨_, G__law_looks, b__law_looks, kp__law_looks⟩ := ok_law_looks (P := P) (base := base) T
  obtain ⟨_, G__law_expression, b__law_expression, kp__law_expression⟩ := ok_law_expression (P := P) (base := base) T 1
  refine mkOk T.d__law_put_in sc__law_put_in (fun vs H Q E h => ?_) (fun _ _ _ _ _ _ us hl => match us, hl with | [_, _], _ => rfl) (fun cdv A outer s H vs Q E hr h => ?_)
  · obtain ⟨s, a, k, rfl, _⟩ := h
    rfl
  · obtain ⟨s, a, k, rfl, sm, e, pl, q⟩ := h
    have line := sizeLine_eq
    refine ⟨_, (pss_cons (ps_if (pt_cmpR op_eq (pe_ix ix_tup (pv 1) pe_int (fun _ _ => rfl)) pe_str (nomark _)) (pss_one (ps_ret (pe_call G__law_expression (hr.mono (by omega)) (by rfl) T.g__law_expression kp__law_expression b__law_expression .nil pass0 (pa_cons (pv 0) (pa_cons pe_int pa_nil))))) pss_nil)
      (pss_cons (ps_if (pt_cmpR op_eq (pe_ix ix_tup (pv 1) pe_int (fun _ _ => rfl)) pe_str (nomark _)) (pss_one (ps_ret (pe_call G__law_looks (hr.mono (by omega)) (by rfl) T.g__law_looks kp__law_looks b__law_looks .nil pass0 (pa_cons (pv 0) (pa_cons (pe_ix ix_tup (pv 1) pe_int (fun _ _ => rfl)) pa_nil))))) pss_nil)
      (pss_cons (ps_if (pt_cmpR op_eq (pe_ix ix_tup (pv 1) pe_int (fun _ _ => rfl)) pe_str (nomark _)) (pss_one (ps_ret (pe_tupleOf (by rfl) T.n_tuple (pe_lc (own := [("_law_k", 2)]) (g := gName 2) (tt := tYes) rfl sc__law_put_in.nd (pi_range1 (by rfl) T.n_range (pa_cons (pe_call G__law_take (hr.mono (by omega)) (by rfl) T.g__law_take kp__law_take b__law_take .nil pass0 (pa_cons (pv 0) (pa_cons pe_int pa_nil))) pa_nil)) (blkOk_by (own := [("_law_k", 2)]) (N := ["_law_stream_here", "_law_place", "_law_k"]) (sc := defScope s__law_put_in) (by decide +kernel)) (fun _ _ _ _ _ => (pg_name (i := 2) sc__law_put_in.nd (by rfl) (Or.inl rfl))) (fun _ _ _ _ _ => pts_nil) (fun _ _ _ _ _ => (pe_call G__law_take (hr.mono (by omega)) (by rfl) T.g__law_take kp__law_take b__law_take .nil pass0 (pa_cons (pv 0) (pa_cons pe_int pa_nil)))))))) pss_nil)
      (pss_one (ps_ret (pe_call G__law_take (hr.mono (by omega)) (by rfl) T.g__law_take kp__law_take b__law_take .nil pass0 (pa_cons (pv 0) (pa_cons pe_int pa_nil)))))))), ?_⟩
    cases pl with
    | df hm hf =>
      refine ⟨_, rfl, a, _, 0, _, rfl, rfl, SqT.of e, at_of (j := 0) rfl rfl, rfl, _, rfl, ifT (decide_eq_true rfl) ?_⟩
      exact ⟨_, rfl, s, rfl, sm, fun H1 v d k1 dv ex => q _ _ _ k1 dv (.df (ex_up ex))⟩
    | looks hm =>
      refine ⟨_, rfl, a, _, 0, _, rfl, rfl, SqT.of e, at_of (j := 0) rfl rfl, rfl, _, rfl, decF (by decide +kernel) ?_⟩
      refine ⟨_, rfl, a, _, 0, _, rfl, rfl, SqT.of e, at_of (j := 0) rfl rfl, rfl, _, rfl, ifT (decide_eq_true rfl) ?_⟩
      exact ⟨_, rfl, _, rfl, a, _, 1, _, rfl, rfl, SqT.of e, at_of (j := 1) rfl rfl, s, _, rfl, sm, fun H1 v d k1 co dv => q _ _ _ k1 dv co⟩
    | file hf =>
      refine ⟨_, rfl, a, _, 0, _, rfl, rfl, SqT.of e, at_of (j := 0) rfl rfl, rfl, _, rfl, decF (by decide +kernel) ?_⟩
      refine ⟨_, rfl, a, _, 0, _, rfl, rfl, SqT.of e, at_of (j := 0) rfl rfl, rfl, _, rfl, decF (by decide +kernel) ?_⟩
      refine ⟨_, rfl, a, _, 0, _, rfl, rfl, SqT.of e, at_of (j := 0) rfl rfl, rfl, _, rfl, ifT (decide_eq_true rfl) ?_⟩
      refine ⟨_, rfl, s, 4, rfl, sm, by decide, by decide, fun H1 n hn k1 sm1 => ⟨_, rfl, by omega, by omega, ?_⟩⟩
      have s1 : Sk s H H1 := ⟨k1, sm, sm1⟩
      intro D nD
      refine lc_it (walk_range (lo := 0) (n := (n : Int).toNat)) (GK s H1 D fun v _ => NatV 5 v) (GK.start sm1 nD) (fun i H' _ g => trivial) ?_ ?_
      · rintro i v H3 H2 hi g ⟨rfl, rfl⟩
        refine ⟨rfl, _, rfl, s, 5, rfl, g.1.m', by decide, by decide, fun H4 r hr k3 sm4 => ?_⟩
        exact GK.push nD g ⟨k3, g.1.m', sm4⟩ ⟨r, rfl, hr⟩ (by omega) fun _ _ _ _ z => z
      · rintro H2 ⟨k2, acc, eD, len, all⟩
        obtain ⟨is, rfl, his⟩ := natVs all
        rw [List.length_map] at len
        refine .inl ⟨_, _, rfl, SqL.of eD, fun p np => ?_⟩
        exact q _ _ _ (s1.trans (k2.same ((Same.refl H2).up (o := .tup (is.map V.int)) np))) (.tup upd_same (ints_dq _ is)) (.file (by omega) fun i hi => ⟨(his i hi).1, by have := (his i hi).2; omega⟩)
    | cell ht h0 h9 =>
      refine ⟨_, rfl, a, _, 0, _, rfl, rfl, SqT.of e, at_of (j := 0) rfl rfl, rfl, _, rfl, decF (by decide +kernel) ?_⟩
      refine ⟨_, rfl, a, _, 0, _, rfl, rfl, SqT.of e, at_of (j := 0) rfl rfl, rfl, _, rfl, decF (by decide +kernel) ?_⟩
      refine ⟨_, rfl, a, _, 0, _, rfl, rfl, SqT.of e, at_of (j := 0) rfl rfl, rfl, _, rfl, decF (by decide +kernel) ?_⟩
      exact ⟨_, rfl, s, 5, rfl, sm, by decide, by decide, fun H1 n hn k1 sm1 => q _ _ _ ⟨k1, sm, sm1⟩ (.int _) (.cell (by omega) (by omega))⟩
    | clock =>
      refine ⟨_, rfl, a, _, 0, _, rfl, rfl, SqT.of e, at_of (j := 0) rfl rfl, rfl, _, rfl, decF (by decide +kernel) ?_⟩
      refine ⟨_, rfl, a, _, 0, _, rfl, rfl, SqT.of e, at_of (j := 0) rfl rfl, rfl, _, rfl, decF (by decide +kernel) ?_⟩
      refine ⟨_, rfl, a, _, 0, _, rfl, rfl, SqT.of e, at_of (j := 0) rfl rfl, rfl, _, rfl, decF (by decide +kernel) ?_⟩
      exact ⟨_, rfl, s, 5, rfl, sm, by decide, by decide, fun H1 n hn k1 sm1 => q _ _ _ ⟨k1, sm, sm1⟩ (.int _) (.clock (by omega) (by omega))⟩
end
end Ta
namespace Ta
open PySem PySem.Spec PyProof.Rows L2 DX
/-! ### contents, put in -/
def ctPut (ct : Ct) (k : List Key) (d : PyData) : Ct := if (ct.any fun kv => decide (kv.1 = k)) = true then ct.map (fun kv => if kv.1 = k then (kv.1, d) else kv) else ct ++ [(k, d)]
theorem Paired.mapB {α β γ δ : Type} {F : α → β → Prop} {G : γ → δ → Prop} {f : α → γ} {g : β → δ} (m : ∀ a b, F a b → G (f a) (g b)) : ∀ {l : List α} {r : List β}, Paired F l r → Paired G (l.map f) (r.map g)
  | _, _, .nil => .nil
  | _, _, .cons h t => .cons (m _ _ h) (Paired.mapB m t)
theorem Paired.snocB {α β : Type} {F : α → β → Prop} {a : α} {b : β} (h : F a b) : ∀ {l : List α} {r : List β}, Paired F l r → Paired F (l ++ [a]) (r ++ [b])
  | _, _, .nil => .cons h .nil
  | _, _, .cons h1 t => .cons h1 (Paired.snocB h t)
theorem CtV.any {H : Hp} {kvs : List (List Key × V)} {ct : Ct} (h : CtV H kvs ct) (k : List Key) : (kvs.any fun kv => decide (kv.1 = k)) = (ct.any fun kv => decide (kv.1 = k)) := by
  induction h with
  | nil => rfl
  | @cons p q ps qs hp t ih => rw [List.any_cons, List.any_cons, ih, hp.1]
theorem CtV.put {H : Hp} {kvs : List (List Key × V)} {ct : Ct} {k : List Key} {v : V} {d : PyData} (h : CtV H kvs ct) (dv : Dq H v d) : CtV H (putK kvs k v) (ctPut ct k d) := by
  unfold putK ctPut
  rw [h.any k]
  by_cases e : (ct.any fun kv => decide (kv.1 = k)) = true
  · rw [if_pos e, if_pos e]
    refine Paired.mapB (fun a b z => ?_) h
    rw [← z.1]
    by_cases y : a.1 = k
    · rw [if_pos y, if_pos y]
      exact ⟨rfl, dv⟩
    · rw [if_neg y, if_neg y]
      exact z
  · rw [if_neg e, if_neg e]
    exact Paired.snocB (F := fun (kv : List Key × V) (kd : List Key × PyData) => kv.1 = kd.1 ∧ Dq H kv.2 kd.2) (a := (k, v)) (b := (k, d)) ⟨rfl, dv⟩ h
structure CtB (ct : Ct) (n : Nat) : Prop where
  pl : ∀ kd ∈ ct, PlaceOk kd.1
  co : ∀ kd ∈ ct, ContOk kd.1 kd.2
  nd : (ct.map (·.1)).Nodup
  few : ct.length ≤ n
theorem CtB.ok {ct : Ct} {n : Nat} (h : CtB ct n) (hn : n ≤ 30) : CtOk ct := ⟨h.pl, h.co, h.nd, Nat.le_trans h.few hn⟩
theorem CtB.nil (n : Nat) : CtB [] n := ⟨fun _ z => (nomatch z), fun _ z => (nomatch z), List.nodup_nil, Nat.zero_le _⟩
theorem CtB.up {ct : Ct} {n m : Nat} (h : CtB ct n) (hn : n ≤ m) : CtB ct m := ⟨h.pl, h.co, h.nd, Nat.le_trans h.few hn⟩
theorem ctPut_keys (ct : Ct) (k : List Key) (d : PyData) : (∃ kd ∈ ct, kd.1 = k) ∧ (ctPut ct k d).map (·.1) = ct.map (·.1) ∧ (ctPut ct k d).length = ct.length ∨ (¬ ∃ kd ∈ ct, kd.1 = k) ∧ ctPut ct k d = ct ++ [(k, d)] := by
  unfold ctPut
  by_cases e : (ct.any fun kv => decide (kv.1 = k)) = true
  · rw [if_pos e]
    obtain ⟨kd, h1, h2⟩ := List.any_eq_true.mp e
    refine .inl ⟨⟨kd, h1, of_decide_eq_true h2⟩, ?_, by rw [List.length_map]⟩
    rw [List.map_map]
    refine List.map_congr_left fun a ha => ?_
    show (if a.1 = k then (a.1, d) else a).1 = a.1
    split <;> rfl
  · rw [if_neg e]
    exact .inr ⟨fun ⟨kd, h1, h2⟩ => e (List.any_eq_true.mpr ⟨kd, h1, decide_eq_true h2⟩), rfl⟩
theorem ctPut_mem {ct : Ct} {k : List Key} {d : PyData} {kd : List Key × PyData} (h : kd ∈ ctPut ct k d) : kd ∈ ct ∨ kd = (k, d) := by
  unfold ctPut at h
  split at h
  · obtain ⟨a, h1, h2⟩ := List.mem_map.mp h
    by_cases y : a.1 = k
    · rw [if_pos y] at h2
      exact .inr (by rw [← h2, y])
    · rw [if_neg y] at h2
      exact .inl (h2 ▸ h1)
  · rcases List.mem_append.mp h with h | h
    · exact .inl h
    · exact .inr (List.mem_singleton.mp h)
theorem CtB.put {ct : Ct} {n : Nat} {k : List Key} {d : PyData} (h : CtB ct n) (pl : PlaceOk k) (co : ContOk k d) : CtB (ctPut ct k d) (n + 1) := by
  refine ⟨fun kd hk => ?_, fun kd hk => ?_, ?_, ?_⟩
  · rcases ctPut_mem hk with hk | rfl
    · exact h.pl kd hk
    · exact pl
  · rcases ctPut_mem hk with hk | rfl
    · exact h.co kd hk
    · exact co
  · rcases ctPut_keys ct k d with ⟨_, e, _⟩ | ⟨ne, e⟩
    · rw [e]
      exact h.nd
    · rw [e, List.map_append]
      refine List.nodup_append.mpr ⟨h.nd, List.nodup_cons.mpr ⟨List.not_mem_nil, List.nodup_nil⟩, fun a ha b hb z => ?_⟩
      obtain ⟨kd, h1, h2⟩ := List.mem_map.mp ha
      exact ne ⟨kd, h1, by rw [h2, z, List.mem_singleton.mp hb]⟩
  · have hf := h.few
    rcases ctPut_keys ct k d with ⟨_, _, e⟩ | ⟨_, e⟩
    · omega
    · rw [e, List.length_append]
      exact Nat.succ_le_succ hf
theorem ctGet_cons (p : List Key × PyData) (r : Ct) (k : List Key) : ctGet (p :: r) k = if p.1 = k then some p.2 else ctGet r k := rfl
theorem ctGet_mapN {k j : List Key} {d : PyData} (n : ¬ k = j) : ∀ ct : Ct, ctGet (ct.map fun kv => if kv.1 = k then (kv.1, d) else kv) j = ctGet ct j
  | [] => rfl
  | p :: r => by
    rw [List.map_cons, ctGet_cons, ctGet_cons, ctGet_mapN n r]
    by_cases e : p.1 = k
    · rw [if_pos e, if_neg (fun z => n (e.symm.trans z)), if_neg (fun z => n (e.symm.trans z))]
    · rw [if_neg e]
theorem ctGet_mapY {k : List Key} {d : PyData} : ∀ ct : Ct, (ct.any fun kv => decide (kv.1 = k)) = true → ctGet (ct.map fun kv => if kv.1 = k then (kv.1, d) else kv) k = some d
  | [], h => by cases h
  | p :: r, h => by
    rw [List.map_cons, ctGet_cons]
    by_cases e : p.1 = k
    · rw [if_pos e, if_pos e]
    · rw [if_neg e, if_neg e]
      rw [List.any_cons, decide_eq_false e, Bool.false_or] at h
      exact ctGet_mapY r h
theorem ctGet_app {ct r : Ct} {k : List Key} : ctGet (ct ++ r) k = match ctGet ct k with | some d => some d | none => ctGet r k := by
  induction ct with
  | nil => rfl
  | cons p t ih =>
    show ctGet (p :: (t ++ r)) k = _
    rw [ctGet_cons, ctGet_cons]
    by_cases e : p.1 = k
    · rw [if_pos e, if_pos e]
    · rw [if_neg e, if_neg e]
      exact ih
theorem ctGet_put (ct : Ct) (k : List Key) (d : PyData) (j : List Key) : ctGet (ctPut ct k d) j = if k = j then some d else ctGet ct j := by
  unfold ctPut
  by_cases e : (ct.any fun kv => decide (kv.1 = k)) = true
  · rw [if_pos e]
    by_cases y : k = j
    · rw [if_pos y, ← y]
      exact ctGet_mapY ct e
    · rw [if_neg y]
      exact ctGet_mapN y ct
  · rw [if_neg e, ctGet_app]
    have out : ctGet ct k = none := ctGet_out fun z => by
      obtain ⟨kd, h1, h2⟩ := List.mem_map.mp z
      exact e (List.any_eq_true.mpr ⟨kd, h1, decide_eq_true h2⟩)
    by_cases y : k = j
    · rw [if_pos y, ← y, out]
      show (if k = k then some d else none) = some d
      rw [if_pos rfl]
    · rw [if_neg y]
      have : ctGet [(k, d)] j = none := by
        show (if k = j then some d else none) = none
        rw [if_neg y]
      rw [this]
      cases ctGet ct j <;> rfl
end Ta
namespace Ta
open PySem PySem.Spec PyProof.Rows L2 DX
def Cn (s : Addr) (H : Hp) (D : Addr) (n : Nat) (H' : Hp) : Prop := Sk s H H' ∧ ∃ kvs ct, H' D = some (.dT kvs) ∧ CtV H' kvs ct ∧ CtB ct n
theorem Cn.step {s D : Addr} {H H1 H2 : Hp} {n : Nat} (c : Cn s H D n H1) (k : Sk s H1 H2) : Cn s H D n H2 := by
  obtain ⟨h1, kvs, ct, h2, h3, h4⟩ := c
  exact ⟨h1.trans k, kvs, ct, k.at h2 (fun xs z => (nomatch z)), h3.mono k.tups, h4⟩
theorem Cn.up {s D : Addr} {H H1 : Hp} {n m : Nat} (c : Cn s H D n H1) (h : n ≤ m) : Cn s H D m H1 := by
  obtain ⟨h1, kvs, ct, h2, h3, h4⟩ := c
  exact ⟨h1, kvs, ct, h2, h3, h4.up h⟩
theorem Cn.put {s D b : Addr} {H H1 : Hp} {n : Nat} {k : List Key} {v : V} {d : PyData} (nD : H D = none) (c : Cn s H D n H1) (eb : H1 b = some (.tup (k.map kV))) (pl : PlaceOk k) (dv : Dq H1 v d) (co : ContOk k d) (hn : n < 1000) :
    ∃ H2, DPut H1 D (.ref b) v H2 ∧ Cn s H D (n + 1) H2 := by
  obtain ⟨h1, kvs, ct, h2, h3, h4⟩ := c
  have line := sizeLine_eq
  have lk : kvs.length = ct.length := by rw [← List.length_map (f := (·.1)), h3.keys, List.length_map]
  have lf := h4.few
  have t : Tups H1 (upd H1 D (.dT (putK kvs k v))) := Tups.upd fun ys z => by
    rw [h2] at z
    cases z
  refine ⟨_, DPut.t h2 eb (by omega), ⟨?_, h1.m, ?_⟩, _, _, upd_same, (h3.put dv).mono t, h4.put pl co⟩
  · intro x o nb e
    rw [upd_ne (ne_of_none e nD)]
    exact h1.k x o nb e
  · obtain ⟨c, m, e⟩ := h1.m'
    exact ⟨c, m, by rw [upd_ne (h1.m.ne nD).symm]; exact e⟩
theorem sign_cp {z : Str} {n i c : Nat} (h : signB z n = true) (e : z.cps[i]? = some c) (hz : z.cps.size ≤ n) : NameOk ⟨#[c]⟩ := by
  have hi : i < z.cps.size := (Array.getElem?_eq_some_iff.mp e).1
  obtain ⟨c', e1, e2⟩ := sign_at (r := i) h (by omega)
  have e3 : atI z.cps.toList (i : Int) = some c := atI_nat (by rw [Array.getElem?_toList]; exact e)
  rw [e1] at e3
  cases e3
  exact e2
section
variable {P : Program} {w : World} {K : PySem.W.Frag} {mg : Str → Option Value} {base : Heap}
def spContents : Sp := fun vs H Q _ => ∃ (s : Addr), vs = [.ref s, nV 2] ∧ Stm H s ∧ ∀ H' D kvs ct, Sk s H H' → H D = none → H' D = some (.dT kvs) → CtV H' kvs ct → CtB ct 20 → Q (.ref D) H'
theorem sc__law_contents : FnScope ["_law_stream_here", "_law_deep", "_law_found", "_law_m", "_law_f", "_law_k", "_law_j"] ["_law_stream_here", "_law_deep"] (defScope s__law_contents) := ⟨rfl, rfl, rfl, by decide +kernel, rfl, by decide +kernel, by decide +kernel⟩
theorem ok_law_contents (T : Tx w K mg) : Ok P w K mg base CX0 7 ("_law_contents", none) ["_law_stream_here", "_law_deep"] spContents := by
  obtain ⟨_, G__law_take, b__law_take, kp__law_take⟩ := ok_law_take (P := P) (base := base) T
  obtain ⟨_, G__law_looks, b__law_looks, kp__law_looks⟩ := ok_law_looks (P := P) (base := base) T
  obtain ⟨_, G__law_expression, b__law_expression, kp__law_expression⟩ := ok_law_expression (P := P) (base := base) T 2
  refine mkOk T.d__law_contents sc__law_contents (fun vs H Q E h => ?_) (fun _ _ _ _ _ _ us hl => match us, hl with | [_, _], _ => rfl) (fun cdv A outer s H vs Q E hr h => ?_)
  · obtain ⟨s, rfl, _⟩ := h
    rfl
  · obtain ⟨s, rfl, sm, q⟩ := h
    have line := sizeLine_eq
    refine ⟨_, (pss_cons (ps_set (i := 2) sc__law_contents.nd (by rfl) (Or.inl rfl) pe_dnewT)
      (pss_cons (ps_for PassesOwn.never rfl (pi_str pe_str) (pg_name (i := 3) sc__law_contents.nd (by rfl) (Or.inl rfl)) (pss_cons (ps_for PassesOwn.never rfl (pi_str pe_str) (pg_name (i := 4) sc__law_contents.nd (by rfl) (Or.inl rfl)) (pss_one (ps_if (pt_cmpR op_gt (pe_call G__law_take (hr.mono (by omega)) (by rfl) T.g__law_take kp__law_take b__law_take .nil pass0 (pa_cons (pv 0) (pa_cons pe_int pa_nil))) pe_int (nomark _)) (pss_one (ps_dput (hu_of hr) (pv 2) (pe_tup (pa_cons pe_str (pa_cons (pv 3) (pa_cons (pv 4) pa_nil)))) (pe_call G__law_expression (hr.mono (by omega)) (by rfl) T.g__law_expression kp__law_expression b__law_expression .nil pass0 (pa_cons (pv 0) (pa_cons (pv 1) pa_nil))) rfl)) pss_nil)))
      (pss_one (ps_if (pt_cmpR op_gt (pe_call G__law_take (hr.mono (by omega)) (by rfl) T.g__law_take kp__law_take b__law_take .nil pass0 (pa_cons (pv 0) (pa_cons pe_int pa_nil))) pe_int (nomark _)) (pss_one (ps_dput (hu_of hr) (pv 2) (pe_tup (pa_cons pe_str (pa_cons (pv 3) pa_nil))) (pe_call G__law_looks (hr.mono (by omega)) (by rfl) T.g__law_looks kp__law_looks b__law_looks .nil pass0 (pa_cons (pv 0) (pa_cons (pv 3) pa_nil))) rfl)) pss_nil))))
      (pss_cons (ps_for PassesOwn.never rfl (pi_range1 (by rfl) T.n_range (pa_cons (pe_call G__law_take (hr.mono (by omega)) (by rfl) T.g__law_take kp__law_take b__law_take .nil pass0 (pa_cons (pv 0) (pa_cons pe_int pa_nil))) pa_nil)) (pg_name (i := 5) sc__law_contents.nd (by rfl) (Or.inl rfl)) (pss_one (ps_dput (hu_of hr) (pv 2) (pe_tup (pa_cons pe_str (pa_cons (pe_ix ix_str pe_str (pe_call G__law_take (hr.mono (by omega)) (by rfl) T.g__law_take kp__law_take b__law_take .nil pass0 (pa_cons (pv 0) (pa_cons pe_int pa_nil))) (fun _ _ => rfl)) (pa_cons (pe_call G__law_take (hr.mono (by omega)) (by rfl) T.g__law_take kp__law_take b__law_take .nil pass0 (pa_cons (pv 0) (pa_cons pe_int pa_nil))) pa_nil)))) (pe_call G__law_take (hr.mono (by omega)) (by rfl) T.g__law_take kp__law_take b__law_take .nil pass0 (pa_cons (pv 0) (pa_cons pe_int pa_nil))) rfl)))
      (pss_cons (ps_for PassesOwn.never rfl (pi_range1 (by rfl) T.n_range (pa_cons (pe_call G__law_take (hr.mono (by omega)) (by rfl) T.g__law_take kp__law_take b__law_take .nil pass0 (pa_cons (pv 0) (pa_cons pe_int pa_nil))) pa_nil)) (pg_name (i := 5) sc__law_contents.nd (by rfl) (Or.inl rfl)) (pss_one (ps_dput (hu_of hr) (pv 2) (pe_tup (pa_cons pe_str (pa_cons (pe_ix ix_str pe_str (pv 5) (fun _ _ => rfl)) pa_nil))) (pe_tupleOf (by rfl) T.n_tuple (pe_lc (own := [("_law_j", 6)]) (g := gName 6) (tt := tYes) rfl sc__law_contents.nd (pi_range1 (by rfl) T.n_range (pa_cons (pe_call G__law_take (hr.mono (by omega)) (by rfl) T.g__law_take kp__law_take b__law_take .nil pass0 (pa_cons (pv 0) (pa_cons pe_int pa_nil))) pa_nil)) (blkOk_by (own := [("_law_j", 6)]) (N := ["_law_stream_here", "_law_deep", "_law_found", "_law_m", "_law_f", "_law_k", "_law_j"]) (sc := defScope s__law_contents) (by decide +kernel)) (fun _ _ _ _ _ => (pg_name (i := 6) sc__law_contents.nd (by rfl) (Or.inl rfl))) (fun _ _ _ _ _ => pts_nil) (fun _ _ _ _ _ => (pe_call G__law_take (hr.mono (by omega)) (by rfl) T.g__law_take kp__law_take b__law_take .nil pass0 (pa_cons (pv 0) (pa_cons pe_int pa_nil)))))) rfl)))
      (pss_cons (ps_if (pt_cmpR op_eq (pe_call G__law_take (hr.mono (by omega)) (by rfl) T.g__law_take kp__law_take b__law_take .nil pass0 (pa_cons (pv 0) (pa_cons pe_int pa_nil))) pe_int (nomark _)) (pss_one (ps_dput (hu_of hr) (pv 2) (pe_tup (pa_cons pe_str pa_nil)) (pe_call G__law_take (hr.mono (by omega)) (by rfl) T.g__law_take kp__law_take b__law_take .nil pass0 (pa_cons (pv 0) (pa_cons pe_int pa_nil))) rfl)) pss_nil)
      (pss_one (ps_ret (pv 2)))))))), ?_⟩
    intro D nD
    have c0 : Cn s H D 0 (upd H D (.dT [])) := ⟨(Sk.refl sm).same ((Same.refl H).up nD), [], [], upd_same, .nil, CtB.nil 0⟩
    have sz3 : ("abc" : Str).cps.size = 3 := by decide +kernel
    have sz4 : ("fgh" : Str).cps.size = 3 := by decide +kernel
    refine ⟨_, rfl, for_it walk_str (fun i σ H' => ∃ v3 v4 v5 v6, σ = [some (.ref s), some (nV 2), some (.ref D), v3, v4, v5, v6] ∧ Cn s H D (4 * i) H') ⟨_, _, _, _, rfl, c0⟩ (fun _ _ _ _ _ => trivial) ?_ ?_⟩
    · rintro i v σ H2 H1 hi ⟨v3, v4, v5, v6, rfl, c1⟩ ⟨rfl, c, hc, rfl⟩
      have nm := sign_cp (z := "abc") (n := 3) (by decide +kernel) hc (by omega)
      have hi3 : i < 3 := by rw [← sz3]; exact hi
      refine ⟨_, rfl, for_it walk_str (fun j σ H' => ∃ v4 v5 v6, σ = [some (.ref s), some (nV 2), some (.ref D), some (.str ⟨#[c]⟩), v4, v5, v6] ∧ Cn s H D (4 * i + j) H') ⟨_, _, _, rfl, c1⟩ (fun _ _ _ _ _ => trivial) ?_ ?_⟩
      · rintro j v σ H4 H3 hj ⟨v4, v5, v6, rfl, c3⟩ ⟨rfl, f, hf, rfl⟩
        have nf := sign_cp (z := "fgh") (n := 3) (by decide +kernel) hf (by omega)
        have hj3 : j < 3 := by rw [← sz4]; exact hj
        refine ⟨_, rfl, s, 3, rfl, c3.1.m', by decide, by decide, fun H5 r5 hr5 k5 sm5 => ?_⟩
        have c5 := c3.step ⟨k5, c3.1.m', sm5⟩
        refine ⟨_, _, rfl, rfl, _, rfl, ifB (fun z => ?_) fun z => ⟨_, _, _, rfl, c5.up (by omega)⟩⟩
        refine ⟨_, rfl, _, rfl, s, rfl, sm5, fun H6 v6 d6 k6 dv6 ex6 => ?_⟩
        have c6 := c5.step k6
        refine ⟨_, rfl, _, rfl, _, rfl, by show 3 ≤ sizeLine; decide, fun p np => ?_⟩
        have s7 := (Same.refl H6).up (o := .tup [.str "def", .str ⟨#[c]⟩, .str ⟨#[f]⟩]) np
        have c7 := c6.step ((Sk.refl k6.m').same s7)
        obtain ⟨H8, h8, c8⟩ := Cn.put (k := [.inr "def", .inr ⟨#[c]⟩, .inr ⟨#[f]⟩]) nD c7 upd_same (.df nm nf) (dv6.mono (Tups.of s7)) (.df ex6) (by omega)
        exact ⟨D, _, rfl, h8, _, _, _, rfl, c8.up (by omega)⟩
      · rintro σ H3 ⟨v4, v5, v6, rfl, c3⟩
        refine ⟨_, rfl, s, 4, rfl, c3.1.m', by decide, by decide, fun H5 r5 hr5 k5 sm5 => ?_⟩
        have c5 := (c3.step ⟨k5, c3.1.m', sm5⟩).up (m := 4 * i + 3) (by rw [sz4]; exact Nat.le_refl _)
        refine ⟨_, _, rfl, rfl, _, rfl, ifB (fun z => ?_) fun z => ⟨_, _, _, _, rfl, c5.up (by omega)⟩⟩
        refine ⟨_, rfl, _, rfl, s, _, rfl, sm5, fun H6 v6 d6 k6 co6 dv6 => ?_⟩
        have c6 := c5.step k6
        refine ⟨_, rfl, _, rfl, by show 2 ≤ sizeLine; decide, fun p np => ?_⟩
        have s7 := (Same.refl H6).up (o := .tup [.str "looks", .str ⟨#[c]⟩]) np
        have c7 := c6.step ((Sk.refl k6.m').same s7)
        obtain ⟨H8, h8, c8⟩ := Cn.put (k := [.inr "looks", .inr ⟨#[c]⟩]) nD c7 upd_same (.looks nm) (dv6.mono (Tups.of s7)) co6 (by omega)
        exact ⟨D, _, rfl, h8, _, _, _, _, rfl, c8.up (by omega)⟩
    · rintro σ H1 ⟨v3, v4, v5, v6, rfl, c1⟩
      have c1 := c1.up (m := 12) (by rw [sz3]; decide)
      refine ⟨_, rfl, s, 6, rfl, c1.1.m', by decide, by decide, fun H2 n hn k2 sm2 => ⟨_, rfl, by omega, by omega, ?_⟩⟩
      have c2 := c1.step ⟨k2, c1.1.m', sm2⟩
      refine for_it (walk_range (lo := 0) (n := (n : Int).toNat)) (fun i σ H' => ∃ v5 v6, σ = [some (.ref s), some (nV 2), some (.ref D), v3, v4, v5, v6] ∧ Cn s H D (12 + i) H') ⟨_, _, rfl, c2⟩ (fun _ _ _ _ _ => trivial) ?_ ?_
      · rintro i v σ H4 H3 hi ⟨v5, v6, rfl, c3⟩ ⟨rfl, rfl⟩
        refine ⟨_, rfl, s, 5, rfl, c3.1.m', by decide, by decide, fun H5 r5 hr5 k5 sm5 => ?_⟩
        have c5 := c3.step ⟨k5, c3.1.m', sm5⟩
        refine ⟨_, rfl, _, rfl, s, 2, rfl, sm5, by decide, by decide, fun H6 r6 hr6 k6 sm6 => ?_⟩
        have c6 := c5.step ⟨k6, sm5, sm6⟩
        obtain ⟨c, e1, e2⟩ := sign_at (z := "tu") (n := 2) (by decide +kernel) hr6
        refine ⟨_, _, c, rfl, rfl, by decide +kernel, e1, ?_⟩
        refine ⟨_, rfl, s, 4, rfl, sm6, by decide, by decide, fun H7 r7 hr7 k7 sm7 => ⟨by show 3 ≤ sizeLine; decide, fun p np => ?_⟩⟩
        have c7 := c6.step ⟨k7, sm6, sm7⟩
        have s8 := (Same.refl H7).up (o := .tup [.str "cell", .str ⟨#[c]⟩, nV r7]) np
        have c8 := c7.step ((Sk.refl sm7).same s8)
        obtain ⟨H9, h9, c9⟩ := Cn.put (k := [.inr "cell", .inr ⟨#[c]⟩, .inl (r7 : Int)]) nD c8 upd_same (.cell e2 (by omega) (by omega)) (.int (r5 : Int)) (.cell (by omega) (by omega)) (by omega)
        exact ⟨D, _, rfl, h9, _, _, rfl, c9⟩
      · rintro σ H3 ⟨v5, v6, rfl, c3⟩
        have c3 := c3.up (m := 17) (by omega)
        refine ⟨_, rfl, s, 3, rfl, c3.1.m', by decide, by decide, fun H4 n4 hn4 k4 sm4 => ⟨_, rfl, by omega, by omega, ?_⟩⟩
        have c4 := c3.step ⟨k4, c3.1.m', sm4⟩
        refine for_it (walk_range (lo := 0) (n := (n4 : Int).toNat)) (fun i σ H' => ∃ v5 v6, σ = [some (.ref s), some (nV 2), some (.ref D), v3, v4, v5, v6] ∧ Cn s H D (17 + i) H') ⟨_, _, rfl, c4⟩ (fun _ _ _ _ _ => trivial) ?_ ?_
        · rintro i v σ H6 H5 hi ⟨v5, v6, rfl, c5⟩ ⟨rfl, rfl⟩
          refine ⟨_, rfl, s, 4, rfl, c5.1.m', by decide, by decide, fun H6 n6 hn6 k6 sm6 => ⟨_, rfl, by omega, by omega, ?_⟩⟩
          have c6 := c5.step ⟨k6, c5.1.m', sm6⟩
          intro L nL
          refine lc_it (walk_range (lo := 0) (n := (n6 : Int).toNat)) (GK s H6 L fun v _ => NatV 5 v) (GK.start sm6 nL) (fun i H' _ g => trivial) ?_ ?_
          · rintro j v H8 H7 hj g ⟨rfl, rfl⟩
            refine ⟨rfl, _, rfl, s, 5, rfl, g.1.m', by decide, by decide, fun H9 r hr k9 sm9 => ?_⟩
            exact GK.push nL g ⟨k9, g.1.m', sm9⟩ ⟨r, rfl, hr⟩ (by omega) fun _ _ _ _ z => z
          · rintro H7 ⟨k7, acc, eL, len, all⟩
            obtain ⟨is, rfl, his⟩ := natVs all
            rw [List.length_map] at len
            refine .inl ⟨_, _, rfl, SqL.of eL, fun p np => ?_⟩
            have s8 := (Same.refl H7).up (o := .tup (is.map V.int)) np
            have c8 := (c6.step k7).step ((Sk.refl k7.m').same s8)
            have e8 : upd H7 p (.tup (is.map V.int)) p = some (.tup (is.map V.int)) := upd_same
            generalize upd H7 p (.tup (is.map V.int)) = H8 at *
            obtain ⟨c, e1, e2⟩ := sign_at (z := "pq") (n := 2) (r := i) (by decide +kernel) (by omega)
            refine ⟨_, rfl, _, rfl, _, _, c, rfl, rfl, by decide +kernel, by rw [Int.zero_add]; exact e1, by show 2 ≤ sizeLine; decide, fun p2 np2 => ?_⟩
            have s9 := (Same.refl H8).up (o := .tup [.str "file", .str ⟨#[c]⟩]) np2
            have c9 := c8.step ((Sk.refl c8.1.m').same s9)
            obtain ⟨Ha, ha, ca⟩ := Cn.put (k := [.inr "file", .inr ⟨#[c]⟩]) nD c9 upd_same (.file e2) (.tup (s9 _ _ e8) (ints_dq _ is)) (.file (by omega) fun i hi => ⟨(his i hi).1, by have := (his i hi).2; omega⟩) (by omega)
            exact ⟨D, _, rfl, ha, _, _, rfl, ca⟩
        · rintro σ H5 ⟨v5, v6, rfl, c5⟩
          have c5 := c5.up (m := 19) (by omega)
          have fin : ∀ H6, Cn s H D 20 H6 → Q (.ref D) H6 := fun H6 ⟨h1, kvs, ct, h2, h3, h4⟩ => q _ D kvs ct h1 nD h2 h3 h4
          refine ⟨_, rfl, s, 2, rfl, c5.1.m', by decide, by decide, fun H6 r6 hr6 k6 sm6 => ?_⟩
          have c6 := c5.step ⟨k6, c5.1.m', sm6⟩
          refine ⟨rfl, _, rfl, ifB (fun z => ?_) fun z => ⟨_, rfl, fin _ (c6.up (by decide))⟩⟩
          refine ⟨_, rfl, s, 5, rfl, sm6, by decide, by decide, fun H7 r7 hr7 k7 sm7 => ?_⟩
          have c7 := c6.step ⟨k7, sm6, sm7⟩
          refine ⟨_, rfl, by show 1 ≤ sizeLine; decide, fun p np => ?_⟩
          have s8 := (Same.refl H7).up (o := .tup [.str "clock"]) np
          have c8 := c7.step ((Sk.refl sm7).same s8)
          obtain ⟨H9, h9, c9⟩ := Cn.put (k := [.inr "clock"]) nD c8 upd_same .clock (.int (r7 : Int)) (.clock (by omega) (by omega)) (by decide)
          exact ⟨D, _, rfl, h9, _, rfl, fin _ c9⟩
end
end Ta
namespace Ta
open PySem PySem.Spec PyProof.Rows L2 DX
theorem slAK {X : Cx} {K : PySem.W.Frag} (h : X.K = K) : SlR X (rSlA K) := h ▸ sl_tupA
theorem catAK {X : Cx} {K : PySem.W.Frag} (h : X.K = K) : OpR X (binaryOp .Add) (rCatA K) := h ▸ op_catA
theorem slA_use {K : PySem.W.Frag} {H : Hp} {a : Addr} {xs : List V} {lo hi : Option Int} {Q : VK} (e : H a = some (.tup xs)) (q : ∀ H' p, L2.Same H H' → H' p = some (.tup (cutV xs lo hi)) → Q (.ref p) H') : rSlA K (.ref a) lo hi H Q := by
  refine ⟨a, xs, rfl, SqT.of e, fun ⟨h1, h2⟩ => q H a (Same.refl H) ?_, fun _ p np => q _ p ((Same.refl H).up np) upd_same⟩
  unfold cutV
  rw [h1, h2, List.drop_zero, Nat.sub_zero, List.take_length]
  exact e
theorem catA_use {K : PySem.W.Frag} {H : Hp} {a b : Addr} {xs ys : List V} {Q : VK} (ea : H a = some (.tup xs)) (eb : H b = some (.tup ys)) (l : xs.length + ys.length ≤ sizeLine) (q : ∀ H' p, L2.Same H H' → H' p = some (.tup (xs ++ ys)) → Q (.ref p) H') : rCatA K (.ref a) (.ref b) H Q := by
  refine ⟨a, b, xs, ys, rfl, rfl, SqT.of ea, SqT.of eb, l, fun z => q H b (Same.refl H) (by rw [z]; exact eb), fun _ z => q H a (Same.refl H) (by rw [z, List.append_nil]; exact ea), fun _ _ p np => q _ p ((Same.refl H).up np) upd_same⟩
theorem cut_to {xs : List V} {i : Nat} (h : i ≤ xs.length) : cutV xs none (some (i : Int)) = xs.take i := by
  unfold cutV
  rw [HT.sIx_nat, Nat.min_eq_left h]
  rfl
theorem cut_from {xs : List V} {i : Nat} (h : i ≤ xs.length) : cutV xs (some (i : Int)) none = xs.drop i := by
  unfold cutV
  rw [HT.sIx_nat, Nat.min_eq_left h]
  show (xs.drop i).take (xs.length - i) = _
  rw [List.take_of_length_le (by rw [List.length_drop]; exact Nat.le_refl _)]
/-- an order of the first n -/
def RowV (n : Nat) (v : V) (H : Hp) : Prop := ∃ (a : Addr) (js : List Nat), v = .ref a ∧ H a = some (.tup (js.map nV)) ∧ js.Perm (List.range n)
theorem RowV.mono {n : Nat} {v : V} {H H' : Hp} (h : RowV n v H) (t : Tups H H') : RowV n v H' := by
  obtain ⟨a, js, h1, h2, h3⟩ := h
  exact ⟨a, js, h1, t _ _ h2, h3⟩
theorem perm_in {js : List Nat} {n i : Nat} (p : js.Perm (List.range n)) : (js.take i ++ [n] ++ js.drop i).Perm (List.range (n + 1)) := by
  rw [List.range_succ]
  have h1 : (js.take i ++ [n] ++ js.drop i).Perm (js.take i ++ js.drop i ++ [n]) := by
    rw [List.append_assoc, List.append_assoc]
    exact (List.perm_append_comm (l₁ := [n]) (l₂ := js.drop i)).append_left _
  rw [List.take_append_drop] at h1
  exact h1.trans (p.append_right _)
def facN : Nat → Nat
  | 0 => 1
  | n + 1 => facN n * (n + 1)
theorem facN_le : ∀ n, n ≤ 5 → facN n ≤ 120 := by decide
def RowsN (n : Nat) (H : Hp) (L : Addr) (c : Nat) : Prop := ∃ rs, H L = some (.lst rs) ∧ rs.length ≤ c ∧ ∀ v ∈ rs, RowV n v H
section
variable {P : Program} {w : World} {K : PySem.W.Frag} {mg : Str → Option Value} {base : Heap}
def spOrders : Sp := fun vs H Q _ => ∃ (a : Addr) (n : Nat), vs = [.ref a] ∧ n ≤ 5 ∧ H a = some (.lst ((List.range n).map nV)) ∧ ∀ H' L, L2.Same H H' → RowsN n H' L 120 → Q (.ref L) H'
theorem sc__law_orders : FnScope ["_law_some", "_law_found", "_law_one", "_law_longer", "_law_row", "_law_at"] ["_law_some"] (defScope s__law_orders) := ⟨rfl, rfl, rfl, by decide +kernel, rfl, by decide +kernel, by decide +kernel⟩
theorem ok_law_orders (T : Tx w K mg) : Ok P w K mg base CX0 1 ("_law_orders", none) ["_law_some"] spOrders := by
  refine mkOk T.d__law_orders sc__law_orders (fun vs H Q E h => ?_) (fun _ _ _ _ _ _ us hl => match us, hl with | [_], _ => rfl) (fun cdv A outer s H vs Q E hr h => ?_)
  · obtain ⟨a, n, rfl, _⟩ := h
    rfl
  · obtain ⟨a, n, rfl, n5, e, q⟩ := h
    have line := sizeLine_eq
    refine ⟨_, (pss_cons (ps_set (i := 1) sc__law_orders.nd (by rfl) (Or.inl rfl) (pe_lst (pa_cons (pe_tup pa_nil) pa_nil)))
      (pss_cons (ps_for PassesOwn.never rfl (pi_list (pv 0)) (pg_name (i := 2) sc__law_orders.nd (by rfl) (Or.inr rfl)) (pss_cons (ps_set (i := 3) sc__law_orders.nd (by rfl) (Or.inl rfl) (pe_lst pa_nil))
      (pss_cons (ps_for PassesOwn.never rfl (pi_list (pv 1)) (pg_name (i := 4) sc__law_orders.nd (by rfl) (Or.inr rfl)) (pss_one (ps_set (i := 3) sc__law_orders.nd (by rfl) (Or.inl rfl) (pe_op op_cat (pv 3) (pe_lc (own := [("_law_at", 5)]) (g := gName 5) (tt := tYes) rfl sc__law_orders.nd (pi_range1 (by rfl) T.n_range (pa_cons (pe_op op_add (pe_callB call_len_seq (by rfl) T.n_len bt_len (pa_cons (pv 4) pa_nil)) pe_int) pa_nil)) (blkOk_by (own := [("_law_at", 5)]) (N := ["_law_some", "_law_found", "_law_one", "_law_longer", "_law_row", "_law_at"]) (sc := defScope s__law_orders) (by decide +kernel)) (fun _ _ _ _ _ => (pg_name (i := 5) sc__law_orders.nd (by rfl) (Or.inl rfl))) (fun _ _ _ _ _ => pts_nil) (fun _ _ _ _ _ => (pe_op (catAK (K := K) rfl) (pe_op (catAK (K := K) rfl) (pe_slice (slAK (K := K) rfl) (pv 4) po_none (po_some (pv 5))) (pe_tup (pa_cons (pv 2) pa_nil))) (pe_slice (slAK (K := K) rfl) (pv 4) (po_some (pv 5)) po_none))))))))
      (pss_one (ps_set (i := 1) sc__law_orders.nd (by rfl) (Or.inl rfl) (pv 3))))))
      (pss_one (ps_ret (pv 1))))), ?_⟩
    refine ⟨Nat.zero_le _, fun p np => ⟨by show 1 ≤ sizeLine; decide, fun L nL => ?_⟩⟩
    have s1 := ((Same.refl H).up (o := .tup []) np).up (o := .lst [.ref p]) nL
    have r0 : RowsN 0 (upd (upd H p (.tup [])) L (.lst [.ref p])) L (facN 0) := ⟨_, upd_same, Nat.le_refl _, fun v hv => ⟨p, [], by rw [List.mem_singleton.mp hv], upd_of upd_same nL, List.Perm.nil⟩⟩
    generalize upd (upd H p (.tup [])) L (.lst [.ref p]) = H1 at *
    refine ⟨_, rfl, a, rfl, ⟨_, SqL.of (s1 _ _ e)⟩, for_it (walk_list (K := K) (a := a) (xs := (List.range n).map nV)) (fun i σ H' => ∃ L v2 v3 v4 v5, σ = [some (.ref a), some (.ref L), v2, v3, v4, v5] ∧ L2.Same H H' ∧ RowsN i H' L (facN i)) ⟨L, _, _, _, _, rfl, s1, r0⟩ (fun i σ H' _ ⟨_, _, _, _, _, _, g, _⟩ => SqL.of (g _ _ e)) ?_ ?_⟩
    · rintro i v σ H3 H2 hi ⟨L, v2, v3, v4, v5, rfl, s2, rs, eL, cl, rv⟩ ⟨rfl, ey⟩
      have hin : i < n := by simpa using hi
      obtain ⟨j, hj, rfl⟩ := map_get ey
      obtain rfl : i = j := by
        rw [List.getElem?_range hin] at hj
        exact Option.some.inj hj
      have fi := facN_le i (by omega)
      refine ⟨Nat.zero_le _, fun M nM => ?_⟩
      have s3 := s2.up (o := .lst []) nM
      have eM0 : upd H2 M (.lst []) M = some (.lst []) := upd_same
      have eL0 : upd H2 M (.lst []) L = some (.lst rs) := upd_of eL nM
      have u3 := (Same.refl H2).up (o := .lst []) nM
      generalize upd H2 M (.lst []) = H4 at *
      have rv4 : ∀ v ∈ rs, RowV i v H4 := fun v hv => (rv v hv).mono (Tups.of u3)
      refine ⟨_, rfl, L, rfl, ⟨_, SqL.of eL0⟩, for_it (walk_list (K := K) (a := L) (xs := rs)) (fun r σ H' => ∃ M v4 v5, σ = [some (.ref a), some (.ref L), some (nV i), some (.ref M), v4, v5] ∧ L2.Same H4 H' ∧ ∃ acc, H' M = some (.lst acc) ∧ acc.length ≤ r * (i + 1) ∧ ∀ v ∈ acc, RowV (i + 1) v H') ⟨M, _, _, rfl, Same.refl _, [], eM0, Nat.zero_le _, fun v z => (nomatch z)⟩ (fun r σ H' _ ⟨_, _, _, _, g, _⟩ => SqL.of (g _ _ eL0)) ?_ ?_⟩
      · rintro r v σ H6 H5 hr2 ⟨M, v4, v5, rfl, s5, acc, eM, al, av⟩ ⟨rfl, er⟩
        obtain ⟨b, js, rfl, eb4, pj⟩ := rv4 v (List.mem_of_getElem? er)
        have eb := s5 _ _ eb4
        have lj : js.length = i := by rw [pj.length_eq, List.length_range]
        have hrl : r < facN i := Nat.lt_of_lt_of_le hr2 cl
        refine ⟨_, rfl, _, rfl, b, _, rfl, .inr (SqT.of eb), _, _, rfl, rfl, _, rfl, by omega, by rw [List.length_map]; omega, fun D nD => ?_⟩
        have en : (((js.map nV).length : Int) + 1).toNat = i + 1 := by rw [List.length_map, lj] <;> omega
        rw [en]
        refine lc_it (walk_range (lo := 0) (n := i + 1)) (GP H5 D fun k acc H' => acc.length = k ∧ ∀ v ∈ acc, RowV (i + 1) v H') (GP.start nD ⟨rfl, fun v z => (nomatch z)⟩) (fun _ _ _ _ => trivial) ?_ ?_
        · rintro k v H8 H7 hk ⟨g1, acc2, g2, g3, g4⟩ ⟨rfl, rfl⟩
          have hk2 : k ≤ (js.map nV).length := by rw [List.length_map]; omega
          refine ⟨rfl, _, rfl, _, rfl, _, rfl, slA_use (g1 _ _ eb) fun H9 p1 s9 e9 => ?_⟩
          refine ⟨_, rfl, by show 1 ≤ sizeLine; decide, fun p2 np2 => ?_⟩
          have sA := s9.up (o := .tup [nV i]) np2
          rw [Int.zero_add, cut_to hk2] at e9
          refine catA_use (upd_of e9 np2) upd_same (by rw [List.length_take, List.length_map]; show _ + 1 ≤ _; omega) fun Ha p3 sa ea => ?_
          have sB := sA.trans sa
          refine ⟨_, rfl, _, rfl, _, rfl, ?_⟩
          unfold tNoPart
          refine slA_use (sB _ _ (g1 _ _ eb)) fun Hb p4 sb eb2 => ?_
          rw [Int.zero_add, cut_from hk2] at eb2
          refine catA_use (sb _ _ ea) eb2 (by rw [List.length_append, List.length_take, List.length_drop, List.length_map]; show _ + 1 + _ ≤ _; omega) fun Hc p5 sc ec => ?_
          have sC := (sB.trans sb).trans sc
          have nt : ∀ ys, Hc D ≠ some (.tup ys) := fun ys z => by
            rw [sC _ _ g2] at z
            cases z
          refine GP.push nD g1 g2 sC (by omega) ⟨by rw [List.length_append, g3]; rfl, fun v hv => ?_⟩
          rcases List.mem_append.mp hv with hv | hv
          · exact ((g4 v hv).mono (Tups.of sC)).mono (Tups.upd nt)
          · refine RowV.mono (H := Hc) ⟨p5, js.take k ++ [i] ++ js.drop k, List.mem_singleton.mp hv, ?_, perm_in pj⟩ (Tups.upd nt)
            rw [ec, List.map_append, List.map_append, List.map_take, List.map_drop] <;> rfl
        · rintro H7 ⟨g1, acc2, g2, g3, g4⟩
          have mul : r * (i + 1) ≤ 120 * 6 := Nat.mul_le_mul (by omega) (by omega)
          refine ⟨M, D, acc, acc2, rfl, rfl, g1 _ _ eM, g2, by omega, fun N nN => ?_⟩
          have sN := g1.up (o := .lst (acc ++ acc2)) nN
          refine ⟨N, _, _, rfl, s5.trans sN, _, upd_same, by rw [List.length_append, g3, Nat.succ_mul]; omega, fun v hv => ?_⟩
          rcases List.mem_append.mp hv with hv | hv
          · exact (av v hv).mono (Tups.of sN)
          · exact (g4 v hv).mono (Tups.of ((Same.refl H7).up nN))
      · rintro σ H5 ⟨M, v4, v5, rfl, s5, acc, eM, al, av⟩
        refine ⟨_, rfl, M, _, _, _, _, rfl, s3.trans s5, acc, eM, ?_, av⟩
        show acc.length ≤ facN i * (i + 1)
        exact Nat.le_trans al (Nat.mul_le_mul_right _ cl)
    · rintro σ H2 ⟨L, v2, v3, v4, v5, rfl, s2, rs, eL, cl, rv⟩
      have len : ((List.range n).map nV).length = n := by simp
      rw [len] at cl rv
      have fn := facN_le n n5
      exact ⟨_, rfl, q _ L s2 ⟨rs, eL, by omega, rv⟩⟩
end
end Ta
/-! sorted of a tuple of whole numbers -/
namespace Ta
open PySem PySem.Spec PyProof.Rows L2
def rSortedTI (K : PySem.W.Frag) : List V → Hp → VK → Prop := fun vs H Q => ∃ (a : Addr) (ns : List Int), vs = [V.ref a] ∧ SqT K H a (ns.map V.int) ∧
  ∀ (ns' : List Int) (p : Addr), ns'.Perm ns → ns'.Pairwise (· ≤ ·) → H p = none → Q (.ref p) (upd H p (.lst (ns'.map V.int)))
section
variable {X : Cx}
theorem cr_sortedTI : CallR X (.builtin "sorted") (rSortedTI X.K) := by
  intro pins s σ H vs us Q I r h
  obtain ⟨a, ns, rfl, hs, q⟩ := h
  obtain ⟨its, rv, pl, hz⟩ := I.tuple hs
  rw [Vals.ref1 r]
  have hi := rv.ints
  have hl := rv.length
  obtain ⟨o, ho, hc, n, hd⟩ := pl
  refine Calls.call_function_entry kind_sorted plain_sorted entry_sorted (args_sorted1 _) ?_
  unfold Builtin.«sorted»
  refine wpAny_bind (m := checkCount "sorted" 1 1 _) (wpAny_pure ?_)
  refine wpAny_bind (wpAny_collect_seq (items := its.toArray) a (.inr rfl) ho hc hd (fun h' kp => ?_) (by rw [List.size_toArray, ← hl]; exact hz))
  have I1 : Inv X pins σ H { s with heap := h' } := I.kept (t' := s.toks) kp
  refine wpAny_bind (wpAny_newList ?_ (by rw [List.toList_toArray, ← hl]; exact hz))
  have hoL : (h'.push (seqObj "list" its.toArray 0)).get? h'.objs.size = some (seqObj "list" its.toArray 0) := Heap.get?_push_size _ rfl
  show wpAny _ _ _ _ _ { s with heap := h'.push (seqObj "list" its.toArray 0) }
  refine wpAny_bind (wpAny_holding (wpAny_call_entry slot_list_sort ⟨_, hoL, rfl⟩ entry_list_sort
    (SrtO.list_sort_ord (s := { s with heap := h'.push (seqObj "list" its.toArray 0) }) SrtO.swo_int hoL (by rw [← hl]; exact hz)
      (fun h2 => SrtO.ints_sortable hi h2) fun out h1 h2 => ⟨_, rfl, ?_⟩) (args_list_sort _)))
  obtain ⟨k1, k2, k3⟩ := SrtO.ints_out hi h1 h2
  obtain ⟨ep, he'⟩ := sortedHeap_at (vs := its) (out := out.toArray) hoL
  have hlen : ((out.map SrtO.iv).map V.int).length ≤ sizeLine := by
    rw [List.length_map, k2.length_eq]
    rw [List.length_map] at hz
    exact hz
  refine wpAny_pure ⟨_, rfl, ?_⟩
  refine ⟨.ref h'.objs.size, upd H h'.objs.size (.lst ((out.map SrtO.iv).map V.int)), I1.laid (t' := s.toks) (fun b o e => ?_) (Nat.le_refl _) ⟨hlen, out, ep, vals_of_ints k1, he'⟩, rfl, q _ _ k2 k3 (I1.hok.fresh (Nat.le_refl _))⟩
  have lt : b < h'.objs.size := Heap.lt_size e
  rw [sortedHeap_old (Nat.ne_of_lt lt) (by rw [size_push']; exact Nat.lt_succ_of_lt lt)]
  exact Heap.get?_push_of_some _ e
end
end Ta
namespace Ta
open PySem PySem.Spec PyProof.Rows L2 DX
theorem lay_lst {ds : List PyData} (h : ∀ d ∈ ds, d.canLay0 = true) : PyData.canLay0 (.list ds) = true := by
  unfold PyData.canLay0
  exact lay_all h
theorem depth_ints : ∀ is : List Int, PyData.depthAll (is.map PyData.int) ≤ 1
  | [] => by simp [PyData.depthAll]
  | i :: is => by
    have := depth_ints is
    simp [PyData.depthAll, PyData.depth]
    omega
theorem ints_shaped (is : List Int) : SeqAt.shaped (.list (is.map PyData.int)) = true := by
  unfold SeqAt.shaped
  rw [lay_lst fun d hd => by
    obtain ⟨x, hx, rfl⟩ := List.mem_map.mp hd
    exact lay_int _]
  rw [decide_eq_true]
  · rfl
  · have := depth_ints is
    simp only [PyData.depth]
    omega
theorem nat_uniq : ∀ {l m : List Nat}, l.Pairwise (· < ·) → m.Pairwise (· < ·) → (∀ k, k ∈ l ↔ k ∈ m) → l = m
  | [], [], _, _, _ => rfl
  | [], b :: m, _, _, h => nomatch ((h b).mpr List.mem_cons_self)
  | a :: l, [], _, _, h => nomatch ((h a).mp List.mem_cons_self)
  | a :: l, b :: m, h1, h2, h => by
    obtain ⟨h3, h4⟩ := List.pairwise_cons.mp h1
    obtain ⟨h5, h6⟩ := List.pairwise_cons.mp h2
    have e : a = b := by
      rcases List.mem_cons.mp ((h a).mp List.mem_cons_self) with z | z
      · exact z
      · rcases List.mem_cons.mp ((h b).mpr List.mem_cons_self) with y | y
        · exact y.symm
        · have := h5 a z
          have := h3 b y
          omega
    subst e
    rw [nat_uniq h4 h6 fun k => ?_]
    constructor
    · intro hk
      rcases List.mem_cons.mp ((h k).mp (List.mem_cons_of_mem _ hk)) with z | z
      · have := h3 k hk
        omega
      · exact z
    · intro hk
      rcases List.mem_cons.mp ((h k).mpr (List.mem_cons_of_mem _ hk)) with z | z
      · have := h5 k hk
        omega
      · exact z
section
variable {P : Program} {w : World} {K : PySem.W.Frag} {mg : Str → Option Value} {base : Heap}
def spFirst : Sp := fun vs H Q _ => ∃ (L : Addr) (cs : List Ch), vs = [.ref L] ∧ ChAt H L cs ∧ cs.length ≤ 5 ∧ (∀ x ∈ cs, x.Ok) ∧ ∀ H', L2.Same H H' → Q (.bl true) H'
theorem sc__law_first : FnScope ["_law_chances", "_law_best", "_law_above", "_law_below", "_law_order", "_law_more", "_law_under"] ["_law_chances"] (defScope s__law_first) := ⟨rfl, rfl, rfl, by decide +kernel, rfl, by decide +kernel, by decide +kernel⟩
theorem ok_law_first (T : Tx w K mg) : Ok P w K mg base CX0 5 ("_law_first", none) ["_law_chances"] spFirst := by
  obtain ⟨_, G_best_order, b_best_order, kp_best_order⟩ := ok_best_order (P := P) (base := base) T
  obtain ⟨_, G_is_best_order, b_is_best_order, kp_is_best_order⟩ := ok_is_best_order (P := P) (base := base) T
  obtain ⟨_, G_expected, b_expected, kp_expected⟩ := ok_expected (P := P) (base := base) T
  obtain ⟨_, G__law_orders, b__law_orders, kp__law_orders⟩ := ok_law_orders (P := P) (base := base) T
  refine mkOk T.d__law_first sc__law_first (fun vs H Q E h => ?_) (fun _ _ _ _ _ _ us hl => match us, hl with | [_], _ => rfl) (fun cdv A outer s H vs Q E hr h => ?_)
  · obtain ⟨L, cs, rfl, _⟩ := h
    rfl
  · obtain ⟨L, cs, rfl, hc, few, ok, q⟩ := h
    have line := sizeLine_eq
    refine ⟨_, (pss_cons (ps_set (i := 1) sc__law_first.nd (by rfl) (Or.inl rfl) (pe_call G_best_order (hr.mono (by omega)) (by rfl) T.g_best_order kp_best_order b_best_order .nil pass0 (pa_cons (pv 0) pa_nil)))
      (pss_cons (ps_if (PW.pt (pw_or (pt_cmpR op_notBl (pe_call G_is_best_order (hr.mono (by omega)) (by rfl) T.g_is_best_order kp_is_best_order b_is_best_order .nil pass0 (pa_cons (pv 0) (pa_cons (pv 1) pa_nil))) pe_bl (nomark _)) (pw_or1 (pt_cmpR (op_neDK (K := K) rfl hr.units) (pe_callB cr_sortedTI (by rfl) T.n_sorted bt_sorted (pa_cons (pv 1) pa_nil)) (pe_listRg rfl (by rfl) T.n_list (prg_1 (by rfl) T.n_range (pe_callB call_len_seq (by rfl) T.n_len bt_len (pa_cons (pv 0) pa_nil)))) (nomark _))))) (pss_one (ps_ret pe_bl)) pss_nil)
      (pss_cons (ps_asg (pe_call G_expected (hr.mono (by omega)) (by rfl) T.g_expected kp_expected b_expected .nil pass0 (pa_cons (pv 0) (pa_cons (pv 1) pa_nil))) (pg_tup rfl (pgs_cons (pg_name (i := 2) sc__law_first.nd (by rfl) (Or.inl rfl)) (pgs_cons (pg_name (i := 3) sc__law_first.nd (by rfl) (Or.inl rfl)) pgs_nil))))
      (pss_cons (ps_for PassesOwn.never rfl (pi_list (pe_call G__law_orders (hr.mono (by omega)) (by rfl) T.g__law_orders kp__law_orders b__law_orders .nil pass0 (pa_cons (pe_listRg rfl (by rfl) T.n_list (prg_1 (by rfl) T.n_range (pe_callB call_len_seq (by rfl) T.n_len bt_len (pa_cons (pv 0) pa_nil)))) pa_nil))) (pg_name (i := 4) sc__law_first.nd (by rfl) (Or.inl rfl)) (pss_cons (ps_asg (pe_call G_expected (hr.mono (by omega)) (by rfl) T.g_expected kp_expected b_expected .nil pass0 (pa_cons (pv 0) (pa_cons (pv 4) pa_nil))) (pg_tup rfl (pgs_cons (pg_name (i := 5) sc__law_first.nd (by rfl) (Or.inl rfl)) (pgs_cons (pg_name (i := 6) sc__law_first.nd (by rfl) (Or.inl rfl)) pgs_nil))))
      (pss_one (ps_if (pt_cmpR op_lt (pe_op op_mulW (pv 5) (pv 3)) (pe_op op_mulW (pv 2) (pv 6)) (nomark _)) (pss_one (ps_ret pe_bl)) pss_nil))))
      (pss_one (ps_ret pe_bl)))))), ?_⟩
    refine ⟨_, rfl, L, cs, rfl, hc, by omega, ok, fun H1 p js s1 ep pm pw => ?_⟩
    refine ⟨_, rfl, _, rfl, L, p, cs, js, rfl, hc.mono s1, by omega, ok, ep, OrdOk.of pm, pw, fun H2 s2 => ?_⟩
    refine ⟨true, true, rfl, rfl, _, rfl, ifF rfl ?_⟩
    have s12 := s1.trans s2
    obtain ⟨us, eL, ul⟩ := (hc.mono s12).len
    have e1 : js.map nV = (js.map fun j : Nat => (j : Int)).map V.int := by rw [List.map_map] <;> rfl
    refine ⟨_, rfl, p, _, rfl, SqT.of (e1 ▸ s2 _ _ ep), fun ns g gp gw ng => ?_⟩
    obtain ⟨ms, rfl, mw, mm⟩ := nat_sorted gp gw (pm.nodup_iff.mpr List.nodup_range)
    have em : ms = List.range cs.length := nat_uniq mw (List.pairwise_lt_range) fun k => by rw [mm k, pm.mem_iff]
    subst em
    have sg := (Same.refl H2).up (o := .lst (((List.range cs.length).map fun j : Nat => (j : Int)).map V.int)) ng
    refine ⟨_, rfl, L, _, rfl, .inl (SqL.of (sg _ _ eL)), _, rfl, RgOk.of_le (by omega) (by omega) (by omega) (by omega), fun G nG => ?_⟩
    rw [ul, rg_nats]
    have e2 : (List.range cs.length).map nV = ((List.range cs.length).map fun j : Nat => (j : Int)).map V.int := by rw [List.map_map] <;> rfl
    have sG := sg.up (o := .lst ((List.range cs.length).map nV)) nG
    have dg : Dp K (upd (upd H2 g (.lst (((List.range cs.length).map fun j : Nat => (j : Int)).map V.int))) G (.lst ((List.range cs.length).map nV))) (.ref g) (.list (((List.range cs.length).map fun j : Nat => (j : Int)).map PyData.int)) := .lst (SqL.of (upd_of upd_same nG)) (ints_dq _ _).dp
    have dG : Dp K (upd (upd H2 g (.lst (((List.range cs.length).map fun j : Nat => (j : Int)).map V.int))) G (.lst ((List.range cs.length).map nV))) (.ref G) (.list (((List.range cs.length).map fun j : Nat => (j : Int)).map PyData.int)) := .lst (SqL.of (by rw [upd_same, e2])) (ints_dq _ _).dp
    generalize upd (upd H2 g (.lst (((List.range cs.length).map fun j : Nat => (j : Int)).map V.int))) G (.lst ((List.range cs.length).map nV)) = H3 at *
    have s3 := s12.trans sG
    have er : PyData.eqv (.list (((List.range cs.length).map fun j : Nat => (j : Int)).map PyData.int)) (.list (((List.range cs.length).map fun j : Nat => (j : Int)).map PyData.int)) = true := SeqAt.eqv_refl _ (lay_lst fun d hd => by
      obtain ⟨x, hx, rfl⟩ := List.mem_map.mp hd
      exact lay_int _)
    refine ⟨_, _, dg, dG, ints_shaped _, ints_shaped _, ?_⟩
    rw [er]
    refine ⟨_, rfl, ifF rfl ?_⟩
    refine ⟨_, rfl, _, rfl, L, p, cs, js, rfl, hc.mono s3, few, ok, s2.trans sG _ _ ep, OrdOk.of pm, fun H4 r x y s4 e4 y0 exy bx by' => ?_⟩
    refine ⟨r, _, rfl, SqT.of e4, rfl, _, _, rfl, _, _, rfl, rfl, ?_⟩
    have s5 := s3.trans s4
    refine ⟨_, rfl, L, _, rfl, .inl (SqL.of ((sG.trans s4) _ _ eL)), _, rfl, RgOk.of_le (by omega) (by omega) (by omega) (by omega), fun G2 nG2 => ?_⟩
    rw [ul, rg_nats]
    have s6 := s5.up (o := .lst ((List.range cs.length).map nV)) nG2
    refine ⟨G2, cs.length, rfl, few, upd_same, fun H5 M s7 ⟨rs, eM, lr, rv⟩ => ?_⟩
    have s8 := s6.trans s7
    refine ⟨M, rfl, ⟨_, SqL.of eM⟩, for_it (walk_list (K := K) (a := M) (xs := rs)) (fun i σ H' => ∃ v4 v5 v6, σ = [some (.ref L), some (.ref p), some (.int x), some (.int y), v4, v5, v6] ∧ L2.Same H5 H') ⟨_, _, _, rfl, Same.refl _⟩ (fun i σ H' _ ⟨_, _, _, _, g⟩ => SqL.of (g _ _ eM)) ?_ ?_⟩
    · rintro i v σ H7 H6 hi ⟨v4, v5, v6, rfl, s9⟩ ⟨rfl, ey⟩
      obtain ⟨b, os, rfl, eb, po⟩ := rv v (List.mem_of_getElem? ey)
      refine ⟨_, rfl, _, rfl, L, b, cs, os, rfl, hc.mono (s8.trans s9), few, ok, s9 _ _ eb, OrdOk.of po, fun H8 r2 x2 y2 sA eA y20 exy2 bx2 by2 => ?_⟩
      refine ⟨r2, _, rfl, SqT.of eA, rfl, _, _, rfl, _, _, rfl, rfl, ?_⟩
      refine ⟨_, rfl, _, rfl, _, _, rfl, rfl, wide_mul bx2 by' (by omega) (by omega) (by omega), _, rfl, _, rfl, _, _, rfl, rfl, wide_mul bx by2 (by omega) (by omega) (by omega), _, _, rfl, rfl, _, rfl, ?_⟩
      have okg : ∀ z ∈ js.map (chAt cs), z.Ok := fun z hz => by
        obtain ⟨j, _, rfl⟩ := List.mem_map.mp hz
        exact chAt_ok ok j
      have pog : (os.map (chAt cs)).Perm (js.map (chAt cs)) := (po.trans pm.symm).map _
      have best := TC_best okg (List.pairwise_map.mpr pw) pog
      rw [PD_perm pog] at exy2
      have fl := frac_le exy exy2 y0 y20 (PD_pos okg) best
      exact ifF (decide_eq_false (by omega)) ⟨_, _, _, rfl, s9.trans sA⟩
    · rintro σ H6 ⟨v4, v5, v6, rfl, s9⟩
      exact q _ (s8.trans s9)
end
end Ta
namespace Ta
open PySem PySem.Spec PyProof.Rows L2 DX
theorem op_eqETK {X : Cx} {K : PySem.W.Frag} (h : X.K = K) (hu : X.A.units + 1 < cLine) : OpR X (compareOp .Eq) (rEmpT K) := h ▸ op_eqET hu
theorem BooksAt.sk {s L : Addr} {H H' : Hp} {bks : List Bk} (b : BooksAt H L bks) (k : Sk s H H') (n : L ≠ s) : BooksAt H' L bks := by
  obtain ⟨Bs, e, r⟩ := b
  exact ⟨Bs, k.lst e n, Paired.mapP r fun _ _ z => z.mono k.tups⟩
theorem z_int (i : Nat) : V.int (0 + (i : Int)) = nV i := by
  rw [Int.zero_add] <;> rfl
theorem Paired.filterB {α β : Type} {F : α → β → Prop} {f : α → Bool} {g : β → Bool} (m : ∀ a b, F a b → f a = g b) : ∀ {l : List α} {r : List β}, Paired F l r → Paired F (l.filter f) (r.filter g)
  | _, _, .nil => .nil
  | _, _, .cons (a := a) (b := b) h t => by
    rw [List.filter_cons, List.filter_cons, m _ _ h]
    by_cases z : g b = true
    · rw [if_pos z, if_pos z]
      exact .cons h (Paired.filterB m t)
    · rw [if_neg z, if_neg z]
      exact Paired.filterB m t
theorem CtV.drop {H : Hp} {kvs : List (List Key × V)} {ct : Ct} (h : CtV H kvs ct) (k : List Key) : CtV H (dropK kvs k) (ct.filter fun kv => decide (kv.1 ≠ k)) :=
  Paired.filterB (fun a b z => by rw [z.1]) h
theorem CtB.drop {ct : Ct} {n : Nat} (h : CtB ct n) (k : List Key) : CtB (ct.filter fun kv => decide (kv.1 ≠ k)) n := by
  refine ⟨fun kd hk => h.pl kd (List.mem_filter.mp hk).1, fun kd hk => h.co kd (List.mem_filter.mp hk).1, ?_, Nat.le_trans (List.length_filter_le _ _) h.few⟩
  exact h.nd.sublist (List.Sublist.map _ List.filter_sublist)
theorem Cn.drop {s D : Addr} {H H1 : Hp} {n : Nat} {k : List Key} (nD : H D = none) (c : Cn s H D n H1) {kvs : List (List Key × V)} (e : H1 D = some (.dT kvs)) : Cn s H D n (upd H1 D (.dT (dropK kvs k))) := by
  obtain ⟨h1, kvs', ct, h2, h3, h4⟩ := c
  rw [e] at h2
  cases h2
  have t : Tups H1 (upd H1 D (.dT (dropK kvs k))) := Tups.upd fun ys z => by
    rw [e] at z
    cases z
  refine ⟨⟨?_, h1.m, ?_⟩, _, _, upd_same, (h3.drop k).mono t, h4.drop k⟩
  · intro x o nb eo
    rw [upd_ne (ne_of_none eo nD)]
    exact h1.k x o nb eo
  · obtain ⟨c, m, es⟩ := h1.m'
    exact ⟨c, m, by rw [upd_ne (h1.m.ne nD).symm]; exact es⟩
theorem CtV.at {H : Hp} {kvs : List (List Key × V)} {ct : Ct} (h : CtV H kvs ct) (k : List Key) : Dq H ((valV kvs k).getD .non) (ctAt ct k) := by
  unfold ctAt
  rcases h.val k with ⟨e1, e2⟩ | ⟨v, d, e1, e2, e3⟩
  · rw [e1, e2]
    exact .non
  · rw [e1, e2]
    exact e3
theorem ctAt_lay {ct : Ct} {n : Nat} (ok : CtB ct n) (k : List Key) : (ctAt ct k).canLay0 = true := by
  unfold ctAt
  cases h : ctGet ct k with
  | none => decide
  | some d => exact (ok.co _ (ctGet_mem h)).lay
theorem ctAt_shapedB {ct : Ct} {n : Nat} (ok : CtB ct n) (k : List Key) : SeqAt.shaped (ctAt ct k) = true := by
  unfold ctAt
  cases h : ctGet ct k with
  | none => exact shaped_none
  | some d => exact (ok.co _ (ctGet_mem h)).shaped
theorem eqv_sym {H H' : Hp} {v v' : V} {d e : PyData} (h : Dq H v d) (h' : Dq H' v' e) (ld : e.canLay0 = true) (z : PyData.eqv d e = false) : PyData.eqv e d = false := by
  cases y : PyData.eqv e d with
  | false => rfl
  | true =>
    have := eqv_dq h' h y
    subst this
    rw [SeqAt.eqv_refl _ ld] at z
    cases z
theorem rows_at {H : Hp} {ct : Ct} {kvs : List (List Key × V)} (h : CtV H kvs ct) : ∀ {rows : List Addr}, Paired (RowP H) rows kvs → (∀ kd ∈ ct, ContOk kd.1 kd.2) → RowsAt H (rows.map V.ref) ct := by
  induction h with
  | nil =>
    intro rows p _
    cases p
    exact .nil
  | @cons kv kd ks ds h1 t ih =>
    intro rows p co
    cases p with
    | @cons r _ rs _ hr tr =>
      obtain ⟨b, e1, e2⟩ := hr
      refine .cons ⟨r, b, kv.2, rfl, e1, h1.1 ▸ e2, co kd List.mem_cons_self, h1.2⟩ (ih tr fun x hx => co x (List.mem_cons_of_mem _ hx))
theorem world_at {K : PySem.W.Frag} {H : Hp} {L : Addr} {us : List V} {ct : Ct} {a dx : Addr} {Q : Hp → Prop} {E : XK} (eL : H L = some (.lst us)) (r : RowsAt H us ct) (ok : CtOk ct) (na : H a = none) (nd : H dx = none) (ne : dx ≠ a)
    (q : ∀ H', L2.Same H H' → WorldAt K H' a ct → Q H') : spWorldInit K [.ref a, .ref L] (upd (upd H dx (.own a)) a (.ins (He.ga K "World") dx [])) (fun v H2 => v = .non ∧ Q H2) E := by
  have s1 : L2.Same H (upd (upd H dx (.own a)) a (.ins (He.ga K "World") dx [])) := ((Same.refl H).up nd).up (by rw [upd_ne ne.symm]; exact na)
  refine ⟨a, dx, L, us, ct, rfl, upd_same, s1 _ _ eL, r.mono (Tups.of s1), ok, fun H' k w => ⟨rfl, q H' (fun b o e => k b o (fun z => ?_) (s1 _ _ e)) w⟩⟩
  rw [List.mem_singleton.mp z, na] at e
  cases e
theorem stands_no {ct ct2 : Ct} {bk : Bk} {kc : List Key × Option PyData} (h : kc ∈ bk) (e : datO kc.2 = ctAt ct kc.1) (z : PyData.eqv (ctAt ct2 kc.1) (ctAt ct kc.1) = false) : standsB ct2 bk = false := by
  unfold standsB
  cases y : bk.all fun kc => PyData.eqv (ctAt ct2 kc.1) (datO kc.2) with
  | false => rfl
  | true =>
    have := List.all_eq_true.mp y kc h
    rw [e, z] at this
    cases this
theorem meets_of {ct ct2 : Ct} {bk : Bk} {kc : List Key × Option PyData} (h : kc ∈ bk) (z : PyData.eqv (ctAt ct kc.1) (ctAt ct2 kc.1) = false) : Meets' ct ct2 bk := by
  refine ⟨kc, h, ?_, z⟩
  by_cases h1 : kc.1 ∈ ct.map (·.1)
  · exact .inl h1
  · by_cases h2 : kc.1 ∈ ct2.map (·.1)
    · exact .inr h2
    · unfold ctAt at z
      rw [ctGet_out h1, ctGet_out h2] at z
      exact absurd z (by decide)
/-! ### the kept books -/
theorem pl_lay {k : List Key} (h : PlaceOk k) : (plD k).canLay0 = true := wh_lay (lev := 0) h
theorem places_dp {K : PySem.W.Frag} {H : Hp} {p : Addr} {ks : List (List Key)} (h : PlAtT H p ks) : Dp K H (.ref p) (.tuple (ks.map fun k => plD k)) := by
  obtain ⟨as, e, rfl, he⟩ := h
  exact .tup (SqT.of e) (rows_dp (L := as) fun q hq => SqT.of (he q hq))
theorem PlAtT.mono {H H' : Hp} {p : Addr} {ks : List (List Key)} (h : PlAtT H p ks) (t : Tups H H') : PlAtT H' p ks := by
  obtain ⟨as, e, r, he⟩ := h
  exact ⟨as, t _ _ e, r, fun q hq => t _ _ (he q hq)⟩
def ownOf (bks : List Bk) (js : List Nat) : List Bk := js.map fun j => (bks[j]?).getD []
theorem keys_ex {bks : List Bk} {k : List Key} : (∃ ks ∈ keysOf bks, k ∈ ks) ↔ ∃ bk ∈ bks, ∃ kc ∈ bk, kc.1 = k := by
  constructor
  · rintro ⟨ks, h1, h2⟩
    obtain ⟨bk, h3, rfl⟩ := List.mem_map.mp h1
    obtain ⟨kc, h4, e⟩ := List.mem_map.mp h2
    exact ⟨bk, h3, kc, h4, e⟩
  · rintro ⟨bk, h3, kc, h4, rfl⟩
    exact ⟨_, List.mem_map_of_mem h3, List.mem_map_of_mem h4⟩
theorem own_sub {bks : List Bk} {js : List Nat} (lt : ∀ j ∈ js, j < bks.length) {bk : Bk} (h : bk ∈ ownOf bks js) : bk ∈ bks := by
  obtain ⟨j, hj, rfl⟩ := List.mem_map.mp h
  rw [List.getElem?_eq_getElem (lt j hj)]
  exact List.getElem_mem _
theorem own_all {bks : List Bk} {js : List Nat} (lt : ∀ j ∈ js, j < bks.length) (al : allB (keysOf bks) js = true) {k : List Key} : (∃ bk ∈ ownOf bks js, ∃ kc ∈ bk, kc.1 = k) ↔ ∃ bk ∈ bks, ∃ kc ∈ bk, kc.1 = k := by
  constructor
  · rintro ⟨bk, h, r⟩
    exact ⟨bk, own_sub lt h, r⟩
  · intro h
    obtain ⟨ks, h1, h2⟩ := keys_ex.mpr h
    obtain ⟨j, hj, e⟩ := hadB_iff.mp (List.all_eq_true.mp (List.all_eq_true.mp al ks h1) k h2)
    have e2 : k ∈ ((keysOf bks)[j]?).getD [] := hasK_iff.mp e
    have z : (keysOf bks)[j]? = (bks[j]?).map fun bk => bk.map (·.1) := List.getElem?_map
    have e3 : k ∈ ((bks[j]?).getD []).map (·.1) := by
      rw [z, List.getElem?_eq_getElem (lt j hj)] at e2
      rw [List.getElem?_eq_getElem (lt j hj)]
      exact e2
    obtain ⟨kc, h5, e5⟩ := List.mem_map.mp e3
    exact ⟨_, List.mem_map_of_mem hj, kc, h5, e5⟩
theorem touched_eq {bks : List Bk} {js : List Nat} (lt : ∀ j ∈ js, j < bks.length) (al : allB (keysOf bks) js = true) {l m : List (List Key)} (a : AllP (keysOf (ownOf bks js)) l) (b : AllP (keysOf bks) m) : l = m :=
  sorted_uniq a.st b.st fun k => by
    rw [a.mem k, b.mem k, keys_ex, keys_ex]
    exact own_all lt al
theorem touched_ne {bks : List Bk} {m : List (List Key)} (b : AllP (keysOf bks) m) (n : bks ≠ []) (ne : ∀ bk ∈ bks, bk ≠ []) : m ≠ [] := fun z => by
  cases bks with
  | nil => exact n rfl
  | cons bk r =>
    have h := ne bk List.mem_cons_self
    cases bk with
    | nil => exact h rfl
    | cons kc t =>
      have := (b.mem kc.1).mpr (keys_ex.mpr ⟨_, List.mem_cons_self, kc, List.mem_cons_self, rfl⟩)
      rw [z] at this
      cases this
end Ta
namespace Ta
open PySem PySem.Spec PyProof.Rows L2 DX
section
variable {P : Program} {w : World} {K : PySem.W.Frag} {mg : Str → Option Value} {base : Heap}
def spMet2 (K : PySem.W.Frag) : Sp := fun vs H Q _ => ∃ (s D L b : Addr) (kvs : List (List Key × V)) (ct : Ct) (bks : List Bk) (k : List Key), vs = [.ref s, .ref D, .ref L, .ref b] ∧ Stm H s ∧ H D = some (.dT kvs) ∧ CtV H kvs ct ∧ CtB ct 20 ∧ BooksAt H L bks ∧ L ≠ s ∧ bks.length ≤ 40 ∧
  (∀ bk ∈ bks, BookOk bk) ∧ (∀ bk ∈ bks, ∀ kc ∈ bk, datO kc.2 = ctAt ct kc.1) ∧ H b = some (.tup (k.map kV)) ∧ PlaceOk k ∧ (∃ bk ∈ bks, ∃ kc ∈ bk, kc.1 = k) ∧ ∀ H', Sk s H H' → Q (.bl true) H'
theorem sc__law_met : FnScope ["_law_stream_here", "_law_contents_here", "_law_books", "_law_place", "_law_others", "_law_content", "_law_world", "_law_other", "_law_book", "_law_level"] ["_law_stream_here", "_law_contents_here", "_law_books", "_law_place"] (defScope s__law_met) := ⟨rfl, rfl, rfl, by decide +kernel, rfl, by decide +kernel, by decide +kernel⟩
theorem ok_law_met (T : Tx w K mg) : Ok P w K mg base CX0 15 ("_law_met", none) ["_law_stream_here", "_law_contents_here", "_law_books", "_law_place"] (spMet2 K) := by
  obtain ⟨_, G__law_take, b__law_take, kp__law_take⟩ := ok_law_take (P := P) (base := base) T
  obtain ⟨_, G__law_put_in, b__law_put_in, kp__law_put_in⟩ := ok_law_put_in (P := P) (base := base) T
  obtain ⟨_, G_World___init__, b_World___init__, kp_World___init__⟩ := ok_World___init__ (P := P) (base := base) T
  obtain ⟨_, G_stands, b_stands, kp_stands⟩ := ok_stands (P := P) (base := base) T
  obtain ⟨_, G_chosen, b_chosen, kp_chosen⟩ := ok_chosen (P := P) (base := base) T
  refine mkOk T.d__law_met sc__law_met (fun vs H Q E h => ?_) (fun _ _ _ _ _ _ us hl => match us, hl with | [_, _, _, _], _ => rfl) (fun cdv A outer s H vs Q E hr h => ?_)
  · obtain ⟨s, D, L, b, kvs, ct, bks, k, rfl, _⟩ := h
    rfl
  · obtain ⟨s, D, L, b, kvs, ct, bks, k, rfl, sm, eD, cv, cb, hb, nL, few, bok, told, eb, pl, ⟨bk, hbk, kc, hkc, ek⟩, q⟩ := h
    have line := sizeLine_eq
    refine ⟨_, (pss_cons (ps_set (i := 4) sc__law_met.nd (by rfl) (Or.inl rfl) (pe_callTy (call_dictT rfl (hu2_of hr)) (by rfl) T.n_dict bt_dict (pa_cons (pe_callTy (call_listI rfl) (by rfl) T.n_list bt_list (pa_cons (pe_bm0 PySem.F.plainAttrs_dict PySem.F.slot_dict_items PySem.F.type_dict_items mt_itemsT (pv 1)) pa_nil)) pa_nil)))
      (pss_cons (ps_set (i := 5) sc__law_met.nd (by rfl) (Or.inl rfl) (pe_call G__law_put_in (hr.mono (by omega)) (by rfl) T.g__law_put_in kp__law_put_in b__law_put_in .nil pass0 (pa_cons (pv 0) (pa_cons (pv 3) pa_nil))))
      (pss_cons (ps_if (PW.pt (pw_and (pt_cmp (pc_din (hu_of hr) (pv 3) (pv 4)) (by rfl)) (pw_and1 (pt_cmpR op_eq (pe_call G__law_take (hr.mono (by omega)) (by rfl) T.g__law_take kp__law_take b__law_take .nil pass0 (pa_cons (pv 0) (pa_cons pe_int pa_nil))) pe_int (nomark _))))) (pss_cons (ps_set (i := 5) sc__law_met.nd (by rfl) (Or.inl rfl) pe_non)
      (pss_one (ps_expr (pe_bm PySem.F.plainAttrs_dict PySem.F.slot_dict_pop PySem.F.type_dict_pop (mt_pop1 (hu_of hr)) (pv 4) (pa_cons (pv 3) pa_nil))))) pss_nil)
      (pss_cons (ps_if (pt_cmpR op_notN (pv 5) pe_non (nomark _)) (pss_one (ps_dput (hu_of hr) (pv 4) (pv 3) (pv 5) rfl)) pss_nil)
      (pss_cons (ps_if (pt_cmpR (op_eqDK (K := K) rfl hr.units) (pe_dget1 (hu_of hr) (pv 4) (pv 3) ⟨by rfl, by rfl, by rfl, by rfl⟩) (pe_dget1 (hu_of hr) (pv 1) (pv 3) ⟨by rfl, by rfl, by rfl, by rfl⟩) (nomark _)) (pss_one (ps_ret pe_bl)) pss_nil)
      (pss_cons (ps_set (i := 6) sc__law_met.nd (by rfl) (Or.inr rfl) (pe_make T.mk_World G_World___init__ (hr.mono (by omega)) (by rfl) T.g_World b_World___init__ .nil pass0 (pa_cons (pe_callTy (call_listI rfl) (by rfl) T.n_list bt_list (pa_cons (pe_bm0 PySem.F.plainAttrs_dict PySem.F.slot_dict_items PySem.F.type_dict_items mt_itemsT (pv 1)) pa_nil)) pa_nil)))
      (pss_cons (ps_set (i := 7) sc__law_met.nd (by rfl) (Or.inr rfl) (pe_make T.mk_World G_World___init__ (hr.mono (by omega)) (by rfl) T.g_World b_World___init__ .nil pass0 (pa_cons (pe_callTy (call_listI rfl) (by rfl) T.n_list bt_list (pa_cons (pe_bm0 PySem.F.plainAttrs_dict PySem.F.slot_dict_items PySem.F.type_dict_items mt_itemsT (pv 4)) pa_nil)) pa_nil)))
      (pss_cons (ps_if (pt_cmpR (op_eqE (hu_of hr)) (pe_lc (own := [("_law_book", 8)]) (g := gName 8) rfl sc__law_met.nd (pi_list (pv 2)) (blkOk_by (own := [("_law_book", 8)]) (N := ["_law_stream_here", "_law_contents_here", "_law_books", "_law_place", "_law_others", "_law_content", "_law_world", "_law_other", "_law_book", "_law_level"]) (sc := defScope s__law_met) (by decide +kernel)) (fun _ _ _ _ _ => (pg_name (i := 8) sc__law_met.nd (by rfl) (Or.inl rfl))) (fun _ _ _ _ _ => (pts_one (pt_not (pt_val (pe_call G_stands (hr.mono (by omega)) (by rfl) T.g_stands kp_stands b_stands .nil pass0 (pa_cons (pv 7) (pa_cons (pv 8) pa_nil))))))) (fun _ _ _ _ _ => (pv 8))) (pe_lst pa_nil) (nomark _)) (pss_one (ps_ret pe_bl)) pss_nil)
      (pss_one (ps_ret (pe_cmpR (op_eqE (hu_of hr)) (pe_lc (own := [("_law_level", 9)]) (g := gName 9) rfl sc__law_met.nd (pi_range1 (by rfl) T.n_range (pa_cons pe_int pa_nil)) (blkOk_by (own := [("_law_level", 9)]) (N := ["_law_stream_here", "_law_contents_here", "_law_books", "_law_place", "_law_others", "_law_content", "_law_world", "_law_other", "_law_book", "_law_level"]) (sc := defScope s__law_met) (by decide +kernel)) (fun _ _ _ _ _ => (pg_name (i := 9) sc__law_met.nd (by rfl) (Or.inl rfl))) (fun _ _ _ _ _ => (pts_one (pt_cmpR (op_eqETK (K := K) rfl (hu_of hr)) (pe_call G_chosen (hr.mono (by omega)) (by rfl) T.g_chosen kp_chosen b_chosen .nil pass0 (pa_cons (pv 6) (pa_cons (pv 7) (pa_cons (pv 2) (pa_cons (pv 9) pa_nil))))) (pe_tup pa_nil) (nomark _)))) (fun _ _ _ _ _ => (pv 9))) (pe_lst pa_nil) (nomark _)))))))))))), ?_⟩
    have nd : (kvs.map (·.1)).Nodup := by rw [cv.keys]; exact cb.nd
    refine ⟨_, rfl, .inr (.inr (.inl ⟨rfl, .inr ⟨_, eD⟩⟩)), D, kvs, rfl, rfl, eD, fun v nv => ⟨v, D, kvs, rfl, upd_same, upd_of eD nv, fun H1 l rows s1 el pr => ⟨l, rows, kvs, rfl, SqL.of el, pr, nd, fun O nO => ?_⟩⟩⟩
    have sv := (Same.refl H).up (o := itemsO v D) nv
    have s01 : L2.Same H H1 := sv.trans s1
    have nO0 : H O = none := s01.free nO
    have c0 : Cn s H O 20 (upd H1 O (.dT kvs)) := ⟨(Sk.refl sm).same (s01.up nO), kvs, ct, upd_same, cv.mono (Tups.of (s01.up nO)), cb⟩
    refine ⟨_, rfl, _, rfl, s, b, k, rfl, c0.1.m', c0.1.tups _ _ eb, pl, fun H2 u d k2 du co => ?_⟩
    have c2 := c0.step k2
    have eb2 := c2.1.tups _ _ eb
    obtain ⟨k02, kvs2, ct2, e2, cv2, cb2⟩ := id c2
    refine ⟨_, rfl, _, rfl, O, _, rfl, DGet.t e2 eb2, ?_⟩
    have few2 := cb2.few
    have lk2 : kvs2.length = ct2.length := by rw [← List.length_map (f := (·.1)), cv2.keys, List.length_map]
    have no := du.notNon co.notNone
    have put : ∀ H3, Cn s H O 20 H3 → Dq H3 u d → ∃ H4, DPut H3 O (.ref b) u H4 ∧ Cn s H O 21 H4 := fun H3 c3 du3 => Cn.put nO0 c3 (c3.1.tups _ _ eb) pl du3 co (by decide)
    cases ev : valV kvs2 k with
    | none =>
      refine ⟨_, rfl, ifF rfl ?_⟩
      refine ⟨_, rfl, rfl, _, rfl, ifT (by rw [decide_eq_false no]; rfl) ?_⟩
      obtain ⟨Hx, ex, cx⟩ := put _ c2 du
      refine ⟨_, rfl, _, rfl, _, rfl, O, _, rfl, ex, ?_⟩
      obtain ⟨kx, kvs3, ct3, e3, cv3, cb3⟩ := id cx
      have ebx := kx.tups _ _ eb
      have eDx := kx.at eD (fun xs z => (nomatch z))
      have cvx := cv.mono kx.tups
      have hbx := hb.sk kx nL
      have nxO : ∀ x, Hx x = none → x ≠ O := fun x z y => by
        rw [y, e3] at z
        cases z
      refine ⟨_, rfl, O, rfl, .inr ⟨kvs3, .inl e3⟩, _, rfl, _, DGet.t e3 ebx, _, rfl, D, rfl, .inr ⟨kvs, .inl eDx⟩, _, rfl, _, DGet.t eDx ebx, _, _, (cv3.at k).dp, (cvx.at k).dp, ctAt_shapedB cb3 k, ctAt_shapedB cb k, ?_⟩
      refine ⟨_, rfl, ifB (fun z => q Hx kx) fun z => ?_⟩
      have zs := eqv_sym (cv3.at k) (cvx.at k) (ctAt_lay cb k) z
      have zf := stands_no (ct := ct) (ct2 := ct3) hkc (told bk hbk kc hkc) (by rw [ek]; exact z)
      have zm : Meets' ct ct3 bk := meets_of hkc (by rw [ek]; exact zs)
      refine ⟨_, rfl, .inr (.inr (.inl ⟨rfl, .inr ⟨_, eDx⟩⟩)), D, kvs, rfl, rfl, eDx, fun v nv => ⟨v, D, kvs, rfl, upd_same, upd_of eDx nv, fun Ha la ra sa ela pra => fun x dx nx ndx ne => world_at ela (rows_at ((cvx.mono (Tups.of ((Same.refl Hx).up nv))).mono (Tups.of sa)) pra cb.co) (cb.ok (by decide)) nx ndx ne fun Hb sb wb => ?_⟩⟩
      have sxb : L2.Same Hx Hb := (((Same.refl Hx).up nv).trans sa).trans sb
      have e3b := sxb _ _ e3
      refine ⟨_, rfl, .inr (.inr (.inl ⟨rfl, .inr ⟨_, e3b⟩⟩)), O, kvs3, rfl, rfl, e3b, fun v2 nv2 => ⟨v2, O, kvs3, rfl, upd_same, upd_of e3b nv2, fun Hc lc rc sc elc prc => fun x2 dx2 nx2 ndx2 ne2 => world_at elc (rows_at (((cv3.mono (Tups.of sxb)).mono (Tups.of ((Same.refl Hb).up nv2))).mono (Tups.of sc)) prc cb3.co) (cb3.ok (by decide)) nx2 ndx2 ne2 fun Hd sd wd => ?_⟩⟩
      have sbd : L2.Same Hb Hd := (((Same.refl Hb).up nv2).trans sc).trans sd
      have wbd := wb.mono sbd
      have sxd := sxb.trans sbd
      obtain ⟨Bs, eLd, pbd⟩ := hbx.mono sxd
      have bl := pbd.length
      refine ⟨_, rfl, L, rfl, ⟨_, SqL.of eLd⟩, fun F nF => lc_it (walk_list (K := K) (a := L) (xs := Bs.map V.ref)) (GP Hd F fun i acc _ => acc.length ≤ i ∧ (bk ∈ bks.take i → acc ≠ [])) (GP.start nF ⟨Nat.le_refl _, fun z => (nomatch z)⟩) (fun i H' _ g => SqL.of (g.1 _ _ eLd)) ?_ ?_⟩
      · rintro i v H5 H4 hi ⟨g1, acc, g2, g3, g4⟩ ⟨rfl, ey⟩
        obtain ⟨B, hB, rfl⟩ := ref_get ey
        have hi2 : i < bks.length := by
          have := get_lt hB
          omega
        obtain ⟨bk2, hbk2⟩ : ∃ bk2, bks[i]? = some bk2 := ⟨_, List.getElem?_eq_getElem hi2⟩
        have tk2 := mem_take_succ hbk2 bk
        refine ⟨rfl, _, rfl, _, rfl, x2, B, ct3, bk2, rfl, wd.mono g1, cb3.ok (by decide), (pair_get pbd hB hbk2).mono (Tups.of g1), bok bk2 (List.mem_of_getElem? hbk2), fun H6 s6 => ⟨_, rfl, ?_⟩⟩
        cases y : standsB ct3 bk2 with
        | true =>
          refine ifF rfl (GP.skip g1 g2 s6 ⟨by omega, fun hm => ?_⟩)
          rcases tk2.mp hm with hm | rfl
          · exact g4 hm
          · rw [zf] at y
            cases y
        | false =>
          exact ifT rfl ⟨_, rfl, GP.push nF g1 g2 s6 (by omega) ⟨by rw [List.length_append]; exact Nat.add_le_add_right g3 1, fun _ => by simp⟩⟩
      · rintro He ⟨g1, acc, g2, g3, g4⟩
        rw [List.length_map, take_all (xs := bks) (by omega)] at g4
        have ne := g4 hbk
        refine ⟨Nat.zero_le _, fun b2 nb2 => ⟨F, b2, acc, rfl, rfl, SqL.of (upd_of g2 nb2), SqL.of upd_same, ?_⟩⟩
        have sde := g1.up (o := .lst []) nb2
        generalize upd He b2 (.lst []) = Hf at *
        cases acc with
        | nil => exact absurd rfl ne
        | cons y ys =>
          refine ⟨_, rfl, ifF rfl ?_⟩
          refine ⟨_, rfl, by decide, by decide, fun G nG => lc_it (walk_range (lo := 0) (n := (3 : Int).toNat)) (GP Hf G fun i acc _ => acc = []) (GP.start nG rfl) (fun _ _ _ _ => trivial) ?_ ?_⟩
          · rintro i v H8 H7 hi ⟨h1, acc, h2, h3⟩ ⟨rfl, rfl⟩
            have sd8 := sde.trans h1
            have hi3 : i < 3 := hi
            refine ⟨rfl, _, rfl, _, rfl, _, rfl, _, rfl, x, x2, L, ct, ct3, bks, i, congrArg (fun v => [V.ref x, V.ref x2, V.ref L, v]) (z_int i), wbd.mono sd8, wd.mono sd8, cb.ok (by decide), cb3.ok (by decide), (hbx.mono sxd).mono sd8, few, bok, by omega, fun H9 R ac s9 eR meet => ?_⟩
            refine ⟨by show 0 ≤ sizeLine; decide, fun b3 nb3 => ⟨R, b3, ac, rfl, rfl, SqT.of (upd_of eR nb3), SqT.of upd_same, ?_⟩⟩
            have na := meet ⟨bk, hbk, zm⟩
            cases ac with
            | nil => exact absurd rfl na
            | cons y ys => exact ⟨_, rfl, ifF rfl (GP.skip h1 h2 (s9.up nb3) h3)⟩
          · rintro H7 ⟨h1, acc, h2, rfl⟩
            refine ⟨Nat.zero_le _, fun b3 nb3 => ⟨G, b3, [], rfl, rfl, SqL.of (upd_of h2 nb3), SqL.of upd_same, q _ (kx.same (sxd.trans (sde.trans (h1.up nb3))))⟩⟩
    | some v0 =>
      refine ⟨_, rfl, ifT rfl ?_⟩
      refine ⟨_, rfl, s, 2, rfl, c2.1.m', by decide, by decide, fun H3 r hr3 k3 sm3 => ?_⟩
      have c3 := c2.step ⟨k3, c2.1.m', sm3⟩
      have sk3 : Sk s H2 H3 := ⟨k3, c2.1.m', sm3⟩
      refine ⟨rfl, _, rfl, ifB (fun z => ?_) fun z => ?_⟩
      · have e3 := sk3.at e2 (fun xs z => (nomatch z))
        refine ⟨_, rfl, .inr (.inr (.inl ⟨rfl, .inr ⟨_, e3⟩⟩)), _, rfl, O, kvs2, k, b, rfl, rfl, e3, c3.1.tups _ _ eb, v0, ev, ?_⟩
        have cx := (Cn.drop (k := k) nO0 c3 e3).up (m := 21) (by decide)
        generalize upd H3 O (.dT (dropK kvs2 k)) = Hx at *
        refine ⟨_, rfl, rfl, _, rfl, ifF rfl ?_⟩
        obtain ⟨kx, kvs3, ct3, e3, cv3, cb3⟩ := id cx
        have ebx := kx.tups _ _ eb
        have eDx := kx.at eD (fun xs z => (nomatch z))
        have cvx := cv.mono kx.tups
        have hbx := hb.sk kx nL
        have nxO : ∀ x, Hx x = none → x ≠ O := fun x z y => by
          rw [y, e3] at z
          cases z
        refine ⟨_, rfl, O, rfl, .inr ⟨kvs3, .inl e3⟩, _, rfl, _, DGet.t e3 ebx, _, rfl, D, rfl, .inr ⟨kvs, .inl eDx⟩, _, rfl, _, DGet.t eDx ebx, _, _, (cv3.at k).dp, (cvx.at k).dp, ctAt_shapedB cb3 k, ctAt_shapedB cb k, ?_⟩
        refine ⟨_, rfl, ifB (fun z => q Hx kx) fun z => ?_⟩
        have zs := eqv_sym (cv3.at k) (cvx.at k) (ctAt_lay cb k) z
        have zf := stands_no (ct := ct) (ct2 := ct3) hkc (told bk hbk kc hkc) (by rw [ek]; exact z)
        have zm : Meets' ct ct3 bk := meets_of hkc (by rw [ek]; exact zs)
        refine ⟨_, rfl, .inr (.inr (.inl ⟨rfl, .inr ⟨_, eDx⟩⟩)), D, kvs, rfl, rfl, eDx, fun v nv => ⟨v, D, kvs, rfl, upd_same, upd_of eDx nv, fun Ha la ra sa ela pra => fun x dx nx ndx ne => world_at ela (rows_at ((cvx.mono (Tups.of ((Same.refl Hx).up nv))).mono (Tups.of sa)) pra cb.co) (cb.ok (by decide)) nx ndx ne fun Hb sb wb => ?_⟩⟩
        have sxb : L2.Same Hx Hb := (((Same.refl Hx).up nv).trans sa).trans sb
        have e3b := sxb _ _ e3
        refine ⟨_, rfl, .inr (.inr (.inl ⟨rfl, .inr ⟨_, e3b⟩⟩)), O, kvs3, rfl, rfl, e3b, fun v2 nv2 => ⟨v2, O, kvs3, rfl, upd_same, upd_of e3b nv2, fun Hc lc rc sc elc prc => fun x2 dx2 nx2 ndx2 ne2 => world_at elc (rows_at (((cv3.mono (Tups.of sxb)).mono (Tups.of ((Same.refl Hb).up nv2))).mono (Tups.of sc)) prc cb3.co) (cb3.ok (by decide)) nx2 ndx2 ne2 fun Hd sd wd => ?_⟩⟩
        have sbd : L2.Same Hb Hd := (((Same.refl Hb).up nv2).trans sc).trans sd
        have wbd := wb.mono sbd
        have sxd := sxb.trans sbd
        obtain ⟨Bs, eLd, pbd⟩ := hbx.mono sxd
        have bl := pbd.length
        refine ⟨_, rfl, L, rfl, ⟨_, SqL.of eLd⟩, fun F nF => lc_it (walk_list (K := K) (a := L) (xs := Bs.map V.ref)) (GP Hd F fun i acc _ => acc.length ≤ i ∧ (bk ∈ bks.take i → acc ≠ [])) (GP.start nF ⟨Nat.le_refl _, fun z => (nomatch z)⟩) (fun i H' _ g => SqL.of (g.1 _ _ eLd)) ?_ ?_⟩
        · rintro i v H5 H4 hi ⟨g1, acc, g2, g3, g4⟩ ⟨rfl, ey⟩
          obtain ⟨B, hB, rfl⟩ := ref_get ey
          have hi2 : i < bks.length := by
            have := get_lt hB
            omega
          obtain ⟨bk2, hbk2⟩ : ∃ bk2, bks[i]? = some bk2 := ⟨_, List.getElem?_eq_getElem hi2⟩
          have tk2 := mem_take_succ hbk2 bk
          refine ⟨rfl, _, rfl, _, rfl, x2, B, ct3, bk2, rfl, wd.mono g1, cb3.ok (by decide), (pair_get pbd hB hbk2).mono (Tups.of g1), bok bk2 (List.mem_of_getElem? hbk2), fun H6 s6 => ⟨_, rfl, ?_⟩⟩
          cases y : standsB ct3 bk2 with
          | true =>
            refine ifF rfl (GP.skip g1 g2 s6 ⟨by omega, fun hm => ?_⟩)
            rcases tk2.mp hm with hm | rfl
            · exact g4 hm
            · rw [zf] at y
              cases y
          | false =>
            exact ifT rfl ⟨_, rfl, GP.push nF g1 g2 s6 (by omega) ⟨by rw [List.length_append]; exact Nat.add_le_add_right g3 1, fun _ => by simp⟩⟩
        · rintro He ⟨g1, acc, g2, g3, g4⟩
          rw [List.length_map, take_all (xs := bks) (by omega)] at g4
          have ne := g4 hbk
          refine ⟨Nat.zero_le _, fun b2 nb2 => ⟨F, b2, acc, rfl, rfl, SqL.of (upd_of g2 nb2), SqL.of upd_same, ?_⟩⟩
          have sde := g1.up (o := .lst []) nb2
          generalize upd He b2 (.lst []) = Hf at *
          cases acc with
          | nil => exact absurd rfl ne
          | cons y ys =>
            refine ⟨_, rfl, ifF rfl ?_⟩
            refine ⟨_, rfl, by decide, by decide, fun G nG => lc_it (walk_range (lo := 0) (n := (3 : Int).toNat)) (GP Hf G fun i acc _ => acc = []) (GP.start nG rfl) (fun _ _ _ _ => trivial) ?_ ?_⟩
            · rintro i v H8 H7 hi ⟨h1, acc, h2, h3⟩ ⟨rfl, rfl⟩
              have sd8 := sde.trans h1
              have hi3 : i < 3 := hi
              refine ⟨rfl, _, rfl, _, rfl, _, rfl, _, rfl, x, x2, L, ct, ct3, bks, i, congrArg (fun v => [V.ref x, V.ref x2, V.ref L, v]) (z_int i), wbd.mono sd8, wd.mono sd8, cb.ok (by decide), cb3.ok (by decide), (hbx.mono sxd).mono sd8, few, bok, by omega, fun H9 R ac s9 eR meet => ?_⟩
              refine ⟨by show 0 ≤ sizeLine; decide, fun b3 nb3 => ⟨R, b3, ac, rfl, rfl, SqT.of (upd_of eR nb3), SqT.of upd_same, ?_⟩⟩
              have na := meet ⟨bk, hbk, zm⟩
              cases ac with
              | nil => exact absurd rfl na
              | cons y ys => exact ⟨_, rfl, ifF rfl (GP.skip h1 h2 (s9.up nb3) h3)⟩
            · rintro H7 ⟨h1, acc, h2, rfl⟩
              refine ⟨Nat.zero_le _, fun b3 nb3 => ⟨G, b3, [], rfl, rfl, SqL.of (upd_of h2 nb3), SqL.of upd_same, q _ (kx.same (sxd.trans (sde.trans (h1.up nb3))))⟩⟩
      · refine ⟨_, rfl, rfl, _, rfl, ifT (by rw [decide_eq_false no]; rfl) ?_⟩
        obtain ⟨Hx, ex, cx⟩ := put _ c3 (du.mono sk3.tups)
        refine ⟨_, rfl, _, rfl, _, rfl, O, _, rfl, ex, ?_⟩
        obtain ⟨kx, kvs3, ct3, e3, cv3, cb3⟩ := id cx
        have ebx := kx.tups _ _ eb
        have eDx := kx.at eD (fun xs z => (nomatch z))
        have cvx := cv.mono kx.tups
        have hbx := hb.sk kx nL
        have nxO : ∀ x, Hx x = none → x ≠ O := fun x z y => by
          rw [y, e3] at z
          cases z
        refine ⟨_, rfl, O, rfl, .inr ⟨kvs3, .inl e3⟩, _, rfl, _, DGet.t e3 ebx, _, rfl, D, rfl, .inr ⟨kvs, .inl eDx⟩, _, rfl, _, DGet.t eDx ebx, _, _, (cv3.at k).dp, (cvx.at k).dp, ctAt_shapedB cb3 k, ctAt_shapedB cb k, ?_⟩
        refine ⟨_, rfl, ifB (fun z => q Hx kx) fun z => ?_⟩
        have zs := eqv_sym (cv3.at k) (cvx.at k) (ctAt_lay cb k) z
        have zf := stands_no (ct := ct) (ct2 := ct3) hkc (told bk hbk kc hkc) (by rw [ek]; exact z)
        have zm : Meets' ct ct3 bk := meets_of hkc (by rw [ek]; exact zs)
        refine ⟨_, rfl, .inr (.inr (.inl ⟨rfl, .inr ⟨_, eDx⟩⟩)), D, kvs, rfl, rfl, eDx, fun v nv => ⟨v, D, kvs, rfl, upd_same, upd_of eDx nv, fun Ha la ra sa ela pra => fun x dx nx ndx ne => world_at ela (rows_at ((cvx.mono (Tups.of ((Same.refl Hx).up nv))).mono (Tups.of sa)) pra cb.co) (cb.ok (by decide)) nx ndx ne fun Hb sb wb => ?_⟩⟩
        have sxb : L2.Same Hx Hb := (((Same.refl Hx).up nv).trans sa).trans sb
        have e3b := sxb _ _ e3
        refine ⟨_, rfl, .inr (.inr (.inl ⟨rfl, .inr ⟨_, e3b⟩⟩)), O, kvs3, rfl, rfl, e3b, fun v2 nv2 => ⟨v2, O, kvs3, rfl, upd_same, upd_of e3b nv2, fun Hc lc rc sc elc prc => fun x2 dx2 nx2 ndx2 ne2 => world_at elc (rows_at (((cv3.mono (Tups.of sxb)).mono (Tups.of ((Same.refl Hb).up nv2))).mono (Tups.of sc)) prc cb3.co) (cb3.ok (by decide)) nx2 ndx2 ne2 fun Hd sd wd => ?_⟩⟩
        have sbd : L2.Same Hb Hd := (((Same.refl Hb).up nv2).trans sc).trans sd
        have wbd := wb.mono sbd
        have sxd := sxb.trans sbd
        obtain ⟨Bs, eLd, pbd⟩ := hbx.mono sxd
        have bl := pbd.length
        refine ⟨_, rfl, L, rfl, ⟨_, SqL.of eLd⟩, fun F nF => lc_it (walk_list (K := K) (a := L) (xs := Bs.map V.ref)) (GP Hd F fun i acc _ => acc.length ≤ i ∧ (bk ∈ bks.take i → acc ≠ [])) (GP.start nF ⟨Nat.le_refl _, fun z => (nomatch z)⟩) (fun i H' _ g => SqL.of (g.1 _ _ eLd)) ?_ ?_⟩
        · rintro i v H5 H4 hi ⟨g1, acc, g2, g3, g4⟩ ⟨rfl, ey⟩
          obtain ⟨B, hB, rfl⟩ := ref_get ey
          have hi2 : i < bks.length := by
            have := get_lt hB
            omega
          obtain ⟨bk2, hbk2⟩ : ∃ bk2, bks[i]? = some bk2 := ⟨_, List.getElem?_eq_getElem hi2⟩
          have tk2 := mem_take_succ hbk2 bk
          refine ⟨rfl, _, rfl, _, rfl, x2, B, ct3, bk2, rfl, wd.mono g1, cb3.ok (by decide), (pair_get pbd hB hbk2).mono (Tups.of g1), bok bk2 (List.mem_of_getElem? hbk2), fun H6 s6 => ⟨_, rfl, ?_⟩⟩
          cases y : standsB ct3 bk2 with
          | true =>
            refine ifF rfl (GP.skip g1 g2 s6 ⟨by omega, fun hm => ?_⟩)
            rcases tk2.mp hm with hm | rfl
            · exact g4 hm
            · rw [zf] at y
              cases y
          | false =>
            exact ifT rfl ⟨_, rfl, GP.push nF g1 g2 s6 (by omega) ⟨by rw [List.length_append]; exact Nat.add_le_add_right g3 1, fun _ => by simp⟩⟩
        · rintro He ⟨g1, acc, g2, g3, g4⟩
          rw [List.length_map, take_all (xs := bks) (by omega)] at g4
          have ne := g4 hbk
          refine ⟨Nat.zero_le _, fun b2 nb2 => ⟨F, b2, acc, rfl, rfl, SqL.of (upd_of g2 nb2), SqL.of upd_same, ?_⟩⟩
          have sde := g1.up (o := .lst []) nb2
          generalize upd He b2 (.lst []) = Hf at *
          cases acc with
          | nil => exact absurd rfl ne
          | cons y ys =>
            refine ⟨_, rfl, ifF rfl ?_⟩
            refine ⟨_, rfl, by decide, by decide, fun G nG => lc_it (walk_range (lo := 0) (n := (3 : Int).toNat)) (GP Hf G fun i acc _ => acc = []) (GP.start nG rfl) (fun _ _ _ _ => trivial) ?_ ?_⟩
            · rintro i v H8 H7 hi ⟨h1, acc, h2, h3⟩ ⟨rfl, rfl⟩
              have sd8 := sde.trans h1
              have hi3 : i < 3 := hi
              refine ⟨rfl, _, rfl, _, rfl, _, rfl, _, rfl, x, x2, L, ct, ct3, bks, i, congrArg (fun v => [V.ref x, V.ref x2, V.ref L, v]) (z_int i), wbd.mono sd8, wd.mono sd8, cb.ok (by decide), cb3.ok (by decide), (hbx.mono sxd).mono sd8, few, bok, by omega, fun H9 R ac s9 eR meet => ?_⟩
              refine ⟨by show 0 ≤ sizeLine; decide, fun b3 nb3 => ⟨R, b3, ac, rfl, rfl, SqT.of (upd_of eR nb3), SqT.of upd_same, ?_⟩⟩
              have na := meet ⟨bk, hbk, zm⟩
              cases ac with
              | nil => exact absurd rfl na
              | cons y ys => exact ⟨_, rfl, ifF rfl (GP.skip h1 h2 (s9.up nb3) h3)⟩
            · rintro H7 ⟨h1, acc, h2, rfl⟩
              refine ⟨Nat.zero_le _, fun b3 nb3 => ⟨G, b3, [], rfl, rfl, SqL.of (upd_of h2 nb3), SqL.of upd_same, q _ (kx.same (sxd.trans (sde.trans (h1.up nb3))))⟩⟩
end
end Ta
namespace Ta
open PySem PySem.Spec PyProof.Rows L2 DX
theorem sql_same {K : PySem.W.Frag} {H H' : Hp} {a : Addr} {xs : List V} (h : SqL K H a xs) (s : L2.Same H H') : SqL K H' a xs := h.elim (fun h => .inl (h.elim (fun h => .inl (s _ _ h)) fun ⟨o, h⟩ => .inr ⟨o, s _ _ h⟩)) fun h => .inr h
theorem WorldAt.sk {K : PySem.W.Frag} {s p : Addr} {H H' : Hp} {ct : Ct} (h : WorldAt K H p ct) (k : Sk s H H') : WorldAt K H' p ct := by
  obtain ⟨dx, D, R, kvs, rs, h1, h2, h3, h4, h5⟩ := h
  exact ⟨dx, D, R, kvs, rs, k.at h1 (fun xs z => (nomatch z)), k.at h2 (fun xs z => (nomatch z)), h3.mono k.tups, h4.mono k.tups, h5⟩
theorem refs_all {G : Addr → Prop} : ∀ {acc : List V}, (∀ v ∈ acc, ∃ t, v = .ref t ∧ G t) → ∃ ts : List Addr, acc = ts.map V.ref ∧ ∀ t ∈ ts, G t
  | [], _ => ⟨[], rfl, fun _ z => (nomatch z)⟩
  | v :: vs, h => by
    obtain ⟨t, rfl, ht⟩ := h v List.mem_cons_self
    obtain ⟨ts, rfl, hts⟩ := refs_all fun v hv => h v (List.mem_cons_of_mem _ hv)
    refine ⟨t :: ts, rfl, fun x hx => ?_⟩
    rcases List.mem_cons.mp hx with rfl | hx
    · exact ht
    · exact hts x hx
theorem chs_all {H : Hp} : ∀ {acc : List V}, (∀ v ∈ acc, ∃ (t : Addr) (x : Ch), v = .ref t ∧ H t = some (.tup (ChV x)) ∧ x.Ok) → ∃ (as : List Addr) (cs : List Ch), acc = as.map V.ref ∧ Paired (fun a x => H a = some (.tup (ChV x))) as cs ∧ ∀ x ∈ cs, x.Ok
  | [], _ => ⟨[], [], rfl, .nil, fun _ z => (nomatch z)⟩
  | v :: vs, h => by
    obtain ⟨t, x, rfl, ht, ox⟩ := h v List.mem_cons_self
    obtain ⟨as, cs, rfl, p, oks⟩ := chs_all fun v hv => h v (List.mem_cons_of_mem _ hv)
    refine ⟨t :: as, x :: cs, rfl, .cons ht p, fun y hy => ?_⟩
    rcases List.mem_cons.mp hy with rfl | hy
    · exact ox
    · exact oks y hy
def BkG (ct : Ct) (bk : Bk) : Prop := BookOk bk ∧ bk ≠ [] ∧ ∀ kc ∈ bk, datO kc.2 = ctAt ct kc.1
section
variable {P : Program} {w : World} {K : PySem.W.Frag} {mg : Str → Option Value} {base : Heap}
theorem mkFn {x qual : Str} {st : Stmt} {f : Addr} {N ps : List Str} {k : Nat} {sp : Sp} {fd : FuncData} (F : FunD K x qual (defArgs st) (defBody st) (defScope st) [] [] f fd)
    (S : FnScope N ps (defScope st)) (len : ∀ vs H Q E, sp vs H Q E → vs.length = ps.length)
    (hbody : ∀ (cdv : Value) (A : Around) (outer : List Env) (s : Shared) (H : Hp) (vs : List V) (Q : VK) (E : XK), Room k (A.deeper (envOfC qual (defScope st) s.heap.objs.size f cdv)) → sp vs H Q E →
      ∃ t, PSs (cxOf CX0 P w K mg base N qual (defScope st) f cdv A outer s H E).nox (defBody st) t ∧ t { nx := fun _ H' => Q .non H', rt := Q } (start N vs) H) :
    FnOk P w K mg base CX0 (k + 1) f fd ps sp :=
  F.ok S len fun cdv A outer s H vs Q E hr h =>
    let ⟨t, h1, h2⟩ := hbody cdv A outer s H vs Q E hr h
    ⟨t, h1.nox, h2⟩
def spLaw (K : PySem.W.Frag) : Sp := fun vs H Q _ => ∃ (a : Addr) (ns : List Int), vs = [.ref a] ∧ SqL K H a (ns.map V.int) ∧ ∀ H', Q (.bl true) H'
theorem sc_law : FnScope ["_law_script", "_law_k", "_law_stream_here", "_law_contents_here", "_law_world", "_law_tries", "_law_books", "_law_kept", "_law_own", "_law_places", "_law_j", "_law_one", "_law_at"] ["_law_script"] (defScope s_law) := ⟨rfl, rfl, rfl, by decide +kernel, rfl, by decide +kernel, by decide +kernel⟩
theorem ok_law (T : Tx w K mg) {fd : FuncData} (F : FunD K "law" "law" (defArgs s_law) (defBody s_law) (defScope s_law) [] [] (He.fAd K ("law", none)) fd) : FnOk P w K mg base CX0 217 (He.fAd K ("law", none)) fd ["_law_script"] (spLaw K) := by
  obtain ⟨_, G__law_stream, b__law_stream, kp__law_stream⟩ := ok_law_stream (P := P) (base := base) T
  obtain ⟨_, G__law_take, b__law_take, kp__law_take⟩ := ok_law_take (P := P) (base := base) T
  obtain ⟨_, G__law_try, b__law_try, kp__law_try⟩ := ok_law_try (P := P) (base := base) T
  obtain ⟨_, G__law_chance, b__law_chance, kp__law_chance⟩ := ok_law_chance (P := P) (base := base) T
  obtain ⟨_, G__law_contents, b__law_contents, kp__law_contents⟩ := ok_law_contents (P := P) (base := base) T
  obtain ⟨_, G__law_first, b__law_first, kp__law_first⟩ := ok_law_first (P := P) (base := base) T
  obtain ⟨_, G__law_met, b__law_met, kp__law_met⟩ := ok_law_met (P := P) (base := base) T
  obtain ⟨_, G_World___init__, b_World___init__, kp_World___init__⟩ := ok_World___init__ (P := P) (base := base) T
  obtain ⟨_, G_run, b_run, kp_run⟩ := ok_run (P := P) (base := base) T
  obtain ⟨_, G_few_kept, b_few_kept, kp_few_kept⟩ := ok_few_kept (P := P) (base := base) T
  obtain ⟨_, G_is_keeping, b_is_keeping, kp_is_keeping⟩ := ok_is_keeping (P := P) (base := base) T
  obtain ⟨_, G_touched, b_touched, kp_touched⟩ := ok_touched (P := P) (base := base) T
  refine mkFn F sc_law (fun vs H Q E h => ?_) (fun cdv A outer s H vs Q E hr h => ?_)
  · obtain ⟨a, ns, rfl, _⟩ := h
    rfl
  · obtain ⟨a, ns, rfl, sq, q⟩ := h
    have line := sizeLine_eq
    refine ⟨_, (pss_cons (ps_for PassesOwn.never rfl (pi_range1 (by rfl) T.n_range (pa_cons pe_int pa_nil)) (pg_name (i := 1) sc_law.nd (by rfl) (Or.inl rfl)) (pss_cons (ps_set (i := 2) sc_law.nd (by rfl) (Or.inr rfl) (pe_call G__law_stream (hr.mono (by omega)) (by rfl) T.g__law_stream kp__law_stream b__law_stream .nil pass0 (pa_cons (pv 0) (pa_cons (pv 1) pa_nil))))
      (pss_cons (ps_set (i := 3) sc_law.nd (by rfl) (Or.inl rfl) (pe_call G__law_contents (hr.mono (by omega)) (by rfl) T.g__law_contents kp__law_contents b__law_contents .nil pass0 (pa_cons (pv 2) (pa_cons pe_int pa_nil))))
      (pss_cons (ps_set (i := 4) sc_law.nd (by rfl) (Or.inr rfl) (pe_make T.mk_World G_World___init__ (hr.mono (by omega)) (by rfl) T.g_World b_World___init__ .nil pass0 (pa_cons (pe_callTy (call_listI rfl) (by rfl) T.n_list bt_list (pa_cons (pe_bm0 PySem.F.plainAttrs_dict PySem.F.slot_dict_items PySem.F.type_dict_items mt_itemsT (pv 3)) pa_nil)) pa_nil)))
      (pss_cons (ps_setLc (own := [("_law_j", 10)]) (g := gName 10) (tt := tYes) (i := 5) rfl sc_law.nd rfl rfl (sw_true rfl rfl rfl (by decide +kernel)) (pi_range1 (by rfl) T.n_range (pa_cons (pe_op op_add pe_int (pe_call G__law_take (hr.mono (by omega)) (by rfl) T.g__law_take kp__law_take b__law_take .nil pass0 (pa_cons (pv 2) (pa_cons pe_int pa_nil)))) pa_nil)) (blkOk_by (own := [("_law_j", 10)]) (N := ["_law_script", "_law_k", "_law_stream_here", "_law_contents_here", "_law_world", "_law_tries", "_law_books", "_law_kept", "_law_own", "_law_places", "_law_j", "_law_one", "_law_at"]) (sc := defScope s_law) (by decide +kernel)) (fun _ _ _ _ _ => (pg_name (i := 10) sc_law.nd (by rfl) (Or.inl rfl))) (fun _ _ _ _ _ => pts_nil) (fun _ _ _ _ _ => (pe_call G__law_try (hr.mono (by omega)) (by rfl) T.g__law_try kp__law_try b__law_try .nil pass0 (pa_cons (pv 2) pa_nil))))
      (pss_cons (ps_set (i := 6) sc_law.nd (by rfl) (Or.inr rfl) (pe_lc (own := [("_law_one", 11)]) (g := gName 11) (tt := tYes) rfl sc_law.nd (pi_list (pv 5)) (blkOk_by (own := [("_law_one", 11)]) (N := ["_law_script", "_law_k", "_law_stream_here", "_law_contents_here", "_law_world", "_law_tries", "_law_books", "_law_kept", "_law_own", "_law_places", "_law_j", "_law_one", "_law_at"]) (sc := defScope s_law) (by decide +kernel)) (fun _ _ _ _ _ => (pg_name (i := 11) sc_law.nd (by rfl) (Or.inl rfl))) (fun _ _ _ _ _ => pts_nil) (fun _ _ _ _ _ => (pe_ix (ixT (K := K) rfl) (pe_call G_run (hr.mono (by omega)) (by rfl) T.g_run kp_run b_run .nil pass0 (pa_cons (pv 4) (pa_cons (pv 11) pa_nil))) pe_int (fun _ _ => rfl)))))
      (pss_cons (ps_set (i := 7) sc_law.nd (by rfl) (Or.inl rfl) (pe_call G_few_kept (hr.mono (by omega)) (by rfl) T.g_few_kept kp_few_kept b_few_kept .nil pass0 (pa_cons (pv 6) pa_nil)))
      (pss_cons (ps_setLc (own := [("_law_at", 12)]) (g := gName 12) (tt := tYes) (i := 8) rfl sc_law.nd rfl rfl (sw_true rfl rfl rfl (by decide +kernel)) (pi_tup (pv 7)) (blkOk_by (own := [("_law_at", 12)]) (N := ["_law_script", "_law_k", "_law_stream_here", "_law_contents_here", "_law_world", "_law_tries", "_law_books", "_law_kept", "_law_own", "_law_places", "_law_j", "_law_one", "_law_at"]) (sc := defScope s_law) (by decide +kernel)) (fun _ _ _ _ _ => (pg_name (i := 12) sc_law.nd (by rfl) (Or.inl rfl))) (fun _ _ _ _ _ => pts_nil) (fun _ _ _ _ _ => (pe_ix (ixL (K := K) rfl) (pv 6) (pv 12) (fun _ _ => rfl))))
      (pss_cons (ps_if (PW.pt (pw_or (pt_cmpR op_notBl (pe_call G_is_keeping (hr.mono (by omega)) (by rfl) T.g_is_keeping kp_is_keeping b_is_keeping .nil pass0 (pa_cons (pv 6) (pa_cons (pv 7) pa_nil))) pe_bl (nomark _)) (pw_or1 (pt_cmpR (op_neDK (K := K) rfl hr.units) (pe_call G_touched (hr.mono (by omega)) (by rfl) T.g_touched kp_touched b_touched .nil pass0 (pa_cons (pv 8) pa_nil)) (pe_call G_touched (hr.mono (by omega)) (by rfl) T.g_touched kp_touched b_touched .nil pass0 (pa_cons (pv 6) pa_nil)) (nomark _))))) (pss_one (ps_ret pe_bl)) pss_nil)
      (pss_cons (ps_if (pt_not (pt_val (pe_call G__law_first (hr.mono (by omega)) (by rfl) T.g__law_first kp__law_first b__law_first .nil pass0 (pa_cons (pe_lc (own := [("_law_at", 12)]) (g := gName 12) (tt := tYes) rfl sc_law.nd (pi_tup (pv 7)) (blkOk_by (own := [("_law_at", 12)]) (N := ["_law_script", "_law_k", "_law_stream_here", "_law_contents_here", "_law_world", "_law_tries", "_law_books", "_law_kept", "_law_own", "_law_places", "_law_j", "_law_one", "_law_at"]) (sc := defScope s_law) (by decide +kernel)) (fun _ _ _ _ _ => (pg_name (i := 12) sc_law.nd (by rfl) (Or.inl rfl))) (fun _ _ _ _ _ => pts_nil) (fun _ _ _ _ _ => (pe_call G__law_chance (hr.mono (by omega)) (by rfl) T.g__law_chance kp__law_chance b__law_chance .nil pass0 (pa_cons (pv 2) pa_nil)))) pa_nil)))) (pss_one (ps_ret pe_bl)) pss_nil)
      (pss_cons (ps_set (i := 9) sc_law.nd (by rfl) (Or.inl rfl) (pe_call G_touched (hr.mono (by omega)) (by rfl) T.g_touched kp_touched b_touched .nil pass0 (pa_cons (pv 6) pa_nil)))
      (pss_one (ps_for PassesOwn.never rfl (pi_range1 (by rfl) T.n_range (pa_cons pe_int pa_nil)) (pg_name (i := 10) sc_law.nd (by rfl) (Or.inl rfl)) (pss_one (ps_if (pt_not (pt_val (pe_call G__law_met (hr.mono (by omega)) (by rfl) T.g__law_met kp__law_met b__law_met .nil pass0 (pa_cons (pv 2) (pa_cons (pv 3) (pa_cons (pv 8) (pa_cons (pe_ix ix_tup (pv 9) (pe_call G__law_take (hr.mono (by omega)) (by rfl) T.g__law_take kp__law_take b__law_take .nil pass0 (pa_cons (pv 2) (pa_cons (pe_callB call_len_seq (by rfl) T.n_len bt_len (pa_cons (pv 9) pa_nil)) pa_nil))) (fun _ _ => rfl)) pa_nil))))))) (pss_one (ps_ret pe_bl)) pss_nil)))))))))))))))
      (pss_one (ps_ret pe_bl))), ?_⟩
    refine ⟨_, rfl, by decide, by decide, for_it (walk_range (lo := 0) (n := (4 : Int).toNat)) (fun i σ H' => ∃ v1 v2 v3 v4 v5 v6 v7 v8 v9 vA vB vC, σ = [some (.ref a), v1, v2, v3, v4, v5, v6, v7, v8, v9, vA, vB, vC] ∧ L2.Same H H') ⟨_, _, _, _, _, _, _, _, _, _, _, _, rfl, Same.refl _⟩ (fun _ _ _ _ _ => trivial) ?_ ?_⟩
    · rintro i v σ H2 H1 hi ⟨v1, v2, v3, v4, v5, v6, v7, v8, v9, vA, vB, vC, rfl, s1⟩ ⟨rfl, rfl⟩
      have sq1 : SqL K H1 a (ns.map V.int) := sql_same sq s1
      refine ⟨_, rfl, _, rfl, a, ns, i, congrArg (fun v => [V.ref a, v]) (z_int i), sq1, by omega, fun H3 s n3 s3 sm3 => ?_⟩
      refine ⟨_, rfl, s, rfl, sm3, fun H4 D kvs ct k4 nD eD cv cb => ?_⟩
      refine ⟨_, rfl, .inr (.inr (.inl ⟨rfl, .inr ⟨_, eD⟩⟩)), D, kvs, rfl, rfl, eD, fun v nv => ⟨v, D, kvs, rfl, upd_same, upd_of eD nv, fun H5 l rows s5 el pr => fun x dx nx ndx ne => world_at el (rows_at ((cv.mono (Tups.of ((Same.refl H4).up nv))).mono (Tups.of s5)) pr cb.co) (cb.ok (by decide)) nx ndx ne fun H6 s6 w6 => ?_⟩⟩
      have s46 : L2.Same H4 H6 := (((Same.refl H4).up nv).trans s5).trans s6
      have k6 : Sk s H3 H6 := k4.same s46
      have eD6 := s46 _ _ eD
      have cv6 := cv.mono (Tups.of s46)
      have okc := cb.ok (by decide : 20 ≤ 30)
      refine ⟨_, rfl, s, 5, rfl, k6.m', by decide, by decide, fun H7 r hr7 k7 sm7 => ⟨_, _, rfl, rfl, _, rfl, by omega, by omega, fun L nL => ?_⟩⟩
      have sk7 : Sk s H6 H7 := ⟨k7, k6.m', sm7⟩
      refine lc_it (walk_range (lo := 0) (n := (1 + (r : Int)).toNat)) (GK s H7 L fun v H' => ∃ t, v = .ref t ∧ TryAt H' t) (GK.start sm7 nL) (fun i H' _ g => trivial) ?_ ?_
      · rintro j v H9 H8 hj g ⟨rfl, rfl⟩
        refine ⟨rfl, _, rfl, s, rfl, g.1.m', fun Ha t ka ta => ?_⟩
        exact GK.push nL g ka ⟨t, rfl, ta⟩ (by omega) fun v H H' k ⟨t, e, h⟩ => ⟨t, e, h.mono k⟩
      · rintro H8 ⟨k8, acc, eL, len, all⟩
        obtain ⟨ts, rfl, hts⟩ := refs_all all
        rw [List.length_map] at len
        have sk8 : Sk s H6 H8 := sk7.trans k8
        have w8 := w6.sk sk8
        refine ⟨_, rfl, L, rfl, ⟨_, SqL.of eL⟩, fun M nM => lc_it (walk_list (K := K) (a := L) (xs := ts.map V.ref)) (GP H8 M fun i acc H' => ∃ (Bs : List Addr) (bks : List Bk), acc = Bs.map V.ref ∧ Paired (BookAt H') Bs bks ∧ bks.length = i ∧ ∀ bk ∈ bks, BkG ct bk) (GP.start nM ⟨[], [], rfl, .nil, rfl, fun _ z => (nomatch z)⟩) (fun i H' _ g => SqL.of (g.1 _ _ eL)) ?_ ?_⟩
        · rintro j v Ha H9 hj ⟨g1, acc, g2, Bs, bks, rfl, g3, g4, g5⟩ ⟨rfl, ey⟩
          obtain ⟨t, ht, rfl⟩ := ref_get ey
          obtain ⟨m, f, nv, wv, e1, e2, e3, an, is, rfl, e4, e5, e6⟩ := (hts t (List.mem_of_getElem? ht)).mono (Tups.of g1)
          refine ⟨rfl, _, rfl, _, rfl, x, t, ct, m, f, _, wv, rfl, w8.mono g1, okc, e1, e2, e3, ⟨an, is, rfl, .inr e4, e5, e6⟩, fun Hb R u B y z bk sb eR hB okB neB toldB => ?_⟩
          refine ⟨R, _, 1, .ref B, rfl, rfl, SqT.of eR, at_of (j := 1) rfl rfl, ?_⟩
          have tM : Tups Hb (upd Hb M (.lst (Bs.map V.ref ++ [.ref B]))) := Tups.upd fun ys z => by
            rw [sb _ _ g2] at z
            cases z
          have bl := g3.length
          refine GP.push nM g1 g2 sb (by rw [List.length_map]; have := get_lt ht; omega) ⟨Bs ++ [B], bks ++ [bk], by rw [List.map_append] <;> rfl, Paired.snoc (Paired.mapP g3 fun _ _ z => (z.mono (Tups.of sb)).mono tM) (hB.mono tM), by rw [List.length_append, g4] <;> rfl, fun b hb => ?_⟩
          rcases List.mem_append.mp hb with hb | hb
          · exact g5 b hb
          · rw [List.mem_singleton.mp hb]
            exact ⟨okB, neB, toldB⟩
        · rintro H9 ⟨g1, acc, g2, Bs, bks, rfl, g3, g4, g5⟩
          rw [List.length_map] at g4
          have b5 : bks.length ≤ 5 := by omega
          have b1 : bks ≠ [] := fun z => by
            rw [z] at g4
            have : ([] : List Bk).length = 0 := rfl
            omega
          have bok : ∀ bk ∈ bks, BookOk bk := fun bk h => (g5 bk h).1
          have hb : BooksAt H9 M bks := ⟨Bs, g2, g3⟩
          have nMs : M ≠ s := k8.m'.ne nM
          refine ⟨_, rfl, M, bks, rfl, hb, by omega, bok, fun Ha F js sa eF pw lt al => ?_⟩
          have jl : js.length ≤ bks.length := nodup_len (pw.imp Nat.ne_of_lt) lt
          refine ⟨_, rfl, F, rfl, ⟨_, SqT.of eF⟩, fun N nN => lc_it (walk_tup (K := K) (a := F) (xs := js.map nV)) (GP Ha N fun i acc H' => ∃ Cs : List Addr, acc = Cs.map V.ref ∧ Paired (BookAt H') Cs (ownOf bks (js.take i))) (GP.start nN ⟨[], rfl, .nil⟩) (fun i H' _ g => SqT.of (g.1 _ _ eF)) ?_ ?_⟩
          · rintro j v Hc Hb hj ⟨h1, acc, h2, Cs, rfl, h3⟩ ⟨rfl, ey⟩
            obtain ⟨n, hn, rfl⟩ := map_get ey
            have ln := lt n (List.mem_of_getElem? hn)
            have hbk : bks[n]? = some bks[n] := List.getElem?_eq_getElem ln
            obtain ⟨B, hB⟩ : ∃ B, Bs[n]? = some B := ⟨_, List.getElem?_eq_getElem (by rw [g3.length]; exact ln)⟩
            refine ⟨rfl, _, rfl, _, rfl, M, _, (n : Int), .ref B, rfl, rfl, SqL.of ((sa.trans h1) _ _ g2), atI_nat (by rw [List.getElem?_map, hB] <;> rfl), ?_⟩
            have bat := (pair_get g3 hB hbk).mono (Tups.of (sa.trans h1))
            have eo : ownOf bks (js.take (j + 1)) = ownOf bks (js.take j) ++ [bks[n]] := by
              unfold ownOf
              rw [List.take_add_one, hn, List.map_append]
              show _ ++ [(bks[n]?).getD []] = _
              rw [hbk] <;> rfl
            have tN : Tups Hb (upd Hb N (.lst (Cs.map V.ref ++ [.ref B]))) := Tups.upd fun ys z => by
              rw [h2] at z
              cases z
            have cl := h3.length
            have l1 : (ownOf bks (js.take j)).length ≤ js.length := by
              unfold ownOf
              rw [List.length_map, List.length_take]
              exact Nat.min_le_right _ _
            refine GP.push nN h1 h2 (Same.refl _) (by rw [List.length_map]; omega) ⟨Cs ++ [B], by rw [List.map_append] <;> rfl, ?_⟩
            rw [eo]
            exact Paired.snoc (Paired.mapP h3 fun _ _ z => z.mono tN) (bat.mono tN)
          · rintro Hb ⟨h1, acc, h2, Cs, rfl, h3⟩
            rw [List.length_map, take_all (xs := js) (Nat.le_refl _)] at h3
            have ol : (ownOf bks js).length ≤ 5 := by
              unfold ownOf
              rw [List.length_map]
              omega
            have ook : ∀ bk ∈ ownOf bks js, BookOk bk := fun bk h => bok bk (own_sub lt h)
            have hO : BooksAt Hb N (ownOf bks js) := ⟨Cs, h2, h3⟩
            have nNs : N ≠ s := (k8.m'.mono (g1.trans sa)).ne nN
            have s9b := sa.trans h1
            refine ⟨_, rfl, _, rfl, M, F, bks, js, rfl, hb.mono s9b, by omega, bok, h1 _ _ eF, pw, lt, by omega, al, fun Hc sc => ?_⟩
            refine ⟨true, true, rfl, rfl, _, rfl, ifF rfl ?_⟩
            refine ⟨_, rfl, N, _, rfl, hO.mono sc, by omega, ook, fun Hd p1 ks1 sd a1 p1at => ?_⟩
            refine ⟨_, rfl, M, bks, rfl, hb.mono (s9b.trans (sc.trans sd)), by omega, bok, fun He p2 ks2 se a2 p2at => ?_⟩
            have ek := touched_eq lt al a1 a2
            subst ek
            have plk : ∀ k ∈ ks1, PlaceOk k := fun k hk => by
              obtain ⟨bk, h4, kc, h5, rfl⟩ := keys_ex.mp ((a2.mem k).mp hk)
              exact (bok bk h4).pl kc h5
            have lay : ∀ k ∈ ks1, (plD k).canLay0 = true := fun k hk => pl_lay (plk k hk)
            refine ⟨_, _, places_dp (p1at.mono (Tups.of se)), places_dp p2at, keys_shaped lay, keys_shaped lay, ?_⟩
            rw [SeqAt.eqv_refl _ (lay_tup fun d hd => by
              obtain ⟨k, hk, rfl⟩ := List.mem_map.mp hd
              exact lay k hk)]
            refine ⟨_, rfl, ifF rfl ?_⟩
            have sbe := sc.trans (sd.trans se)
            have s9e := s9b.trans sbe
            have k8e : Sk s H8 He := (Sk.refl k8.m').same (g1.trans s9e)
            have eFe := sbe _ _ (h1 _ _ eF)
            refine ⟨_, rfl, F, rfl, ⟨_, SqT.of eFe⟩, fun G nG => lc_it (walk_tup (K := K) (a := F) (xs := js.map nV)) (GK s He G fun v H' => ∃ (t : Addr) (x : Ch), v = .ref t ∧ H' t = some (.tup (ChV x)) ∧ x.Ok) (GK.start k8e.m' nG) (fun i H' _ g => SqT.of (g.1.at eFe (fun xs z => (nomatch z)))) ?_ ?_⟩
            · rintro j v Hg Hf hj g ⟨rfl, ey⟩
              refine ⟨rfl, _, rfl, s, rfl, g.1.m', fun Hh t y kh et oky => ?_⟩
              exact GK.push nG g kh ⟨t, y, rfl, et, oky⟩ (by rw [List.length_map] at hj; omega) fun v H H' k ⟨t, x, e, h, o⟩ => ⟨t, x, e, k _ _ h, o⟩
            · rintro Hf ⟨kf, acc, eG, len2, all2⟩
              obtain ⟨as, cs, rfl, pc, okcs⟩ := chs_all all2
              rw [List.length_map, List.length_map] at len2
              have pl2 := pc.length
              refine ⟨G, cs, rfl, ⟨as, eG, pc⟩, by omega, okcs, fun Hg sg => ⟨_, rfl, ifF rfl ?_⟩⟩
              have keg : Sk s He Hg := kf.same sg
              refine ⟨_, rfl, M, bks, rfl, (hb.mono s9e).sk keg nMs, by omega, bok, fun Hh p3 ks3 sh a3 p3at => ?_⟩
              have keh : Sk s He Hh := keg.same sh
              have k6h : Sk s H6 Hh := (sk8.trans k8e).trans keh
              have nt3 := touched_ne a3 b1 fun bk h => (g5 bk h).2.1
              have hOh := (hO.mono sbe).sk keh nNs
              obtain ⟨as3, e3, rfl, at3⟩ := p3at
              have l3 := a3.len
              rw [List.length_map] at l3
              have l30 : 0 < as3.length := by
                cases as3 with
                | nil => exact absurd rfl nt3
                | cons _ _ => exact Nat.succ_pos _
              refine ⟨_, rfl, by decide, by decide, for_it (walk_range (lo := 0) (n := (4 : Int).toNat)) (fun j σ H' => ∃ vA, σ = [some (.ref a), some (V.int (0 + (i : Int))), some (.ref s), some (.ref D), some (.ref x), some (.ref L), some (.ref M), some (.ref F), some (.ref N), some (.ref p3), vA, vB, vC] ∧ Sk s Hh H') ⟨_, rfl, Sk.refl keh.m'⟩ (fun _ _ _ _ _ => trivial) ?_ ?_⟩
              · rintro j v σ Hj Hi hj ⟨vA, rfl, ki⟩ ⟨rfl, rfl⟩
                have ei := ki.tups _ _ e3
                refine ⟨_, rfl, _, rfl, _, rfl, _, rfl, _, rfl, _, rfl, p3, _, rfl, .inr (SqT.of ei), s, _, rfl, ki.m', by rw [List.length_map]; omega, by rw [List.length_map]; omega, fun Hk r2 hr2 kk smk => ?_⟩
                rw [List.length_map] at hr2
                have skk : Sk s Hi Hk := ⟨kk, ki.m', smk⟩
                have khk := ki.trans skk
                have hr3 : r2 < as3.length := by omega
                have h6 : as3[r2]? = some as3[r2] := List.getElem?_eq_getElem hr3
                have hm := List.mem_of_getElem? h6
                have k6k := k6h.trans khk
                obtain ⟨bk, q1, kc, q2, q3⟩ := (own_all lt al).mpr (keys_ex.mp ((a3.mem as3[r2].2).mp (List.mem_map_of_mem hm)))
                refine ⟨p3, _, (r2 : Int), .ref as3[r2].1, rfl, rfl, SqT.of (khk.tups _ _ e3), atI_nat (by rw [List.getElem?_map, h6] <;> rfl), ?_⟩
                refine ⟨s, D, N, as3[r2].1, kvs, ct, ownOf bks js, as3[r2].2, rfl, smk, k6k.at eD6 (fun xs z => (nomatch z)), cv6.mono k6k.tups, cb, hOh.sk khk nNs, nNs, by omega, ook, fun b h => (g5 b (own_sub lt h)).2.2, khk.tups _ _ (at3 _ hm), q3 ▸ (ook bk q1).pl kc q2, ⟨bk, q1, kc, q2, q3⟩, fun Hl kl => ⟨_, rfl, ifF rfl ?_⟩⟩
                exact ⟨_, rfl, khk.trans kl⟩
              · rintro σ Hi ⟨vA, rfl, ki⟩
                have kz : Sk s H3 Hi := k6.trans (k6h.trans ki)
                refine ⟨_, _, _, _, _, _, _, _, _, _, _, _, rfl, fun b o e => ?_⟩
                refine kz.k b o (fun z => ?_) (s3 b o (s1 b o e))
                rw [List.mem_singleton.mp z] at e
                rw [s1 _ _ e] at n3
                cases n3
    · rintro σ H1 ⟨v1, v2, v3, v4, v5, v6, v7, v8, v9, vA, vB, vC, rfl, s1⟩
      exact q _
end
end Ta
namespace Ta
open PySem PySem.Spec PyProof.Rows L2
theorem facts {P : Program} {w : World} {K : PySem.W.Frag} {h : Heap} {mg : Str → Option Value} {f : Addr} (X : K.In h) (G : h.Ns mainGlobals mg) (hfa : mg ("law" : Str) = some (.ref f)) (c : Says w K) :
    ∃ fd : FuncData, (∀ (s : Shared) (v : Value), BindsTo s fd ⟨[v], []⟩ [("_law_script", v)]) ∧ ∀ base : Heap, K.In base → base.Ns mainGlobals mg → FnOk P w K mg base CX0 217 f fd ["_law_script"] (spLaw K) := by
  have T : Tx w K mg := ⟨c, h, X, G⟩
  obtain ⟨fd, F⟩ := T.d_law
  have e := hfa.symm.trans T.g_law
  cases e
  have b := FunD.bindsA (ps := ["_law_script"]) F fun _ _ _ _ _ _ us hl => match us, hl with | [_], _ => rfl
  exact ⟨fd, fun s v => b s [v] rfl, fun base _ _ => ok_law T F⟩
end Ta
open PySem PySem.W PySem.Calls PyProof.Rows
theorem PySem.Challenge.cw_triesagain_k78_whole_few_then_first_holds : PySem.Challenge.rw_triesagain_k78_whole_few_then_first.Holds := by
  w_on; o_law
  refine HandSHeadRun.head_any (r := Ta.R) (q := view Ta.R.prog [114]) (H := Ta.hk) (ob := Ta.ob) (M := 6000) (loose := Ta.lo) (d := HandSHeadRun.topDef Ta.R.prog 114) (kwd := []) Ta.ob_eq
    (by kernel_rfl) (fun s => by kernel_rfl) Ta.run (by kernel_rfl) (by kernel_rfl) (by kernel_rfl) (by rfl) (by first | assumption | decide +kernel) (by decide +kernel) ⟨rfl, rfl, rfl, rfl, rfl, by decide +kernel⟩ ?hw ?hc
  case hw => w_witness2
  case hc =>
    refine L2.walk_ofE (l := PySem.Challenge.rw_triesagain_k78_whole_few_then_first) (n := 63) (k := 217) (x := "_law_script") (CX := L2.CX0) rfl (by decide) (by kernel_rfl) ⟨rfl, by decide, by decide⟩ ?F (fun _ _ _ _ z => z)
    intro w mg fa h Y G hmg0
    obtain ⟨K, KX, c⟩ := Y
    have hmg : mg ("law" : PySem.Str) = some (.ref fa) := by
      have e : (HandSHeadRun.topDef Ta.R.prog 114).name = ("law" : PySem.Str) := by kernel_rfl
      rw [← e]
      exact hmg0
    obtain ⟨fd, hb, hF⟩ := Ta.facts (P := (PySem.Challenge.rw_triesagain_k78_whole_few_then_first).prog) (w := w) KX G hmg c
    exact ⟨K, fd, Ta.spLaw K, KX, hb, fun H a ns hl _ hS => ⟨a, ns, rfl, hS, fun _ => rfl⟩, hF⟩
