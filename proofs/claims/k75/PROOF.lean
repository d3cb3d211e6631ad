import PyProof.Rows.All
import Wide.All
import OpenK.AllK
import Wide.FinOn
import KE.KStateDown
import Lean
import HandS.Base
import HandS.Call
import HandS.Ends
import HandS.Words
import HandS.Defaults
import HandS.Head0
import HandS.Head1
import HandS.Head2
import HandS.HeadEnd
import HandS.HeadHook1
import HandS.HeadHook2
import HandS.HeadHook3
import HandS.HeadHook4
import HandS.ExcField
import PySem.Challenge.RW_walkshome_k75_whole_derivations_of_addit
import HandS.ForMost
import HandS.Codes
import PyProof.ReprRoads
import HandS.Exc
import HandS.ExcInit
import HandS.Style
import KE.KRevSl
import KE.KUnpackStar
import HandS.DictTup
import HandS.ExcOwn
import PyProof.DictUpdate
import HandS.FStr
import HandS.FStrTup
import OpenK.KOps
import PyProof.RowDictHeap
import HandS.Walk
import KE.GoesEnum
import PyProof.EnumMake
import HandS.DictComp
import HandS.Conv
import HandS.ListItems
import HandS.Replace
import HandS.SortInts
import HandS.Wide
import HandS.IsInst
import HandS.Flow
import HandS.RaiseMore
import HandS.Text
import PyProof.StrLawsRepr
import PyProof.FitsInt
import PyProof.Rows.ReprOcc
import HandS.TryOnly
section Text_Whead
set_option Elab.async false
set_option linter.all false
set_option maxRecDepth 100000
set_option maxHeartbeats 0
namespace WHead
open PySem PySem.Spec PyProof.Rows L2
def top (i : Nat) : Stmt := PySem.Challenge.pw_walkshome_k75_whole_derivations_of_addit.main.body.getD i (.Pass ⟨0, 0, 0, 0⟩)
def d_LabelledFolding_init : He.DefD := ⟨("LabelledFolding", some "__init__"), "__init__", "LabelledFolding.__init__", defArgs (inClass (top 38) 0), defBody (inClass (top 38) 0), defScope (inClass (top 38) 0), [], []⟩
def d_LabelledFolding_generator_line : He.DefD := ⟨("LabelledFolding", some "generator_line"), "generator_line", "LabelledFolding.generator_line", defArgs (inClass (top 38) 1), defBody (inClass (top 38) 1), defScope (inClass (top 38) 1), [], []⟩
def d_LabelledFolding_inverse_line : He.DefD := ⟨("LabelledFolding", some "inverse_line"), "inverse_line", "LabelledFolding.inverse_line", defArgs (inClass (top 38) 2), defBody (inClass (top 38) 2), defScope (inClass (top 38) 2), [], []⟩
def d_LabelledFolding_product_line : He.DefD := ⟨("LabelledFolding", some "product_line"), "product_line", "LabelledFolding.product_line", defArgs (inClass (top 38) 3), defBody (inClass (top 38) 3), defScope (inClass (top 38) 3), [], []⟩
def d_LabelledFolding_add_generator : He.DefD := ⟨("LabelledFolding", some "add_generator"), "add_generator", "LabelledFolding.add_generator", defArgs (inClass (top 38) 4), defBody (inClass (top 38) 4), defScope (inClass (top 38) 4), [], []⟩
def d_LabelledFolding_walk : He.DefD := ⟨("LabelledFolding", some "walk"), "walk", "LabelledFolding.walk", defArgs (inClass (top 38) 5), defBody (inClass (top 38) 5), defScope (inClass (top 38) 5), [], []⟩
def d_LabelledFolding_add_edge : He.DefD := ⟨("LabelledFolding", some "add_edge"), "add_edge", "LabelledFolding.add_edge", defArgs (inClass (top 38) 6), defBody (inClass (top 38) 6), defScope (inClass (top 38) 6), [], []⟩
def d_LabelledFolding_current : He.DefD := ⟨("LabelledFolding", some "current"), "current", "LabelledFolding.current", defArgs (inClass (top 38) 7), defBody (inClass (top 38) 7), defScope (inClass (top 38) 7), [], []⟩
def d_LabelledFolding_merge_pending : He.DefD := ⟨("LabelledFolding", some "merge_pending"), "merge_pending", "LabelledFolding.merge_pending", defArgs (inClass (top 38) 8), defBody (inClass (top 38) 8), defScope (inClass (top 38) 8), [], []⟩
def d_LabelledFolding_merge : He.DefD := ⟨("LabelledFolding", some "merge"), "merge", "LabelledFolding.merge", defArgs (inClass (top 38) 9), defBody (inClass (top 38) 9), defScope (inClass (top 38) 9), [], []⟩
def d_LabelledFolding_derivation_of : He.DefD := ⟨("LabelledFolding", some "derivation_of"), "derivation_of", "LabelledFolding.derivation_of", defArgs (inClass (top 38) 10), defBody (inClass (top 38) 10), defScope (inClass (top 38) 10), [], []⟩
def d_Session_init : He.DefD := ⟨("Session", some "__init__"), "__init__", "Session.__init__", defArgs (inClass (top 44) 0), defBody (inClass (top 44) 0), defScope (inClass (top 44) 0), [], []⟩
def d_Session_is_current : He.DefD := ⟨("Session", some "is_current"), "is_current", "Session.is_current", defArgs (inClass (top 44) 1), defBody (inClass (top 44) 1), defScope (inClass (top 44) 1), [], []⟩
def d_Session_entries : He.DefD := ⟨("Session", some "entries"), "entries", "Session.entries", defArgs (inClass (top 44) 2), defBody (inClass (top 44) 2), defScope (inClass (top 44) 2), [], []⟩
def d_Session_paths : He.DefD := ⟨("Session", some "paths"), "paths", "Session.paths", defArgs (inClass (top 44) 3), defBody (inClass (top 44) 3), defScope (inClass (top 44) 3), [], []⟩
def d_Session_require_user : He.DefD := ⟨("Session", some "require_user"), "require_user", "Session.require_user", defArgs (inClass (top 44) 4), defBody (inClass (top 44) 4), defScope (inClass (top 44) 4), [], []⟩
def d_Session_record : He.DefD := ⟨("Session", some "record"), "record", "Session.record", defArgs (inClass (top 44) 5), defBody (inClass (top 44) 5), defScope (inClass (top 44) 5), [], []⟩
def d_Session_add_path : He.DefD := ⟨("Session", some "add_path"), "add_path", "Session.add_path", defArgs (inClass (top 44) 6), defBody (inClass (top 44) 6), defScope (inClass (top 44) 6), [], [("user", .int 0)]⟩
def d_Session_remove_entry : He.DefD := ⟨("Session", some "remove_entry"), "remove_entry", "Session.remove_entry", defArgs (inClass (top 44) 7), defBody (inClass (top 44) 7), defScope (inClass (top 44) 7), [], [("user", .int 0)]⟩
def d_Session_undo : He.DefD := ⟨("Session", some "undo"), "undo", "Session.undo", defArgs (inClass (top 44) 8), defBody (inClass (top 44) 8), defScope (inClass (top 44) 8), [], [("user", .int 0)]⟩
def d_Session_history : He.DefD := ⟨("Session", some "history"), "history", "Session.history", defArgs (inClass (top 44) 12), defBody (inClass (top 44) 12), defScope (inClass (top 44) 12), [], []⟩
def d_Session_len : He.DefD := ⟨("Session", some "__len__"), "__len__", "Session.__len__", defArgs (inClass (top 44) 15), defBody (inClass (top 44) 15), defScope (inClass (top 44) 15), [], []⟩
def d_Session_repr : He.DefD := ⟨("Session", some "__repr__"), "__repr__", "Session.__repr__", defArgs (inClass (top 44) 16), defBody (inClass (top 44) 16), defScope (inClass (top 44) 16), [], []⟩
def d_UnknownEntry_init : He.DefD := ⟨("UnknownEntry", some "__init__"), "__init__", "UnknownEntry.__init__", defArgs (inClass (top 10) 0), defBody (inClass (top 10) 0), defScope (inClass (top 10) 0), [], []⟩
def d_NothingToUndo_init : He.DefD := ⟨("NothingToUndo", some "__init__"), "__init__", "NothingToUndo.__init__", defArgs (inClass (top 13) 0), defBody (inClass (top 13) 0), defScope (inClass (top 13) 0), [], []⟩
def d_is_integer : He.DefD := ⟨("is_integer", none), "is_integer", "is_integer", defArgs (top 19), defBody (top 19), defScope (top 19), [], []⟩
def d_is_path : He.DefD := ⟨("is_path", none), "is_path", "is_path", defArgs (top 20), defBody (top 20), defScope (top 20), [], []⟩
def d_require_path : He.DefD := ⟨("require_path", none), "require_path", "require_path", defArgs (top 21), defBody (top 21), defScope (top 21), [], []⟩
def d_reduce_all : He.DefD := ⟨("reduce_all", none), "reduce_all", "reduce_all", defArgs (top 22), defBody (top 22), defScope (top 22), [], []⟩
def d_reduced_generator : He.DefD := ⟨("reduced_generator", none), "reduced_generator", "reduced_generator", defArgs (top 24), defBody (top 24), defScope (top 24), [], []⟩
def d_required_lines : He.DefD := ⟨("required_lines", none), "required_lines", "required_lines", defArgs (top 39), defBody (top 39), defScope (top 39), [], []⟩
def d_derive_all : He.DefD := ⟨("derive_all", none), "derive_all", "derive_all", defArgs (top 40), defBody (top 40), defScope (top 40), [], []⟩
def d_law_pool : He.DefD := ⟨("_law_pool", none), "_law_pool", "_law_pool", defArgs (top 46), defBody (top 46), defScope (top 46), [], []⟩
def d_law_draw : He.DefD := ⟨("_law_draw", none), "_law_draw", "_law_draw", defArgs (top 47), defBody (top 47), defScope (top 47), [], []⟩
def d_law_path : He.DefD := ⟨("_law_path", none), "_law_path", "_law_path", defArgs (top 48), defBody (top 48), defScope (top 48), [], []⟩
def d_law_back : He.DefD := ⟨("_law_back", none), "_law_back", "_law_back", defArgs (top 49), defBody (top 49), defScope (top 49), [], []⟩
def d_law_reversed : He.DefD := ⟨("_law_reversed", none), "_law_reversed", "_law_reversed", defArgs (top 50), defBody (top 50), defScope (top 50), [], []⟩
def d_law_short : He.DefD := ⟨("_law_short", none), "_law_short", "_law_short", defArgs (top 51), defBody (top 51), defScope (top 51), [], []⟩
def d_law_initial : He.DefD := ⟨("_law_initial", none), "_law_initial", "_law_initial", defArgs (top 52), defBody (top 52), defScope (top 52), [], []⟩
def d_law_conflict : He.DefD := ⟨("_law_conflict", none), "_law_conflict", "_law_conflict", defArgs (top 53), defBody (top 53), defScope (top 53), [], []⟩
def d_law_merged : He.DefD := ⟨("_law_merged", none), "_law_merged", "_law_merged", defArgs (top 54), defBody (top 54), defScope (top 54), [], []⟩
def d_law_folded : He.DefD := ⟨("_law_folded", none), "_law_folded", "_law_folded", defArgs (top 55), defBody (top 55), defScope (top 55), [], []⟩
def d_law_end : He.DefD := ⟨("_law_end", none), "_law_end", "_law_end", defArgs (top 56), defBody (top 56), defScope (top 56), [], []⟩
def d_law_product : He.DefD := ⟨("_law_product", none), "_law_product", "_law_product", defArgs (top 57), defBody (top 57), defScope (top 57), [], []⟩
def d_law_padded : He.DefD := ⟨("_law_padded", none), "_law_padded", "_law_padded", defArgs (top 58), defBody (top 58), defScope (top 58), [], []⟩
def d_law_is_integer : He.DefD := ⟨("_law_is_integer", none), "_law_is_integer", "_law_is_integer", defArgs (top 59), defBody (top 59), defScope (top 59), [], []⟩
def d_law_line : He.DefD := ⟨("_law_line", none), "_law_line", "_law_line", defArgs (top 60), defBody (top 60), defScope (top 60), [], []⟩
def d_law_value : He.DefD := ⟨("_law_value", none), "_law_value", "_law_value", defArgs (top 61), defBody (top 61), defScope (top 61), [], []⟩
def d_law_current : He.DefD := ⟨("_law_current", none), "_law_current", "_law_current", defArgs (top 62), defBody (top 62), defScope (top 62), [], []⟩
def d_law_listed : He.DefD := ⟨("_law_listed", none), "_law_listed", "_law_listed", defArgs (top 63), defBody (top 63), defScope (top 63), [], []⟩
def d_law_undone : He.DefD := ⟨("_law_undone", none), "_law_undone", "_law_undone", defArgs (top 64), defBody (top 64), defScope (top 64), [], []⟩
def d_law_expected : He.DefD := ⟨("_law_expected", none), "_law_expected", "_law_expected", defArgs (top 65), defBody (top 65), defScope (top 65), [], []⟩
def d_law_actual : He.DefD := ⟨("_law_actual", none), "_law_actual", "_law_actual", defArgs (top 66), defBody (top 66), defScope (top 66), [], []⟩
def d_law_state : He.DefD := ⟨("_law_state", none), "_law_state", "_law_state", defArgs (top 67), defBody (top 67), defScope (top 67), [], []⟩
def d_law_due : He.DefD := ⟨("_law_due", none), "_law_due", "_law_due", defArgs (top 68), defBody (top 68), defScope (top 68), [], []⟩
def d_law_change : He.DefD := ⟨("_law_change", none), "_law_change", "_law_change", defArgs (top 69), defBody (top 69), defScope (top 69), [], []⟩
def d_law_added : He.DefD := ⟨("_law_added", none), "_law_added", "_law_added", defArgs (top 70), defBody (top 70), defScope (top 70), [], []⟩
def d_law : He.DefD := ⟨("law", none), "law", "law", defArgs (top 71), defBody (top 71), defScope (top 71), [], []⟩
def fn0 : List He.DefD := [d_LabelledFolding_init, d_LabelledFolding_generator_line, d_LabelledFolding_inverse_line, d_LabelledFolding_product_line, d_LabelledFolding_add_generator, d_LabelledFolding_walk, d_LabelledFolding_add_edge, d_LabelledFolding_current, d_LabelledFolding_merge_pending, d_LabelledFolding_merge, d_LabelledFolding_derivation_of, d_Session_init, d_Session_is_current, d_Session_entries, d_Session_paths, d_Session_require_user, d_Session_record, d_Session_add_path, d_Session_remove_entry, d_Session_undo, d_Session_history, d_Session_len, d_Session_repr, d_UnknownEntry_init, d_NothingToUndo_init, d_is_integer, d_is_path, d_require_path, d_reduce_all, d_reduced_generator]
def fn1 : List He.DefD := [d_required_lines, d_derive_all, d_law_pool, d_law_draw, d_law_path, d_law_back, d_law_reversed, d_law_short, d_law_initial, d_law_conflict, d_law_merged, d_law_folded, d_law_end, d_law_product, d_law_padded, d_law_is_integer, d_law_line, d_law_value, d_law_current, d_law_listed, d_law_undone, d_law_expected, d_law_actual, d_law_state, d_law_due, d_law_change, d_law_added, d_law]
def fn : List He.DefD := fn0 ++ fn1
def fa0 : List He.Fa := [.glo "is_integer", .glo "is_path", .glo "require_path", .glo "reduce_all", .glo "reduced_generator", .glo "required_lines", .glo "derive_all", .glo "_law_pool", .glo "_law_draw", .glo "_law_path", .glo "_law_back", .glo "_law_reversed", .glo "_law_short", .glo "_law_initial", .glo "_law_conflict", .glo "_law_merged", .glo "_law_folded", .glo "_law_end", .glo "_law_product", .glo "_law_padded", .glo "_law_is_integer", .glo "_law_line", .glo "_law_value", .glo "_law_current", .glo "_law_listed", .glo "_law_undone", .glo "_law_expected", .glo "_law_actual", .glo "_law_state", .glo "_law_due"]
def fa1 : List He.Fa := [.glo "_law_change", .glo "_law_added", .glo "law", .glo "LabelledFolding", .glo "Session", .glo "UnknownEntry", .glo "NothingToUndo", .glo "InvalidUser", .glo "LimitExceeded", .glo "InvalidPath", .free "isinstance", .free "len", .free "all", .free "range", .free "sorted", .free "list", .free "tuple", .free "enumerate", .free "int", .free "max", .free "min", .free "repr", .free "str", .free "bool", .free "IndexError", .free "RuntimeError", .str "STEPS" "aAbBcCdD", .int "MAX_STEPS" 400, .int "MAX_GENERATORS" 16, .int "MAX_GENERATOR_STEPS" 60]
def fa2 : List He.Fa := [.int "USER_COUNT" 4, .int "MAX_CHANGES" 200, .cls "LabelledFolding", .mkr "LabelledFolding", .meth "LabelledFolding" "__init__", .meth "LabelledFolding" "generator_line", .meth "LabelledFolding" "inverse_line", .meth "LabelledFolding" "product_line", .meth "LabelledFolding" "add_generator", .meth "LabelledFolding" "walk", .meth "LabelledFolding" "add_edge", .meth "LabelledFolding" "current", .meth "LabelledFolding" "merge_pending", .meth "LabelledFolding" "merge", .meth "LabelledFolding" "derivation_of", .cls "Session", .mkr "Session", .meth "Session" "__init__", .meth "Session" "is_current", .meth "Session" "entries", .meth "Session" "paths", .meth "Session" "require_user", .meth "Session" "record", .meth "Session" "add_path", .meth "Session" "remove_entry", .meth "Session" "undo", .meth "Session" "history", .meth "Session" "__len__", .meth "Session" "__repr__", .noat "LabelledFolding" "lines"]
def fa3 : List He.Fa := [.noat "LabelledFolding" "targets_of", .noat "LabelledFolding" "merged", .noat "LabelledFolding" "next_node", .noat "LabelledFolding" "pending", .noat "Session" "added", .noat "Session" "changes", .noat "Session" "change_count", .noat "UnknownEntry" "value", .noat "NothingToUndo" "user", .exm "UnknownEntry" "UnknownEntry" true, .exm "NothingToUndo" "UnknownEntry" false, .exm "NothingToUndo" "InvalidUser" false, .exm "NothingToUndo" "NothingToUndo" true, .meth "UnknownEntry" "__init__", .meth "NothingToUndo" "__init__"]
def fa : List He.Fa := fa0 ++ fa1 ++ fa2 ++ fa3
def nm0 : List Str := ["_wall", "PathError", "InvalidPath", "InvalidPaths", "InvalidNumber", "InvalidGraph", "InvalidUser", "InvalidNode", "InvalidFold", "UnknownEntry", "LimitExceeded", "NotFolded", "NothingToUndo", "STEPS", "MAX_STEPS", "MAX_GENERATORS", "MAX_GENERATOR_STEPS", "is_integer", "is_path", "require_path", "reduce_all", "require_paths", "reduced_generator", "reduced_generators", "LETTERS", "MAX_NODES", "Graph", "breadth_first_numbers", "canonical_graph", "initial_edges"]
def nm1 : List Str := ["Folding", "fold_paths", "LabelledFolding", "required_lines", "derive_all", "USER_COUNT", "MAX_CHANGES", "Session", "_law_pool", "_law_draw", "_law_path", "_law_back", "_law_reversed", "_law_short", "_law_initial", "_law_conflict", "_law_merged", "_law_folded", "_law_end", "_law_product", "_law_padded", "_law_is_integer", "_law_line", "_law_value", "_law_current", "_law_listed", "_law_undone", "_law_expected", "_law_actual", "_law_state"]
def nm2 : List Str := ["_law_due", "_law_change", "_law_added"]
def nms : List Str := nm0 ++ nm1 ++ nm2
abbrev R : PySem.W.OpenRow := PySem.W.OpenLaw.row PySem.Challenge.rw_walkshome_k75_whole_derivations_of_addit
/-- an own exception class over a built-in one, as the written part has it -/
def ownB (K : PySem.W.Frag) (C : Addr) (newId : String) (bm : List Value) : Bool := (match K.lookup C with
  | some ⟨.type "type", _, .cls cd, sl⟩ => (match cd.mro, sl.toList with
    | .ref C' :: bm', [_, _, _, _, some (.builtin n), _] => decide (C' = C) && (decide (n = newId) && (!cd.hasDel && (decide (bm' = bm) && cd.hasDict)))
    | _, _ => false)
  | _ => false) && (He.eqO (PySem.W.findIn K (.ref C) "__setattr__") (some (some (.builtin "object.__setattr__"))) && (decide (PySem.W.subIn K (.ref C) (.type "BaseException") = some true) && (decide (PySem.W.typeIn K (.ref C) = some (.type "type")) && (PySem.W.keepIn K (.ref C) &&
  (xfB K C && decide (PySem.W.typeIn K (.ref (He.ma K C "__init__")) = some (.type "function")))))))
def bI : List Value := [.type "IndexError", .type "LookupError", .type "Exception", .type "BaseException", .type "object"]
def bR : List Value := [.type "RuntimeError", .type "Exception", .type "BaseException", .type "object"]
def ex (K : PySem.W.Frag) : Bool := ownB K (He.ga K "UnknownEntry") "IndexError.__new__" bI && ownB K (He.ga K "NothingToUndo") "RuntimeError.__new__" bR
/-- what an object of the top leads to: a table's values, a function's code and keyword defaults, a class's table -/
def rfsY (o : Obj) : List Addr := match o.data with
  | .dict es _ => es.toList.flatMap fun e => He.refV e.val
  | .func fd => He.refV fd.code ++ He.refV fd.kwdefaults
  | .cls cd => [cd.ns]
  | _ => []
/-- the addresses, one after the other, none looked for twice (He.asD's list by eraseDups costs 5 GB here) -/
def goY (g : Addr → Option Obj) : Nat → List Addr → List Addr
  | 0, _ => []
  | _ + 1, [] => []
  | n + 1, a :: r => a :: goY g n (match g a with
    | some o => rfsY o ++ r
    | none => r)
def obY (g : Addr → Option Obj) : He.AlX := (He.obsT fa fn [] (He.frT g (goY g 2000 [mainGlobals])), ex (He.frT g (goY g 2000 [mainGlobals])))
abbrev hk : PySem.W.Hook where
  α := He.AlX
  obs := fun s => obY s.heap.get?
  val := fun w => He.valX fn [] w
  says := fun w h => ∃ K : PySem.W.Frag, K.In h ∧ He.SaysX fa fn [] [] ex w h K
  of := fun _ _ e => ⟨_, He.frT_in, ⟨congrArg (fun z : He.AlX => z.1) e, congrArg (fun z : He.AlX => z.2) e, (fun _ z => nomatch z), (fun _ z => nomatch z), (fun _ z => nomatch z)⟩⟩
  keeps := fun _ _ _ ⟨K, hK, c⟩ k => ⟨K, PySem.W.Frag.In.keeps hK k, ⟨c.t, c.more, c.hd, c.out, fun _ z => nomatch z⟩⟩
def ob (s : PySem.W.SharedT) : He.AlX := obY (HandSHeadRun.getT s)
theorem ob_eq (s : PySem.W.SharedT) : ob s = hk.obs s.abs := by
  have e : HandSHeadRun.getT s = s.abs.heap.get? := funext (HandSHeadRun.getT_eq s)
  show obY (HandSHeadRun.getT s) = obY s.abs.heap.get?
  rw [e]
theorem run (w : World) : HandSHeadRun.RunEq R (PySem.W.view R.prog [71]) hk ob 20000 nms w := by
  intro os
  kernel_rfl
end WHead
end Text_Whead
section Text_WG
set_option Elab.async false
set_option linter.all false
set_option maxRecDepth 100000
set_option maxHeartbeats 4000000
/-! WG: a def's contract where no repr is under way around the call (guards = some []); repr of data. -/
namespace WK
open PySem PySem.Spec L2
open PyProof.Rows hiding St

/-- like FnOk, but only where no guard runs -/
structure FnG (P : Program) (w : World) (K : PySem.W.Frag) (mg : Str → Option Value) (base : Heap) (CX : CXT) (k : Nat) (f : Addr) (fd : FuncData) (ps : List Str) (sp : Sp) : Prop where
  len : ∀ vs H Q E, sp vs H Q E → vs.length = ps.length
  go : ∀ (A : Around) (outer : List Env) (s : Shared) (H : Hp) (args : Args) (us : List Value) (vs : List V) (Q : VK) (E : XK), A.guards = some [] → Room k A →
    Env0 P w K mg base A outer s H → BindsTo s fd args (ps.zip us) → Vals vs us → sp vs H Q E → codeAny (model P w) A (.call (.ref f) args) (CR CX outer P w H s Q E) s

section
variable {P : Program} {w : World} {K : PySem.W.Frag} {mg : Str → Option Value} {base : Heap} {CX : CXT} {k : Nat} {f : Addr} {fd : FuncData} {ps : List Str} {sp : Sp}
theorem FnG.of (F : FnOk P w K mg base CX k f fd ps sp) : FnG P w K mg base CX k f fd ps sp :=
  ⟨F.len, fun A outer s H args us vs Q E _ hr => F.run A outer s H args us vs Q E hr⟩

/-- a def by its body, the body walked where no guard runs -/
theorem fnG_of {name qual : Str} {params : Arguments} {body : List Stmt} {scope : Scope} {dV kV doc pm cdv ct oc : Value} {an od : Option Addr} {osl : Array (Option Value)} {N : List Str}
    (at_ : K.lookup f = some ⟨oc, od, .func (PySem.W.fnOf name qual params body scope dV kV doc pm an cdv ct), osl⟩) (code : PySem.W.codeIn K cdv qual = true) (sco : FnScope N ps scope)
    (lens : ∀ vs H Q E, sp vs H Q E → vs.length = ps.length)
    (walked : ∀ (A : Around) (outer : List Env) (s : Shared) (H : Hp) (vs : List V) (Q : VK) (E : XK), (A.deeper (envOfC qual scope s.heap.objs.size f cdv)).guards = some [] →
      Room k (A.deeper (envOfC qual scope s.heap.objs.size f cdv)) → sp vs H Q E →
      ∃ t, PSs (cxOf CX P w K mg base N qual scope f cdv A outer s H E) body t ∧ t { nx := fun _ H' => Q .non H', rt := Q } (start N vs) H) :
    FnG P w K mg base CX (k + 1) f (PySem.W.fnOf name qual params body scope dV kV doc pm an cdv ct) ps sp := by
  constructor
  · exact lens
  intro A outer s H args us vs Q E hG hR hE hB hV hS
  have same := lens _ _ _ _ hS
  have keepB : ∀ b o, base.get? b = some o → s.heap.get? b = some o := fun b o q => (hE.bs b o q).1
  have inK : K.In s.heap := hE.mod.kin.keeps keepB
  have free : s.heap.NoLimit := hE.mod.nolimit.keeps keepB
  have kinds : ∀ y ∈ ps.zip us, scope.names.lookup y.1 = some .local ∨ (scope.names.lookup y.1 = some .cell ∧ ((cellsFrom (s.heap.objs.size + 1) scope.names []).lookup y.1).isSome = true) := by
    rintro ⟨n, v⟩ hy
    cases sco.par n (List.of_mem_zip hy).1 with
    | inl q => exact Or.inl q
    | inr q => exact Or.inr ⟨q, PySem.W.cellsFrom_some _ _ _ (Or.inl q)⟩
  refine codeAny_call_function hR.depth (inK _ _ at_) rfl sco.co sco.gen rfl (PySem.W.codeRec_of inK code) (hB _ _ _ _ ?_)
  refine wpAny_newFunctionEnv_cells sco.kind kinds ?_
  intro env he s1 inC
  subst he
  refine ⟨free.keeps inC.toInCall.keep, codeAny_func ?_⟩
  obtain ⟨t, wt, ht⟩ := walked A outer s H vs Q E hG (hR.deeper _) hS
  have J := inv_start (CX := CX) (E := E) (qual := qual) (cd := cdv) (f := f) sco hR.hd hE same hV inC
  refine wpAny_mono (wt.run [] s1 (start N vs) H _ J ht) ?_ (fun e s' z => z)
  intro fl s' out
  cases fl with
  | ret u =>
    obtain ⟨v, σ1, H1, J1, r1, q1⟩ := out
    exact ⟨v, H1, J1.os, J1.bare, J1.base, J1.hok, r1, q1⟩
  | next =>
    obtain ⟨σ1, H1, J1, q1⟩ := out
    exact ⟨V.non, H1, J1.os, J1.bare, J1.base, J1.hok, rfl, q1⟩
  | brk =>
    obtain ⟨_, _, _, q1⟩ := out
    exact q1.elim
  | cont =>
    obtain ⟨_, _, _, q1⟩ := out
    exact q1.elim
end

section
variable {P : Program} {w : World} {K : PySem.W.Frag} {mg : Str → Option Value} {base : Heap} {x qual : Str} {params : Arguments} {body : List Stmt} {scope : Scope} {dvs : List V} {kws : List (Str × V)} {f : Addr} {fd : FuncData}
theorem okG {CX : CXT} {N ps : List Str} {k : Nat} {sp : Sp} (F : FunD K x qual params body scope dvs kws f fd) (sco : FnScope N ps scope) (lens : ∀ vs H Q E, sp vs H Q E → vs.length = ps.length)
    (walked : ∀ (cdv : Value) (A : Around) (outer : List Env) (s : Shared) (H : Hp) (vs : List V) (Q : VK) (E : XK), (A.deeper (envOfC qual scope s.heap.objs.size f cdv)).guards = some [] →
      Room k (A.deeper (envOfC qual scope s.heap.objs.size f cdv)) → sp vs H Q E →
      ∃ t, PSs (cxOf CX P w K mg base N qual scope f cdv A outer s H E) body t ∧ t { nx := fun _ H' => Q .non H', rt := Q } (start N vs) H) : FnG P w K mg base CX (k + 1) f fd ps sp := by
  obtain ⟨oc, od, dV, kV, doc, pm, an, cdv, ct, osl, rfl, lk, hcd, _, _⟩ := F.ex
  exact fnG_of lk hcd sco lens fun A outer s H vs Q E hG hr hsp => walked cdv A outer s H vs Q E hG hr hsp
end

/-! ### the call -/
section
variable {X : Cx} {CX : CXT} {k : Nat} {f : Addr} {fd : FuncData} {ps : List Str} {sp : Sp} {E : XK} {x : Str} {p pos : Pos} {e : Expr} {es : List Expr} {t : TA}
theorem runG {pins : List (Addr × Obj)} {σ : St} {H : Hp} {s : Shared} {Q : VK} {us : List Value} {vs : List V} (F : FnG X.prog X.w X.K X.mg X.base CX k f fd ps sp) (hG : X.A.guards = some []) (hr : Room k X.A) (hb : Binds X.K fd ps [])
    (hx : Passes CX X E) (J : Inv X pins σ H s) (r : Vals vs us) (h : sp vs H Q E) : wpAny (model X.prog X.w) X.A (call (.ref f) us) (EP X pins σ Q) X.xe s := by
  have sz : (us ++ []).length = ps.length := by
    rw [List.append_nil, ← r.length]
    exact F.len _ _ _ _ h
  have bd := hb s us J.kIn sz
  rw [List.append_nil] at bd
  refine wpAny_call (codeAny_mono (F.go X.A X.stack s H ⟨us, []⟩ us vs Q E hG hr J.env0 bd r h) ?_)
  intro res s' out
  cases res with
  | error e => exact hx pins σ H s e s' J out
  | ok fl =>
    cases fl with
    | ret u => exact J.after out
    | next => exact out.elim
    | brk => exact out.elim
    | cont => exact out.elim
def tG (sp : Sp) (E : XK) (t : TA) : TE := fun σ H Q => t σ H fun vs H1 => sp vs H1 Q E
theorem pe_callG (F : FnG X.prog X.w X.K X.mg X.base CX k f fd ps sp) (hG : X.A.guards = some []) (hr : Room k X.A) (hg : Gl X x) (hm : X.mg x = some (.ref f)) (hk : PySem.W.keepIn X.K (.ref f) = true) (hb : Binds X.K fd ps [])
    (hx : Passes CX X E) (ha : PA X (e :: es) t) (hdb : (x == ("__debug__" : Str)) = false := by decide) (he : starEach (e :: es) X.env = (false, eval e X.env) :: starEach es X.env := by rfl)
    (hpl : (backTo pos (starEach es X.env)).any (·.1) = false := by rfl) : PE X (.Call (.Name x p) (e :: es) [] pos) (tG sp E t) := by
  constructor
  intro pins s σ H Q J h
  refine wpAny_Call_Name_kw (ld_glob J hg hm ?_ hdb)
  refine PySem.W.callWith_K (h₀ := X.base) J.ok.mod.kin hk ?_ he hpl
  refine thn (ha.run pos pins s σ H _ J h) ?_
  rintro us s1 ⟨vs, H1, J1, r, q⟩
  exact ⟨J1.kIn, runG F hG hr hb hx J1 r q⟩
end

/-! ### repr -/
section
variable {X : Cx}
/-- repr of a list or tuple of data -/
def rReprD (K : PySem.W.Frag) : List V → Hp → VK → Prop := fun xs H Q => ∃ (a : Addr) (d : PyData), xs = [.ref a] ∧ Dp K H (.ref a) d ∧ d.showable = true ∧ d.hasDict = false ∧ d.depth ≤ 32 ∧ d.shown.length ≤ sizeLine ∧ Q (.str d.shown) H
theorem call_reprD (hG : X.A.guards = some []) (hu : X.A.units + 64 < cLine) : CallR X (.builtin "repr") (rReprD X.K) := by
  rintro pins s σ H xs us Q J r ⟨a, d, rfl, hd, h1, h2, h3, h4, q⟩
  obtain ⟨u, rfl, ru⟩ := vals1 r
  obtain rfl : u = Value.ref a := ru
  obtain ⟨as, rd⟩ := Dp.reads J d (.ref a) (.ref a) hd rfl
  refine repr_of_reads' rd h1 (PyData.noDict_hsm h2) hG (by omega) (fun _ _ z => z) ?_ h4
  intro h' t tk kp
  exact ⟨.str d.shown, H, J.kept kp, ⟨_, rfl⟩, q⟩
end

/-! ### the law's own call -/
/-- from a heap H that tracks nothing but the script (and that one only if the written part has no object there) -/
theorem enterG {P : Program} {w : World} {K : PySem.W.Frag} {mg mb : Str → Option Value} {CX : CXT} {k : Nat} {fa a : Addr} {fd : FuncData} {x : Str} {sp : Sp} {s : Shared} {vs : List Value} {H : Hp}
    (inK : K.In s.heap) (gl : s.heap.Ns mainGlobals mg) (bl : s.heap.Ns builtinsNs mb) (blt : ∀ x : Str, x ≠ "__name__" → mb x = bootBuiltins x) (nl : s.heap.NoLimit) (ng : s.gens = #[])
    (script : s.heap.get? a = some { cls := .type "list", data := .seq vs.toArray }) (room : Room k callerA) (F : ∀ base : Heap, K.In base → base.Ns mainGlobals mg → FnG P w K mg base CX k fa fd [x] sp)
    (bind : ∀ (s : Shared) (u : Value), BindsTo s fd ⟨[u], []⟩ [(x, u)]) (noX : ∀ e s', CX [] H s (fun _ _ _ => False) e s' → False) (only : Only H) (hok : HOk P w H s.heap) (alone : ∀ b, H b ≠ none → b = a) (apart : H a ≠ none → K.lookup a = none)
    (says : sp [.ref a] H (fun v _ => v = .bl true) fun _ _ _ => False) :
    codeAny (model P w) callerA (.call (.ref fa) ⟨[.ref a], []⟩) (fun r s' => r = .ok (.ret (.bool true)) ∧ OldK s.heap s'.heap ∧ s'.os = s.os ∧ AllBare s'.gens) s := by
  -- dicts are not tracked
  have dictFree : ∀ {b : Addr} {o : Obj} {es : Array DictEntry} {n : Nat}, s.heap.get? b = some o → o.data = .dict es n → H b = none := by
    intro b o es n ho hd
    apply Classical.byContradiction
    intro tracked
    obtain rfl := alone b tracked
    rw [script] at ho
    obtain rfl := Option.some.inj ho
    exact Data.noConfusion hd
  have nsB : ∀ {b : Addr} {m : Str → Option Value}, s.heap.Ns b m → (hidT s.heap H).Ns b m := by
    rintro b m ⟨o, es, n, ho, hd, more⟩
    exact ⟨o, es, n, hidT_get ho (dictFree ho hd), hd, more⟩
  have kB : K.In (hidT s.heap H) := by
    intro b o q
    refine hidT_get (inK b o q) (Classical.byContradiction fun tracked => ?_)
    obtain rfl := alone b tracked
    rw [apart tracked] at q
    cases q
  have m : Mod K mg (hidT s.heap H) := ⟨kB, nsB gl, ⟨mb, nsB bl, blt⟩, let ⟨mc, z1, z2⟩ := nl; ⟨mc, nsB z1, z2⟩⟩
  have e0 : Env0 P w K mg (hidT s.heap H) callerA [] s H := by
    refine ⟨rfl, m, fun b o z => of_hidT z, Nat.le_of_eq (hidT_size _ _), trivial, ?_, hok, .of_eq ng⟩
    intro b z
    exact absurd z List.not_mem_nil
  refine codeAny_mono ((F _ kB (nsB gl)).go callerA [] s H ⟨[.ref a], []⟩ [.ref a] [.ref a] _ _ rfl room e0 (bind s (.ref a)) (.cons rfl .nil) says) ?_
  intro res s' out
  cases res with
  | error e => exact (noX e s' out).elim
  | ok fl =>
    cases fl with
    | next => exact out.elim
    | brk => exact out.elim
    | cont => exact out.elim
    | ret u =>
      obtain ⟨v, H', os, bare, un, hok', r, q⟩ := out
      obtain rfl : v = .bl true := q
      obtain rfl : u = Value.bool true := r
      refine ⟨rfl, OldK.of_keep ?_, os, bare⟩
      intro b o ho
      cases tr : H b with
      | none => exact un.keep b o ho tr (List.not_mem_nil) (List.not_mem_nil)
      | some u =>
        rcases only b with z | ⟨ob, xs, z⟩
        · rw [tr] at z
          cases z
        · obtain ⟨e1, _⟩ := hok b _ z
          obtain ⟨e2, _⟩ := hok' b _ (un.frzs b ob _ z)
          rw [ho] at e1
          obtain rfl := Option.some.inj e1
          exact e2
theorem law_callG {P : Program} {w : World} {K : PySem.W.Frag} {mg mb : Str → Option Value} {CX : CXT} {k : Nat} {fa a : Addr} {fd : FuncData} {x : Str} {sp : Sp} {s : Shared} {vs : List Value} {ns : List Int}
    (inK : K.In s.heap) (gl : s.heap.Ns mainGlobals mg) (bl : s.heap.Ns builtinsNs mb) (blt : ∀ x : Str, x ≠ "__name__" → mb x = bootBuiltins x) (nl : s.heap.NoLimit) (ng : s.gens = #[])
    (script : s.heap.get? a = some { cls := .type "list", data := .seq vs.toArray }) (areInts : IntsAre vs ns) (few : ns.length ≤ sizeLine) (room : Room k callerA)
    (F : ∀ base : Heap, K.In base → base.Ns mainGlobals mg → FnG P w K mg base CX k fa fd [x] sp) (bind : ∀ (s : Shared) (u : Value), BindsTo s fd ⟨[u], []⟩ [(x, u)])
    (says : ∀ H : Hp, Only H → SqL K H a (ns.map V.int) → sp [.ref a] H (fun v _ => v = .bl true) fun _ _ _ => False) (noX : ∀ H e s', CX [] H s (fun _ _ _ => False) e s' → False) :
    codeAny (model P w) callerA (.call (.ref fa) ⟨[.ref a], []⟩) (fun r s' => r = .ok (.ret (.bool true)) ∧ OldK s.heap s'.heap ∧ s'.os = s.os ∧ AllBare s'.gens) s := by
  have vl := vals_ints areInts
  cases known : K.lookup a with
  | some o =>
    have same := inK a o known
    rw [script] at same
    obtain rfl := Option.some.inj same
    have sq : SqL K (fun _ => none) a (ns.map V.int) := .inr ⟨_, vs.toArray, _, known, rfl, rfl, rfl, by rw [List.size_toArray, areInts.length]; exact few, by simpa using vl⟩
    exact enterG inK gl bl blt nl ng script room F bind (noX _) (fun _ => .inl rfl) (fun b u z => nomatch z) (fun b z => absurd rfl z) (fun z => absurd rfl z) (says _ (fun _ => .inl rfl) sq)
  | none =>
    let O : HO := .frz { cls := .type "list", data := .seq vs.toArray } (.lst (ns.map V.int))
    let H : Hp := fun b => if b = a then some O else none
    have at_ : H a = some O := if_pos rfl
    have off : ∀ b, b ≠ a → H b = none := fun b z => if_neg z
    have only : Only H := by
      intro b
      by_cases z : b = a
      · exact .inr ⟨_, _, if_pos z⟩
      · exact .inl (off b z)
    refine enterG (H := H) inK gl bl blt nl ng script room F bind (noX _) only ?_ (fun b z => Classical.byContradiction fun q => z (off b q)) (fun _ => known) (says _ only (.inl (.inr ⟨_, at_⟩)))
    intro b u z
    by_cases q : b = a
    · subst q
      rw [at_] at z
      obtain rfl := Option.some.inj z
      exact ⟨script, by rw [List.length_map]; exact few, vs, _, vl, script⟩
    · rw [off b q] at z
      cases z
/-- the end of the row -/
theorem walkG {l : PySem.W.OpenLaw} {n k : Nat} {q : Program} {loose : List Str} {XP : (Str → Option Value) → Heap → Prop} {YP : World → Heap → Prop} {d : DefRec} {CX : CXT} {x : Str} (hn : l.most = some n) (hn2 : n ≤ sizeLine) (hdf : d.params.defaults = []) (hr : Room k callerA)
    (F : ∀ (w : World) (mg : Str → Option Value) (fa : Addr) (h : Heap), YP w h → h.Ns mainGlobals mg → mg d.name = some (.ref fa) →
      ∃ (K : PySem.W.Frag) (fd : FuncData) (sp : Sp), K.In h ∧ (∀ (s : Shared) (u : Value), BindsTo s fd ⟨[u], []⟩ [(x, u)]) ∧
        (∀ (H : Hp) (a : Addr) (ns : List Int), ns.length ≤ n → Only H → SqL K H a (ns.map V.int) → sp [.ref a] H (fun v _ => v = .bl true) fun _ _ _ => False) ∧
        ∀ base : Heap, K.In base → base.Ns mainGlobals mg → FnG l.prog w K mg base CX k fa fd [x] sp)
    (noX : ∀ (H : Hp) (s : Shared) (e : Value) (s' : Shared), CX [] H s (fun _ _ _ => False) e s' → False) : PySem.W.WalkO q loose XP YP l.row.toRowW d [] (fun f vs => PySem.call f vs) := by
  apply Att.attach_call hn hdf
  intro w s₀ s mg mb fa o pm cd doc a vs ns G Y ho hd hcd hmg script areInts few ng
  obtain ⟨K, fd, sp, inK, bind, says, FF⟩ := F w mg fa _ Y G.T.g hmg
  exact law_callG inK G.T.g G.T.b G.T.builtins G.T.nolimit ng script areInts (Nat.le_trans few hn2) hr FF bind (fun H => says H a ns few) fun H e s' => noX H s e s'
end WK
end Text_WG
section Text_WX
set_option Elab.async false
set_option linter.all false
set_option maxRecDepth 100000
set_option maxHeartbeats 4000000
/-! WX: exception classes of one's own right over a built-in one (any), whose __init__ calls the built-in's and stores a field; a try with several clauses `except C as n`. -/
namespace WK
open PySem PySem.Spec L2
open PyProof.Rows hiding St
open Builtin Builtin.ObjectAttr

/-- what is known of a built-in exception class B -/
structure BaseX (B newId initId : String) (bm : List Value) : Prop where
  facts : ExcBaseFacts B newId initId bm
  pass : ∀ self : Value, refuseLoop self "__setattr__" bm = pure ()
  obj : bm.contains (.type "object") = true
  ty : typeOf (.type B) = pure (.type "type")
  stub : Manifest.isStub B = false
  handed : PySem.W.handedIn (.builtin initId) = true
  boot : bootBuiltins (Str.ofString B) = some (.type B)

theorem base_index : BaseX "IndexError" "IndexError.__new__" "IndexError.__init__" [.type "IndexError", .type "LookupError", .type "Exception", .type "BaseException", .type "object"] :=
  ⟨F.excBase_IndexError, fun self => by kernel_rfl, by decide +kernel, by kernel_rfl, by decide +kernel, by decide +kernel, by decide +kernel⟩
theorem base_runtime : BaseX "RuntimeError" "RuntimeError.__new__" "RuntimeError.__init__" [.type "RuntimeError", .type "Exception", .type "BaseException", .type "object"] :=
  ⟨F.excBase_RuntimeError, fun self => by kernel_rfl, by decide +kernel, by kernel_rfl, by decide +kernel, by decide +kernel, by decide +kernel⟩

/-- the class at C as the written part has it -/
structure OwnX (K : PySem.W.Frag) (C : Addr) (newId : String) (bm : List Value) : Prop where
  cls : ∃ nm q N bs sn sub ab col dd k0 k1 k2 k3 k5, K.lookup C = some (excClassObj nm q C N bs bm true sn sub ab col dd k0 k1 k2 k3 k5 newId)
  sa : PySem.W.findIn K (.ref C) "__setattr__" = some (some (.builtin "object.__setattr__"))
  exC : PySem.W.subIn K (.ref C) (.type "BaseException") = some true
  tyC : PySem.W.typeIn K (.ref C) = some (.type "type")
  kC : PySem.W.keepIn K (.ref C) = true

section
variable {prog : Program} {w : World} {A : Around} {E : Value → Shared → Prop} {R : Result → Shared → Prop} {hp : Heap} {g : Array GenState} {d : Drawn} {t : Nat} {os : OsState} {B newId initId : String} {bm : List Value}
/-- the first attribute of such an exception -/
theorem first_attr (S : BaseX B newId initId bm) {K : W.Frag} {name : Str} {tk : Tok} {v : Value} {x C : Addr} {fv : Array Value} {cd : ClassData} (inK : K.In hp) (hx : hp.get? x = some { cls := .ref C, data := .fields fv }) (hcd : W.clsIn K C = some cd)
    (hm : cd.mro = .ref C :: bm) (hh : cd.hasDict = true) (ha : W.findIn K (.ref C) name = some none)
    (hq : ∀ h' tk' dx, (∀ b o, b ≠ x → hp.get? b = some o → h'.get? b = some o) → hp.objs.size ≤ dx → dx ≠ x → h'.get? x = some { cls := .ref C, dict := some dx, data := .fields fv } →
      h'.Ns1 dx (fun y => if y = name then some v else none) → R (.ok (.ret .none)) ⟨h', g, d, tk', os⟩) :
    codeAny (model prog w) A (.call (.builtin "object.__setattr__") ⟨[.ref x, .str name tk, v], []⟩) R ⟨hp, g, d, t, os⟩ := by
  have at_ : W.InstAt hp x { cls := .ref C, data := .fields fv } C none := ⟨hx, rfl, rfl, trivial⟩
  have apart : x ≠ hp.objs.size := Nat.ne_of_lt (Heap.lt_size hx)
  have filled : cd.mro.isEmpty = false := by rw [hm] <;> rfl
  have hasO : cd.mro.contains (.type "object") = true := by rw [hm, List.contains_cons, S.obj, Bool.or_true]
  have mroL : W.mroIn K C (.type "object") = some true := by
    unfold W.mroIn
    rw [hcd, Option.bind_some, if_neg (by rw [filled]; exact Bool.false_ne_true), hasO]
  have isO : W.Looks (model prog w) hp (isInstance (.ref x) (.type "object")) true := at_.type.andThen (W.looks_mroIn inK mroL)
  have SO := F.store_object
  have looked : W.Looks (model prog w) hp (classData C) cd := W.looks_clsIn inK hcd
  have mroIs : W.Looks (model prog w) hp (mroOf (.ref C)) cd.mro := looked.andThen .now
  have taker : W.Looks (model prog w) hp (storeTaker? none) none := .now
  refine codeAny_call_builtin SO.slot.plain SO.entry (@W.check_slot (model prog w) _ _ ⟨hp, g, d, t, os⟩ "object.__setattr__" "object" "__setattr__" (.ref x) [.str name tk, v] [] _ SO.kind SO.split isO (SO.args (.ref x) (.str name tk) v) ?_)
  rw [W.osa_eq, refuse_eq]
  refine wpAny_bind (wpAny_bind (at_.type.at (wpAny_bind (mroIs.at ?_))))
  rw [hm, refuseLoop_ref, S.pass]
  refine wpAny_pure (wpAny_bind (at_.type.at (wpAny_bind ((W.looks_findIn inK ha).at (wpAny_bind (taker.at ?_))))))
  show wpAny _ _ (storeInOwnDict (.ref x) (.ref C) (.str name tk) name v false) _ _ _
  obtain ⟨nm, bs, mro, ns, qn, hd, sn, sb, ab, col, del⟩ := cd
  dsimp only at hh
  subst hh
  unfold storeInOwnDict ownDictForStores
  repeat (first | with_reducible refine HandSPX.store_in_new ?_ ?_ | with_reducible refine wpAny_loadPart_at hx ?_ | with_reducible refine looked.at ?_ | wp_step)
  · refine ⟨_, #[], _, (Heap.get?_update_ne _ _ _ _ apart.symm).trans (Heap.get?_push_at rfl rfl), rfl, ?_, fun _ => rfl⟩
    intro e he
    exact absurd he (by simp)
  · intro h' tk' newNs sb2
    have still : (hp.push { cls := .type "dict", data := .dict #[] }).get? x = some { cls := .ref C, data := .fields fv } := Heap.get?_push_of_some _ hx
    refine hq h' tk' hp.objs.size ?_ (Nat.le_refl _) apart.symm ((sb2.2 x apart).trans (Heap.get?_update_self _ still rfl)) newNs
    intro b o hb ho
    exact (sb2.2 b (Nat.ne_of_lt (Heap.lt_size ho))).trans ((Heap.get?_update_ne _ _ _ _ hb).trans (Heap.get?_push_of_some _ ho))
end

section
variable {X : Cx} {pins : List (Addr × Obj)} {σ : L2.St} {H : Hp} {s : Shared} {a C : Addr} {f : Str} {y : V} {u : Value} {E : Value → Shared → Prop} {A : Around} {B newId initId : String} {bm : List Value}
theorem setX {Q : Unit → Shared → Prop} (S : BaseX B newId initId bm) (T : OwnX X.K C newId bm) (J : Inv X pins σ H s) (e : H a = some (exo a C none)) (hno : PySem.W.findIn X.K (.ref C) f = some none) (ry : RelV y u)
    (h : ∀ dx s', H dx = none → dx ≠ a → Inv X pins σ (upd (upd H dx (exd dx [(f, y)])) a (exo a C (some dx))) s' → Q () s') : wpAny (model X.prog X.w) A (setAttr (.ref a) f u) Q E s := by
  obtain ⟨nm, q, N, bs, sn, sub, ab, col, dd, k0, k1, k2, k3, k5, hC⟩ := T.cls
  have hcl : PySem.W.clsIn X.K C = some { name := nm, bases := bs, mro := .ref C :: bm, ns := N, qualname := q, hasDict := true, slotNames := sn, subclasses := sub, abstract := ab, collection := col, hasDel := false } := by
    unfold PySem.W.clsIn
    rw [hC] <;> rfl
  obtain ⟨t1, here⟩ := exo_at J.hok e
  obtain ⟨hp, g, d, t, os⟩ := s
  refine PySem.W.set_plain J.kIn (ox := { cls := .ref C, dict := none, data := .fields #[.ref t1, .none, .none, .none, .bool false, .none] }) (od := none) ⟨here, rfl, rfl, trivial⟩ T.sa ?_
  refine first_attr S J.kIn here hcl rfl rfl hno ?_
  intro h' tk' dx kp big ne now nsD
  have freeD : H dx = none := J.hok.fresh big
  have younger : ∀ {b : Addr} {o : Obj}, hp.get? b = some o → b ≠ dx := fun z => Nat.ne_of_lt (Nat.lt_of_lt_of_le (Heap.lt_size z) big)
  have notA : ∀ {b : Addr}, H b = none → b ≠ a := by
    rintro b n rfl
    rw [n] at e
    cases e
  have U : Un X.fs [] H (upd (upd H dx (exd dx [(f, y)])) a (exo a C (some dx))) hp h' := by
    constructor
    · exact fun b o q n _ _ => kp b o (notA n) q
    · exact fun b o q n _ _ => ⟨o.slots, kp b o (notA n) q⟩
    · intro b o q n _
      rw [upd_ne (notA n), upd_ne (younger q)]
      exact n
    · intro b o q _
      by_cases hb : b = a
      · exact ⟨_, by rw [hb]; exact now⟩
      · exact ⟨o, kp b o hb q⟩
    · intro b xs q
      rw [upd_ne (at_ne e q exo_tup), upd_ne (ne_of_none q freeD)]
      exact q
    · intro b o v q
      rw [upd_ne (at_ne e q exo_frz), upd_ne (ne_of_none q freeD)]
      exact q
    · intro b ps q
      refine ⟨#[], ?_⟩
      rw [upd_ne (at_ne e q exo_tbl), upd_ne (ne_of_none q freeD), q]
      simp
  refine h dx _ freeD ne (J.un (t' := tk') U ?_)
  intro b o q
  by_cases hb : b = a
  · subst hb
    rw [upd_same] at q
    cases q
    exact exo_ok now
  rw [upd_ne hb] at q
  by_cases hd : b = dx
  · subst hd
    rw [upd_same] at q
    cases q
    exact exd_ok nsD (relO_put (fs := []) ry fun g => True.intro)
  rw [upd_ne hd] at q
  refine (J.hok b o q).stay (fun c v hc z => kp c v ?_ z) (fun c hc => ?_) (fun c xs hc => ?_)
  · rcases hc with hc | hc
    · rw [hc]
      exact hb
    · exact at_ne e hc exo_own
  · rw [upd_ne (at_ne e hc exo_own), upd_ne (ne_of_none hc freeD)]
    exact hc
  · rw [upd_ne (at_ne e hc exo_tup), upd_ne (ne_of_none hc freeD)]
    exact hc
/-- B.__init__(self, ..) -/
theorem initX {us : List Value} {Q : Value → Shared → Prop} (S : BaseX B newId initId bm) (T : OwnX X.K C newId bm) (J : Inv X pins σ H s) (e : H a = some (exo a C none)) (hl : us.length ≤ sizeLine) (h : ∀ s', Inv X pins σ H s' → Q .none s') :
    wpAny (model X.prog X.w) A (call (.builtin initId) (.ref a :: us)) Q E s := by
  obtain ⟨nm, q, N, bs, sn, sub, ab, col, dd, k0, k1, k2, k3, k5, hC⟩ := T.cls
  obtain ⟨t1, here⟩ := exo_at J.hok e
  obtain ⟨hp, g, d, t, os⟩ := s
  refine wpAny_call (PySem.HandSPX.init_base S.facts (fun _ => rfl) (J.kIn _ _ hC) here hl ?_)
  intro h' t2 kp now
  have J2 := J.write (t' := t) (x := a) (e := a) (o := exo a C none) (by rw [e]; exact True.intro) (.inl rfl) kp ⟨_, now⟩ (exo_ok now)
  have same : upd H a (exo a C none) = H := by
    funext b
    unfold upd
    split
    · rename_i z
      rw [z, e]
    · rfl
  rw [same] at J2
  exact h _ J2
end

/-! ### readings and rules -/
def tInitX (K : PySem.W.Frag) (newId : String) (bm : List Value) (ta : TA) : TE := fun σ H Q => ta σ H fun vs H1 => ∃ (a C : Addr) (ws : List V), vs = .ref a :: ws ∧ ws.length ≤ 1000 ∧ OwnX K C newId bm ∧ H1 a = some (exo a C none) ∧ Q .non H1
def tSetX (K : PySem.W.Frag) (newId : String) (bm : List Value) (f : Str) (to te : TE) : TS := fun D σ H => te σ H fun y H1 => to σ H1 fun x H2 => ∃ a C : Addr, x = .ref a ∧ OwnX K C newId bm ∧ PySem.W.findIn K (.ref C) f = some none ∧
  H2 a = some (exo a C none) ∧ ∀ dx, H2 dx = none → dx ≠ a → D.nx σ (upd (upd H2 dx (exd dx [(f, y)])) a (exo a C (some dx)))
section
variable {X : Cx} {o e : Expr} {es : List Expr} {to te : TE} {ta : TA} {f : Str} {p p' p1 p2 pos : Pos} {B newId initId : String} {bm : List Value}
theorem pe_initX {b : Str} {pl : Sem Bool} (S : BaseX B newId initId bm) (hb : bootBuiltins b = some (.type B)) (hg : Gl X b) (hm : X.mg b = none) (vV : PySem.W.findCls X.K (.type B) (.type "type") "__init__" = some (.val (.builtin initId))) (ha : PA X (e :: es) ta)
    (hn : b ≠ "__name__" := by decide) (hdb : (b == ("__debug__" : Str)) = false := by decide)
    (hc : eval (.Call (.Attribute (.Name b p1) "__init__" p2) (e :: es) [] pos) X.env = (do
      let ov ← eval (.Name b p1) X.env
      standAt p2.atName
      let (f, first) ← holding [ov] (getMethod ov "__init__" pl)
      callWith pos f first (backTo pos (starEach (e :: es) X.env)) (backToKw pos (keywordEach [] X.env))) := by rfl)
    (he : starEach (e :: es) X.env = (false, eval e X.env) :: starEach es X.env := by rfl) (hpl : (backTo pos (starEach es X.env)).any (·.1) = false := by rfl) :
    PE X (.Call (.Attribute (.Name b p1) "__init__" p2) (e :: es) [] pos) (tInitX X.K newId bm ta) := by
  constructor
  intro pins s σ H Q J h
  refine PySem.W.methodCall_KW (ld_blt J hg hm hb ?_ hn hdb) hc
  obtain ⟨m, fr⟩ := J.fr
  refine PySem.W.method_type fr J.ok.mod.kin S.ty S.stub vV S.handed ?_
  show wpAny _ _ (callWith pos (Value.builtin initId) [] (backTo pos (starEach (e :: es) X.env)) []) _ _ _
  refine PyProof.Rows.callWith_method1 (thn (ha.run pos pins _ σ H _ (J.tok _) h) ?_) he hpl
  rintro us s1 ⟨vs, H1, J1, r1, a, C, ws, rfl, hl, T, ea, q⟩
  cases r1 with
  | @cons _ u0 _ ur ra rw' =>
    obtain rfl : u0 = Value.ref a := ra
    have few : ur.length ≤ sizeLine := by
      rw [← Paired.length rw', sizeLine_eq]
      omega
    exact initX S T J1 ea few fun s' J2 => ⟨.non, H1, J2, rfl, q⟩
theorem ps_setX (S : BaseX B newId initId bm) (ho : PE X o to) (he : PE X e te) (hs : swapsWith e (some (.Attribute o f p')) pos.line X.env = pure false := by rfl) : PS X (.Assign [.Attribute o f p'] e pos) (tSetX X.K newId bm f to te) := by
  constructor
  intro pins s σ H D J h
  refine plainObj_wpAny_Assign_Attribute (thn (he.run pins s σ H _ J h) ?_) hs
  rintro v s1 ⟨y, H1, J1, r1, q1⟩
  refine thn (ho.run pins s1 σ H1 _ J1 q1) ?_
  rintro u s2 ⟨x, H2, J2, r2, a, C, rfl, T, hno, ea, q⟩
  obtain rfl : u = Value.ref a := r2
  exact setX S T J2 ea hno r1 fun dx s' n ne J3 => ⟨σ, _, J3, q dx n ne⟩
/-- C(e, ..), C's own __init__ keeping sp -/
theorem pmk_X {CX : CXT} {x : Str} {C fI : Addr} {k : Nat} {fd : FuncData} {ps : List Str} {sp : Sp} (S : BaseX B newId initId bm) (T : OwnX X.K C newId bm) (iC : PySem.W.findIn X.K (.ref C) "__init__" = some (some (.ref fI))) (tI : PySem.W.typeIn X.K (.ref fI) = some (.type "function"))
    (F1 : FnOk X.prog X.w X.K X.mg X.base CX k fI fd ps sp) (hr : Room (k + 1) X.A) (hb : Binds X.K fd ps []) (hx : Passes CX X (fun _ _ _ => False)) (hg : Gl X x) (hm : X.mg x = some (.ref C)) (ha : PA X (e :: es) ta)
    (hdb : (x == ("__debug__" : Str)) = false := by decide) (he : starEach (e :: es) X.env = (false, eval e X.env) :: starEach es X.env := by rfl) (hpl : (backTo pos (starEach es X.env)).any (·.1) = false := by rfl) :
    PMk X (.Call (.Name x p) (e :: es) [] pos) (tMkO C sp [] ta) := by
  intro pins s σ H Q J h
  obtain ⟨nm, q, N, bs, sn, sub, ab, col, dd, k0, k1, k2, k3, k5, hC⟩ := T.cls
  refine wpAny_Call_Name_kw (ld_glob J hg hm ?_ hdb)
  refine PySem.W.callWith_K (h₀ := X.base) J.ok.mod.kin T.kC (thn (ha.run pos pins s σ H _ J h) ?_) he hpl
  rintro us s1 ⟨vs, H1, J1, r1, hz, q1⟩
  refine ⟨J1.kIn, ?_⟩
  show wpAny _ _ (call (.ref C) us) _ _ _
  obtain ⟨hp, g, dr, tk, os⟩ := s1
  have up : hp.objs.size ≤ hp.objs.size + 1 := Nat.le_succ _
  have q2 := q1 (hp.objs.size + 1) (J1.hok.fresh up)
  rw [List.append_nil] at q2
  let hp2 : Heap := (hp.push (PySem.W.kdv_tup us)).push (PySem.HandSPX.excO C hp.objs.size)
  have kk : ∀ b o, hp.get? b = some o → hp2.get? b = some o := fun b o z => Heap.get?_push_of_some _ (Heap.get?_push_of_some _ z)
  have got : hp2.get? (hp.objs.size + 1) = some (PySem.HandSPX.excO C hp.objs.size) := by
    show ((hp.push (PySem.W.kdv_tup us)).push (PySem.HandSPX.excO C hp.objs.size)).get? (hp.objs.size + 1) = some (PySem.HandSPX.excO C hp.objs.size)
    heap_get
  have J2 : Inv X pins σ (upd H1 (hp.objs.size + 1) (exo (hp.objs.size + 1) C none)) ⟨hp2, g, dr, tk, os⟩ := J1.laid (t' := tk) (a := hp.objs.size + 1) (o := exo (hp.objs.size + 1) C none) (h' := hp2) kk up (exo_ok got)
  have r2 : Vals (V.ref (hp.objs.size + 1) :: vs) (Value.ref (hp.objs.size + 1) :: us) := .cons rfl r1
  have sz : (Value.ref (hp.objs.size + 1) :: us).length = ps.length := by
    rw [← r2.length]
    exact F1.len _ _ _ _ q2
  have bd := hb ⟨hp2, g, dr, tk, os⟩ (Value.ref (hp.objs.size + 1) :: us) J2.kIn (by rw [List.append_nil]; exact sz)
  rw [List.append_nil] at bd
  have few : us.length ≤ sizeLine := by
    rw [← Paired.length r1, sizeLine_eq]
    omega
  refine wpAny_call (PySem.HandSPX.call_own S.facts (fun _ => rfl) (J1.kIn _ _ hC) (PySem.W.looks_findIn J1.kIn iC) (fun self => PySem.W.bind_fn J1.kIn self tI) few (codeAny_mono
    (F1.run _ X.stack _ _ ⟨Value.ref (hp.objs.size + 1) :: us, []⟩ (Value.ref (hp.objs.size + 1) :: us) _ _ (fun _ _ _ => False) (hr.make C us []) (J2.env0.make C us []) bd r2 q2) ?_))
  intro res s' out
  cases res with
  | error er => exact hx pins σ _ _ er s' J2 out
  | ok fl =>
    cases fl with
    | ret u =>
      obtain ⟨v, H2, os2, bare2, un2, hok2, rv, rfl, d, fs, ea, ed, hd1, q3⟩ := out
      obtain ⟨h2, g2, d2, t2, os'⟩ := s'
      exact ⟨rv, mk_end (raises_own T.exC T.tyC) J1 up kk un2 hok2 os2 bare2 ea ed hd1 q3⟩
    | next => exact out.elim
    | brk => exact out.elim
    | cont => exact out.elim
end

/-! ### try: body, several clauses `except C as n` (one name n, slot i), every exception of the body caught by one of them -/
abbrev Clause := Value × (Addr → Value → Option Addr → TS)
def wClauses (K : PySem.W.Frag) (i : Nat) (D : Ends) : List Clause → WX
  | [] => fun _ _ _ _ => False
  | (c, ts) :: r => fun cls d σ H => ∃ b, PySem.W.exmOne K cls c = some b ∧
      (b = true → ∀ a, H a = none → ts a cls d { nx := fun σ' H' => D.nx (σ'.set i none) H', rt := D.rt, bk := fun σ' H' => D.bk (σ'.set i none) H', ct := fun σ' H' => D.ct (σ'.set i none) H' } (σ.set i (some (.ref a))) H) ∧
      (b = false → wClauses K i D r cls d σ H)
inductive ClausesOk (X : Cx) (n : Str) : List ExceptHandler → List Clause → Prop
  | nil : ClausesOk X n [] []
  | cons {x : Str} {c : Value} {ts : Addr → Value → Option Addr → TS} {b₀ : Stmt} {suite : List Stmt} {np hp : Pos} {hds : List ExceptHandler} {l : List Clause} (nm : Names X x c)
      (su : ∀ (a : Addr) (oe : Obj) (cls : Value) (d : Option Addr) (pn : List (Addr × Obj)), Zc cls d oe → (∃ vs, oe.data = .fields vs) → PSs (X.suite a ((a, oe) :: pn)) (b₀ :: suite) (ts a cls d)) (r : ClausesOk X n hds l) :
      ClausesOk X n (.ExceptHandler (some (.Name x np)) (some n) (b₀ :: suite) hp :: hds) ((c, ts) :: l)
section
variable {X : Cx} {n : Str} {i : Nat} {body : List Stmt} {h₀ : ExceptHandler} {hds : List ExceptHandler} {l : List Clause} {pos : Pos} {tb : WX → TS}
theorem ps_tryAs (hs : X.stack = X.env :: X.outer) (hf : X.env.frame = some X.env.locals) (hN : X.N.Nodup) (hi : X.N[i]? = some n) (hln : X.env.kindOf n = some .local)
    (hb : ∀ (W : WX) (pn : List (Addr × Obj)) (xe : Value → Shared → Prop), Takes (X.tr pn xe) W → PassesOwn (model X.prog X.w) X.A X.env xe → PSs (X.tr pn xe) body (tb W))
    (hh : ClausesOk X n (h₀ :: hds) l) : PS X (.Try body (h₀ :: hds) [] [] pos) (fun D σ H => tb (wClauses X.K i D l) D σ H) := by
  constructor
  intro pins s σ H D J h
  have ok := J.ok
  have run := (hb (wClauses X.K i D l) (X.pn ++ pins) (fun e s1 => wpAny (model X.prog X.w) X.A (noteFrame e X.env) (fun _ s2 => wpAny (model X.prog X.w) X.A (setFlight e none) (fun _ s3 =>
    wpAny (model X.prog X.w) X.A (handleBy e X.env (h₀ :: hds)) (SP X pins D) X.xe s3) X.xe s2) X.xe s1) ?caught PassesOwn.looking).run [] s σ H D (J.toTry _) h
  · refine wpAny_Try_except (wpAny_mono run ?_ fun e s1 z => z)
    intro f s1 out
    cases f with
    | next =>
      obtain ⟨σ', H', J', q⟩ := out
      exact wpAny_execs_nil ⟨σ', H', J'.ofTry ok, q⟩
    | brk =>
      obtain ⟨σ', H', J', q⟩ := out
      exact ⟨σ', H', J'.ofTry ok, q⟩
    | cont =>
      obtain ⟨σ', H', J', q⟩ := out
      exact ⟨σ', H', J'.ofTry ok, q⟩
    | ret u =>
      obtain ⟨v, σ', H', J', r, q⟩ := out
      exact ⟨v, σ', H', J'.ofTry ok, r, q⟩
  rintro u s' ⟨a, B, sI, pins', σ', H', cls, d, rfl, J', ground, up, sky, na, os, ag, wish⟩
  have J0 : Inv X pins σ' H' sI := J'.ofTry ok
  have frames : X.A.frames = some (X.env :: X.outer) := by rw [ok.frames, hs]
  have sky2 : Sky B (X.env :: X.outer) a (Zc cls d) X.env.locals s'.heap := by
    rw [← hs]
    exact sky
  show wpAny (model X.prog X.w) X.A (noteFrame (.ref a) X.env) _ _ _
  refine Sky.land Zc.steady frames hf sky2 ?_
  intro h3 fl3 up3
  have J3 : Inv X pins σ' H' { s' with heap := h3 } := J0.landed ground fl3.1 (up.trans up3) os ag
  obtain ⟨oe3, vs3, he3, hz3, hd3⟩ := fl3.there
  have noFrame : a ∉ frs (X.env :: X.outer) := by
    intro z
    obtain ⟨_, o', e', hnf⟩ := fl3.2.2.1.mem z
    rw [he3] at e'
    cases e'
    exact hnf _ hd3
  have nL : a ≠ X.env.locals := fun z => noFrame (List.mem_filterMap.mpr ⟨X.env, List.mem_cons_self, by rw [hf, z]⟩)
  have nF : a ∉ X.fs := by
    intro z
    obtain ⟨e, he, q⟩ := List.mem_filterMap.mp z
    exact noFrame (List.mem_filterMap.mpr ⟨e, List.mem_cons_of_mem _ he, q⟩)
  have S3 := J3.suite he3 hd3 na nL nF
  have each : ∀ {hs' : List ExceptHandler} {l' : List Clause}, ClausesOk X n hs' l' → wClauses X.K i D l' cls d σ' H' → wpAny (model X.prog X.w) X.A (handleBy (.ref a) X.env hs') (SP X pins D) X.xe { s' with heap := h3 } := by
    intro hs' l' hk
    induction hk with
    | nil => exact fun z => z.elim
    | @cons x c ts b₀ suite np hp hds2 l2 nm su r ih =>
      rintro ⟨b, hb1, yes, no⟩
      refine wpAny_handleBy_cons (codeAny_handlers_test ?_) (fun q => by cases q)
      have LT : PySem.W.Looks (model X.prog X.w) h3 (typeOf (.ref a)) cls := fun A Q E s k q => wpAny_typeOf_ref (k _ _ he3) (by rw [hz3.1]; exact q)
      have LM := PySem.W.exm_one (M := model X.prog X.w) (J3.kIn) LT hb1
      have named : ∀ {Q : Value → Shared → Prop} {E : Value → Shared → Prop}, Q c { s' with heap := h3 } → wpAny (model X.prog X.w) (X.A.mark (some (.ref a))) (eval (.Name x np) X.env) Q E { s' with heap := h3 } := by
        intro Q E q
        obtain ⟨hg, hdbg, hm | ⟨hm, hv, hnn⟩⟩ := nm
        · exact ld_glob (X := X.suite a ((a, oe3) :: (X.pn ++ pins))) S3 hg hm q hdbg
        · exact ld_blt (X := X.suite a ((a, oe3) :: (X.pn ++ pins))) S3 hg hm hv q hnn hdbg
      refine named (LM.here ?_)
      cases b with
      | false => exact ih (no rfl)
      | true =>
        refine codeAny_handlers_suite_as (HandSPX.lands_againZ fl3 ?_)
        intro h4 fl4 up4
        have J4 : Inv X pins σ' H' { s' with heap := h4 } := J0.landed ground fl4.1 ((up.trans up3).trans up4) os ag
        obtain ⟨oe4, vs4, he4, hz4, hd4⟩ := fl4.there
        refine store_ok (X := X.suite a ((a, oe4) :: (X.pn ++ pins))) (v := .ref a) (J4.suite he4 hd4 na nL nF) hN hi (.inl hln) rfl ?_ (.inr hln)
        intro s5 S5
        refine wpAny_mono ((su a oe4 cls d (X.pn ++ pins) hz4 ⟨_, hd4⟩).run [] s5 _ H' _ S5 (yes rfl a na)) ?_ (fun _ _ z => z.elim)
        intro f s6 out
        cases f with
        | next =>
          obtain ⟨σ6, H6, S6, q6⟩ := out
          exact gone_ok (S6.unsuite ok) hN hi hln fun s7 J7 => ⟨_, _, J7, q6⟩
        | brk =>
          obtain ⟨σ6, H6, S6, q6⟩ := out
          exact gone_ok (S6.unsuite ok) hN hi hln fun s7 J7 => ⟨_, _, J7, q6⟩
        | cont =>
          obtain ⟨σ6, H6, S6, q6⟩ := out
          exact gone_ok (S6.unsuite ok) hN hi hln fun s7 J7 => ⟨_, _, J7, q6⟩
        | ret u =>
          obtain ⟨v6, σ6, H6, S6, r6, q6⟩ := out
          exact gone_ok (S6.unsuite ok) hN hi hln fun s7 J7 => ⟨_, _, _, J7, r6, q6⟩
  exact each hh wish
end
end WK
end Text_WX
section Text_WM1
set_option linter.all false
/-! WM1: paths as lists of codes: the other case, inverse, reduction, equality in the free group. -/
namespace WK

/-- the other case of a letter -/
def bk (c : Nat) : Nat := c ^^^ 32
/-- the eight steps -/
def stepB (c : Nat) : Bool := c == 97 || c == 65 || c == 98 || c == 66 || c == 99 || c == 67 || c == 100 || c == 68
def IsStep (c : Nat) : Prop := stepB c = true
theorem isStep_cases {c : Nat} (h : IsStep c) : c = 97 ∨ c = 65 ∨ c = 98 ∨ c = 66 ∨ c = 99 ∨ c = 67 ∨ c = 100 ∨ c = 68 := by
  unfold IsStep stepB at h
  simp only [Bool.or_eq_true, beq_iff_eq] at h
  omega
theorem bk_bk (c : Nat) : bk (bk c) = c := by
  unfold bk
  rw [Nat.xor_assoc, Nat.xor_self, Nat.xor_zero]
theorem bk_inj {a b : Nat} (h : bk a = bk b) : a = b := by
  rw [← bk_bk a, ← bk_bk b, h]
theorem bk_step {c : Nat} (h : IsStep c) : IsStep (bk c) := by
  rcases isStep_cases h with rfl | rfl | rfl | rfl | rfl | rfl | rfl | rfl <;> (show stepB _ = true) <;> decide
theorem bk_ne {c : Nat} (h : IsStep c) : bk c ≠ c := by
  rcases isStep_cases h with rfl | rfl | rfl | rfl | rfl | rfl | rfl | rfl <;> decide

/-- one step onto a stack (the top first) -/
def rstep : List Nat → Nat → List Nat
  | [], c => [c]
  | x :: r, c => if x = bk c then r else c :: x :: r
def rs (st w : List Nat) : List Nat := w.foldl rstep st
def red (w : List Nat) : List Nat := (rs [] w).reverse
def inv (w : List Nat) : List Nat := (w.map bk).reverse

/-- no two neighbours are inverse -/
def RedS : List Nat → Prop
  | x :: y :: r => x ≠ bk y ∧ RedS (y :: r)
  | _ => True
theorem RedS.tail {x : Nat} {r : List Nat} (h : RedS (x :: r)) : RedS r := by
  cases r with
  | nil => exact trivial
  | cons y r => exact h.2
theorem rstep_nil (c : Nat) : rstep [] c = [c] := rfl
theorem rstep_pos {x c : Nat} {r : List Nat} (e : x = bk c) : rstep (x :: r) c = r := if_pos e
theorem rstep_neg {x c : Nat} {r : List Nat} (e : ¬ x = bk c) : rstep (x :: r) c = c :: x :: r := if_neg e
theorem rstep_red {st : List Nat} (c : Nat) (h : RedS st) : RedS (rstep st c) := by
  cases st with
  | nil => exact trivial
  | cons x r =>
    by_cases e : x = bk c
    · rw [rstep_pos e]
      exact h.tail
    · rw [rstep_neg e]
      exact ⟨fun q => e (by rw [q, bk_bk]), h⟩
theorem rstep_cancel {st : List Nat} (c : Nat) (h : RedS st) : rstep (rstep st c) (bk c) = st := by
  cases st with
  | nil =>
    rw [rstep_nil]
    exact rstep_pos (bk_bk c).symm
  | cons x r =>
    by_cases e : x = bk c
    · rw [rstep_pos e]
      cases r with
      | nil => rw [rstep_nil, e]
      | cons y r2 =>
        have ne : ¬ y = bk (bk c) := fun q => h.1 (by rw [e, q, bk_bk])
        rw [rstep_neg ne, e]
    · rw [rstep_neg e]
      exact rstep_pos (bk_bk c).symm
theorem rs_nil (st : List Nat) : rs st [] = st := rfl
theorem rs_cons (st : List Nat) (c : Nat) (w : List Nat) : rs st (c :: w) = rs (rstep st c) w := rfl
theorem rs_append (st u v : List Nat) : rs st (u ++ v) = rs (rs st u) v := List.foldl_append
theorem rs_red {st : List Nat} (w : List Nat) (h : RedS st) : RedS (rs st w) := by
  induction w generalizing st with
  | nil => exact h
  | cons c w ih => exact ih (rstep_red c h)
theorem inv_cons (c : Nat) (w : List Nat) : inv (c :: w) = inv w ++ [bk c] := by
  simp [inv]
theorem inv_append (u v : List Nat) : inv (u ++ v) = inv v ++ inv u := by
  simp [inv]
theorem inv_inv (w : List Nat) : inv (inv w) = w := by
  have e : bk ∘ bk = id := funext bk_bk
  simp [inv, e]
theorem inv_length (w : List Nat) : (inv w).length = w.length := by simp [inv]
theorem rs_inv {st : List Nat} (w : List Nat) (h : RedS st) : rs (rs st w) (inv w) = st := by
  induction w generalizing st with
  | nil => rfl
  | cons c w ih =>
    rw [inv_cons, rs_append, rs_cons st c w, ih (rstep_red c h)]
    exact rstep_cancel c h

/-- equal in the free group -/
def Eqv (u v : List Nat) : Prop := ∀ st, RedS st → rs st u = rs st v
theorem Eqv.refl (u : List Nat) : Eqv u u := fun _ _ => rfl
theorem Eqv.symm {u v : List Nat} (h : Eqv u v) : Eqv v u := fun st r => (h st r).symm
theorem Eqv.trans {u v w : List Nat} (h : Eqv u v) (h' : Eqv v w) : Eqv u w := fun st r => (h st r).trans (h' st r)
theorem Eqv.app {u u' v v' : List Nat} (h : Eqv u u') (h' : Eqv v v') : Eqv (u ++ v) (u' ++ v') := fun st r => by
  rw [rs_append, rs_append, h st r]
  exact h' _ (rs_red u' r)
theorem Eqv.of_eq {u v : List Nat} (h : u = v) : Eqv u v := h ▸ Eqv.refl u
theorem eqv_inv_right (u : List Nat) : Eqv (u ++ inv u) [] := fun st r => by
  rw [rs_append]
  exact rs_inv u r
theorem eqv_inv_left (u : List Nat) : Eqv (inv u ++ u) [] := by
  have h := eqv_inv_right (inv u)
  rw [inv_inv] at h
  exact h
theorem Eqv.inv {u v : List Nat} (h : Eqv u v) : Eqv (inv u) (WK.inv v) := fun st r => by
  have r1 := rs_red (WK.inv u) r
  have e : rs (rs st (WK.inv u)) u = st := by
    have z := rs_inv (WK.inv u) r
    rw [inv_inv] at z
    exact z
  rw [h _ r1] at e
  have z := rs_inv v r1
  rw [e] at z
  exact z.symm
theorem eqv_rstep (t : List Nat) (c : Nat) : Eqv (rstep t c).reverse (t.reverse ++ [c]) := by
  cases t with
  | nil => exact Eqv.refl _
  | cons x r =>
    by_cases e : x = bk c
    · rw [rstep_pos e]
      have z : (x :: r).reverse ++ [c] = r.reverse ++ [x, c] := by simp
      rw [z]
      have two : Eqv [x, c] [] := fun st q => by
        have y := rstep_cancel (st := st) (bk c) q
        rw [bk_bk] at y
        rw [e]
        exact y
      have y := (Eqv.refl r.reverse).app two
      rw [List.append_nil] at y
      exact y.symm
    · rw [rstep_neg e]
      exact Eqv.of_eq (by simp)
theorem eqv_rs (t w : List Nat) : Eqv (rs t w).reverse (t.reverse ++ w) := by
  induction w generalizing t with
  | nil => exact Eqv.of_eq (by simp [rs_nil])
  | cons c w ih =>
    rw [rs_cons]
    refine (ih (rstep t c)).trans (((eqv_rstep t c).app (Eqv.refl w)).trans (Eqv.of_eq (by simp)))
theorem eqv_red (w : List Nat) : Eqv (red w) w := eqv_rs [] w
theorem red_eq {u v : List Nat} (h : Eqv u v) : red u = red v := by
  unfold red
  rw [h [] trivial]
theorem eqv_of_red {u v : List Nat} (h : red u = red v) : Eqv u v := (eqv_red u).symm.trans ((Eqv.of_eq h).trans (eqv_red v))
theorem red_red (w : List Nat) : red (red w) = red w := red_eq (eqv_red w)
theorem red_append_left (u v : List Nat) : red (red u ++ v) = red (u ++ v) := red_eq ((eqv_red u).app (Eqv.refl v))
theorem red_append_right (u v : List Nat) : red (u ++ red v) = red (u ++ v) := red_eq ((Eqv.refl u).app (eqv_red v))
theorem rstep_length (st : List Nat) (c : Nat) : (rstep st c).length ≤ st.length + 1 := by
  cases st with
  | nil => exact Nat.le_refl _
  | cons x r =>
    by_cases e : x = bk c
    · rw [rstep_pos e]
      simp only [List.length_cons]
      omega
    · rw [rstep_neg e]
      simp only [List.length_cons]
      omega
theorem rs_length (st w : List Nat) : (rs st w).length ≤ st.length + w.length := by
  induction w generalizing st with
  | nil => exact Nat.le_refl _
  | cons c w ih =>
    have h := ih (rstep st c)
    have h2 := rstep_length st c
    rw [rs_cons, List.length_cons]
    omega
theorem red_length (w : List Nat) : (red w).length ≤ w.length := by
  have h := rs_length [] w
  unfold red
  rw [List.length_reverse]
  simpa using h
theorem rs_full (st w : List Nat) (h : (rs st w).length = st.length + w.length) : rs st w = w.reverse ++ st := by
  induction w generalizing st with
  | nil => rfl
  | cons c w ih =>
    rw [rs_cons] at h ⊢
    have h1 := rs_length (rstep st c) w
    have h2 := rstep_length st c
    rw [List.length_cons] at h
    have e : rstep st c = c :: st := by
      cases st with
      | nil => rfl
      | cons x r =>
        by_cases z : x = bk c
        · rw [rstep_pos z] at h1 h2 h
          simp only [List.length_cons] at h h1 h2
          omega
        · exact rstep_neg z
    rw [e] at h ⊢
    rw [ih (c :: st) (by rw [h, List.length_cons]; omega)]
    simp
theorem red_of_length {w : List Nat} (h : (red w).length = w.length) : red w = w := by
  unfold red at h ⊢
  rw [List.length_reverse] at h
  rw [rs_full [] w (by simpa using h)]
  simp
theorem red_inv {v : List Nat} (h : red v = v) : red (inv v) = inv v := by
  apply red_of_length
  have h1 := red_length (inv v)
  have e : red (inv (red (inv v))) = v := by
    have z : Eqv (inv (red (inv v))) v := (Eqv.inv (eqv_red (inv v))).trans (Eqv.of_eq (inv_inv v))
    rw [red_eq z, h]
  have h2 := red_length (inv (red (inv v)))
  rw [e, inv_length] at h2
  rw [inv_length] at h1 ⊢
  omega
theorem red_nil : red [] = [] := rfl
theorem red_prefix {u v : List Nat} (h : red (u ++ v) = u ++ v) : red u = u := by
  apply red_of_length
  have h1 := red_length u
  have h2 : (rs (rs [] u) v).length ≤ (rs [] u).length + v.length := rs_length _ _
  have h3 : (red (u ++ v)).length = (u ++ v).length := by rw [h]
  unfold red at h3
  rw [rs_append, List.length_reverse, List.length_append] at h3
  unfold red at h1 ⊢
  rw [List.length_reverse] at h1 ⊢
  omega
/-- the middle of three -/
theorem eqv_mid {x v y : List Nat} (h : Eqv x (v ++ y)) : Eqv v (x ++ inv y) := by
  have z := h.app (Eqv.refl (inv y))
  have q : Eqv (v ++ y ++ inv y) v := by
    rw [List.append_assoc]
    have p := (Eqv.refl v).app (eqv_inv_right y)
    rw [List.append_nil] at p
    exact p
  exact (z.trans q).symm
theorem eqv_last {x v y : List Nat} (h : Eqv x (v ++ y)) : Eqv y (inv v ++ x) := by
  have z := (Eqv.refl (inv v)).app h
  have q : Eqv (inv v ++ (v ++ y)) y := by
    rw [← List.append_assoc]
    exact (eqv_inv_left v).app (Eqv.refl y)
  exact (z.trans q).symm
theorem length_mid {x v y : List Nat} (r : red v = v) (h : Eqv x (v ++ y)) : v.length ≤ x.length + y.length := by
  have z := red_eq (eqv_mid h)
  rw [r] at z
  have q := red_length (x ++ inv y)
  rw [← z, List.length_append, inv_length] at q
  exact q

/-- words of steps -/
def Steps (w : List Nat) : Prop := ∀ c ∈ w, IsStep c
theorem Steps.nil : Steps [] := fun _ h => nomatch h
theorem Steps.app {u v : List Nat} (h : Steps u) (h' : Steps v) : Steps (u ++ v) := fun c hc => (List.mem_append.mp hc).elim (h c) (h' c)
theorem Steps.inv {u : List Nat} (h : Steps u) : Steps (WK.inv u) := fun c hc => by
  unfold WK.inv at hc
  rw [List.mem_reverse, List.mem_map] at hc
  obtain ⟨d, hd, rfl⟩ := hc
  exact bk_step (h d hd)
theorem mem_rstep {st : List Nat} {c x : Nat} (h : x ∈ rstep st c) : x = c ∨ x ∈ st := by
  cases st with
  | nil => exact .inl (List.mem_singleton.mp h)
  | cons y r =>
    by_cases z : y = bk c
    · rw [rstep_pos z] at h
      exact .inr (List.mem_cons_of_mem _ h)
    · rw [rstep_neg z] at h
      rcases List.mem_cons.mp h with e | e
      · exact .inl e
      · exact .inr e
theorem mem_rs {st w : List Nat} {x : Nat} (h : x ∈ rs st w) : x ∈ st ∨ x ∈ w := by
  induction w generalizing st with
  | nil => exact .inl h
  | cons c w ih =>
    rcases ih h with e | e
    · rcases mem_rstep e with rfl | e
      · exact .inr List.mem_cons_self
      · exact .inl e
    · exact .inr (List.mem_cons_of_mem _ e)
theorem Steps.red {w : List Nat} (h : Steps w) : Steps (WK.red w) := fun c hc => by
  unfold WK.red at hc
  rw [List.mem_reverse] at hc
  rcases mem_rs hc with e | e
  · cases e
  · exact h c e
theorem Steps.left {u v : List Nat} (h : Steps (u ++ v)) : Steps u := fun c hc => h c (List.mem_append_left _ hc)
theorem Steps.right {u v : List Nat} (h : Steps (u ++ v)) : Steps v := fun c hc => h c (List.mem_append_right _ hc)
theorem Steps.head {c : Nat} {v : List Nat} (h : Steps (c :: v)) : IsStep c := h c List.mem_cons_self
theorem Steps.tail {c : Nat} {v : List Nat} (h : Steps (c :: v)) : Steps v := fun d hd => h d (List.mem_cons_of_mem _ hd)

/-! ### graphs as partial maps -/
abbrev Graph := Nat → Nat → Option Nat
def run (δ : Graph) : Nat → List Nat → Option Nat
  | n, [] => some n
  | n, c :: w => (δ n c).bind fun m => run δ m w
def Sym (δ : Graph) : Prop := ∀ n c m, δ n c = some m → δ m (bk c) = some n
def Closed (δ : Graph) (w : List Nat) : Prop := run δ 0 w = some 0
theorem run_append (δ : Graph) (n : Nat) (u v : List Nat) : run δ n (u ++ v) = (run δ n u).bind fun m => run δ m v := by
  induction u generalizing n with
  | nil => rfl
  | cons c u ih =>
    show (δ n c).bind _ = ((δ n c).bind _).bind _
    cases δ n c with
    | none => rfl
    | some m => exact ih m
theorem run_inv {δ : Graph} (s : Sym δ) {n m : Nat} {w : List Nat} (h : run δ n w = some m) : run δ m (inv w) = some n := by
  induction w generalizing n with
  | nil =>
    have e : n = m := Option.some.inj h
    rw [e]
    rfl
  | cons c w ih =>
    have h' : (δ n c).bind (fun m => run δ m w) = some m := h
    obtain ⟨k, hk, hr⟩ := Option.bind_eq_some_iff.mp h'
    rw [inv_cons, run_append, ih hr]
    show (δ k (bk c)).bind _ = _
    rw [s n c k hk]
    rfl
theorem run_rs {δ : Graph} (s : Sym δ) {n : Nat} (w : List Nat) : ∀ {t : List Nat} {k m : Nat}, run δ n t.reverse = some k → run δ k w = some m → run δ n (rs t w).reverse = some m := by
  induction w with
  | nil =>
    intro t k m h1 h2
    rw [← (Option.some.inj h2 : k = m)]
    exact h1
  | cons c w ih =>
    intro t k m h1 h2
    have h2' : (δ k c).bind (fun j => run δ j w) = some m := h2
    obtain ⟨j, hj, hr⟩ := Option.bind_eq_some_iff.mp h2'
    rw [rs_cons]
    refine ih (k := j) ?_ hr
    cases t with
    | nil =>
      have e : n = k := Option.some.inj h1
      show (δ n c).bind _ = _
      rw [e, hj]
      rfl
    | cons x r =>
      by_cases e : x = bk c
      · rw [rstep_pos e]
        rw [List.reverse_cons, run_append] at h1
        obtain ⟨i, hi, hx⟩ := Option.bind_eq_some_iff.mp h1
        have hx' : (δ i x).bind (fun m => run δ m []) = some k := hx
        obtain ⟨k', hk', e'⟩ := Option.bind_eq_some_iff.mp hx'
        have ek : k' = k := Option.some.inj e'
        subst ek
        have z := s i x k' hk'
        rw [e, bk_bk, hj] at z
        rw [hi, ← Option.some.inj z]
      · rw [rstep_neg e, List.reverse_cons, run_append, h1]
        show (δ k c).bind _ = _
        rw [hj]
        rfl
theorem run_red {δ : Graph} (s : Sym δ) {n m : Nat} {w : List Nat} (h : run δ n w = some m) : run δ n (red w) = some m := run_rs s w (t := []) (k := n) rfl h
theorem Closed.red {δ : Graph} (s : Sym δ) {w : List Nat} (h : Closed δ w) : Closed δ (WK.red w) := run_red s h
theorem Closed.inv {δ : Graph} (s : Sym δ) {w : List Nat} (h : Closed δ w) : Closed δ (WK.inv w) := run_inv s h
theorem Closed.app {δ : Graph} {u v : List Nat} (h : Closed δ u) (h' : Closed δ v) : Closed δ (u ++ v) := by
  unfold Closed at *
  rw [run_append, h]
  exact h'
theorem Closed.nil {δ : Graph} : Closed δ [] := rfl
/-- closed in every graph in which the given paths are closed -/
def ClosedAll (paths : List (List Nat)) (w : List Nat) : Prop := ∀ δ : Graph, Sym δ → (∀ p ∈ paths, Closed δ p) → Closed δ w
end WK
end Text_WM1
section Text_WM2
set_option linter.all false
/-! WM2: lines of derivations, their values; the lines that one line needs. -/
namespace WK

inductive Line where
  | gen (i : Nat)
  | invl (j : Nat)
  | prod (j k : Nat)
  deriving DecidableEq
def lineVal (paths vals : List (List Nat)) : Line → List Nat
  | .gen i => red (paths.getD i [])
  | .invl j => inv (vals.getD j [])
  | .prod j k => red (vals.getD j [] ++ vals.getD k [])
def LineOk (m n : Nat) : Line → Prop
  | .gen i => i < m
  | .invl j => j < n
  | .prod j k => j < n ∧ k < n
def evalFrom (paths : List (List Nat)) : List (List Nat) → List Line → List (List Nat)
  | vs, [] => vs
  | vs, l :: ls => evalFrom paths (vs ++ [lineVal paths vs l]) ls
def evalL (paths : List (List Nat)) (ls : List Line) : List (List Nat) := evalFrom paths [] ls
theorem evalFrom_append (paths vs : List (List Nat)) (a b : List Line) : evalFrom paths vs (a ++ b) = evalFrom paths (evalFrom paths vs a) b := by
  induction a generalizing vs with
  | nil => rfl
  | cons l a ih => exact ih _
theorem evalL_snoc (paths : List (List Nat)) (ls : List Line) (l : Line) : evalL paths (ls ++ [l]) = evalL paths ls ++ [lineVal paths (evalL paths ls) l] := by
  unfold evalL
  rw [evalFrom_append]
  rfl
theorem evalFrom_length (paths vs : List (List Nat)) (ls : List Line) : (evalFrom paths vs ls).length = vs.length + ls.length := by
  induction ls generalizing vs with
  | nil => rfl
  | cons l ls ih =>
    show (evalFrom paths _ ls).length = _
    rw [ih]
    simp only [List.length_append, List.length_cons, List.length_nil]
    omega
theorem evalL_length (paths : List (List Nat)) (ls : List Line) : (evalL paths ls).length = ls.length := by
  unfold evalL
  rw [evalFrom_length]
  simp
theorem evalFrom_prefix (paths vs : List (List Nat)) (ls : List Line) : ∃ more, evalFrom paths vs ls = vs ++ more := by
  induction ls generalizing vs with
  | nil => exact ⟨[], by simp [evalFrom]⟩
  | cons l ls ih =>
    obtain ⟨more, e⟩ := ih (vs ++ [lineVal paths vs l])
    exact ⟨lineVal paths vs l :: more, by show evalFrom paths _ ls = _; rw [e]; simp⟩
theorem evalL_prefix (paths : List (List Nat)) (ls ms : List Line) : ∃ more, evalL paths (ls ++ ms) = evalL paths ls ++ more := by
  unfold evalL
  rw [evalFrom_append]
  exact evalFrom_prefix paths _ ms
theorem getD_left {α : Type} {a b : List α} {i : Nat} {d : α} (h : i < a.length) : (a ++ b).getD i d = a.getD i d := by
  rw [List.getD_eq_getElem?_getD, List.getD_eq_getElem?_getD, List.getElem?_append_left h]
theorem evalL_stable (paths : List (List Nat)) (ls ms : List Line) {i : Nat} (h : i < ls.length) : (evalL paths (ls ++ ms)).getD i [] = (evalL paths ls).getD i [] := by
  obtain ⟨more, e⟩ := evalL_prefix paths ls ms
  rw [e]
  exact getD_left (by rw [evalL_length]; exact h)
theorem lineVal_stable {paths vs more : List (List Nat)} {l : Line} (h : LineOk paths.length vs.length l) : lineVal paths (vs ++ more) l = lineVal paths vs l := by
  cases l with
  | gen i => rfl
  | invl j =>
    show inv _ = inv _
    rw [getD_left h]
  | prod j k =>
    show red _ = red _
    rw [getD_left h.1, getD_left h.2]
/-- the value of line n -/
theorem evalL_at (paths : List (List Nat)) : ∀ (ls : List Line) (n : Nat) (l : Line), ls[n]? = some l → LineOk paths.length n l → (evalL paths ls).getD n [] = lineVal paths (evalL paths ls) l := by
  intro ls n l h ok
  have hn : n < ls.length := (List.getElem?_eq_some_iff.mp h).1
  have e : ls = ls.take n ++ [l] ++ ls.drop (n + 1) := by
    have e1 : ls.take n ++ ls.drop n = ls := List.take_append_drop n ls
    have e2 : ls.drop n = l :: ls.drop (n + 1) := by
      rw [List.drop_eq_getElem_cons hn]
      rw [(List.getElem?_eq_some_iff.mp h).2]
    rw [e2] at e1
    rw [List.append_assoc]
    exact e1.symm
  have hl : (ls.take n).length = n := by rw [List.length_take]; omega
  have el : (evalL paths (ls.take n)).length = n := by rw [evalL_length, hl]
  obtain ⟨more, em⟩ := evalL_prefix paths (ls.take n ++ [l]) (ls.drop (n + 1))
  rw [← e, evalL_snoc] at em
  have ok' : LineOk paths.length (evalL paths (ls.take n)).length l := by rw [el]; exact ok
  have a1 : (evalL paths ls).getD n [] = lineVal paths (evalL paths (ls.take n)) l := by
    rw [em, List.append_assoc, List.getD_eq_getElem?_getD, List.getElem?_append_right (by rw [el]; exact Nat.le_refl _), el]
    simp
  have a2 : lineVal paths (evalL paths ls) l = lineVal paths (evalL paths (ls.take n)) l := by
    rw [em, List.append_assoc]
    exact lineVal_stable ok'
  rw [a1, a2]

/-- good lines -/
structure LG (paths : List (List Nat)) (ls : List Line) : Prop where
  ok : ∀ n l, ls[n]? = some l → LineOk paths.length n l
  vals : ∀ v ∈ evalL paths ls, v.length ≤ 600 ∧ red v = v ∧ Steps v
theorem LG.nil (paths : List (List Nat)) : LG paths [] := ⟨fun _ _ h => by simp at h, fun _ h => by simp [evalL, evalFrom] at h⟩
theorem getD_mem {α : Type} {a : List α} {i : Nat} {d : α} (h : i < a.length) : a.getD i d ∈ a := by
  rw [List.getD_eq_getElem?_getD, List.getElem?_eq_getElem h]
  exact List.getElem_mem h
theorem LG.val {paths : List (List Nat)} {ls : List Line} (g : LG paths ls) {i : Nat} (h : i < ls.length) : ((evalL paths ls).getD i []).length ≤ 600 ∧ red ((evalL paths ls).getD i []) = (evalL paths ls).getD i [] ∧ Steps ((evalL paths ls).getD i []) :=
  g.vals _ (getD_mem (by rw [evalL_length]; exact h))
theorem LG.line {paths : List (List Nat)} {ls : List Line} (g : LG paths ls) (sp : ∀ p ∈ paths, Steps p) {l : Line} (ok : LineOk paths.length ls.length l) : red (lineVal paths (evalL paths ls) l) = lineVal paths (evalL paths ls) l ∧ Steps (lineVal paths (evalL paths ls) l) := by
  cases l with
  | gen i => exact ⟨red_red _, (sp _ (getD_mem ok)).red⟩
  | invl j => exact ⟨red_inv (g.val ok).2.1, (g.val ok).2.2.inv⟩
  | prod j k => exact ⟨red_red _, ((g.val ok.1).2.2.app (g.val ok.2).2.2).red⟩
theorem LG.snoc {paths : List (List Nat)} {ls : List Line} (g : LG paths ls) (sp : ∀ p ∈ paths, Steps p) {l : Line} (ok : LineOk paths.length ls.length l) (few : (lineVal paths (evalL paths ls) l).length ≤ 600) : LG paths (ls ++ [l]) := by
  constructor
  · intro n l' h
    rcases Nat.lt_or_ge n ls.length with hn | hn
    · rw [List.getElem?_append_left hn] at h
      exact g.ok n l' h
    · rw [List.getElem?_append_right hn] at h
      have e : n - ls.length = 0 := by
        have z := (List.getElem?_eq_some_iff.mp h).1
        simp at z
        omega
      rw [e] at h
      have e2 : n = ls.length := by omega
      have e3 : l = l' := by simpa using h
      rw [e2, ← e3]
      exact ok
  · intro v hv
    rw [evalL_snoc] at hv
    rcases List.mem_append.mp hv with z | z
    · exact g.vals v z
    · rw [List.mem_singleton.mp z]
      exact ⟨few, (g.line sp ok).1, (g.line sp ok).2⟩
theorem evalFrom_closed {δ : Graph} (s : Sym δ) {paths : List (List Nat)} (hp : ∀ p ∈ paths, Closed δ p) : ∀ (ls : List Line) (vs : List (List Nat)), (∀ v ∈ vs, Closed δ v) → ∀ v ∈ evalFrom paths vs ls, Closed δ v := by
  have at_ : ∀ (l : List (List Nat)) (i : Nat), (∀ v ∈ l, Closed δ v) → Closed δ (l.getD i []) := by
    intro l i h
    rcases Nat.lt_or_ge i l.length with hi | hi
    · exact h _ (getD_mem hi)
    · rw [List.getD_eq_getElem?_getD, List.getElem?_eq_none hi]
      exact Closed.nil
  intro ls
  induction ls with
  | nil => exact fun vs h => h
  | cons l ls ih =>
    intro vs h
    refine ih _ ?_
    intro v hv
    rcases List.mem_append.mp hv with z | z
    · exact h v z
    · rw [List.mem_singleton.mp z]
      cases l with
      | gen i => exact Closed.red s (at_ paths i hp)
      | invl j => exact Closed.inv s (at_ vs j h)
      | prod j k => exact Closed.red s ((at_ vs j h).app (at_ vs k h))
theorem evalL_closed {δ : Graph} (s : Sym δ) {paths : List (List Nat)} (hp : ∀ p ∈ paths, Closed δ p) (ls : List Line) (i : Nat) : Closed δ ((evalL paths ls).getD i []) := by
  rcases Nat.lt_or_ge i (evalL paths ls).length with hi | hi
  · exact evalFrom_closed s hp ls [] (fun _ z => nomatch z) _ (getD_mem hi)
  · rw [List.getD_eq_getElem?_getD, List.getElem?_eq_none hi]
    exact Closed.nil

/-! ### the lines that one line needs -/
def depsOf : Line → List Nat
  | .gen _ => []
  | .invl j => [j]
  | .prod j k => [j, k]
def mapLine (f : Nat → Nat) : Line → Line
  | .gen i => .gen i
  | .invl j => .invl (f j)
  | .prod j k => .prod (f j) (f k)
def addOne (R : List Nat) (d : Nat) : List Nat := if d ∈ R then R else R ++ [d]
def addAll (R ds : List Nat) : List Nat := ds.foldl addOne R
def reqStep (ls : List Line) (R : List Nat) (n : Nat) : List Nat := if n ∈ R then addAll R (depsOf (ls.getD n (.gen 0))) else R
/-- n, n - 1, .., 0 -/
def down : Nat → List Nat
  | 0 => [0]
  | n + 1 => (n + 1) :: down n
def reqs (ls : List Line) (last : Nat) : List Nat := (down last).foldl (reqStep ls) [last]
theorem mem_addOne {R : List Nat} {d x : Nat} : x ∈ addOne R d ↔ x ∈ R ∨ x = d := by
  unfold addOne
  split
  · rename_i h
    exact ⟨.inl, fun z => z.elim id fun e => e ▸ h⟩
  · rw [List.mem_append, List.mem_singleton]
theorem mem_addAll {ds : List Nat} : ∀ {R : List Nat} {x : Nat}, x ∈ addAll R ds ↔ x ∈ R ∨ x ∈ ds := by
  induction ds with
  | nil => exact fun {R x} => ⟨.inl, fun z => z.elim id fun e => nomatch e⟩
  | cons d ds ih =>
    intro R x
    show x ∈ addAll (addOne R d) ds ↔ _
    rw [ih, mem_addOne, List.mem_cons, or_assoc]
theorem nodup_addOne {R : List Nat} {d : Nat} (h : R.Nodup) : (addOne R d).Nodup := by
  unfold addOne
  split
  · exact h
  · rename_i n
    rw [List.nodup_append]
    refine ⟨h, by simp, ?_⟩
    intro a ha b hb e
    rw [List.mem_singleton.mp hb] at e
    exact n (e ▸ ha)
theorem nodup_addAll {ds : List Nat} : ∀ {R : List Nat}, R.Nodup → (addAll R ds).Nodup := by
  induction ds with
  | nil => exact fun h => h
  | cons d ds ih => exact fun h => ih (nodup_addOne h)
/-- between two turns: numbers down to i are done -/
structure ReqAt (ls : List Line) (last i : Nat) (R : List Nat) : Prop where
  nd : R.Nodup
  top : last ∈ R
  le : ∀ n ∈ R, n ≤ last
  dep : ∀ n ∈ R, i ≤ n → ∀ d ∈ depsOf (ls.getD n (.gen 0)), d ∈ R
theorem ReqAt.step {ls : List Line} {last i : Nat} {R : List Nat} (down_ : ∀ n, n ≤ last → ∀ d ∈ depsOf (ls.getD n (.gen 0)), d < n) (h : ReqAt ls last (i + 1) R) : ReqAt ls last i (reqStep ls R i) := by
  unfold reqStep
  by_cases hi : i ∈ R
  · rw [if_pos hi]
    refine ⟨nodup_addAll h.nd, mem_addAll.mpr (.inl h.top), ?_, ?_⟩
    · intro n hn
      rcases mem_addAll.mp hn with z | z
      · exact h.le n z
      · have := down_ i (h.le i hi) n z
        have := h.le i hi
        omega
    · intro n hn le d hd
      rcases mem_addAll.mp hn with z | z
      · by_cases e : n = i
        · subst e
          exact mem_addAll.mpr (.inr hd)
        · exact mem_addAll.mpr (.inl (h.dep n z (by omega) d hd))
      · have := down_ i (h.le i hi) n z
        omega
  · rw [if_neg hi]
    refine ⟨h.nd, h.top, h.le, ?_⟩
    intro n hn le d hd
    have ne : n ≠ i := fun e => hi (e ▸ hn)
    exact h.dep n hn (by omega) d hd
theorem reqAt_end {ls : List Line} {last : Nat} (down_ : ∀ n, n ≤ last → ∀ d ∈ depsOf (ls.getD n (.gen 0)), d < n) : ReqAt ls last 0 (reqs ls last) := by
  have go : ∀ (i : Nat) (R : List Nat), ReqAt ls last (i + 1) R → ReqAt ls last 0 ((down i).foldl (reqStep ls) R) := by
    intro i
    induction i with
    | zero => exact fun R h => h.step down_
    | succ i ih => exact fun R h => ih _ (h.step down_)
  refine go last _ ⟨by simp, by simp, fun n hn => by rw [List.mem_singleton.mp hn]; exact Nat.le_refl _, fun n hn le => ?_⟩
  rw [List.mem_singleton.mp hn] at le
  omega
def renum (ls : List Line) (ns : List Nat) : List Line := ns.map fun n => mapLine (fun d => ns.idxOf d) (ls.getD n (.gen 0))
theorem deps_down {paths : List (List Nat)} {ls : List Line} (g : LG paths ls) (n : Nat) : ∀ d ∈ depsOf (ls.getD n (.gen 0)), d < n := by
  rcases Nat.lt_or_ge n ls.length with hn | hn
  · have e : ls.getD n (.gen 0) = ls[n] := by rw [List.getD_eq_getElem?_getD, List.getElem?_eq_getElem hn]; rfl
    have ok := g.ok n ls[n] (List.getElem?_eq_getElem hn)
    rw [e]
    cases hl : ls[n] with
    | gen i => exact fun _ z => nomatch z
    | invl j =>
      rw [hl] at ok
      intro d hd
      rw [List.mem_singleton.mp hd]
      exact ok
    | prod j k =>
      rw [hl] at ok
      intro d hd
      rcases List.mem_cons.mp hd with rfl | hd
      · exact ok.1
      · rw [List.mem_singleton.mp hd]
        exact ok.2
  · rw [List.getD_eq_getElem?_getD, List.getElem?_eq_none hn]
    exact fun _ z => nomatch z
theorem idxOf_lt_of_sorted {ns : List Nat} (hs : ns.Pairwise (· < ·)) {k d : Nat} {n : Nat} (hk : ns[k]? = some n) (hd : d ∈ ns) (lt : d < n) : ns.idxOf d < k := by
  apply Nat.lt_of_not_le
  intro le
  have hi : ns.idxOf d < ns.length := List.idxOf_lt_length_of_mem hd
  have e1 : ns[ns.idxOf d] = d := List.getElem_idxOf hi
  have hk1 := (List.getElem?_eq_some_iff.mp hk).1
  have hk2 := (List.getElem?_eq_some_iff.mp hk).2
  rcases Nat.lt_or_ge k (ns.idxOf d) with z | z
  · have := (List.pairwise_iff_getElem.mp hs) k (ns.idxOf d) hk1 hi z
    rw [e1, hk2] at this
    omega
  · have e : ns.idxOf d = k := by omega
    have q : ns[ns.idxOf d] = ns[k] := by simp only [e]
    rw [e1, hk2] at q
    omega
theorem required_ok {paths : List (List Nat)} {ls : List Line} (g : LG paths ls) (sp : ∀ p ∈ paths, Steps p) {last : Nat} (hl : last < ls.length) {ns : List Nat} (hp : ns.Perm (reqs ls last)) (hs : ns.Pairwise (· < ·)) :
    LG paths (renum ls ns) ∧ 0 < ns.length ∧ (evalL paths (renum ls ns)).getD (ns.length - 1) [] = (evalL paths ls).getD last [] ∧ ns.length ≤ last + 1 := by
  have R := reqAt_end (ls := ls) (last := last) fun n _ => deps_down g n
  have mem : ∀ n, n ∈ ns ↔ n ∈ reqs ls last := fun n => hp.mem_iff
  have le : ∀ n ∈ ns, n ≤ last := fun n hn => R.le n ((mem n).mp hn)
  have dep : ∀ n ∈ ns, ∀ d ∈ depsOf (ls.getD n (.gen 0)), d ∈ ns := fun n hn d hd => (mem d).mpr (R.dep n ((mem n).mp hn) (Nat.zero_le _) d hd)
  -- the value of line n of ls
  have valueAt : ∀ n, n ≤ last → (evalL paths ls).getD n [] = lineVal paths (evalL paths ls) (ls.getD n (.gen 0)) := by
    intro n hn
    have h : n < ls.length := by omega
    have e : ls.getD n (.gen 0) = ls[n] := by rw [List.getD_eq_getElem?_getD, List.getElem?_eq_getElem h]; rfl
    rw [e]
    exact evalL_at paths ls n _ (List.getElem?_eq_getElem h) (g.ok n _ (List.getElem?_eq_getElem h))
  have okAt : ∀ n, n ≤ last → LineOk paths.length n (ls.getD n (.gen 0)) := by
    intro n hn
    have h : n < ls.length := by omega
    have e : ls.getD n (.gen 0) = ls[n] := by rw [List.getD_eq_getElem?_getD, List.getElem?_eq_getElem h]; rfl
    rw [e]
    exact g.ok n _ (List.getElem?_eq_getElem h)
  have main : ∀ k, k ≤ ns.length → LG paths ((renum ls ns).take k) ∧ evalL paths ((renum ls ns).take k) = (ns.take k).map fun n => (evalL paths ls).getD n [] := by
    intro k
    induction k with
    | zero =>
      intro _
      rw [List.take_zero, List.take_zero]
      exact ⟨LG.nil _, rfl⟩
    | succ k ih =>
      intro hk
      obtain ⟨g1, e1⟩ := ih (by omega)
      have hk' : k < ns.length := by omega
      have at_ : ns[k]? = some ns[k] := List.getElem?_eq_getElem hk'
      have hm : ns[k] ∈ ns := List.getElem_mem hk'
      have len1 : ((renum ls ns).take k).length = k := by
        rw [List.length_take]
        unfold renum
        rw [List.length_map]
        omega
      have en : (renum ls ns)[k]? = some (mapLine (fun d => ns.idxOf d) (ls.getD ns[k] (.gen 0))) := by
        unfold renum
        rw [List.getElem?_map, at_]
        rfl
      have et : (renum ls ns).take (k + 1) = (renum ls ns).take k ++ [mapLine (fun d => ns.idxOf d) (ls.getD ns[k] (.gen 0))] := by
        rw [List.take_add_one, en]
        rfl
      have et2 : ns.take (k + 1) = ns.take k ++ [ns[k]] := by
        rw [List.take_add_one, at_]
        rfl
      -- an index looked up among the values so far
      have look : ∀ d ∈ depsOf (ls.getD ns[k] (.gen 0)), ns.idxOf d < k ∧ (evalL paths ((renum ls ns).take k)).getD (ns.idxOf d) [] = (evalL paths ls).getD d [] := by
        intro d hd
        have dm := dep _ hm d hd
        have lt := idxOf_lt_of_sorted hs at_ dm (deps_down g _ d hd)
        have hi : ns.idxOf d < ns.length := by omega
        refine ⟨lt, ?_⟩
        rw [e1, List.getD_eq_getElem?_getD, List.getElem?_map, List.getElem?_take_of_lt lt, List.getElem?_eq_getElem hi, List.getElem_idxOf hi]
        rfl
      have okm : LineOk paths.length k (mapLine (fun d => ns.idxOf d) (ls.getD ns[k] (.gen 0))) := by
        have ok := okAt _ (le _ hm)
        cases hl : ls.getD ns[k] (.gen 0) with
        | gen i =>
          rw [hl] at ok
          exact ok
        | invl j =>
          rw [hl] at look
          exact (look j (by simp [depsOf])).1
        | prod j i =>
          rw [hl] at look
          exact ⟨(look j (by simp [depsOf])).1, (look i (by simp [depsOf])).1⟩
      have same : lineVal paths (evalL paths ((renum ls ns).take k)) (mapLine (fun d => ns.idxOf d) (ls.getD ns[k] (.gen 0))) = (evalL paths ls).getD ns[k] [] := by
        rw [valueAt _ (le _ hm)]
        cases hl : ls.getD ns[k] (.gen 0) with
        | gen i => rfl
        | invl j =>
          rw [hl] at look
          show inv _ = inv _
          rw [(look j (by simp [depsOf])).2]
        | prod j i =>
          rw [hl] at look
          show red _ = red _
          rw [(look j (by simp [depsOf])).2, (look i (by simp [depsOf])).2]
      constructor
      · rw [et]
        refine g1.snoc sp (by rw [len1]; exact okm) ?_
        rw [same]
        exact (g.val (by have := le _ hm; omega)).1
      · rw [et, evalL_snoc, et2, List.map_append, e1]
        congr 1
        rw [← e1, same]
        rfl
  obtain ⟨g1, e1⟩ := main ns.length (Nat.le_refl _)
  have full : (renum ls ns).take ns.length = renum ls ns := by
    apply List.take_of_length_le
    unfold renum
    rw [List.length_map]
    exact Nat.le_refl _
  rw [full] at g1 e1
  rw [List.take_length] at e1
  have topIn : last ∈ ns := (mem last).mpr R.top
  have pos : 0 < ns.length := List.length_pos_of_mem topIn
  have lastIs : ns[ns.length - 1]? = some last := by
    obtain ⟨j, hj, ej⟩ := List.mem_iff_getElem.mp topIn
    have e : j = ns.length - 1 := by
      apply Classical.byContradiction
      intro ne
      have := (List.pairwise_iff_getElem.mp hs) j (ns.length - 1) hj (by omega) (by omega)
      have := le _ (List.getElem_mem (show ns.length - 1 < ns.length by omega))
      omega
    rw [← e, List.getElem?_eq_getElem hj, ej]
  refine ⟨g1, pos, ?_, ?_⟩
  · rw [e1, List.getD_eq_getElem?_getD, List.getElem?_map, lastIs]
    rfl
  · have grow : ∀ k, (h : k < ns.length) → k ≤ ns[k] := by
      intro k
      induction k with
      | zero => intro _; exact Nat.zero_le _
      | succ k ih =>
        intro h
        have a := ih (by omega)
        have b := (List.pairwise_iff_getElem.mp hs) k (k + 1) (by omega) h (by omega)
        omega
    have a := grow (ns.length - 1) (by omega)
    have b := (List.getElem?_eq_some_iff.mp lastIs).2
    omega
end WK
end Text_WM2
section Text_WM3
set_option linter.all false
/-! WM3: the labelled folding as a plain program; tables as lists of pairs. -/
namespace WK

/-! ### tables -/
section
variable {κ α : Type} [DecidableEq κ]
def gt : List (κ × α) → κ → Option α
  | [], _ => none
  | p :: r, k => if p.1 = k then some p.2 else gt r k
def pt (l : List (κ × α)) (k : κ) (v : α) : List (κ × α) :=
  if (gt l k).isSome = true then l.map (fun p => if p.1 = k then (p.1, v) else p) else l ++ [(k, v)]
def dl (l : List (κ × α)) (k : κ) : List (κ × α) := l.filter fun p => decide (p.1 ≠ k)
theorem gt_nil {k : κ} : gt ([] : List (κ × α)) k = none := rfl
theorem gt_pos {p : κ × α} {r : List (κ × α)} {k : κ} (e : p.1 = k) : gt (p :: r) k = some p.2 := if_pos e
theorem gt_neg {p : κ × α} {r : List (κ × α)} {k : κ} (e : ¬ p.1 = k) : gt (p :: r) k = gt r k := if_neg e
theorem gt_map (l : List (κ × α)) (k j : κ) (v : α) : gt (l.map fun p => if p.1 = k then (p.1, v) else p) j = (gt l j).map fun x => if j = k then v else x := by
  induction l with
  | nil => rfl
  | cons p r ih =>
    rw [List.map_cons]
    by_cases h : p.1 = k
    · rw [if_pos h]
      by_cases e : p.1 = j
      · rw [gt_pos (p := (p.1, v)) e, gt_pos e, Option.map_some, if_pos (e.symm.trans h)]
      · rw [gt_neg (p := (p.1, v)) e, gt_neg e, ih]
    · rw [if_neg h]
      by_cases e : p.1 = j
      · rw [gt_pos e, gt_pos e, Option.map_some, if_neg (fun z => h (e.trans z))]
      · rw [gt_neg e, gt_neg e, ih]
theorem gt_snoc (l : List (κ × α)) (k j : κ) (v : α) : gt (l ++ [(k, v)]) j = (gt l j).or (if k = j then some v else none) := by
  induction l with
  | nil => rfl
  | cons p r ih =>
    rw [List.cons_append]
    by_cases e : p.1 = j
    · rw [gt_pos e, gt_pos e]
      rfl
    · rw [gt_neg e, gt_neg e, ih]
theorem gt_pt (l : List (κ × α)) (k j : κ) (v : α) : gt (pt l k v) j = if k = j then some v else gt l j := by
  unfold pt
  by_cases h : (gt l k).isSome = true
  · rw [if_pos h, gt_map]
    by_cases e : k = j
    · subst e
      rw [if_pos rfl]
      obtain ⟨x, hx⟩ := Option.isSome_iff_exists.mp h
      rw [hx, Option.map_some, if_pos rfl]
    · rw [if_neg e]
      cases gt l j with
      | none => rfl
      | some x => rw [Option.map_some, if_neg (fun z => e z.symm)]
  · rw [if_neg h, gt_snoc]
    by_cases e : k = j
    · subst e
      have n : gt l k = none := by
        cases q : gt l k with
        | none => rfl
        | some x => rw [q] at h; exact (h rfl).elim
      rw [n, if_pos rfl]
      rfl
    · rw [if_neg e, if_neg e]
      cases gt l j <;> rfl
theorem gt_pt_self (l : List (κ × α)) (k : κ) (v : α) : gt (pt l k v) k = some v := by rw [gt_pt, if_pos rfl]
theorem gt_pt_ne (l : List (κ × α)) {k j : κ} (v : α) (e : k ≠ j) : gt (pt l k v) j = gt l j := by rw [gt_pt, if_neg e]
theorem gt_dl (l : List (κ × α)) (k j : κ) : gt (dl l k) j = if k = j then none else gt l j := by
  induction l with
  | nil =>
    show none = _
    split <;> rfl
  | cons p r ih =>
    unfold dl at ih ⊢
    rw [List.filter_cons]
    by_cases h : p.1 = k
    · rw [if_neg (by simp [h]), ih]
      by_cases e : k = j
      · rw [if_pos e, if_pos e]
      · rw [if_neg e, if_neg e, gt_neg (fun z => e (h.symm.trans z))]
    · rw [if_pos (by simp [h])]
      by_cases e : p.1 = j
      · rw [gt_pos e, gt_pos e, if_neg (fun z => h (e.trans z.symm))]
      · rw [gt_neg e, gt_neg e, ih]
theorem gt_dl_ne (l : List (κ × α)) {k j : κ} (e : k ≠ j) : gt (dl l k) j = gt l j := by rw [gt_dl, if_neg e]
theorem gt_dl_self (l : List (κ × α)) (k : κ) : gt (dl l k) k = none := by rw [gt_dl, if_pos rfl]
theorem gt_dl_some {l : List (κ × α)} {k j : κ} {v : α} (h : gt (dl l k) j = some v) : gt l j = some v ∧ k ≠ j := by
  rw [gt_dl] at h
  by_cases e : k = j
  · rw [if_pos e] at h
    cases h
  · rw [if_neg e] at h
    exact ⟨h, e⟩
theorem length_dl_le (l : List (κ × α)) (k : κ) : (dl l k).length ≤ l.length := List.length_filter_le _ _
theorem length_dl {l : List (κ × α)} {k : κ} {v : α} (h : gt l k = some v) : (dl l k).length + 1 ≤ l.length := by
  induction l with
  | nil => cases h
  | cons p r ih =>
    unfold dl at ih ⊢
    rw [List.filter_cons]
    by_cases e : p.1 = k
    · rw [if_neg (by simp [e]), List.length_cons]
      have := length_dl_le r k
      unfold dl at this
      omega
    · rw [if_pos (by simp [e]), List.length_cons, List.length_cons]
      rw [gt_neg e] at h
      have := ih h
      omega
theorem length_pt_le (l : List (κ × α)) (k : κ) (v : α) : (pt l k v).length ≤ l.length + 1 := by
  unfold pt
  split
  · rw [List.length_map]; omega
  · rw [List.length_append]; exact Nat.le_refl _
theorem length_pt_old {l : List (κ × α)} {k : κ} {v0 : α} (v : α) (h : gt l k = some v0) : (pt l k v).length = l.length := by
  unfold pt
  rw [if_pos (by rw [h]; rfl), List.length_map]
theorem gt_mem {l : List (κ × α)} {k : κ} {v : α} (h : gt l k = some v) : (k, v) ∈ l := by
  induction l with
  | nil => cases h
  | cons p r ih =>
    by_cases e : p.1 = k
    · rw [gt_pos e] at h
      rw [← e, ← Option.some.inj h]
      exact List.mem_cons_self
    · rw [gt_neg e] at h
      exact List.mem_cons_of_mem _ (ih h)
end

/-! ### the program -/
abbrev Lab := Option Nat
abbrev Tgt := List ((Nat × Nat) × (Nat × Lab))
abbrev Mrg := List (Nat × (Nat × Lab))
structure G where
  lines : List Line
  tgt : Tgt
  mrg : Mrg
  next : Nat
  pend : List (Nat × Nat × Lab)
def genL (ls : List Line) (i : Nat) : List Line × Lab := (ls ++ [.gen i], some ls.length)
def invL (ls : List Line) : Lab → List Line × Lab
  | none => (ls, none)
  | some j => (ls ++ [.invl j], some ls.length)
def prodL (ls : List Line) : Lab → Lab → List Line × Lab
  | none, b => (ls, b)
  | some a, none => (ls, some a)
  | some a, some b => (ls ++ [.prod a b], some ls.length)
def addEdge (g : G) (s c t : Nat) (l : Lab) : G :=
  match gt g.tgt (s, c) with
  | some e => { g with lines := (prodL (invL g.lines l).1 (invL g.lines l).2 e.2).1, pend := g.pend ++ [(e.1, t, (prodL (invL g.lines l).1 (invL g.lines l).2 e.2).2)] }
  | none => match gt g.tgt (t, bk c) with
    | some e => { g with lines := (prodL g.lines l e.2).1, pend := g.pend ++ [(e.1, s, (prodL g.lines l e.2).2)] }
    | none => { g with lines := (invL g.lines l).1, tgt := pt (pt g.tgt (s, c) (t, l)) (t, bk c) (s, (invL g.lines l).2) }
/-- the walk: lines, node, label, position -/
structure Wk where
  lines : List Line
  node : Nat
  lab : Lab
  pos : Nat
def walkL (tgt : Tgt) : List Nat → Wk → Wk
  | [], x => x
  | c :: w, x => match gt tgt (x.node, c) with
    | none => x
    | some e => walkL tgt w ⟨(prodL x.lines x.lab e.2).1, e.1, (prodL x.lines x.lab e.2).2, x.pos + 1⟩
def walk0 (g : G) (w : List Nat) : Wk := walkL g.tgt w ⟨g.lines, 0, none, 0⟩
/-- the nodes passed, and the root -/
def chain (mrg : Mrg) : Nat → Nat → List Nat × Nat
  | 0, n => ([], n)
  | k + 1, n => match gt mrg n with
    | none => ([], n)
    | some e => (n :: (chain mrg k e.1).1, (chain mrg k e.1).2)
structure Cur where
  lines : List Line
  mrg : Mrg
  lab : Lab
def labOf (mrg : Mrg) (m : Nat) : Lab := ((gt mrg m).getD (0, none)).2
def cmpStep (r : Nat) (m : Nat) (x : Cur) : Cur := ⟨(prodL x.lines (labOf x.mrg m) x.lab).1, pt x.mrg m (r, (prodL x.lines (labOf x.mrg m) x.lab).2), (prodL x.lines (labOf x.mrg m) x.lab).2⟩
def rootOf (mrg : Mrg) (n : Nat) : Nat := (chain mrg (n + 1) n).2
def compress (ls : List Line) (mrg : Mrg) (n : Nat) : Cur := (chain mrg (n + 1) n).1.foldr (cmpStep (rootOf mrg n)) ⟨ls, mrg, none⟩
def curG (g : G) (n : Nat) : G := { g with lines := (compress g.lines g.mrg n).lines, mrg := (compress g.lines g.mrg n).mrg }
def curL (g : G) (n : Nat) : Lab := (compress g.lines g.mrg n).lab
def curN (g : G) (n : Nat) : Nat := rootOf g.mrg n
def mergeEdge (kept removed c t : Nat) (label back el : Lab) (g : G) : G :=
  if t = removed then
    addEdge { g with lines := (prodL (prodL g.lines el label).1 back (prodL g.lines el label).2).1, tgt := dl (dl g.tgt (removed, c)) (t, bk c) } kept c kept (prodL (prodL g.lines el label).1 back (prodL g.lines el label).2).2
  else
    addEdge { g with lines := (prodL g.lines back el).1, tgt := dl (dl g.tgt (removed, c)) (t, bk c) } kept c t (prodL g.lines back el).2
def mergeStep (kept removed : Nat) (label back : Lab) (g : G) (c : Nat) : G :=
  match gt g.tgt (removed, c) with
  | none => g
  | some e => mergeEdge kept removed c e.1 label back e.2 g
def steps8 : List Nat := [97, 65, 98, 66, 99, 67, 100, 68]
def mergeG (g : G) (kept removed : Nat) (label : Lab) : G :=
  steps8.foldl (mergeStep kept removed label (invL g.lines label).2) { g with lines := (invL g.lines label).1, mrg := pt g.mrg removed (kept, label) }
/-- the two joined nodes' label, when they differ -/
def joinG (g : G) (f s : Nat) (l fl sl : Lab) : G :=
  if f = s then g
  else
    let a := invL g.lines sl
    let b := prodL a.1 a.2 l
    let c := prodL b.1 b.2 fl
    if s < f then mergeG { g with lines := (invL c.1 c.2).1 } s f (invL c.1 c.2).2
    else mergeG { g with lines := c.1 } f s c.2
def popG (g : G) (x : Nat × Nat × Lab) : G :=
  let g1 := curG g x.1
  joinG (curG g1 x.2.1) (curN g x.1) (curN g1 x.2.1) x.2.2 (curL g x.1) (curL g1 x.2.1)
def mu (g : G) : Nat := g.tgt.length + 2 * g.pend.length
def mergeAll : Nat → G → G
  | 0, g => g
  | k + 1, g => match g.pend.getLast? with
    | none => g
    | some x => mergeAll k (popG { g with pend := g.pend.dropLast } x)
/-- the inner edges of a generator: state, node, label -/
def midStep (x : G × Nat × Lab) (c : Nat) : G × Nat × Lab :=
  ({ addEdge x.1 x.2.1 c x.1.next x.2.2 with next := x.1.next + 1 }, x.1.next, none)
def addRest (g : G) (i node : Nat) (lab : Lab) (w : List Nat) : G :=
  let a := invL g.lines lab
  let x := w.dropLast.foldl midStep ({ g with lines := a.1 }, node, a.2)
  let b := genL x.1.lines i
  let p := prodL b.1 x.2.2 b.2
  addEdge { x.1 with lines := p.1 } x.2.1 (w.getLastD 0) 0 p.2
def addLoop (g : G) (i node : Nat) (lab : Lab) : G :=
  let a := invL g.lines lab
  let b := genL a.1 i
  let p := prodL b.1 a.2 b.2
  { g with lines := p.1, pend := g.pend ++ [(0, node, p.2)] }
def addPre (g : G) (i : Nat) (w : List Nat) : G :=
  let x := walk0 g w
  if x.pos < w.length then addRest { g with lines := x.lines } i x.node x.lab (w.drop x.pos)
  else if x.node ≠ 0 then addLoop { g with lines := x.lines } i x.node x.lab
  else { g with lines := x.lines }
def addGen (g : G) (i : Nat) (w : List Nat) : G := mergeAll (mu (addPre g i w)) (addPre g i w)
def g0 : G := ⟨[], [], [], 1, []⟩
def addGens : G → Nat → List (List Nat) → G
  | g, _, [] => g
  | g, i, w :: r => addGens (addGen g i w) (i + 1) r
/-- numbers in rising order -/
def insS (n : Nat) : List Nat → List Nat
  | [] => [n]
  | m :: r => if n ≤ m then n :: m :: r else m :: insS n r
def sortS : List Nat → List Nat
  | [] => []
  | n :: r => insS n (sortS r)
def reqLines (ls : List Line) : Lab → List Line
  | none => []
  | some last => renum ls (sortS (reqs ls last))
def derive (paths : List (List Nat)) (goal : List Nat) : Option (List Line) :=
  let g := addGens g0 0 paths
  let x := walk0 g goal
  if x.node ≠ 0 ∨ x.pos < goal.length then none else some (reqLines x.lines x.lab)
end WK
end Text_WM3
section Text_WM4
set_option linter.all false
/-! WM4: what the labelled folding keeps. -/
namespace WK

/-! ### lines -/
section
variable (paths : List (List Nat))
def val (ls : List Line) : Lab → List Nat
  | none => []
  | some j => (evalL paths ls).getD j []
def LOk (ls : List Line) : Lab → Prop
  | none => True
  | some j => j < ls.length
/-- more lines -/
def Ext (ls ls' : List Line) : Prop := ∃ ms, ls' = ls ++ ms
end
section
variable {paths : List (List Nat)}
theorem Ext.refl (ls : List Line) : Ext ls ls := ⟨[], by simp⟩
theorem Ext.trans {a b c : List Line} (h : Ext a b) (h' : Ext b c) : Ext a c := by
  obtain ⟨m, rfl⟩ := h
  obtain ⟨n, rfl⟩ := h'
  exact ⟨m ++ n, by simp⟩
theorem Ext.snoc (ls : List Line) (l : Line) : Ext ls (ls ++ [l]) := ⟨[l], rfl⟩
theorem LOk.ext {ls ls' : List Line} {l : Lab} (h : LOk ls l) (e : Ext ls ls') : LOk ls' l := by
  obtain ⟨m, rfl⟩ := e
  cases l with
  | none => exact trivial
  | some j =>
    have : j < ls.length := h
    show j < (ls ++ m).length
    rw [List.length_append]
    omega
theorem val_ext {ls ls' : List Line} {l : Lab} (h : LOk ls l) (e : Ext ls ls') : val paths ls' l = val paths ls l := by
  obtain ⟨m, rfl⟩ := e
  cases l with
  | none => rfl
  | some j => exact evalL_stable paths ls m h
theorem val_last {ls : List Line} {l : Line} : (evalL paths (ls ++ [l])).getD ls.length [] = lineVal paths (evalL paths ls) l := by
  rw [evalL_snoc, List.getD_eq_getElem?_getD, List.getElem?_append_right (by rw [evalL_length]; exact Nat.le_refl _), evalL_length, Nat.sub_self]
  rfl
/-- a label that says: x is its value followed by y -/
structure Lb (paths : List (List Nat)) (ls : List Line) (l : Lab) (x y : List Nat) : Prop where
  ok : LOk ls l
  eq : Eqv x (val paths ls l ++ y)
theorem Lb.ext {ls ls' : List Line} {l : Lab} {x y : List Nat} (h : Lb paths ls l x y) (e : Ext ls ls') : Lb paths ls' l x y := ⟨h.ok.ext e, by rw [val_ext h.ok e]; exact h.eq⟩
theorem val_red {ls : List Line} (g : LG paths ls) {l : Lab} (h : LOk ls l) : red (val paths ls l) = val paths ls l := by
  cases l with
  | none => rfl
  | some j => exact (g.val h).2.1
theorem Lb.few {ls : List Line} (g : LG paths ls) {l : Lab} {x y : List Nat} (h : Lb paths ls l x y) : (val paths ls l).length ≤ x.length + y.length := length_mid (val_red g h.ok) h.eq
theorem Lb.none {ls : List Line} (x : List Nat) : Lb paths ls Option.none x x := ⟨trivial, Eqv.refl _⟩
/-- the outcome of adding lines -/
structure Got (paths : List (List Nat)) (ls : List Line) (p : List Line × Lab) (n : Nat) (x y : List Nat) : Prop where
  lg : LG paths p.1
  ext : Ext ls p.1
  lb : Lb paths p.1 p.2 x y
  few : p.1.length ≤ ls.length + n
theorem inv_got (sp : ∀ p ∈ paths, Steps p) {ls : List Line} (g : LG paths ls) {l : Lab} {x y : List Nat} (h : Lb paths ls l x y) (hxy : x.length + y.length ≤ 600) : Got paths ls (invL ls l) 1 y x := by
  cases l with
  | none => exact ⟨g, Ext.refl _, ⟨trivial, h.eq.symm⟩, Nat.le_succ _⟩
  | some j =>
    have few := h.few g
    refine ⟨g.snoc sp (l := .invl j) h.ok ?_, Ext.snoc _ _, ⟨?_, ?_⟩, ?_⟩
    · show (inv _).length ≤ 600
      rw [inv_length]
      exact Nat.le_trans few hxy
    · show ls.length < (ls ++ [Line.invl j]).length
      rw [List.length_append]
      exact Nat.lt_succ_self _
    · show Eqv y ((evalL paths (ls ++ [Line.invl j])).getD ls.length [] ++ x)
      rw [val_last]
      exact eqv_last h.eq
    · show (ls ++ [Line.invl j]).length ≤ _
      rw [List.length_append]
      exact Nat.le_refl _
theorem prod_got (sp : ∀ p ∈ paths, Steps p) {ls : List Line} (g : LG paths ls) {a b : Lab} {x y z : List Nat} (ha : Lb paths ls a x y) (hb : Lb paths ls b y z) (hxy : x.length + y.length + (y.length + z.length) ≤ 600) : Got paths ls (prodL ls a b) 1 x z := by
  cases a with
  | none =>
    refine ⟨g, Ext.refl _, ⟨hb.ok, ?_⟩, Nat.le_succ _⟩
    exact Eqv.trans ha.eq hb.eq
  | some j =>
    cases b with
    | none =>
      refine ⟨g, Ext.refl _, ⟨ha.ok, ?_⟩, Nat.le_succ _⟩
      exact ha.eq.trans ((Eqv.refl _).app hb.eq)
    | some k =>
      have f1 := ha.few g
      have f2 := hb.few g
      refine ⟨g.snoc sp (l := .prod j k) ⟨ha.ok, hb.ok⟩ ?_, Ext.snoc _ _, ⟨?_, ?_⟩, ?_⟩
      · have q := red_length ((evalL paths ls).getD j [] ++ (evalL paths ls).getD k [])
        rw [List.length_append] at q
        show (red _).length ≤ 600
        have f1' : ((evalL paths ls).getD j []).length ≤ x.length + y.length := f1
        have f2' : ((evalL paths ls).getD k []).length ≤ y.length + z.length := f2
        omega
      · show ls.length < (ls ++ [Line.prod j k]).length
        rw [List.length_append]
        exact Nat.lt_succ_self _
      · show Eqv x ((evalL paths (ls ++ [Line.prod j k])).getD ls.length [] ++ z)
        rw [val_last]
        refine Eqv.trans ?_ ((eqv_red _).symm.app (Eqv.refl z))
        rw [List.append_assoc]
        exact ha.eq.trans ((Eqv.refl _).app hb.eq)
      · show (ls ++ [Line.prod j k]).length ≤ _
        rw [List.length_append]
        exact Nat.le_refl _
theorem gen_got (sp : ∀ p ∈ paths, Steps p) {ls : List Line} (g : LG paths ls) {i : Nat} {w : List Nat} (hw : paths[i]? = some w) (hr : w.length ≤ 600) : Got paths ls (genL ls i) 1 w [] := by
  have hi : i < paths.length := (List.getElem?_eq_some_iff.mp hw).1
  have e : paths.getD i [] = w := by rw [List.getD_eq_getElem?_getD, hw]; rfl
  refine ⟨g.snoc sp (l := .gen i) hi ?_, Ext.snoc _ _, ⟨?_, ?_⟩, ?_⟩
  · show (red (paths.getD i [])).length ≤ 600
    have := red_length w
    rw [e]
    omega
  · show ls.length < (ls ++ [Line.gen i]).length
    rw [List.length_append]
    exact Nat.lt_succ_self _
  · show Eqv w ((evalL paths (ls ++ [Line.gen i])).getD ls.length [] ++ [])
    rw [val_last, List.append_nil]
    show Eqv w (red (paths.getD i []))
    rw [e]
    exact (eqv_red w).symm
  · show (ls ++ [Line.gen i]).length ≤ _
    rw [List.length_append]
    exact Nat.le_refl _
end

/-! ### the graph -/
/-- what holds at any time; nm: the nodes' names -/
structure Good (paths : List (List Nat)) (nm : Nat → List Nat) (g : G) : Prop where
  sp : ∀ p ∈ paths, Steps p
  lg : LG paths g.lines
  pos : 0 < g.next
  nm0 : nm 0 = []
  nms : ∀ n, (nm n).length ≤ 60
  edge : ∀ n c m l, gt g.tgt (n, c) = some (m, l) → IsStep c ∧ n < g.next ∧ m < g.next ∧ Lb paths g.lines l (nm n ++ [c]) (nm m) ∧ ∃ l', gt g.tgt (m, bk c) = some (n, l')
  mrg : ∀ r k l, gt g.mrg r = some (k, l) → k < r ∧ r < g.next ∧ Lb paths g.lines l (nm r) (nm k)
  pend : ∀ x ∈ g.pend, x.1 < g.next ∧ x.2.1 < g.next ∧ Lb paths g.lines x.2.2 (nm x.2.1) (nm x.1)
/-- no edge at a node that was merged -/
def Live (g : G) : Prop := ∀ n c e, gt g.tgt (n, c) = some e → gt g.mrg n = none
theorem Good.lines {paths : List (List Nat)} {nm : Nat → List Nat} {g : G} (h : Good paths nm g) {ls : List Line} (lg : LG paths ls) (e : Ext g.lines ls) : Good paths nm { g with lines := ls } where
  sp := h.sp
  lg := lg
  pos := h.pos
  nm0 := h.nm0
  nms := h.nms
  edge := fun n c m l q => have z := h.edge n c m l q; ⟨z.1, z.2.1, z.2.2.1, z.2.2.2.1.ext e, z.2.2.2.2⟩
  mrg := fun r k l q => have z := h.mrg r k l q; ⟨z.1, z.2.1, z.2.2.ext e⟩
  pend := fun x q => have z := h.pend x q; ⟨z.1, z.2.1, z.2.2.ext e⟩

inductive Conn (g : G) : Nat → Nat → Prop
  | refl (a : Nat) : Conn g a a
  | symm {a b : Nat} : Conn g a b → Conn g b a
  | trans {a b c : Nat} : Conn g a b → Conn g b c → Conn g a c
  | mrg {r k : Nat} {l : Lab} : gt g.mrg r = some (k, l) → Conn g r k
  | pend {x : Nat × Nat × Lab} : x ∈ g.pend → Conn g x.1 x.2.1
def HasE (g : G) (u c v : Nat) : Prop := ∃ u' v' l, Conn g u u' ∧ Conn g v v' ∧ gt g.tgt (u', c) = some (v', l)
structure Keep (g g' : G) : Prop where
  conn : ∀ {a b}, Conn g a b → Conn g' a b
  has : ∀ {u c v}, HasE g u c v → HasE g' u c v
theorem Keep.refl (g : G) : Keep g g := ⟨id, id⟩
theorem Keep.trans {a b c : G} (h : Keep a b) (h' : Keep b c) : Keep a c := ⟨fun z => h'.conn (h.conn z), fun z => h'.has (h.has z)⟩
theorem Conn.mono {g g' : G} (hm : ∀ r k l, gt g.mrg r = some (k, l) → Conn g' r k) (hp : ∀ x ∈ g.pend, Conn g' x.1 x.2.1) {a b : Nat} (h : Conn g a b) : Conn g' a b := by
  induction h with
  | refl a => exact .refl a
  | symm _ ih => exact ih.symm
  | trans _ _ ih1 ih2 => exact ih1.trans ih2
  | mrg e => exact hm _ _ _ e
  | pend e => exact hp _ e
theorem Keep.of {g g' : G} (hm : ∀ r k l, gt g.mrg r = some (k, l) → Conn g' r k) (hp : ∀ x ∈ g.pend, Conn g' x.1 x.2.1) (ht : ∀ u c v l, gt g.tgt (u, c) = some (v, l) → HasE g' u c v) : Keep g g' := by
  refine ⟨fun h => h.mono hm hp, ?_⟩
  rintro u c v ⟨u', v', l, h1, h2, h3⟩
  obtain ⟨u2, v2, l2, k1, k2, k3⟩ := ht _ _ _ _ h3
  exact ⟨u2, v2, l2, (h1.mono hm hp).trans k1, (h2.mono hm hp).trans k2, k3⟩
theorem HasE.of {g : G} {u c v : Nat} {l : Lab} (h : gt g.tgt (u, c) = some (v, l)) : HasE g u c v := ⟨u, v, l, .refl _, .refl _, h⟩
theorem HasE.conn {g : G} {u c v u' v' : Nat} (h : HasE g u c v) (hu : Conn g u' u) (hv : Conn g v' v) : HasE g u' c v' := by
  obtain ⟨a, b, l, h1, h2, h3⟩ := h
  exact ⟨a, b, l, hu.trans h1, hv.trans h2, h3⟩
theorem HasE.back {paths : List (List Nat)} {nm : Nat → List Nat} {g : G} (G_ : Good paths nm g) {u c v : Nat} (h : HasE g u c v) : HasE g v (bk c) u := by
  obtain ⟨a, b, l, h1, h2, h3⟩ := h
  obtain ⟨l', e⟩ := (G_.edge _ _ _ _ h3).2.2.2.2
  exact ⟨b, a, l', h2, h1, e⟩

/-! ### one more edge -/
structure Added (paths : List (List Nat)) (nm : Nat → List Nat) (g g' : G) (s c t : Nat) : Prop where
  good : Good paths nm g'
  keep : Keep g g'
  has : HasE g' s c t
  next : g'.next = g.next
  mrg : g'.mrg = g.mrg
  mu : mu g' ≤ mu g + 2
  few : g'.lines.length ≤ g.lines.length + 2
  ext : Ext g.lines g'.lines
  tgt : ∀ n d e, gt g'.tgt (n, d) = some e → gt g.tgt (n, d) = some e ∨ n = s ∨ n = t
theorem addEdge_ok {paths : List (List Nat)} {nm : Nat → List Nat} {g : G} (h : Good paths nm g) {s c t : Nat} {l : Lab} (hc : IsStep c) (hs : s < g.next) (ht : t < g.next) (hl : Lb paths g.lines l (nm s ++ [c]) (nm t)) : Added paths nm g (addEdge g s c t l) s c t := by
  have ns := h.nms s
  have nt := h.nms t
  have len1 : (nm s ++ [c]).length ≤ 61 := by rw [List.length_append]; simp; omega
  cases e1 : gt g.tgt (s, c) with
  | some e =>
    obtain ⟨n, k⟩ := e
    have he := h.edge _ _ _ _ e1
    have nn := h.nms n
    have a := inv_got h.sp h.lg hl (by omega)
    have b := prod_got h.sp a.lg a.lb (he.2.2.2.1.ext a.ext) (by omega)
    have eq : addEdge g s c t l = { g with lines := (prodL (invL g.lines l).1 (invL g.lines l).2 k).1, pend := g.pend ++ [(n, t, (prodL (invL g.lines l).1 (invL g.lines l).2 k).2)] } := by
      unfold addEdge
      rw [e1]
    rw [eq]
    have ext := a.ext.trans b.ext
    have h1 := h.lines b.lg ext
    have ct : Conn { g with lines := (prodL (invL g.lines l).1 (invL g.lines l).2 k).1, pend := g.pend ++ [(n, t, (prodL (invL g.lines l).1 (invL g.lines l).2 k).2)] } n t := .pend (x := (n, t, _)) (List.mem_append_right _ List.mem_cons_self)
    refine ⟨⟨h.sp, b.lg, h.pos, h.nm0, h.nms, h1.edge, h1.mrg, ?_⟩, ?_, ?_, rfl, rfl, ?_, ?_, ext, fun n d e q => .inl q⟩
    · intro x hx
      rcases List.mem_append.mp hx with z | z
      · exact h1.pend x z
      · rw [List.mem_singleton.mp z]
        exact ⟨he.2.2.1, ht, b.lb⟩
    · exact .of (fun r k l q => .mrg q) (fun x q => .pend (List.mem_append_left _ q)) (fun u c v l q => .of q)
    · exact ⟨s, n, k, .refl _, ct.symm, e1⟩
    · unfold mu
      simp only [List.length_append, List.length_cons, List.length_nil]
      omega
    · have := a.few
      have := b.few
      show (prodL _ _ _).1.length ≤ _
      omega
  | none =>
    cases e2 : gt g.tgt (t, bk c) with
    | some e =>
      obtain ⟨n, k⟩ := e
      have he := h.edge _ _ _ _ e2
      have nn := h.nms n
      -- s c ~ l t, t c' ~ k n, so s ~ l k n
      have hk : Lb paths g.lines k (nm t) (nm n ++ [c]) := by
        refine ⟨he.2.2.2.1.ok, ?_⟩
        have z := he.2.2.2.1.eq.app (Eqv.refl [c])
        have y : Eqv (nm t ++ [bk c] ++ [c]) (nm t) := by
          rw [List.append_assoc]
          have w : Eqv ([bk c] ++ [c]) [] := eqv_inv_left [c]
          have v := (Eqv.refl (nm t)).app w
          rw [List.append_nil] at v
          exact v
        exact y.symm.trans (z.trans (Eqv.of_eq (List.append_assoc _ _ _)))
      have b := prod_got h.sp h.lg hl hk (by rw [List.length_append, List.length_append]; simp; omega)
      have lb : Lb paths (prodL g.lines l k).1 (prodL g.lines l k).2 (nm s) (nm n) := by
        refine ⟨b.lb.ok, ?_⟩
        have z := b.lb.eq.app (Eqv.refl [bk c])
        have w : Eqv ([c] ++ [bk c]) [] := eqv_inv_right [c]
        have y : ∀ u : List Nat, Eqv (u ++ [c] ++ [bk c]) u := by
          intro u
          rw [List.append_assoc]
          have v := (Eqv.refl u).app w
          rw [List.append_nil] at v
          exact v
        rw [← List.append_assoc] at z
        exact (y _).symm.trans (z.trans (y _))
      have eq : addEdge g s c t l = { g with lines := (prodL g.lines l k).1, pend := g.pend ++ [(n, s, (prodL g.lines l k).2)] } := by
        unfold addEdge
        rw [e1]
        simp only [e2]
      rw [eq]
      have h1 := h.lines b.lg b.ext
      have ct : Conn { g with lines := (prodL g.lines l k).1, pend := g.pend ++ [(n, s, (prodL g.lines l k).2)] } n s := .pend (x := (n, s, _)) (List.mem_append_right _ List.mem_cons_self)
      obtain ⟨l', e3⟩ := he.2.2.2.2
      rw [bk_bk] at e3
      refine ⟨⟨h.sp, b.lg, h.pos, h.nm0, h.nms, h1.edge, h1.mrg, ?_⟩, ?_, ?_, rfl, rfl, ?_, ?_, b.ext, fun n d e q => .inl q⟩
      · intro x hx
        rcases List.mem_append.mp hx with z | z
        · exact h1.pend x z
        · rw [List.mem_singleton.mp z]
          exact ⟨he.2.2.1, hs, lb⟩
      · exact .of (fun r k l q => .mrg q) (fun x q => .pend (List.mem_append_left _ q)) (fun u c v l q => .of q)
      · exact ⟨n, t, l', ct.symm, .refl _, e3⟩
      · unfold mu
        simp only [List.length_append, List.length_cons, List.length_nil]
        omega
      · have := b.few
        show (prodL _ _ _).1.length ≤ _
        omega
    | none =>
      have a := inv_got h.sp h.lg hl (by omega)
      have eq : addEdge g s c t l = { g with lines := (invL g.lines l).1, tgt := pt (pt g.tgt (s, c) (t, l)) (t, bk c) (s, (invL g.lines l).2) } := by
        unfold addEdge
        rw [e1]
        simp only [e2]
      rw [eq]
      have h1 := h.lines a.lg a.ext
      have ne : ¬ (t, bk c) = (s, c) := fun z => bk_ne hc (Prod.ext_iff.mp z).2
      have look : ∀ k, gt (pt (pt g.tgt (s, c) (t, l)) (t, bk c) (s, (invL g.lines l).2)) k = if (t, bk c) = k then some (s, (invL g.lines l).2) else if (s, c) = k then some (t, l) else gt g.tgt k := by
        intro k
        rw [gt_pt, gt_pt]
      have lb2 : Lb paths (invL g.lines l).1 (invL g.lines l).2 (nm t ++ [bk c]) (nm s) := by
        refine ⟨a.lb.ok, ?_⟩
        have z := a.lb.eq.app (Eqv.refl [bk c])
        have w : Eqv ([c] ++ [bk c]) [] := eqv_inv_right [c]
        have y : ∀ u : List Nat, Eqv (u ++ [c] ++ [bk c]) u := by
          intro u
          rw [List.append_assoc]
          have v := (Eqv.refl u).app w
          rw [List.append_nil] at v
          exact v
        rw [← List.append_assoc] at z
        exact z.trans (y _)
      have old : ∀ k e, gt g.tgt k = some e → gt (pt (pt g.tgt (s, c) (t, l)) (t, bk c) (s, (invL g.lines l).2)) k = some e := by
        intro k e q
        rw [look, if_neg (fun z => by rw [← z, e2] at q; cases q), if_neg (fun z => by rw [← z, e1] at q; cases q)]
        exact q
      have new1 : gt (pt (pt g.tgt (s, c) (t, l)) (t, bk c) (s, (invL g.lines l).2)) (t, bk c) = some (s, (invL g.lines l).2) := by rw [look, if_pos rfl]
      have new2 : gt (pt (pt g.tgt (s, c) (t, l)) (t, bk c) (s, (invL g.lines l).2)) (s, c) = some (t, l) := by rw [look, if_neg ne, if_pos rfl]
      refine ⟨⟨h.sp, a.lg, h.pos, h.nm0, h.nms, ?_, h1.mrg, h1.pend⟩, ?_, ?_, rfl, rfl, ?_, ?_, a.ext, ?_⟩
      · intro n d m k q
        have q' := q
        simp only at q
        rw [look] at q
        by_cases z : (t, bk c) = (n, d)
        · rw [if_pos z] at q
          obtain ⟨rfl, rfl⟩ := Prod.ext_iff.mp z
          obtain ⟨rfl, rfl⟩ := Prod.ext_iff.mp (Option.some.inj q)
          refine ⟨bk_step hc, ht, hs, lb2, l, ?_⟩
          rw [bk_bk]
          exact new2
        · rw [if_neg z] at q
          by_cases y : (s, c) = (n, d)
          · rw [if_pos y] at q
            obtain ⟨rfl, rfl⟩ := Prod.ext_iff.mp y
            obtain ⟨rfl, rfl⟩ := Prod.ext_iff.mp (Option.some.inj q)
            exact ⟨hc, hs, ht, hl.ext a.ext, _, new1⟩
          · rw [if_neg y] at q
            obtain ⟨p1, p2, p3, p4, l', p5⟩ := h1.edge n d m k q
            exact ⟨p1, p2, p3, p4, l', old _ _ p5⟩
      · exact .of (fun r k l q => .mrg q) (fun x q => .pend q) (fun u c v l q => .of (old _ _ q))
      · exact .of new2
      · have z1 := length_pt_le g.tgt (s, c) (t, l)
        have z2 := length_pt_le (pt g.tgt (s, c) (t, l)) (t, bk c) (s, (invL g.lines l).2)
        unfold mu
        simp only
        omega
      · have := a.few
        show (invL _ _).1.length ≤ _
        omega
      · intro n d e q
        simp only at q
        rw [look] at q
        by_cases z : (t, bk c) = (n, d)
        · exact .inr (.inr (Prod.ext_iff.mp z).1.symm)
        · rw [if_neg z] at q
          by_cases y : (s, c) = (n, d)
          · exact .inr (.inl (Prod.ext_iff.mp y).1.symm)
          · rw [if_neg y] at q
            exact .inl q
end WK
end Text_WM4
section Text_WM5
set_option linter.all false
/-! WM5: the labelled folding: merging nodes. -/
namespace WK
section
variable {paths : List (List Nat)} {nm : Nat → List Nat}

/-! ### the root of a node -/
theorem chain_len (mrg : Mrg) (down_ : ∀ r k l, gt mrg r = some (k, l) → k < r) : ∀ (k n : Nat), (chain mrg k n).1.length ≤ (mrg.filter fun p => decide (p.1 ≤ n)).length := by
  intro k
  induction k with
  | zero => exact fun n => Nat.zero_le _
  | succ k ih =>
    intro n
    unfold chain
    cases e : gt mrg n with
    | none => exact Nat.zero_le _
    | some x =>
      obtain ⟨m, l⟩ := x
      have lt := down_ n m l e
      have h1 := ih m
      have mem := gt_mem e
      have h2 : (mrg.filter fun p => decide (p.1 ≤ m)).length + 1 ≤ (mrg.filter fun p => decide (p.1 ≤ n)).length := by
        have go : ∀ L : Mrg, (n, (m, l)) ∈ L → (L.filter fun p => decide (p.1 ≤ m)).length + 1 ≤ (L.filter fun p => decide (p.1 ≤ n)).length := by
          have le : ∀ L : Mrg, (L.filter fun p => decide (p.1 ≤ m)).length ≤ (L.filter fun p => decide (p.1 ≤ n)).length := by
            intro L
            induction L with
            | nil => exact Nat.le_refl _
            | cons q L ih =>
              rw [List.filter_cons, List.filter_cons]
              by_cases z : q.1 ≤ m
              · rw [if_pos (by simp [z]), if_pos (by simp; omega), List.length_cons, List.length_cons]
                omega
              · rw [if_neg (by simp; omega)]
                by_cases y : q.1 ≤ n
                · rw [if_pos (by simp [y]), List.length_cons]
                  omega
                · rw [if_neg (by simp; omega)]
                  exact ih
          intro L hL
          induction L with
          | nil => cases hL
          | cons q L ih =>
            rcases List.mem_cons.mp hL with rfl | z
            · rw [List.filter_cons, List.filter_cons, if_neg (by simp; omega), if_pos (by simp), List.length_cons]
              have := le L
              omega
            · have h := ih z
              rw [List.filter_cons, List.filter_cons]
              by_cases z : q.1 ≤ m
              · rw [if_pos (by simp [z]), if_pos (by simp; omega), List.length_cons, List.length_cons]
                omega
              · rw [if_neg (by simp; omega)]
                by_cases y : q.1 ≤ n
                · rw [if_pos (by simp [y]), List.length_cons]
                  omega
                · rw [if_neg (by simp; omega)]
                  exact h
        exact go mrg mem
      show ((chain mrg k m).1.length + 1) ≤ _
      omega
structure Root (next : Nat) (mrg : Mrg) (n : Nat) (c : List Nat × Nat) : Prop where
  root : gt mrg c.2 = none
  le : c.2 ≤ n
  mem : ∀ m ∈ c.1, (gt mrg m).isSome = true ∧ m ≤ n
theorem chain_root {next : Nat} {mrg : Mrg} (down_ : ∀ r k l, gt mrg r = some (k, l) → k < r) : ∀ (k n : Nat), n < k → Root next mrg n (chain mrg k n) := by
  intro k
  induction k with
  | zero => exact fun n h => (Nat.not_lt_zero _ h).elim
  | succ k ih =>
    intro n h
    unfold chain
    cases e : gt mrg n with
    | none => exact ⟨e, Nat.le_refl _, fun m z => nomatch z⟩
    | some x =>
      obtain ⟨m, l⟩ := x
      have lt := down_ n m l e
      have r := ih m (by omega)
      refine ⟨r.root, by have := r.le; show (chain mrg k m).2 ≤ n; omega, ?_⟩
      intro a ha
      rcases List.mem_cons.mp ha with rfl | z
      · exact ⟨by rw [e]; rfl, Nat.le_refl _⟩
      · exact ⟨(r.mem a z).1, by have := (r.mem a z).2; omega⟩
structure Cmp (paths : List (List Nat)) (nm : Nat → List Nat) (next : Nat) (ls : List Line) (mrg : Mrg) (n r c : Nat) (x : Cur) : Prop where
  lg : LG paths x.lines
  ext : Ext ls x.lines
  lb : Lb paths x.lines x.lab (nm n) (nm r)
  mOk : ∀ a k l, gt x.mrg a = some (k, l) → k < a ∧ a < next ∧ Lb paths x.lines l (nm a) (nm k)
  keys : ∀ a, (gt x.mrg a).isSome = (gt mrg a).isSome
  above : ∀ a, n < a → gt x.mrg a = gt mrg a
  len : x.mrg.length = mrg.length
  few : x.lines.length ≤ ls.length + c
  link : n = r ∨ ∃ l, gt x.mrg n = some (r, l)
  conn : ∀ E : Nat → Nat → Prop, Equivalence E → (∀ a k l, gt x.mrg a = some (k, l) → E a k) → ∀ a k l, gt mrg a = some (k, l) → E a k
theorem cmp_ok (sp : ∀ p ∈ paths, Steps p) {next : Nat} {ls : List Line} {mrg : Mrg} (nms : ∀ n, (nm n).length ≤ 60) (lg : LG paths ls) (hm : ∀ r k l, gt mrg r = some (k, l) → k < r ∧ r < next ∧ Lb paths ls l (nm r) (nm k)) :
    ∀ (k n : Nat), n < k → Cmp paths nm next ls mrg n (chain mrg k n).2 (chain mrg k n).1.length ((chain mrg k n).1.foldr (cmpStep (chain mrg k n).2) ⟨ls, mrg, none⟩) := by
  intro k
  induction k with
  | zero => exact fun n h => (Nat.not_lt_zero _ h).elim
  | succ k ih =>
    intro n h
    unfold chain
    cases e : gt mrg n with
    | none => exact ⟨lg, Ext.refl _, Lb.none _, hm, fun _ => rfl, fun _ _ => rfl, rfl, Nat.le_refl _, .inl rfl, fun E _ hE => hE⟩
    | some y =>
      obtain ⟨m, l⟩ := y
      have hn := hm n m l e
      have c := ih m (by omega)
      have r := chain_root (next := next) (fun r k l q => (hm r k l q).1) k m (by omega)
      simp only [List.foldr_cons]
      generalize hx : (chain mrg k m).1.foldr (cmpStep (chain mrg k m).2) ⟨ls, mrg, none⟩ = x at c ⊢
      generalize hr : (chain mrg k m).2 = rt at c r ⊢
      have at_ : gt x.mrg n = some (m, l) := by rw [c.above n hn.1]; exact e
      have lab : labOf x.mrg n = l := by unfold labOf; rw [at_]; rfl
      have lx := (c.mOk n m l at_).2.2
      have n1 := nms n
      have n2 := nms m
      have n3 := nms rt
      have p := prod_got sp c.lg lx c.lb (by omega)
      have z : cmpStep rt n x = ⟨(prodL x.lines l x.lab).1, pt x.mrg n (rt, (prodL x.lines l x.lab).2), (prodL x.lines l x.lab).2⟩ := by
        unfold cmpStep
        rw [lab]
      rw [z]
      have rle := r.le
      rw [hr] at rle
      refine ⟨p.lg, c.ext.trans p.ext, p.lb, ?_, ?_, ?_, ?_, ?_, .inr ⟨_, gt_pt_self _ _ _⟩, ?_⟩
      · intro a b l' q
        simp only at q
        rw [gt_pt] at q
        by_cases e' : n = a
        · rw [if_pos e'] at q
          obtain ⟨rfl, rfl⟩ := Prod.ext_iff.mp (Option.some.inj q)
          subst e'
          exact ⟨by show rt < n; omega, hn.2.1, p.lb⟩
        · rw [if_neg e'] at q
          have w := c.mOk a b l' q
          exact ⟨w.1, w.2.1, w.2.2.ext p.ext⟩
      · intro a
        show (gt (pt x.mrg n _) a).isSome = _
        rw [gt_pt]
        by_cases e' : n = a
        · rw [if_pos e', ← e', e]
          rfl
        · rw [if_neg e']
          exact c.keys a
      · intro a ha
        show gt (pt x.mrg n _) a = _
        rw [gt_pt_ne _ _ (by omega)]
        exact c.above a (by omega)
      · show (pt x.mrg n _).length = _
        rw [length_pt_old _ at_]
        exact c.len
      · have := c.few
        have := p.few
        show (prodL x.lines l x.lab).1.length ≤ ls.length + ((chain mrg k m).1.length + 1)
        omega
      · intro E eq hE a b l' q
        refine c.conn E eq ?_ a b l' q
        intro a b l' q
        by_cases e' : n = a
        · subst e'
          rw [at_] at q
          obtain ⟨rfl, rfl⟩ := Prod.ext_iff.mp (Option.some.inj q)
          have h1 : E n rt := hE n rt _ (gt_pt_self _ _ _)
          have h2 : E m rt := by
            rcases c.link with w | ⟨l2, w⟩
            · rw [w]
              exact eq.refl _
            · exact hE m rt l2 (by show gt (pt x.mrg n _) m = _; rw [gt_pt_ne _ _ (by omega)]; exact w)
          exact eq.trans h1 (eq.symm h2)
        · exact hE a b l' (by show gt (pt x.mrg n _) a = _; rw [gt_pt_ne _ _ e']; exact q)
theorem conn_equiv (g : G) : Equivalence (Conn g) := ⟨Conn.refl, Conn.symm, Conn.trans⟩
structure CurOk (paths : List (List Nat)) (nm : Nat → List Nat) (g : G) (n : Nat) : Prop where
  good : Good paths nm (curG g n)
  live : Live g → Live (curG g n)
  keep : Keep g (curG g n)
  root : gt (curG g n).mrg (curN g n) = none
  le : curN g n ≤ n
  lb : Lb paths (curG g n).lines (curL g n) (nm n) (nm (curN g n))
  ext : Ext g.lines (curG g n).lines
  few : (curG g n).lines.length ≤ g.lines.length + g.mrg.length
  len : (curG g n).mrg.length = g.mrg.length
  conn : Conn (curG g n) n (curN g n)
  keys : ∀ a, (gt (curG g n).mrg a).isSome = (gt g.mrg a).isSome
theorem cur_ok {g : G} (h : Good paths nm g) (n : Nat) : CurOk paths nm g n := by
  have c := cmp_ok (next := g.next) h.sp h.nms h.lg h.mrg (n + 1) n (Nat.lt_succ_self _)
  have r := chain_root (next := g.next) (fun r k l q => (h.mrg r k l q).1) (n + 1) n (Nat.lt_succ_self _)
  have len := chain_len g.mrg (fun r k l q => (h.mrg r k l q).1) (n + 1) n
  have len2 : (g.mrg.filter fun p => decide (p.1 ≤ n)).length ≤ g.mrg.length := List.length_filter_le _ _
  have h1 := h.lines c.lg c.ext
  have none_ : ∀ a, gt g.mrg a = none → gt (curG g n).mrg a = none := by
    intro a q
    have z := c.keys a
    rw [q] at z
    cases y : gt (curG g n).mrg a with
    | none => rfl
    | some v =>
      have y' : gt ((chain g.mrg (n + 1) n).1.foldr (cmpStep (chain g.mrg (n + 1) n).2) ⟨g.lines, g.mrg, none⟩).mrg a = some v := y
      rw [y'] at z
      cases z
  refine ⟨⟨h.sp, c.lg, h.pos, h.nm0, h.nms, h1.edge, c.mOk, h1.pend⟩, fun L n' d e q => none_ _ (L n' d e q), ?_, none_ _ r.root, r.le, c.lb, c.ext, ?_, c.len, ?_, c.keys⟩
  · exact .of (fun a b l q => c.conn _ (conn_equiv (curG g n)) (fun a k l q => .mrg q) a b l q) (fun x q => .pend q) (fun u c v l q => .of q)
  · have := c.few
    show ((chain g.mrg (n + 1) n).1.foldr (cmpStep (chain g.mrg (n + 1) n).2) ⟨g.lines, g.mrg, none⟩).lines.length ≤ _
    omega
  · rcases c.link with w | ⟨l, w⟩
    · have w' : n = curN g n := w
      rw [← w']
      exact .refl _
    · exact .mrg (l := l) w

/-! ### moving the edges of a node -/
theorem Lb.step {ls : List Line} {l : Lab} {x y : List Nat} (h : Lb paths ls l x y) (c : Nat) : Lb paths ls l (x ++ [c]) (y ++ [c]) := ⟨h.ok, (h.eq.app (Eqv.refl [c])).trans (Eqv.of_eq (List.append_assoc _ _ _))⟩
theorem Good.cut {g : G} (h : Good paths nm g) {r c t : Nat} {el : Lab} (e : gt g.tgt (r, c) = some (t, el)) : Good paths nm { g with tgt := dl (dl g.tgt (r, c)) (t, bk c) } where
  sp := h.sp
  lg := h.lg
  pos := h.pos
  nm0 := h.nm0
  nms := h.nms
  mrg := h.mrg
  pend := h.pend
  edge := by
    intro n d m l q
    obtain ⟨q1, ne1⟩ := gt_dl_some q
    obtain ⟨q2, ne2⟩ := gt_dl_some q1
    obtain ⟨p1, p2, p3, p4, l', p5⟩ := h.edge n d m l q2
    obtain ⟨l2, back⟩ := (h.edge _ _ _ _ e).2.2.2.2
    refine ⟨p1, p2, p3, p4, l', ?_⟩
    have a : (r, c) ≠ (m, bk d) := by
      intro z
      have z1 : r = m := congrArg Prod.fst z
      have z2 : c = bk d := congrArg Prod.snd z
      subst z1
      subst z2
      rw [p5] at e
      have z2 : n = t := (Prod.ext_iff.mp (Option.some.inj e)).1
      exact ne1 (by rw [bk_bk, z2])
    have b : (t, bk c) ≠ (m, bk d) := by
      intro z
      obtain ⟨z1, z2⟩ := Prod.ext_iff.mp z
      simp only at z1 z2
      have z3 := bk_inj z2
      subst z3
      subst z1
      rw [p5] at back
      have z2 := (Prod.ext_iff.mp (Option.some.inj back)).1
      simp only at z2
      exact ne2 (by rw [z2])
    show gt (dl (dl g.tgt (r, c)) (t, bk c)) (m, bk d) = _
    rw [gt_dl_ne _ b, gt_dl_ne _ a]
    exact p5
structure Moving (paths : List (List Nat)) (nm : Nat → List Nat) (g0 : G) (kept removed : Nat) (label back : Lab) (D : List Nat) (n : Nat) (g : G) : Prop where
  good : Good paths nm g
  keep : Keep g0 g
  lt : kept < removed
  lab : Lb paths g.lines label (nm removed) (nm kept)
  bak : Lb paths g.lines back (nm kept) (nm removed)
  link : gt g.mrg removed = some (kept, label)
  root : gt g.mrg kept = none
  live : ∀ n c e, gt g.tgt (n, c) = some e → n ≠ removed → gt g.mrg n = none
  done : ∀ c ∈ D, gt g.tgt (removed, c) = none
  mrg : g.mrg = g0.mrg
  next : g.next = g0.next
  mu : mu g ≤ mu g0
  few : g.lines.length ≤ n
  ext : Ext g0.lines g.lines
theorem move_ok {g0 g : G} {kept removed : Nat} {label back : Lab} {D : List Nat} {n : Nat} (h : Moving paths nm g0 kept removed label back D n g) (c : Nat) : Moving paths nm g0 kept removed label back (c :: D) (n + 4) (mergeStep kept removed label back g c) := by
  cases e : gt g.tgt (removed, c) with
  | none =>
    have z : mergeStep kept removed label back g c = g := by unfold mergeStep; rw [e]
    rw [z]
    refine ⟨h.good, h.keep, h.lt, h.lab, h.bak, h.link, h.root, h.live, ?_, h.mrg, h.next, h.mu, Nat.le_trans h.few (Nat.le_add_right _ _), h.ext⟩
    intro d hd
    rcases List.mem_cons.mp hd with rfl | hd
    · exact e
    · exact h.done d hd
  | some x =>
    obtain ⟨t, el⟩ := x
    have z : mergeStep kept removed label back g c = mergeEdge kept removed c t label back el g := by unfold mergeStep; rw [e]
    rw [z]
    obtain ⟨hc, hr, ht, hel, l', eb⟩ := h.good.edge _ _ _ _ e
    have cut := h.good.cut e
    have ne : (removed, c) ≠ (t, bk c) := fun z => bk_ne hc (Prod.ext_iff.mp z).2.symm
    have mu1 : (dl (dl g.tgt (removed, c)) (t, bk c)).length + 2 ≤ g.tgt.length := by
      have a1 := length_dl e
      have a2 := length_dl (l := dl g.tgt (removed, c)) (k := (t, bk c)) (v := (removed, l')) (by rw [gt_dl_ne _ ne]; exact eb)
      omega
    have kn : kept < g.next := by have := h.lt; omega
    have k1 := h.good.nms kept
    have k2 := h.good.nms removed
    have k3 := h.good.nms t
    have len1 : ∀ u : Nat, (nm u ++ [c]).length = (nm u).length + 1 := fun u => by rw [List.length_append]; rfl
    -- the common end
    have fin : ∀ (ls : List Line) (t' : Nat) (p : Lab), LG paths ls → Ext g.lines ls → ls.length ≤ g.lines.length + 2 → t' < g.next → Lb paths ls p (nm kept ++ [c]) (nm t') → t' ≠ removed → gt g.mrg t' = none → (∀ g' : G, (∀ a b, Conn g a b → Conn g' a b) → Conn g' t t') →
        Moving paths nm g0 kept removed label back (c :: D) (n + 4) (addEdge { g with lines := ls, tgt := dl (dl g.tgt (removed, c)) (t, bk c) } kept c t' p) := by
      intro ls t' p lg ext few tn lb tne troot tc
      have g1 : Good paths nm { g with lines := ls, tgt := dl (dl g.tgt (removed, c)) (t, bk c) } := cut.lines lg ext
      have a := addEdge_ok g1 hc kn tn lb
      generalize addEdge { g with lines := ls, tgt := dl (dl g.tgt (removed, c)) (t, bk c) } kept c t' p = g' at a ⊢
      have cn : ∀ a b, Conn g a b → Conn g' a b := fun x y q => by
        have q' : Conn { g with lines := ls, tgt := dl (dl g.tgt (removed, c)) (t, bk c) } x y := Conn.mono (g := g) (g' := { g with lines := ls, tgt := dl (dl g.tgt (removed, c)) (t, bk c) }) (fun r k l q => .mrg (l := l) q) (fun x q => .pend q) q
        exact a.keep.conn q'
      have ck : Conn g' removed kept := cn _ _ (.mrg h.link)
      have ctt := tc g' cn
      have old : ∀ u d v l, gt g.tgt (u, d) = some (v, l) → HasE g' u d v := by
        intro u d v l q
        by_cases y1 : (removed, c) = (u, d)
        · obtain ⟨rfl, rfl⟩ := Prod.ext_iff.mp y1
          simp only at q
          rw [e] at q
          obtain ⟨rfl, rfl⟩ := Prod.ext_iff.mp (Option.some.inj q)
          exact a.has.conn ck ctt
        · by_cases y2 : (t, bk c) = (u, d)
          · obtain ⟨rfl, rfl⟩ := Prod.ext_iff.mp y2
            simp only at q
            rw [eb] at q
            obtain ⟨rfl, rfl⟩ := Prod.ext_iff.mp (Option.some.inj q)
            exact (a.has.conn ck ctt).back a.good
          · refine a.keep.has (.of (l := l) ?_)
            show gt (dl (dl g.tgt (removed, c)) (t, bk c)) (u, d) = _
            rw [gt_dl_ne _ y2, gt_dl_ne _ y1]
            exact q
      have ext2 : Ext g.lines g'.lines := ext.trans a.ext
      refine ⟨a.good, h.keep.trans (.of (fun r k l q => cn _ _ (.mrg q)) (fun x q => cn _ _ (.pend q)) old), h.lt, h.lab.ext ext2, h.bak.ext ext2, ?_, ?_, ?_, ?_, a.mrg.trans h.mrg, a.next.trans h.next, ?_, ?_, h.ext.trans ext2⟩
      · rw [a.mrg]
        exact h.link
      · rw [a.mrg]
        exact h.root
      · intro n' d e' q hne
        rw [a.mrg]
        rcases a.tgt n' d e' q with y | rfl | rfl
        · exact h.live n' d e' (gt_dl_some (gt_dl_some y).1).1 hne
        · exact h.root
        · exact troot
      · intro d hd
        cases q : gt g'.tgt (removed, d) with
        | none => rfl
        | some e' =>
          exfalso
          rcases a.tgt removed d e' q with y | y | y
          · obtain ⟨y1, n1⟩ := gt_dl_some y
            obtain ⟨y2, n2⟩ := gt_dl_some y1
            rcases List.mem_cons.mp hd with rfl | hd
            · exact n2 rfl
            · rw [h.done d hd] at y2
              cases y2
          · have := h.lt
            omega
          · exact tne y.symm
      · have m1 := a.mu
        have m2 := h.mu
        unfold WK.mu at m1 m2 ⊢
        simp only at m1
        omega
      · have m1 := a.few
        have m2 := h.few
        simp only at m1
        omega
    unfold mergeEdge
    by_cases et : t = removed
    · rw [if_pos et]
      subst et
      have p1 := prod_got h.good.sp h.good.lg hel h.lab (by rw [len1]; omega)
      have p2 := prod_got h.good.sp p1.lg ((h.bak.ext p1.ext).step c) p1.lb (by rw [len1, len1]; omega)
      refine fin _ kept _ p2.lg (p1.ext.trans p2.ext) ?_ kn p2.lb ?_ h.root ?_
      · have := p1.few
        have := p2.few
        omega
      · have := h.lt
        omega
      · exact fun g' cn => cn _ _ (.mrg h.link)
    · rw [if_neg et]
      have p2 := prod_got h.good.sp h.good.lg (h.bak.step c) hel (by rw [len1, len1]; omega)
      refine fin _ t _ p2.lg p2.ext ?_ ht p2.lb et (h.live _ _ _ eb et) (fun g' cn => .refl _)
      have := p2.few
      omega
theorem moves_ok {g0 : G} {kept removed : Nat} {label back : Lab} : ∀ (L : List Nat) {g : G} {D : List Nat} {n : Nat}, Moving paths nm g0 kept removed label back D n g → Moving paths nm g0 kept removed label back (L.reverse ++ D) (n + 4 * L.length) (L.foldl (mergeStep kept removed label back) g) := by
  intro L
  induction L with
  | nil => exact fun h => h
  | cons c L ih =>
    intro g D n h
    have z := ih (move_ok h c)
    have e1 : (c :: L).reverse ++ D = L.reverse ++ c :: D := by simp
    have e2 : n + 4 * (c :: L).length = n + 4 + 4 * L.length := by rw [List.length_cons]; omega
    rw [e1, e2]
    exact z
structure Merged (paths : List (List Nat)) (nm : Nat → List Nat) (g g' : G) (n : Nat) : Prop where
  good : Good paths nm g'
  live : Live g'
  keep : Keep g g'
  next : g'.next = g.next
  mu : mu g' ≤ mu g
  few : g'.lines.length ≤ n
  len : g'.mrg.length ≤ g.mrg.length + 1
theorem moves_start {g : G} (h : Good paths nm g) (L : Live g) {kept removed : Nat} {label : Lab} (lt : kept < removed) (rn : removed < g.next) (rk : gt g.mrg kept = none) (rr : gt g.mrg removed = none) (lb : Lb paths g.lines label (nm removed) (nm kept)) :
    Moving paths nm { g with lines := (invL g.lines label).1, mrg := pt g.mrg removed (kept, label) } kept removed label (invL g.lines label).2 [] (g.lines.length + 1) { g with lines := (invL g.lines label).1, mrg := pt g.mrg removed (kept, label) } := by
  have k1 := h.nms kept
  have k2 := h.nms removed
  have b := inv_got h.sp h.lg lb (by omega)
  have h1 := h.lines b.lg b.ext
  refine ⟨⟨h.sp, b.lg, h.pos, h.nm0, h.nms, h1.edge, ?_, h1.pend⟩, .refl _, lt, lb.ext b.ext, b.lb, gt_pt_self _ _ _, ?_, ?_, (fun _ z => by cases z), rfl, rfl, Nat.le_refl _, b.few, Ext.refl _⟩
  · intro r k l q
    simp only at q
    rw [gt_pt] at q
    by_cases e : removed = r
    · rw [if_pos e] at q
      obtain ⟨rfl, rfl⟩ := Prod.ext_iff.mp (Option.some.inj q)
      subst e
      exact ⟨lt, rn, lb.ext b.ext⟩
    · rw [if_neg e] at q
      exact h1.mrg r k l q
  · show gt (pt g.mrg removed _) kept = none
    rw [gt_pt_ne _ _ (by omega)]
    exact rk
  · intro n c e q ne
    show gt (pt g.mrg removed _) n = none
    rw [gt_pt_ne _ _ (fun z => ne z.symm)]
    exact L n c e q
theorem merge_ok {g : G} (h : Good paths nm g) (L : Live g) {kept removed : Nat} {label : Lab} (lt : kept < removed) (rn : removed < g.next) (rk : gt g.mrg kept = none) (rr : gt g.mrg removed = none) (lb : Lb paths g.lines label (nm removed) (nm kept)) :
    Merged paths nm g (mergeG g kept removed label) (g.lines.length + 33) ∧ Conn (mergeG g kept removed label) removed kept := by
  have k1 := h.nms kept
  have k2 := h.nms removed
  have b := inv_got h.sp h.lg lb (by omega)
  have h1 := h.lines b.lg b.ext
  have keep0 : Keep g { g with lines := (invL g.lines label).1, mrg := pt g.mrg removed (kept, label) } := by
    refine .of (fun r k l q => .mrg (l := l) ?_) (fun x q => .pend q) (fun u c v l q => .of q)
    show gt (pt g.mrg removed _) r = _
    rw [gt_pt_ne _ _ (fun z => by rw [← z, rr] at q; cases q)]
    exact q
  have start := moves_start h L lt rn rk rr lb
  have m := moves_ok steps8 start
  have eq : steps8.foldl (mergeStep kept removed label (invL g.lines label).2) { g with lines := (invL g.lines label).1, mrg := pt g.mrg removed (kept, label) } = mergeG g kept removed label := rfl
  rw [eq] at m
  refine ⟨⟨m.good, ?_, keep0.trans m.keep, m.next, m.mu, ?_, ?_⟩, .mrg m.link⟩
  · intro n c e q
    by_cases ne : n = removed
    · exfalso
      subst ne
      have hc := (m.good.edge n c e.1 e.2 q).1
      have mem : c ∈ steps8 := by
        rcases isStep_cases hc with rfl | rfl | rfl | rfl | rfl | rfl | rfl | rfl <;> decide
      rw [m.done c (List.mem_append_left _ (List.mem_reverse.mpr mem))] at q
      cases q
    · exact m.live n c e q ne
  · have := m.few
    have e : g.lines.length + 1 + 4 * steps8.length = g.lines.length + 33 := rfl
    omega
  · rw [m.mrg]
    exact length_pt_le _ _ _
theorem join_ok {g : G} (h : Good paths nm g) (L : Live g) {f s f0 s0 : Nat} {l fl sl : Lab} (fn : f < g.next) (sn : s < g.next) (rf : gt g.mrg f = none) (rs : gt g.mrg s = none)
    (hl : Lb paths g.lines l (nm s0) (nm f0)) (hf : Lb paths g.lines fl (nm f0) (nm f)) (hs : Lb paths g.lines sl (nm s0) (nm s)) :
    Merged paths nm g (joinG g f s l fl sl) (g.lines.length + 37) ∧ Conn (joinG g f s l fl sl) f s := by
  unfold joinG
  by_cases e : f = s
  · rw [if_pos e, e]
    exact ⟨⟨h, L, .refl _, rfl, Nat.le_refl _, Nat.le_add_right _ _, Nat.le_succ _⟩, .refl _⟩
  · rw [if_neg e]
    have k1 := h.nms f
    have k2 := h.nms s
    have k3 := h.nms f0
    have k4 := h.nms s0
    have a := inv_got h.sp h.lg hs (by omega)
    have b := prod_got h.sp a.lg a.lb (hl.ext a.ext) (by omega)
    have c := prod_got h.sp b.lg b.lb (hf.ext (a.ext.trans b.ext)) (by omega)
    have ext := (a.ext.trans b.ext).trans c.ext
    have a1 := a.few
    have b1 := b.few
    have c1 := c.few
    simp only
    have keepL : ∀ ls : List Line, Keep g { g with lines := ls } := fun ls => .of (fun r k l q => .mrg q) (fun x q => .pend q) (fun u c v l q => .of q)
    by_cases lt : s < f
    · rw [if_pos lt]
      have d := inv_got h.sp c.lg c.lb (by omega)
      have m := merge_ok (h.lines d.lg (ext.trans d.ext)) L lt fn rs rf d.lb
      refine ⟨⟨m.1.good, m.1.live, (keepL _).trans m.1.keep, m.1.next, m.1.mu, ?_, m.1.len⟩, m.2⟩
      have := m.1.few
      have d1 := d.few
      simp only at this
      omega
    · rw [if_neg lt]
      have m := merge_ok (h.lines c.lg ext) L (by omega) sn rf rs c.lb
      refine ⟨⟨m.1.good, m.1.live, (keepL _).trans m.1.keep, m.1.next, m.1.mu, ?_, m.1.len⟩, m.2.symm⟩
      have := m.1.few
      simp only at this
      omega
theorem pop_ok {g : G} (h : Good paths nm g) (L : Live g) {x : Nat × Nat × Lab} (fn : x.1 < g.next) (sn : x.2.1 < g.next) (hl : Lb paths g.lines x.2.2 (nm x.2.1) (nm x.1)) :
    Merged paths nm g (popG g x) (g.lines.length + 2 * g.mrg.length + 37) ∧ Conn (popG g x) x.1 x.2.1 := by
  have a := cur_ok h x.1
  have b := cur_ok a.good x.2.1
  have al := a.le
  have bl := b.le
  have root1 : gt (curG (curG g x.1) x.2.1).mrg (curN g x.1) = none := by
    have z := b.keys (curN g x.1)
    rw [a.root] at z
    exact Option.isNone_iff_eq_none.mp (by simpa using z)
  have j := join_ok (f := curN g x.1) (s := curN (curG g x.1) x.2.1) b.good (b.live (a.live L)) (by show _ < g.next; omega) (by show _ < g.next; omega) root1 b.root (hl.ext (a.ext.trans b.ext)) (a.lb.ext b.ext) b.lb
  have eq : joinG (curG (curG g x.1) x.2.1) (curN g x.1) (curN (curG g x.1) x.2.1) x.2.2 (curL g x.1) (curL (curG g x.1) x.2.1) = popG g x := rfl
  rw [eq] at j
  refine ⟨⟨j.1.good, j.1.live, a.keep.trans (b.keep.trans j.1.keep), j.1.next, j.1.mu, ?_, ?_⟩, ?_⟩
  · have h1 := j.1.few
    have h2 := a.few
    have h3 := b.few
    have h4 := a.len
    omega
  · have h1 := j.1.len
    have h2 := a.len
    have h3 := b.len
    omega
  · exact (j.1.keep.conn (b.keep.conn a.conn)).trans (j.2.trans (j.1.keep.conn b.conn).symm)

/-! ### all pending pairs -/
/-- P pairs taken so far, A edges added, B lines added before -/
structure Cnt (P A B : Nat) (g : G) : Prop where
  mu : mu g + 2 * P ≤ 2 * A
  len : g.mrg.length ≤ P
  few : g.lines.length ≤ B + P * P + 36 * P
theorem last_split {α : Type} {l : List α} {x : α} (h : l.getLast? = some x) : l = l.dropLast ++ [x] := by
  obtain ⟨ys, rfl⟩ := List.getLast?_eq_some_iff.mp h
  simp
theorem mergeAll_ok {A B : Nat} : ∀ (k : Nat) {g : G} {P : Nat}, mu g ≤ k → Good paths nm g → Live g → Cnt P A B g →
    ∃ P', Good paths nm (mergeAll k g) ∧ Live (mergeAll k g) ∧ Keep g (mergeAll k g) ∧ Cnt P' A B (mergeAll k g) ∧ (mergeAll k g).pend = [] ∧ (mergeAll k g).next = g.next := by
  intro k
  induction k with
  | zero =>
    intro g P hk h L c
    refine ⟨P, h, L, .refl _, c, ?_, rfl⟩
    unfold mu at hk
    exact List.length_eq_zero_iff.mp (by show g.pend.length = 0; omega)
  | succ k ih =>
    intro g P hk h L c
    cases e : g.pend.getLast? with
    | none =>
      have z : mergeAll (k + 1) g = g := by
        unfold mergeAll
        rw [e]
      rw [z]
      exact ⟨P, h, L, .refl _, c, List.getLast?_eq_none_iff.mp e, rfl⟩
    | some x =>
      have z : mergeAll (k + 1) g = mergeAll k (popG { g with pend := g.pend.dropLast } x) := by
        show (match g.pend.getLast? with | none => g | some x => mergeAll k (popG { g with pend := g.pend.dropLast } x)) = _
        rw [e]
      rw [z]
      have sp := last_split e
      have xm : x ∈ g.pend := by rw [sp]; exact List.mem_append_right _ List.mem_cons_self
      have px := h.pend x xm
      have h1 : Good paths nm { g with pend := g.pend.dropLast } := ⟨h.sp, h.lg, h.pos, h.nm0, h.nms, h.edge, h.mrg, fun y hy => h.pend y (by rw [sp]; exact List.mem_append_left _ hy)⟩
      have p := pop_ok h1 L px.1 px.2.1 px.2.2
      have len : g.pend.length = g.pend.dropLast.length + 1 := by
        have z := congrArg List.length sp
        rw [List.length_append] at z
        exact z
      have keep : Keep g (popG { g with pend := g.pend.dropLast } x) := by
        have cn : ∀ {a b}, Conn { g with pend := g.pend.dropLast } a b → Conn (popG { g with pend := g.pend.dropLast } x) a b := p.1.keep.conn
        refine .of (fun r k l q => cn (.mrg (l := l) q)) ?_ (fun u c v l q => p.1.keep.has (.of (l := l) q))
        intro y hy
        rw [sp] at hy
        rcases List.mem_append.mp hy with hy | hy
        · exact cn (.pend hy)
        · rw [List.mem_singleton.mp hy]
          exact p.2
      have m1 : mu { g with pend := g.pend.dropLast } + 2 = mu g := by
        unfold mu
        show g.tgt.length + 2 * g.pend.dropLast.length + 2 = g.tgt.length + 2 * g.pend.length
        omega
      have m2 := p.1.mu
      have c1 := c.mu
      have c2 := c.len
      have c3 := c.few
      have p1 := p.1.few
      have p2 := p.1.len
      simp only at p1 p2
      have sq : (P + 1) * (P + 1) = P * P + 2 * P + 1 := by
        rw [Nat.add_mul, Nat.mul_add]
        omega
      obtain ⟨P', r1, r2, r3, r4, r5, r6⟩ := ih (P := P + 1) (by omega) p.1.good p.1.live ⟨by omega, by omega, by rw [sq]; omega⟩
      exact ⟨P', r1, r2, keep.trans r3, r4, r5, r6.trans p.1.next⟩
end
end WK
end Text_WM5
section Text_WM6
set_option linter.all false
/-! WM6: the labelled folding: a generator's cycle, all generators, the derivation of a goal. -/
namespace WK
section
variable {paths : List (List Nat)} {nm : Nat → List Nat}

/-! ### walks in the graph -/
def dT (g : G) : Graph := fun n c => (gt g.tgt (n, c)).map (·.1)
theorem Good.symm {g : G} (h : Good paths nm g) : Sym (dT g) := by
  intro n c m e
  obtain ⟨x, hx, rfl⟩ := Option.map_eq_some_iff.mp e
  obtain ⟨l', e'⟩ := (h.edge n c x.1 x.2 hx).2.2.2.2
  show (gt g.tgt _).map _ = _
  rw [e']
  rfl
def PathE (g : G) : Nat → List Nat → Nat → Prop
  | u, [], v => Conn g u v
  | u, c :: w, v => ∃ x, HasE g u c x ∧ PathE g x w v
theorem PathE.keep {g g' : G} (k : Keep g g') : ∀ {w : List Nat} {u v : Nat}, PathE g u w v → PathE g' u w v := by
  intro w
  induction w with
  | nil => exact fun h => k.conn h
  | cons c w ih => exact fun ⟨x, h1, h2⟩ => ⟨x, k.has h1, ih h2⟩
theorem PathE.app {g : G} : ∀ {w : List Nat} {u v : Nat} {w' : List Nat} {x : Nat}, PathE g u w v → PathE g v w' x → PathE g u (w ++ w') x := by
  intro w
  induction w with
  | nil =>
    intro u v w' x h h'
    cases w' with
    | nil => exact Conn.trans h h'
    | cons c w' =>
      obtain ⟨y, h1, h2⟩ := h'
      exact ⟨y, h1.conn h (.refl _), h2⟩
  | cons c w ih =>
    intro u v w' x ⟨y, h1, h2⟩ h'
    exact ⟨y, h1, ih h2 h'⟩
theorem PathE.one {g : G} {u c v : Nat} (h : HasE g u c v) : PathE g u [c] v := ⟨v, h, .refl _⟩
structure Walked (paths : List (List Nat)) (nm : Nat → List Nat) (g : G) (pre : List Nat) (x : Wk) : Prop where
  lg : LG paths x.lines
  ext : Ext g.lines x.lines
  lb : Lb paths x.lines x.lab pre (nm x.node)
  lt : x.node < g.next
  path : PathE g 0 pre x.node
  run : run (dT g) 0 pre = some x.node
  pos : x.pos = pre.length
  few : x.lines.length ≤ g.lines.length + pre.length
theorem walk_ok {g : G} (h : Good paths nm g) : ∀ (w pre : List Nat) (x : Wk), (pre ++ w).length ≤ 60 → Walked paths nm g pre x →
    ∃ pre' rest, pre ++ w = pre' ++ rest ∧ Walked paths nm g pre' (walkL g.tgt w x) ∧ (∀ c r, rest = c :: r → gt g.tgt ((walkL g.tgt w x).node, c) = none) := by
  intro w
  induction w with
  | nil => exact fun pre x few W => ⟨pre, [], rfl, W, fun c r e => nomatch e⟩
  | cons c w ih =>
    intro pre x few W
    cases e : gt g.tgt (x.node, c) with
    | none =>
      have z : walkL g.tgt (c :: w) x = x := by
        show (match gt g.tgt (x.node, c) with | none => x | some e => _) = x
        rw [e]
      rw [z]
      refine ⟨pre, c :: w, rfl, W, ?_⟩
      intro d r q
      rw [← (List.cons.inj q).1]
      exact e
    | some y =>
      obtain ⟨m, l⟩ := y
      have z : walkL g.tgt (c :: w) x = walkL g.tgt w ⟨(prodL x.lines x.lab l).1, m, (prodL x.lines x.lab l).2, x.pos + 1⟩ := by
        show (match gt g.tgt (x.node, c) with | none => x | some e => walkL g.tgt w ⟨(prodL x.lines x.lab e.2).1, e.1, (prodL x.lines x.lab e.2).2, x.pos + 1⟩) = _
        rw [e]
      rw [z]
      obtain ⟨hc, hn, hm, hl, _⟩ := h.edge _ _ _ _ e
      have n1 := h.nms x.node
      have n2 := h.nms m
      have few' : pre.length + (w.length + 1) ≤ 60 := by
        rw [List.length_append, List.length_cons] at few
        exact few
      have p := prod_got h.sp W.lg (W.lb.step c) (hl.ext W.ext) (by simp only [List.length_append, List.length_cons, List.length_nil]; omega)
      have assoc : pre ++ c :: w = (pre ++ [c]) ++ w := by simp
      rw [assoc]
      refine ih (pre ++ [c]) _ (by rw [← assoc]; exact few) ⟨p.lg, W.ext.trans p.ext, p.lb, hm, W.path.app (.one (.of e)), ?_, ?_, ?_⟩
      · rw [run_append, W.run]
        show ((dT g) x.node c).bind _ = _
        have q : dT g x.node c = some m := by
          show (gt g.tgt _).map _ = _
          rw [e]
          rfl
        rw [q]
        rfl
      · show x.pos + 1 = _
        rw [W.pos, List.length_append]
        rfl
      · have := p.few
        have := W.few
        rw [List.length_append]
        show (prodL x.lines x.lab l).1.length ≤ _
        simp only [List.length_cons, List.length_nil]
        omega
theorem walk0_ok {g : G} (h : Good paths nm g) (w : List Nat) (few : w.length ≤ 60) :
    ∃ pre rest, w = pre ++ rest ∧ Walked paths nm g pre (walk0 g w) ∧ (∀ c r, rest = c :: r → gt g.tgt ((walk0 g w).node, c) = none) := by
  refine walk_ok h w [] ⟨g.lines, 0, none, 0⟩ few ⟨h.lg, Ext.refl _, ?_, h.pos, .refl _, rfl, rfl, Nat.le_refl _⟩
  rw [h.nm0]
  exact Lb.none _

/-! ### a generator's cycle -/
theorem Good.names {g : G} (h : Good paths nm g) {nm' : Nat → List Nat} (same : ∀ n, n < g.next → nm' n = nm n) (few : ∀ n, (nm' n).length ≤ 60) : Good paths nm' g where
  sp := h.sp
  lg := h.lg
  pos := h.pos
  nm0 := by rw [same 0 h.pos]; exact h.nm0
  nms := few
  edge := fun n c m l q => by
    have z := h.edge n c m l q
    refine ⟨z.1, z.2.1, z.2.2.1, ?_, z.2.2.2.2⟩
    rw [same _ z.2.1, same _ z.2.2.1]
    exact z.2.2.2.1
  mrg := fun r k l q => by
    have z := h.mrg r k l q
    refine ⟨z.1, z.2.1, ?_⟩
    rw [same _ z.2.1, same k (by omega)]
    exact z.2.2
  pend := fun x q => by
    have z := h.pend x q
    refine ⟨z.1, z.2.1, ?_⟩
    rw [same _ z.1, same _ z.2.1]
    exact z.2.2
theorem Good.more {g : G} (h : Good paths nm g) {n : Nat} (le : g.next ≤ n) : Good paths nm { g with next := n } where
  sp := h.sp
  lg := h.lg
  pos := Nat.lt_of_lt_of_le h.pos le
  nm0 := h.nm0
  nms := h.nms
  edge := fun a c m l q => have z := h.edge a c m l q; ⟨z.1, Nat.lt_of_lt_of_le z.2.1 le, Nat.lt_of_lt_of_le z.2.2.1 le, z.2.2.2.1, z.2.2.2.2⟩
  mrg := fun r k l q => have z := h.mrg r k l q; ⟨z.1, Nat.lt_of_lt_of_le z.2.1 le, z.2.2⟩
  pend := fun x q => have z := h.pend x q; ⟨Nat.lt_of_lt_of_le z.1 le, Nat.lt_of_lt_of_le z.2.1 le, z.2.2⟩
theorem addEdge_next (g : G) (s c t : Nat) (l : Lab) (n : Nat) : { addEdge g s c t l with next := n } = addEdge { g with next := n } s c t l := by
  unfold addEdge
  simp only
  cases gt g.tgt (s, c) with
  | some e => rfl
  | none =>
    cases gt g.tgt (t, bk c) with
    | some e => rfl
    | none => rfl
theorem Keep.same {g g' : G} (hm : g'.mrg = g.mrg) (hp : g'.pend = g.pend) (ht : g'.tgt = g.tgt) : Keep g g' :=
  .of (fun r k l q => .mrg (l := l) (by rw [hm]; exact q)) (fun x q => .pend (by rw [hp]; exact q)) (fun u c v l q => .of (l := l) (by rw [ht]; exact q))
theorem Good.fresh {g : G} (h : Good paths nm g) {n : Nat} (hn : g.next ≤ n) : gt g.mrg n = none := by
  cases e : gt g.mrg n with
  | none => rfl
  | some x =>
    have z := (h.mrg n x.1 x.2 e).2.1
    omega
theorem Good.root0 {g : G} (h : Good paths nm g) : gt g.mrg 0 = none := by
  cases e : gt g.mrg 0 with
  | none => rfl
  | some x =>
    have z := (h.mrg 0 x.1 x.2 e).1
    omega
structure Mid (paths : List (List Nat)) (nm : Nat → List Nat) (g0 : G) (L0 : Nat) (k : Nat) (pre : List Nat) (x : G × Nat × Lab) : Prop where
  good : Good paths nm x.1
  live : Live x.1
  keep : Keep g0 x.1
  lt : x.2.1 < x.1.next
  root : gt x.1.mrg x.2.1 = none
  lb : Lb paths x.1.lines x.2.2 (nm x.2.1) pre
  path : PathE x.1 0 pre x.2.1
  mrg : x.1.mrg = g0.mrg
  mu : mu x.1 ≤ mu g0 + 2 * k
  few : x.1.lines.length ≤ L0 + 2 * k
  next : x.1.next = g0.next + k
theorem mid_ok {g0 : G} {L0 k : Nat} {pre : List Nat} {x : G × Nat × Lab} {c : Nat} (h : Mid paths nm g0 L0 k pre x) (hc : IsStep c) (name : nm x.1.next = pre ++ [c]) : Mid paths nm g0 L0 (k + 1) (pre ++ [c]) (midStep x c) := by
  obtain ⟨g, node, lab⟩ := x
  have hg : Good paths nm g := h.good
  have hlt : node < g.next := h.lt
  have e : midStep (g, node, lab) c = (addEdge { g with next := g.next + 1 } node c g.next lab, g.next, none) := by
    have z := addEdge_next g node c g.next lab (g.next + 1)
    show ({ addEdge g node c g.next lab with next := g.next + 1 }, g.next, (none : Lab)) = _
    rw [z]
  rw [e]
  have g1 : Good paths nm { g with next := g.next + 1 } := hg.more (Nat.le_succ _)
  have lb : Lb paths g.lines lab (nm node ++ [c]) (nm g.next) := by
    have z : Lb paths g.lines lab (nm node ++ [c]) (pre ++ [c]) := h.lb.step c
    rw [← name] at z
    exact z
  have a := addEdge_ok g1 hc (show node < g.next + 1 by omega) (Nat.lt_succ_self _) lb
  generalize addEdge { g with next := g.next + 1 } node c g.next lab = g' at a ⊢
  have fr := hg.fresh (Nat.le_refl g.next)
  have keep1 : Keep g { g with next := g.next + 1 } := .same rfl rfl rfl
  have mg : g'.mrg = g.mrg := a.mrg
  have nx : g'.next = g.next + 1 := a.next
  refine ⟨a.good, ?_, h.keep.trans (keep1.trans a.keep), ?_, ?_, ?_, ?_, mg.trans h.mrg, ?_, ?_, ?_⟩
  · intro n d e' q
    show gt g'.mrg n = none
    rw [mg]
    rcases a.tgt n d e' q with z | z | z
    · exact h.live n d e' z
    · rw [z]
      exact h.root
    · rw [z]
      exact fr
  · show g.next < g'.next
    omega
  · show gt g'.mrg g.next = none
    rw [mg]
    exact fr
  · show Lb paths g'.lines none (nm g.next) (pre ++ [c])
    rw [← name]
    exact Lb.none _
  · exact ((h.path.keep keep1).keep a.keep).app (.one a.has)
  · have m1 := a.mu
    have m2 : WK.mu g ≤ WK.mu g0 + 2 * k := h.mu
    have m3 : WK.mu { g with next := g.next + 1 } = WK.mu g := rfl
    show WK.mu g' ≤ _
    omega
  · have m1 : g'.lines.length ≤ g.lines.length + 2 := a.few
    have m2 : g.lines.length ≤ L0 + 2 * k := h.few
    show g'.lines.length ≤ _
    omega
  · have m2 : g.next = g0.next + k := h.next
    show g'.next = _
    omega
theorem mids_ok {g0 : G} {L0 : Nat} : ∀ (L : List Nat) {k : Nat} {pre : List Nat} {x : G × Nat × Lab}, Mid paths nm g0 L0 k pre x → (∀ c ∈ L, IsStep c) → (∀ j, j < L.length → nm (g0.next + k + j) = pre ++ L.take (j + 1)) → Mid paths nm g0 L0 (k + L.length) (pre ++ L) (L.foldl midStep x) := by
  intro L
  induction L with
  | nil =>
    intro k pre x h _ _
    rw [List.append_nil]
    exact h
  | cons c L ih =>
    intro k pre x h hs hn
    have name : nm x.1.next = pre ++ [c] := by
      rw [h.next]
      exact hn 0 (by rw [List.length_cons]; omega)
    have z := ih (mid_ok h (hs c List.mem_cons_self) name) (fun d hd => hs d (List.mem_cons_of_mem _ hd)) (by
      intro j hj
      have y := hn (j + 1) (by rw [List.length_cons]; omega)
      rw [show g0.next + (k + 1) + j = g0.next + k + (j + 1) by omega, y]
      simp)
    have e1 : pre ++ c :: L = pre ++ [c] ++ L := by simp
    have e2 : k + (c :: L).length = k + 1 + L.length := by rw [List.length_cons]; omega
    rw [e1, e2]
    exact z
/-- the outcome of a generator's cycle, before merging -/
structure Pre (paths : List (List Nat)) (nm : Nat → List Nat) (g g' : G) (w : List Nat) : Prop where
  good : Good paths nm g'
  live : Live g'
  keep : Keep g g'
  path : PathE g' 0 w 0
  mrg : g'.mrg = g.mrg
  mu : mu g' ≤ mu g + 2 * w.length
  few : g'.lines.length ≤ g.lines.length + 3 * w.length + 3
theorem addRest_ok {g : G} (h : Good paths nm g) (L : Live g) {i : Nat} {w pre rest : List Nat} (hw : paths[i]? = some w) (sw : Steps w) (len : w.length ≤ 60) (e : w = pre ++ rest) (ne : rest ≠ []) {x : Wk} (W : Walked paths nm g pre x) (rx : gt g.mrg x.node = none) :
    ∃ nm', Pre paths nm' g (addRest { g with lines := x.lines } i x.node x.lab rest) w := by
  -- the names of the new nodes
  let nm' : Nat → List Nat := fun n => if n < g.next then nm n else pre ++ rest.take (n - g.next + 1)
  have same : ∀ n, n < g.next → nm' n = nm n := fun n hn => if_pos hn
  have few : ∀ n, (nm' n).length ≤ 60 := by
    intro n
    show (if n < g.next then nm n else pre ++ rest.take (n - g.next + 1)).length ≤ 60
    by_cases hn : n < g.next
    · rw [if_pos hn]
      exact h.nms n
    · rw [if_neg hn, List.length_append, List.length_take]
      rw [e, List.length_append] at len
      omega
  have gl := (h.lines W.lg W.ext).names same few
  have lb : Lb paths x.lines x.lab pre (nm' x.node) := by rw [same _ W.lt]; exact W.lb
  have plen : pre.length + rest.length ≤ 60 := by rw [e, List.length_append] at len; exact len
  have n1 := few x.node
  have a := inv_got h.sp W.lg lb (by omega)
  have keep0 : Keep g { g with lines := (invL x.lines x.lab).1 } := .same rfl rfl rfl
  have start : Mid paths nm' { g with lines := (invL x.lines x.lab).1 } (invL x.lines x.lab).1.length 0 pre ({ g with lines := (invL x.lines x.lab).1 }, x.node, (invL x.lines x.lab).2) :=
    ⟨gl.lines a.lg a.ext, L, .refl _, W.lt, rx, a.lb, W.path.keep keep0, rfl, Nat.le_refl _, Nat.le_refl _, rfl⟩
  obtain ⟨b, c, rfl⟩ : ∃ b c, rest = b ++ [c] := ⟨rest.dropLast, rest.getLast ne, (List.dropLast_concat_getLast ne).symm⟩
  have dl1 : (b ++ [c]).dropLast = b := by simp
  have gl1 : (b ++ [c]).getLastD 0 = c := by simp
  have sb : ∀ d ∈ b, IsStep d := fun d hd => sw d (by rw [e]; exact List.mem_append_right _ (List.mem_append_left _ hd))
  have sc : IsStep c := sw c (by rw [e]; exact List.mem_append_right _ (List.mem_append_right _ List.mem_cons_self))
  have m := mids_ok b start sb (by
    intro j hj
    show (if g.next + 0 + j < g.next then _ else _) = _
    rw [if_neg (by omega)]
    have : g.next + 0 + j - g.next + 1 = j + 1 := by omega
    rw [this, List.take_append_of_le_length (by omega)])
  have shape : addRest { g with lines := x.lines } i x.node x.lab (b ++ [c]) =
      (let y := b.foldl midStep ({ g with lines := (invL x.lines x.lab).1 }, x.node, (invL x.lines x.lab).2)
       addEdge { y.1 with lines := (prodL (genL y.1.lines i).1 y.2.2 (genL y.1.lines i).2).1 } y.2.1 c 0 (prodL (genL y.1.lines i).1 y.2.2 (genL y.1.lines i).2).2) := by
    unfold addRest
    rw [dl1, gl1]
  rw [shape]
  generalize b.foldl midStep ({ g with lines := (invL x.lines x.lab).1 }, x.node, (invL x.lines x.lab).2) = y at m ⊢
  obtain ⟨g1, node, lab⟩ := y
  have mg : Good paths nm' g1 := m.good
  have mlb : Lb paths g1.lines lab (nm' node) (pre ++ b) := m.lb
  have gw : pre ++ b ++ [c] = w := by rw [e]; simp
  have gen := gen_got h.sp mg.lg hw (by omega)
  have n2 := few node
  have wl : (pre ++ b ++ [c]).length ≤ 60 := by rw [gw]; exact len
  have p := prod_got h.sp gen.lg ((mlb.ext gen.ext).step c) (by rw [gw]; exact gen.lb) (by simp only [List.length_append, List.length_cons, List.length_nil] at wl ⊢; omega)
  have lb0 : Lb paths (prodL (genL g1.lines i).1 lab (genL g1.lines i).2).1 (prodL (genL g1.lines i).1 lab (genL g1.lines i).2).2 (nm' node ++ [c]) (nm' 0) := by
    have z : nm' 0 = [] := by rw [same 0 h.pos]; exact h.nm0
    rw [z]
    exact p.lb
  have ext := gen.ext.trans p.ext
  have fin := addEdge_ok (mg.lines p.lg ext) sc (show node < g1.next from m.lt) mg.pos lb0
  simp only
  generalize addEdge { g1 with lines := (prodL (genL g1.lines i).1 lab (genL g1.lines i).2).1 } node c 0 (prodL (genL g1.lines i).1 lab (genL g1.lines i).2).2 = g' at fin ⊢
  have keep1 : Keep g1 { g1 with lines := (prodL (genL g1.lines i).1 lab (genL g1.lines i).2).1 } := .same rfl rfl rfl
  have mrg1 : g1.mrg = g.mrg := m.mrg
  have mrg2 : g'.mrg = g1.mrg := fin.mrg
  have wlen : w.length = pre.length + b.length + 1 := by rw [← gw]; simp; omega
  refine ⟨nm', fin.good, ?_, keep0.trans (Keep.trans m.keep (keep1.trans fin.keep)), ?_, mrg2.trans mrg1, ?_, ?_⟩
  · intro n d e' q
    rw [mrg2]
    rcases fin.tgt n d e' q with z | z | z
    · exact m.live n d e' z
    · rw [z]
      exact m.root
    · rw [z]
      exact mg.root0
  · rw [← gw]
    exact ((PathE.keep keep1 m.path).keep fin.keep).app (.one fin.has)
  · have m1 := fin.mu
    have m2 : WK.mu g1 ≤ WK.mu g + 2 * (0 + b.length) := m.mu
    have m3 : WK.mu { g1 with lines := (prodL (genL g1.lines i).1 lab (genL g1.lines i).2).1 } = WK.mu g1 := rfl
    omega
  · have f1 := fin.few
    have f2 := gen.few
    have f3 := p.few
    have f4 : g1.lines.length ≤ (invL x.lines x.lab).1.length + 2 * (0 + b.length) := m.few
    have f5 := a.few
    have f6 := W.few
    simp only at f1
    omega
theorem addPre_ok {g : G} (h : Good paths nm g) (L : Live g) {i : Nat} {w : List Nat} (hw : paths[i]? = some w) (sw : Steps w) (len : w.length ≤ 60) : ∃ nm', Pre paths nm' g (addPre g i w) w := by
  obtain ⟨pre, rest, e, W, stop⟩ := walk0_ok h w len
  have wl : w.length = pre.length + rest.length := by rw [e, List.length_append]
  have rx : gt g.mrg (walk0 g w).node = none := by
    rcases List.eq_nil_or_concat pre with rfl | ⟨b, c, rfl⟩
    · have z : (walk0 g w).node = 0 := (Option.some.inj W.run).symm
      rw [z]
      exact h.root0
    · have z := W.run
      rw [List.concat_eq_append, run_append] at z
      obtain ⟨m, _, hm⟩ := Option.bind_eq_some_iff.mp z
      have hm' : (dT g m c).bind (fun k => run (dT g) k []) = some (walk0 g w).node := hm
      obtain ⟨k, hk, ek⟩ := Option.bind_eq_some_iff.mp hm'
      have ek' : k = (walk0 g w).node := Option.some.inj ek
      rw [ek'] at hk
      obtain ⟨y, hy, ey⟩ := Option.map_eq_some_iff.mp hk
      obtain ⟨l', q⟩ := (h.edge m c y.1 y.2 hy).2.2.2.2
      rw [ey] at q
      exact L _ _ _ q
  unfold addPre
  simp only
  by_cases c1 : (walk0 g w).pos < w.length
  · rw [if_pos c1]
    rw [W.pos] at c1
    have dr : w.drop (walk0 g w).pos = rest := by rw [W.pos, e]; simp
    rw [dr]
    refine addRest_ok h L hw sw len e ?_ W rx
    intro z
    rw [z] at wl
    simp at wl
    omega
  · rw [if_neg c1]
    have rest0 : rest = [] := by
      rw [W.pos] at c1
      exact List.length_eq_zero_iff.mp (by omega)
    subst rest0
    rw [List.append_nil] at e
    subst e
    have keepL : ∀ ls : List Line, Keep g { g with lines := ls } := fun ls => .same rfl rfl rfl
    by_cases c2 : (walk0 g w).node ≠ 0
    · rw [if_pos c2]
      have n1 := h.nms (walk0 g w).node
      have a := inv_got h.sp W.lg W.lb (by omega)
      have b := gen_got h.sp a.lg hw (by omega)
      have p := prod_got h.sp b.lg (a.lb.ext b.ext) b.lb (by simp; omega)
      have ext := (W.ext.trans a.ext).trans (b.ext.trans p.ext)
      have h1 := h.lines p.lg ext
      have pos : 0 < w.length := by
        cases w with
        | nil => exact (c2 rfl).elim
        | cons c w => exact Nat.succ_pos _
      refine ⟨nm, ⟨h.sp, p.lg, h.pos, h.nm0, h.nms, h1.edge, h1.mrg, ?_⟩, L, ?_, ?_, rfl, ?_, ?_⟩
      · intro y hy
        rcases List.mem_append.mp hy with z | z
        · exact h1.pend y z
        · rw [List.mem_singleton.mp z]
          refine ⟨h.pos, W.lt, ?_⟩
          show Lb paths _ _ _ (nm 0)
          rw [h.nm0]
          exact p.lb
      · exact .of (fun r k l q => .mrg (l := l) q) (fun x q => .pend (List.mem_append_left _ q)) (fun u c v l q => .of (l := l) q)
      · have keep : Keep g (addLoop { g with lines := (walk0 g w).lines } i (walk0 g w).node (walk0 g w).lab) := .of (fun r k l q => .mrg (l := l) q) (fun x q => .pend (List.mem_append_left _ q)) (fun u c v l q => .of (l := l) q)
        have cn : Conn (addLoop { g with lines := (walk0 g w).lines } i (walk0 g w).node (walk0 g w).lab) 0 (walk0 g w).node := .pend (x := (0, (walk0 g w).node, _)) (List.mem_append_right _ List.mem_cons_self)
        have z := (W.path.keep keep).app (w' := []) (x := 0) cn.symm
        rw [List.append_nil] at z
        exact z
      · show g.tgt.length + 2 * (g.pend ++ [_]).length ≤ g.tgt.length + 2 * g.pend.length + 2 * w.length
        rw [List.length_append]
        simp only [List.length_cons, List.length_nil]
        omega
      · have f1 := a.few
        have f2 := b.few
        have f3 := p.few
        have f4 := W.few
        show (prodL (genL (invL (walk0 g w).lines (walk0 g w).lab).1 i).1 (invL (walk0 g w).lines (walk0 g w).lab).2 (genL (invL (walk0 g w).lines (walk0 g w).lab).1 i).2).1.length ≤ _
        omega
    · rw [if_neg c2]
      have z : (walk0 g w).node = 0 := by omega
      refine ⟨nm, h.lines W.lg W.ext, L, keepL _, ?_, rfl, Nat.le_add_right _ _, ?_⟩
      · have q := W.path.keep (keepL (walk0 g w).lines)
        rw [z] at q
        exact q
      · have f4 := W.few
        show (walk0 g w).lines.length ≤ _
        omega

/-! ### all generators -/
def total (ps : List (List Nat)) : Nat := (ps.map List.length).sum
/-- after the first generators -/
structure Done (paths : List (List Nat)) (nm : Nat → List Nat) (A B : Nat) (ps : List (List Nat)) (g : G) : Prop where
  good : Good paths nm g
  live : Live g
  cnt : ∃ P, Cnt P A B g
  pend : g.pend = []
  closed : ∀ p ∈ ps, PathE g 0 p 0
theorem addGen_ok {A B : Nat} {ps : List (List Nat)} {g : G} (h : Done paths nm A B ps g) {i : Nat} {w : List Nat} (hw : paths[i]? = some w) (sw : Steps w) (len : w.length ≤ 60) : ∃ nm', Done paths nm' (A + w.length) (B + 3 * w.length + 3) (ps ++ [w]) (addGen g i w) := by
  obtain ⟨nm', p⟩ := addPre_ok h.good h.live hw sw len
  obtain ⟨P, c⟩ := h.cnt
  have c' : Cnt P (A + w.length) (B + 3 * w.length + 3) (addPre g i w) := by
    have c1 := c.mu
    have c2 := c.len
    have c3 := c.few
    have p1 := p.mu
    have p2 := p.few
    refine ⟨by omega, by rw [p.mrg]; exact c2, by omega⟩
  obtain ⟨P', r1, r2, r3, r4, r5, _⟩ := mergeAll_ok (mu (addPre g i w)) (Nat.le_refl _) p.good p.live c'
  refine ⟨nm', r1, r2, ⟨P', r4⟩, r5, ?_⟩
  intro q hq
  rcases List.mem_append.mp hq with z | z
  · exact ((h.closed q z).keep p.keep).keep r3
  · rw [List.mem_singleton.mp z]
    exact p.path.keep r3
theorem addGens_ok : ∀ (rest : List (List Nat)) {nm : Nat → List Nat} {A B : Nat} {ps : List (List Nat)} {g : G} {i : Nat}, Done paths nm A B ps g → paths = ps ++ rest → i = ps.length → (∀ p ∈ paths, Steps p ∧ p.length ≤ 60) →
    ∃ nm', Done paths nm' (A + total rest) (B + 3 * total rest + 3 * rest.length) paths (addGens g i rest) := by
  intro rest
  induction rest with
  | nil =>
    intro nm A B ps g i h e _ _
    rw [List.append_nil] at e
    subst e
    exact ⟨nm, h⟩
  | cons w rest ih =>
    intro nm A B ps g i h e ei hp
    have wm : w ∈ paths := by rw [e]; exact List.mem_append_right _ List.mem_cons_self
    have hw : paths[i]? = some w := by
      rw [e, ei, List.getElem?_append_right (Nat.le_refl _), Nat.sub_self]
      rfl
    obtain ⟨nm1, h1⟩ := addGen_ok h hw (hp w wm).1 (hp w wm).2
    obtain ⟨nm2, h2⟩ := ih (i := i + 1) h1 (by rw [e]; simp) (by rw [ei]; simp) hp
    have e1 : A + total (w :: rest) = A + w.length + total rest := by unfold total; rw [List.map_cons, List.sum_cons]; omega
    have e2 : B + 3 * total (w :: rest) + 3 * (w :: rest).length = B + 3 * w.length + 3 + 3 * total rest + 3 * rest.length := by
      unfold total
      rw [List.map_cons, List.sum_cons, List.length_cons]
      omega
    rw [e1, e2]
    exact ⟨nm2, h2⟩
theorem start_ok (sp : ∀ p ∈ paths, Steps p) : Done paths (fun _ => []) 0 0 [] g0 :=
  ⟨⟨sp, LG.nil _, Nat.zero_lt_one, rfl, (fun _ => Nat.zero_le _), (fun _ _ _ _ e => by cases e), (fun _ _ _ e => by cases e), (fun _ e => by cases e)⟩, (fun _ _ _ e => by cases e), ⟨0, Nat.le_refl _, Nat.le_refl _, Nat.le_refl _⟩, rfl, (fun _ e => by cases e)⟩

/-! ### closed paths at the end -/
theorem chain_fuel {mrg : Mrg} (down_ : ∀ r k l, gt mrg r = some (k, l) → k < r) : ∀ (k n : Nat), n < k → ∀ j, n < j → (chain mrg k n).2 = (chain mrg j n).2 := by
  intro k
  induction k with
  | zero => exact fun n h => (Nat.not_lt_zero _ h).elim
  | succ k ih =>
    intro n h j hj
    cases j with
    | zero => omega
    | succ j =>
      unfold chain
      cases e : gt mrg n with
      | none => rfl
      | some x =>
        have := down_ n x.1 x.2 e
        exact ih x.1 (by omega) j (by omega)
theorem root_of_conn {g : G} (h : Good paths nm g) (pend : g.pend = []) {a b : Nat} (c : Conn g a b) : rootOf g.mrg a = rootOf g.mrg b := by
  induction c with
  | refl => rfl
  | symm _ ih => exact ih.symm
  | trans _ _ i1 i2 => exact i1.trans i2
  | @mrg r k l e =>
    have lt := (h.mrg r k l e).1
    show (chain g.mrg (r + 1) r).2 = _
    unfold chain
    rw [e]
    exact chain_fuel (fun r k l q => (h.mrg r k l q).1) r k lt (k + 1) (Nat.lt_succ_self _)
  | pend e =>
    rw [pend] at e
    cases e
theorem root_self {g : G} {n : Nat} (e : gt g.mrg n = none) : rootOf g.mrg n = n := by
  unfold rootOf chain
  rw [e]
theorem run_of_path {g : G} (h : Good paths nm g) (L : Live g) (pend : g.pend = []) : ∀ {w : List Nat} {u v : Nat}, PathE g u w v → run (dT g) (rootOf g.mrg u) w = some (rootOf g.mrg v) := by
  intro w
  induction w with
  | nil => exact fun c => congrArg some (root_of_conn h pend c)
  | cons c w ih =>
    rintro u v ⟨x, ⟨u', v', l, h1, h2, h3⟩, h4⟩
    obtain ⟨l', back⟩ := (h.edge _ _ _ _ h3).2.2.2.2
    have ru : rootOf g.mrg u = u' := (root_of_conn h pend h1).trans (root_self (L _ _ _ h3))
    have rv : rootOf g.mrg x = v' := (root_of_conn h pend h2).trans (root_self (L _ _ _ back))
    show (dT g _ c).bind _ = _
    rw [ru]
    have q : dT g u' c = some v' := by
      show (gt g.tgt _).map _ = _
      rw [h3]
      rfl
    rw [q]
    show run (dT g) v' w = _
    rw [← rv]
    exact ih h4
theorem Done.gens {A B : Nat} {g : G} (h : Done paths nm A B paths g) : ∀ p ∈ paths, Closed (dT g) p := by
  intro p hp
  have z := run_of_path h.good h.live h.pend (h.closed p hp)
  rw [root_self h.good.root0] at z
  exact z

/-! ### the derivation -/
theorem insS_perm (n : Nat) : ∀ l : List Nat, (insS n l).Perm (n :: l) := by
  intro l
  induction l with
  | nil => exact .refl _
  | cons m r ih =>
    unfold insS
    split
    · exact .refl _
    · exact (List.Perm.cons m ih).trans (.swap n m r)
theorem sortS_perm : ∀ l : List Nat, (sortS l).Perm l := by
  intro l
  induction l with
  | nil => exact .refl _
  | cons n r ih => exact (insS_perm n _).trans (.cons n ih)
theorem insS_sorted (n : Nat) : ∀ l : List Nat, l.Pairwise (· ≤ ·) → (insS n l).Pairwise (· ≤ ·) := by
  intro l
  induction l with
  | nil => exact fun _ => List.pairwise_singleton _ _
  | cons m r ih =>
    intro h
    unfold insS
    have h1 := List.pairwise_cons.mp h
    split
    · rename_i le
      refine List.pairwise_cons.mpr ⟨?_, h⟩
      intro a ha
      rcases List.mem_cons.mp ha with rfl | ha
      · exact le
      · exact Nat.le_trans le (h1.1 a ha)
    · rename_i le
      refine List.pairwise_cons.mpr ⟨?_, ih h1.2⟩
      intro a ha
      rcases List.mem_cons.mp ((insS_perm n r).mem_iff.mp ha) with rfl | ha
      · omega
      · exact h1.1 a ha
theorem sortS_sorted : ∀ l : List Nat, (sortS l).Pairwise (· ≤ ·) := by
  intro l
  induction l with
  | nil => exact List.Pairwise.nil
  | cons n r ih => exact insS_sorted n _ ih
theorem sorted_strict {l : List Nat} (h : l.Pairwise (· ≤ ·)) (nd : l.Nodup) : l.Pairwise (· < ·) := by
  induction l with
  | nil => exact List.Pairwise.nil
  | cons n r ih =>
    have h1 := List.pairwise_cons.mp h
    have n1 := List.nodup_cons.mp nd
    refine List.pairwise_cons.mpr ⟨?_, ih h1.2 n1.2⟩
    intro a ha
    have := h1.1 a ha
    have ne : n ≠ a := fun e => n1.1 (e ▸ ha)
    omega
/-- two sorted lists of the same members -/
theorem sorted_unique : ∀ {l l' : List Nat}, l.Perm l' → l.Pairwise (· ≤ ·) → l'.Pairwise (· ≤ ·) → l = l' := by
  intro l
  induction l with
  | nil => exact fun p _ _ => (List.Perm.nil_eq p)
  | cons a r ih =>
    intro l' p h h'
    cases l' with
    | nil => exact (List.Perm.nil_eq p.symm).symm
    | cons b r' =>
      have h1 := List.pairwise_cons.mp h
      have h2 := List.pairwise_cons.mp h'
      have e : a = b := by
        have m1 : a ∈ b :: r' := p.mem_iff.mp List.mem_cons_self
        have m2 : b ∈ a :: r := p.mem_iff.mpr List.mem_cons_self
        rcases List.mem_cons.mp m1 with z | z
        · exact z
        · rcases List.mem_cons.mp m2 with y | y
          · exact y.symm
          · exact Nat.le_antisymm (h1.1 b y) (h2.1 a z)
      subst e
      rw [ih (List.Perm.cons_inv p) h1.2 h2.2]
theorem derive_ok {goal : List Nat} (hp : ∀ p ∈ paths, Steps p ∧ p.length ≤ 60) (tot : total paths ≤ 176) (many : paths.length ≤ 16) (rg : red goal = goal) (lg : goal.length ≤ 60) :
    match derive paths goal with
    | none => ¬ ClosedAll paths goal
    | some d => ClosedAll paths goal ∧ LG paths d ∧ d.length ≤ 60000 ∧ (([] : List Nat) :: evalL paths d).getLastD [] = goal := by
  obtain ⟨nm, D⟩ := addGens_ok (i := 0) paths (start_ok (fun p q => (hp p q).1)) rfl rfl hp
  simp only [Nat.zero_add] at D
  obtain ⟨pre, rest, e, W, stop⟩ := walk0_ok D.good goal lg
  have gl : goal.length = pre.length + rest.length := by rw [e, List.length_append]
  unfold derive
  simp only
  generalize hx : walk0 (addGens g0 0 paths) goal = x at W stop
  by_cases c : x.node ≠ 0 ∨ x.pos < goal.length
  · rw [if_pos c]
    show ¬ ClosedAll paths goal
    intro all
    have z : run (dT (addGens g0 0 paths)) 0 goal = some 0 := all _ D.good.symm D.gens
    rw [e, run_append, W.run] at z
    have z' : run (dT (addGens g0 0 paths)) x.node rest = some 0 := z
    rcases rest with _ | ⟨d, r⟩
    · have y : x.node = 0 := Option.some.inj z'
      rcases c with c | c
      · exact c y
      · have := W.pos
        simp at gl
        omega
    · have st := stop d r rfl
      have z2 : (dT (addGens g0 0 paths) x.node d).bind (fun m => run (dT (addGens g0 0 paths)) m r) = some 0 := z'
      have q : dT (addGens g0 0 paths) x.node d = none := by
        show (gt _ _).map _ = none
        rw [st]
        rfl
      rw [q] at z2
      cases z2
  · rw [if_neg c]
    have hn : x.node = 0 := by
      apply Classical.byContradiction
      intro z
      exact c (.inl z)
    have hpos : ¬ x.pos < goal.length := fun z => c (.inr z)
    have rest0 : rest = [] := by
      rw [W.pos] at hpos
      exact List.length_eq_zero_iff.mp (by omega)
    subst rest0
    rw [List.append_nil] at e
    subst e
    show ClosedAll paths goal ∧ LG paths (reqLines x.lines x.lab) ∧ (reqLines x.lines x.lab).length ≤ 60000 ∧ (([] : List Nat) :: evalL paths (reqLines x.lines x.lab)).getLastD [] = goal
    have lb := W.lb
    rw [hn, D.good.nm0] at lb
    have eq : Eqv goal (val paths x.lines x.lab) := by
      have z := lb.eq
      rw [List.append_nil] at z
      exact z
    have eq2 : goal = val paths x.lines x.lab := by
      have z := red_eq eq
      rw [rg, val_red W.lg lb.ok] at z
      exact z
    have closed : ClosedAll paths goal := by
      intro δ s hp
      rw [eq2]
      cases x.lab with
      | none => exact Closed.nil
      | some j => exact evalL_closed s hp _ j
    refine ⟨closed, ?_⟩
    obtain ⟨P, cnt⟩ := D.cnt
    have c1 := cnt.mu
    have c3 := cnt.few
    have PA : P ≤ 176 := by omega
    have sq : P * P ≤ 176 * 176 := Nat.mul_le_mul PA PA
    have f := W.few
    cases hl : x.lab with
    | none =>
      rw [hl] at eq2
      refine ⟨LG.nil _, Nat.zero_le _, ?_⟩
      exact eq2.symm
    | some last =>
      rw [hl] at eq2
      have ok : last < x.lines.length := by
        have z := lb.ok
        rw [hl] at z
        exact z
      have nd : (reqs x.lines last).Nodup := (reqAt_end (ls := x.lines) (last := last) fun n _ => deps_down W.lg n).nd
      have nd2 : (sortS (reqs x.lines last)).Nodup := (sortS_perm _).nodup_iff.mpr nd
      obtain ⟨r1, r2, r3, r4⟩ := required_ok W.lg D.good.sp ok (sortS_perm _) (sorted_strict (sortS_sorted _) nd2)
      have len : (renum x.lines (sortS (reqs x.lines last))).length = (sortS (reqs x.lines last)).length := by
        unfold renum
        rw [List.length_map]
      refine ⟨r1, ?_, ?_⟩
      · show (renum _ _).length ≤ 60000
        rw [len]
        omega
      · show (([] : List Nat) :: evalL paths (renum x.lines (sortS (reqs x.lines last)))).getLastD [] = goal
        have z : evalL paths (renum x.lines (sortS (reqs x.lines last))) ≠ [] := by
          intro y
          have w := congrArg List.length y
          rw [evalL_length, len, List.length_nil] at w
          omega
        have gz : (([] : List Nat) :: evalL paths (renum x.lines (sortS (reqs x.lines last)))).getLastD [] = (evalL paths (renum x.lines (sortS (reqs x.lines last)))).getD ((sortS (reqs x.lines last)).length - 1) [] := by
          rw [List.getLastD_cons, List.getLastD_eq_getLast?, List.getLast?_eq_getElem?, evalL_length, len, List.getD_eq_getElem?_getD]
        rw [gz, r3]
        exact eq2.symm
end
end WK
end Text_WM6
section Text_WM7
set_option linter.all false
/-! WM7: the law's own folded graph. -/
namespace WK
abbrev Ed := Nat × Nat × Nat
abbrev TTab := List ((Nat × Nat) × Nat)
def isUp (c : Nat) : Bool := c == 65 || c == 66 || c == 67 || c == 68
def mkE (c s t : Nat) : Ed := if isUp c = true then (bk c, t, s) else (c, s, t)
def initSteps : List Nat → Nat → Nat → List Ed × Nat
  | [], _, free => ([], free)
  | [c], s, free => ([mkE c s 0], free)
  | c :: d :: w, s, free => (mkE c s free :: (initSteps (d :: w) free (free + 1)).1, (initSteps (d :: w) free (free + 1)).2)
def initial : List (List Nat) → Nat → List Ed
  | [], _ => []
  | p :: r, free => (initSteps p 0 free).1 ++ initial r (initSteps p 0 free).2
def known (T : TTab) (k : Nat × Nat) (v : Nat) : Nat := (gt T k).getD v
def conf : TTab → List Ed → TTab × Option (Nat × Nat)
  | T, [] => (T, none)
  | T, e :: r =>
    if known T (e.2.1, e.1) e.2.2 ≠ e.2.2 then (T, some (min (known T (e.2.1, e.1) e.2.2) e.2.2, max (known T (e.2.1, e.1) e.2.2) e.2.2))
    else if known (pt T (e.2.1, e.1) e.2.2) (e.2.2, bk e.1) e.2.1 ≠ e.2.1 then (pt T (e.2.1, e.1) e.2.2, some (min (known (pt T (e.2.1, e.1) e.2.2) (e.2.2, bk e.1) e.2.1) e.2.1, max (known (pt T (e.2.1, e.1) e.2.2) (e.2.2, bk e.1) e.2.1) e.2.1))
    else conf (pt (pt T (e.2.1, e.1) e.2.2) (e.2.2, bk e.1) e.2.1) r
def mapN (pr : Nat × Nat) (x : Nat) : Nat := if x = pr.2 then pr.1 else x
def mergedE (pr : Nat × Nat) (e : Ed) : Ed := (e.1, mapN pr e.2.1, mapN pr e.2.2)
def weight (es : List Ed) : Nat := (es.map fun e => e.2.1 + e.2.2).sum
def foldT : Nat → List Ed → TTab
  | 0, es => (conf [] es).1
  | k + 1, es => match (conf [] es).2 with
    | none => (conf [] es).1
    | some pr => foldT k (es.map (mergedE pr))
def lawT (ps : List (List Nat)) : TTab := foldT (weight (initial ps 1)) (initial ps 1)
def gT (T : TTab) : Graph := fun n c => gt T (n, c)

/-- an edge or its reverse -/
def From (es : List Ed) (u c v : Nat) : Prop := (c, u, v) ∈ es ∨ (bk c, v, u) ∈ es
theorem From.rev {es : List Ed} {u c v : Nat} (h : From es u c v) : From es v (bk c) u := by
  rcases h with h | h
  · right
    rw [bk_bk]
    exact h
  · exact .inl h
theorem From.merged {es : List Ed} {u c v : Nat} (pr : Nat × Nat) (h : From es u c v) : From (es.map (mergedE pr)) (mapN pr u) c (mapN pr v) := by
  rcases h with h | h
  · exact .inl (List.mem_map.mpr ⟨_, h, rfl⟩)
  · exact .inr (List.mem_map.mpr ⟨_, h, rfl⟩)
structure Conf (es : List Ed) (T : TTab) (r : TTab × Option (Nat × Nat)) (rest : List Ed) : Prop where
  sound : ∀ u c v, gt r.1 (u, c) = some v → From es u c v
  more : ∀ k v, gt T k = some v → gt r.1 k = some v
  all : r.2 = none → ∀ e ∈ rest, gt r.1 (e.2.1, e.1) = some e.2.2 ∧ gt r.1 (e.2.2, bk e.1) = some e.2.1
  clash : ∀ pr, r.2 = some pr → pr.1 < pr.2 ∧ ∃ u c, (From es u c pr.1 ∧ From es u c pr.2)
theorem clash_pair {es : List Ed} {T : TTab} (sound : ∀ u c v, gt T (u, c) = some v → From es u c v) {u c v : Nat} (h : From es u c v) (ne : known T (u, c) v ≠ v) :
    min (known T (u, c) v) v < max (known T (u, c) v) v ∧ ∃ u' c', (From es u' c' (min (known T (u, c) v) v) ∧ From es u' c' (max (known T (u, c) v) v)) := by
  cases e : gt T (u, c) with
  | none =>
    unfold known at ne
    rw [e] at ne
    exact (ne rfl).elim
  | some x =>
    have k : known T (u, c) v = x := by unfold known; rw [e]; rfl
    have hx := sound u c x e
    rw [k] at ne
    rcases Nat.lt_or_ge x v with lt | ge
    · refine ⟨by rw [k, Nat.min_eq_left (by omega), Nat.max_eq_right (by omega)]; exact lt, u, c, ?_⟩
      rw [k, Nat.min_eq_left (by omega), Nat.max_eq_right (by omega)]
      exact ⟨hx, h⟩
    · refine ⟨by rw [k, Nat.min_eq_right (by omega), Nat.max_eq_left (by omega)]; omega, u, c, ?_⟩
      rw [k, Nat.min_eq_right (by omega), Nat.max_eq_left (by omega)]
      exact ⟨h, hx⟩
theorem put_sound {es : List Ed} {T : TTab} (sound : ∀ u c v, gt T (u, c) = some v → From es u c v) {u c v : Nat} (h : From es u c v) : ∀ a b d, gt (pt T (u, c) v) (a, b) = some d → From es a b d := by
  intro a b d q
  rw [gt_pt] at q
  by_cases e : (u, c) = (a, b)
  · rw [if_pos e] at q
    obtain ⟨rfl, rfl⟩ := Prod.ext_iff.mp e
    rw [← Option.some.inj q]
    exact h
  · rw [if_neg e] at q
    exact sound a b d q
theorem put_more {T : TTab} {k : Nat × Nat} {v : Nat} (ne : ¬ known T k v ≠ v) : ∀ j x, gt T j = some x → gt (pt T k v) j = some x := by
  intro j x q
  rw [gt_pt]
  by_cases e : k = j
  · rw [if_pos e]
    subst e
    have z : known T k v = x := by unfold known; rw [q]; rfl
    rw [← z]
    apply Classical.byContradiction
    intro y
    exact ne (fun w => y (by rw [w]))
  · rw [if_neg e]
    exact q
theorem conf_ok {es : List Ed} : ∀ (rest : List Ed) (T : TTab), (∀ e ∈ rest, e ∈ es) → (∀ u c v, gt T (u, c) = some v → From es u c v) → Conf es T (conf T rest) rest := by
  intro rest
  induction rest with
  | nil => exact fun T _ s => ⟨s, fun _ _ q => q, (fun _ e q => by cases q), (fun pr q => by cases q)⟩
  | cons e rest ih =>
    intro T hin s
    obtain ⟨l, a, b⟩ := e
    have mem := hin _ List.mem_cons_self
    have f1 : From es a l b := .inl mem
    have f2 : From es b (bk l) a := f1.rev
    unfold conf
    by_cases c1 : known T (a, l) b ≠ b
    · simp only
      rw [if_pos c1]
      refine ⟨s, fun _ _ q => q, (fun q => by cases q), ?_⟩
      intro pr q
      rw [← Option.some.inj q]
      exact clash_pair s f1 c1
    · simp only
      rw [if_neg c1]
      have s1 := put_sound s f1
      by_cases c2 : known (pt T (a, l) b) (b, bk l) a ≠ a
      · rw [if_pos c2]
        refine ⟨s1, put_more c1, (fun q => by cases q), ?_⟩
        intro pr q
        rw [← Option.some.inj q]
        exact clash_pair s1 f2 c2
      · rw [if_neg c2]
        have s2 := put_sound s1 f2
        have z := ih (pt (pt T (a, l) b) (b, bk l) a) (fun e he => hin e (List.mem_cons_of_mem _ he)) s2
        refine ⟨z.sound, fun k v q => z.more k v (put_more c2 k v (put_more c1 k v q)), ?_, z.clash⟩
        intro q e he
        rcases List.mem_cons.mp he with rfl | he
        · exact ⟨z.more _ _ (put_more c2 _ _ (gt_pt_self _ _ _)), z.more _ _ (gt_pt_self _ _ _)⟩
        · exact z.all q e he

/-! ### the paths in the edges -/
def RunE (es : List Ed) : Nat → List Nat → Nat → Prop
  | u, [], v => u = v
  | u, c :: w, v => ∃ x, From es u c x ∧ RunE es x w v
theorem RunE.merged {es : List Ed} (pr : Nat × Nat) : ∀ {w : List Nat} {u v : Nat}, RunE es u w v → RunE (es.map (mergedE pr)) (mapN pr u) w (mapN pr v) := by
  intro w
  induction w with
  | nil => exact fun h => congrArg _ h
  | cons c w ih => exact fun ⟨x, h1, h2⟩ => ⟨mapN pr x, h1.merged pr, ih h2⟩
theorem From.mono {es es' : List Ed} (h : ∀ e ∈ es, e ∈ es') {u c v : Nat} (f : From es u c v) : From es' u c v := f.elim (fun z => .inl (h _ z)) (fun z => .inr (h _ z))
theorem RunE.mono {es es' : List Ed} (h : ∀ e ∈ es, e ∈ es') : ∀ {w : List Nat} {u v : Nat}, RunE es u w v → RunE es' u w v := by
  intro w
  induction w with
  | nil => exact fun h => h
  | cons c w ih => exact fun ⟨x, h1, h2⟩ => ⟨x, h1.mono h, ih h2⟩
theorem from_mk (c s t : Nat) : From [mkE c s t] s c t := by
  unfold mkE
  split
  · exact .inr List.mem_cons_self
  · exact .inl List.mem_cons_self
theorem initSteps_run : ∀ (w : List Nat) (s free : Nat), w ≠ [] → RunE (initSteps w s free).1 s w 0
  | [], _, _, h => (h rfl).elim
  | [c], s, free, _ => ⟨0, from_mk c s 0, rfl⟩
  | c :: d :: w, s, free, _ => ⟨free, (from_mk c s free).mono (fun e he => by rw [List.mem_singleton.mp he]; exact List.mem_cons_self), (initSteps_run (d :: w) free (free + 1) (by simp)).mono (fun e he => List.mem_cons_of_mem _ he)⟩
theorem initial_run : ∀ (ps : List (List Nat)) (free : Nat), ∀ p ∈ ps, RunE (initial ps free) 0 p 0 := by
  intro ps
  induction ps with
  | nil => exact fun _ p h => nomatch h
  | cons q r ih =>
    intro free p hp
    rcases List.mem_cons.mp hp with rfl | hp
    · cases p with
      | nil => exact rfl
      | cons c w => exact (initSteps_run (c :: w) 0 free (by simp)).mono (fun e he => List.mem_append_left _ he)
    · exact (ih _ p hp).mono (fun e he => List.mem_append_right _ he)

/-! ### a map into any graph -/
def CompE (δ : Graph) (φ : Nat → Nat) (e : Ed) : Prop := δ (φ e.2.1) e.1 = some (φ e.2.2)
theorem comp_mk {δ : Graph} (sy : Sym δ) {φ : Nat → Nat} {c s t : Nat} (h : δ (φ s) c = some (φ t)) : CompE δ φ (mkE c s t) := by
  unfold mkE
  split
  · exact sy _ _ _ h
  · exact h
theorem comp_from {δ : Graph} (sy : Sym δ) {φ : Nat → Nat} {es : List Ed} (h : ∀ e ∈ es, CompE δ φ e) {u c v : Nat} (f : From es u c v) : δ (φ u) c = some (φ v) := by
  rcases f with f | f
  · exact h _ f
  · have z := sy _ _ _ (h _ f)
    rw [bk_bk] at z
    exact z
theorem mk_nodes {c s t n : Nat} (hs : s < n) (ht : t < n) : (mkE c s t).2.1 < n ∧ (mkE c s t).2.2 < n := by
  unfold mkE
  split
  · exact ⟨ht, hs⟩
  · exact ⟨hs, ht⟩
theorem initSteps_map {δ : Graph} (sy : Sym δ) : ∀ (w : List Nat) (s free : Nat) (φ : Nat → Nat), 0 < free → s < free → φ 0 = 0 → run δ (φ s) w = some 0 →
    ∃ φ', (∀ n, n < free → φ' n = φ n) ∧ (∀ e ∈ (initSteps w s free).1, CompE δ φ' e ∧ e.2.1 < (initSteps w s free).2 ∧ e.2.2 < (initSteps w s free).2) ∧ free ≤ (initSteps w s free).2
  | [], s, free, φ, _, _, _, _ => ⟨φ, fun _ _ => rfl, (fun e h => by cases h), Nat.le_refl _⟩
  | [c], s, free, φ, hf, hs, h0, hr => by
    refine ⟨φ, fun _ _ => rfl, ?_, Nat.le_refl _⟩
    intro e he
    rw [List.mem_singleton.mp he]
    have z : (δ (φ s) c).bind (fun m => run δ m []) = some 0 := hr
    obtain ⟨k, hk, e⟩ := Option.bind_eq_some_iff.mp z
    have e' : k = 0 := Option.some.inj e
    exact ⟨comp_mk sy (by rw [hk, e', h0]), mk_nodes hs hf⟩
  | c :: d :: w, s, free, φ, hf, hs, h0, hr => by
    have z : (δ (φ s) c).bind (fun m => run δ m (d :: w)) = some 0 := hr
    obtain ⟨m, hm, hr'⟩ := Option.bind_eq_some_iff.mp z
    let φ1 : Nat → Nat := fun n => if n = free then m else φ n
    have a1 : ∀ n, n < free → φ1 n = φ n := fun n hn => if_neg (by omega)
    have a2 : φ1 free = m := if_pos rfl
    obtain ⟨φ', b1, b2, b3⟩ := initSteps_map sy (d :: w) free (free + 1) φ1 (Nat.succ_pos _) (Nat.lt_succ_self _) (by rw [a1 0 hf]; exact h0) (by rw [a2]; exact hr')
    have c1 : ∀ n, n < free → φ' n = φ n := fun n hn => by rw [b1 n (by omega), a1 n hn]
    refine ⟨φ', c1, ?_, by show free ≤ (initSteps (d :: w) free (free + 1)).2; omega⟩
    intro e he
    rcases List.mem_cons.mp he with rfl | he
    · refine ⟨comp_mk sy ?_, ?_⟩
      · rw [c1 s hs, b1 free (Nat.lt_succ_self _), a2]
        exact hm
      · show (mkE c s free).2.1 < (initSteps (d :: w) free (free + 1)).2 ∧ (mkE c s free).2.2 < (initSteps (d :: w) free (free + 1)).2
        exact mk_nodes (by omega) (by omega)
    · exact b2 e he
theorem initial_map {δ : Graph} (sy : Sym δ) : ∀ (ps : List (List Nat)) (free : Nat) (φ : Nat → Nat), 0 < free → φ 0 = 0 → (∀ p ∈ ps, Closed δ p) →
    ∃ φ', (∀ n, n < free → φ' n = φ n) ∧ (∀ e ∈ initial ps free, CompE δ φ' e) := by
  intro ps
  induction ps with
  | nil => exact fun free φ _ _ _ => ⟨φ, fun _ _ => rfl, (fun e h => by cases h)⟩
  | cons p r ih =>
    intro free φ hf h0 hp
    obtain ⟨φ1, a1, a2, a3⟩ := initSteps_map sy p 0 free φ hf hf h0 (by rw [h0]; exact hp p List.mem_cons_self)
    obtain ⟨φ2, b1, b2⟩ := ih (initSteps p 0 free).2 φ1 (by omega) (by rw [a1 0 hf]; exact h0) (fun q hq => hp q (List.mem_cons_of_mem _ hq))
    refine ⟨φ2, fun n hn => by rw [b1 n (by omega), a1 n hn], ?_⟩
    intro e he
    rcases List.mem_append.mp he with he | he
    · obtain ⟨c1, c2, c3⟩ := a2 e he
      show δ (φ2 e.2.1) e.1 = some (φ2 e.2.2)
      rw [b1 _ c2, b1 _ c3]
      exact c1
    · exact b2 e he
theorem mk_step {c s t : Nat} (h : IsStep c) : IsStep (mkE c s t).1 := by
  unfold mkE
  split
  · exact bk_step h
  · exact h
theorem initSteps_letters : ∀ (w : List Nat) (s free : Nat), Steps w → ∀ e ∈ (initSteps w s free).1, IsStep e.1
  | [], _, _, _, e, h => nomatch h
  | [c], s, free, hw, e, h => by rw [List.mem_singleton.mp h]; exact mk_step hw.head
  | c :: d :: w, s, free, hw, e, h => by
    rcases List.mem_cons.mp h with rfl | h
    · exact mk_step hw.head
    · exact initSteps_letters (d :: w) free (free + 1) hw.tail e h
theorem initial_letters : ∀ (ps : List (List Nat)) (free : Nat), (∀ p ∈ ps, Steps p) → ∀ e ∈ initial ps free, IsStep e.1 := by
  intro ps
  induction ps with
  | nil => exact fun _ _ e h => nomatch h
  | cons p r ih =>
    intro free hp e he
    rcases List.mem_append.mp he with he | he
    · exact initSteps_letters p 0 free (hp p List.mem_cons_self) e he
    · exact ih _ (fun q hq => hp q (List.mem_cons_of_mem _ hq)) e he

/-! ### folding -/
theorem weight_cons (e : Ed) (es : List Ed) : weight (e :: es) = e.2.1 + e.2.2 + weight es := by
  unfold weight
  rw [List.map_cons, List.sum_cons]
theorem mapN_le {pr : Nat × Nat} (lt : pr.1 < pr.2) (x : Nat) : mapN pr x ≤ x := by
  unfold mapN
  split <;> omega
theorem weight_le {pr : Nat × Nat} (lt : pr.1 < pr.2) : ∀ es : List Ed, weight (es.map (mergedE pr)) ≤ weight es := by
  intro es
  induction es with
  | nil => exact Nat.le_refl _
  | cons e es ih =>
    rw [List.map_cons, weight_cons, weight_cons]
    have a := mapN_le lt e.2.1
    have b := mapN_le lt e.2.2
    show mapN pr e.2.1 + mapN pr e.2.2 + _ ≤ _
    omega
theorem weight_lt {pr : Nat × Nat} (lt : pr.1 < pr.2) : ∀ es : List Ed, (∃ e ∈ es, e.2.1 = pr.2 ∨ e.2.2 = pr.2) → weight (es.map (mergedE pr)) < weight es := by
  intro es
  induction es with
  | nil => exact fun ⟨e, h, _⟩ => nomatch h
  | cons e es ih =>
    rintro ⟨d, hd, q⟩
    rw [List.map_cons, weight_cons, weight_cons]
    have a := mapN_le lt e.2.1
    have b := mapN_le lt e.2.2
    have w := weight_le lt es
    show mapN pr e.2.1 + mapN pr e.2.2 + _ < _
    rcases List.mem_cons.mp hd with rfl | hd
    · have c : ∀ x, x = pr.2 → mapN pr x = pr.1 := fun x hx => if_pos hx
      rcases q with q | q
      · have := c _ q
        omega
      · have := c _ q
        omega
    · have := ih ⟨d, hd, q⟩
      omega
theorem from_node {es : List Ed} {u c v : Nat} (h : From es u c v) : ∃ e ∈ es, e.2.1 = v ∨ e.2.2 = v := by
  rcases h with h | h
  · exact ⟨_, h, .inr rfl⟩
  · exact ⟨_, h, .inl rfl⟩
/-- the edges of a folding under way -/
structure FoldOk (ps : List (List Nat)) (es : List Ed) : Prop where
  run : ∀ p ∈ ps, RunE es 0 p 0
  map : ∀ δ : Graph, Sym δ → (∀ p ∈ ps, Closed δ p) → ∃ φ : Nat → Nat, φ 0 = 0 ∧ ∀ e ∈ es, CompE δ φ e
  let_ : ∀ e ∈ es, IsStep e.1
theorem FoldOk.start {ps : List (List Nat)} (hp : ∀ p ∈ ps, Steps p) : FoldOk ps (initial ps 1) where
  run := initial_run ps 1
  map := fun δ sy hc => by
    obtain ⟨φ, a, b⟩ := initial_map sy ps 1 id Nat.zero_lt_one rfl hc
    exact ⟨φ, a 0 Nat.zero_lt_one, b⟩
  let_ := initial_letters ps 1 hp
theorem FoldOk.step {ps : List (List Nat)} {es : List Ed} (h : FoldOk ps es) {pr : Nat × Nat} (e : (conf [] es).2 = some pr) : FoldOk ps (es.map (mergedE pr)) ∧ weight (es.map (mergedE pr)) < weight es := by
  have c := conf_ok (es := es) es [] (fun _ z => z) (fun _ _ _ q => nomatch q)
  obtain ⟨lt, u, d, f1, f2⟩ := c.clash pr e
  refine ⟨⟨?_, ?_, ?_⟩, weight_lt lt es (from_node f2)⟩
  · intro p hp
    have z := (h.run p hp).merged pr
    have q : mapN pr 0 = 0 := by
      have := mapN_le lt 0
      omega
    rw [q] at z
    exact z
  · intro δ sy hc
    obtain ⟨φ, a, b⟩ := h.map δ sy hc
    have same : φ pr.1 = φ pr.2 := by
      have z1 := comp_from sy b f1
      have z2 := comp_from sy b f2
      rw [z1] at z2
      exact Option.some.inj z2
    have q : ∀ x, φ (mapN pr x) = φ x := by
      intro x
      unfold mapN
      split
      · rename_i y
        rw [y]
        exact same
      · rfl
    refine ⟨φ, a, ?_⟩
    intro e he
    obtain ⟨d, hd, rfl⟩ := List.mem_map.mp he
    show δ (φ (mapN pr d.2.1)) d.1 = some (φ (mapN pr d.2.2))
    rw [q, q]
    exact b d hd
  · intro e he
    obtain ⟨d, hd, rfl⟩ := List.mem_map.mp he
    exact h.let_ d hd
theorem FoldOk.none {ps : List (List Nat)} {es : List Ed} (h : FoldOk ps es) (e : (conf [] es).2 = none) (w : List Nat) : Closed (gT (conf [] es).1) w ↔ ClosedAll ps w := by
  have c := conf_ok (es := es) es [] (fun _ z => z) (fun _ _ _ q => nomatch q)
  have has : ∀ {u d v}, From es u d v → gT (conf [] es).1 u d = some v := by
    intro u d v f
    rcases f with f | f
    · exact (c.all e _ f).1
    · have z := (c.all e _ f).2
      simp only [bk_bk] at z
      exact z
  have sy : Sym (gT (conf [] es).1) := fun n d m q => has (c.sound n d m q).rev
  constructor
  · intro cl δ sδ hc
    obtain ⟨φ, a, b⟩ := h.map δ sδ hc
    have go : ∀ (w : List Nat) (u v : Nat), WK.run (gT (conf [] es).1) u w = some v → WK.run δ (φ u) w = some (φ v) := by
      intro w
      induction w with
      | nil =>
        intro u v q
        exact congrArg some (congrArg φ (Option.some.inj q))
      | cons d w ih =>
        intro u v q
        have z : (gT (conf [] es).1 u d).bind (fun m => WK.run (gT (conf [] es).1) m w) = some v := q
        obtain ⟨m, hm, hr⟩ := Option.bind_eq_some_iff.mp z
        show (δ (φ u) d).bind _ = _
        rw [comp_from sδ b (c.sound u d m hm)]
        exact ih m v hr
    have z := go w 0 0 cl
    rw [a] at z
    exact z
  · intro all
    refine all _ sy ?_
    intro p hp
    have go : ∀ (w : List Nat) (u v : Nat), RunE es u w v → WK.run (gT (conf [] es).1) u w = some v := by
      intro w
      induction w with
      | nil => exact fun u v q => congrArg some q
      | cons d w ih =>
        rintro u v ⟨x, h1, h2⟩
        show (gT (conf [] es).1 u d).bind _ = _
        rw [has h1]
        exact ih x v h2
    exact go p 0 0 (h.run p hp)
theorem foldT_ok {ps : List (List Nat)} : ∀ (k : Nat) {es : List Ed}, weight es ≤ k → FoldOk ps es → ∀ w, Closed (gT (foldT k es)) w ↔ ClosedAll ps w := by
  intro k
  induction k with
  | zero =>
    intro es hk h w
    refine h.none ?_ w
    cases e : (conf [] es).2 with
    | none => rfl
    | some pr =>
      have := (h.step e).2
      omega
  | succ k ih =>
    intro es hk h w
    cases e : (conf [] es).2 with
    | none =>
      have z : foldT (k + 1) es = (conf [] es).1 := by unfold foldT; rw [e]
      rw [z]
      exact h.none e w
    | some pr =>
      have z : foldT (k + 1) es = foldT k (es.map (mergedE pr)) := by
        show (match (conf [] es).2 with | Option.none => (conf [] es).1 | some pr => foldT k (es.map (mergedE pr))) = _
        rw [e]
      rw [z]
      have s := h.step e
      exact ih (by have := s.2; omega) s.1 w
theorem lawT_ok {ps : List (List Nat)} (hp : ∀ p ∈ ps, Steps p) (w : List Nat) : Closed (gT (lawT ps)) w ↔ ClosedAll ps w := foldT_ok _ (Nat.le_refl _) (FoldOk.start hp) w
end WK
end Text_WM7
section Text_WM8
set_option linter.all false
/-! WM8: the session's state. -/
namespace WK
structure Chg where
  who : Nat
  add : Bool
  entry : Nat
structure SS where
  added : List (List Nat)
  changes : List Chg
  count : Nat
def isCur (ch : List Chg) (e : Nat) : Bool := ch.any (fun x => x.entry == e && x.add) && !ch.any (fun x => x.entry == e && !x.add)
def current (st : SS) : List Nat := (List.range st.added.length).filter (isCur st.changes)
def listed (st : SS) : List (List Nat) := (current st).map fun e => st.added.getD e []
def ownIdx (ch : List Chg) (u : Nat) : List Nat := (List.range ch.length).filter fun i => (ch.getD i ⟨0, true, 0⟩).who == u
structure StOk (n : Nat) (st : SS) : Prop where
  al : st.added.length ≤ n
  cl : st.changes.length ≤ n
  ct : st.count ≤ n
  ws : ∀ p ∈ st.added, Steps p ∧ p.length ≤ 18 ∧ (red p).length ≤ 16
theorem current_len (st : SS) : (current st).length ≤ st.added.length := by
  unfold current
  refine Nat.le_trans (List.length_filter_le _ _) ?_
  rw [List.length_range]
  exact Nat.le_refl _
theorem listed_len (st : SS) : (listed st).length ≤ st.added.length := by
  unfold listed
  rw [List.length_map]
  exact current_len st
theorem current_lt {st : SS} {e : Nat} (h : e ∈ current st) : e < st.added.length := by
  unfold current at h
  exact List.mem_range.mp (List.mem_filter.mp h).1
theorem listed_mem {st : SS} {p : List Nat} (h : p ∈ listed st) : p ∈ st.added := by
  unfold listed at h
  obtain ⟨e, he, rfl⟩ := List.mem_map.mp h
  exact getD_mem (current_lt he)
theorem total_le {ps : List (List Nat)} {b : Nat} (h : ∀ p ∈ ps, p.length ≤ b) : total ps ≤ b * ps.length := by
  induction ps with
  | nil => exact Nat.zero_le _
  | cons p r ih =>
    have z := ih fun q hq => h q (List.mem_cons_of_mem _ hq)
    have y := h p List.mem_cons_self
    unfold total at z ⊢
    rw [List.map_cons, List.sum_cons, List.length_cons, Nat.mul_succ]
    omega
theorem StOk.mono {n m : Nat} {st : SS} (h : StOk n st) (le : n ≤ m) : StOk m st := ⟨by have := h.al; omega, by have := h.cl; omega, by have := h.ct; omega, h.ws⟩
theorem StOk.listed {n : Nat} {st : SS} (h : StOk n st) : ∀ p ∈ WK.listed st, Steps p ∧ p.length ≤ 18 ∧ (red p).length ≤ 16 := fun p hp => h.ws p (listed_mem hp)
end WK
end Text_WM8
section Text_WR1
set_option Elab.async false
set_option linter.all false
set_option maxRecDepth 100000
set_option maxHeartbeats 4000000
/-! WR1: texts: swapcase, reversed. -/
namespace WK
open PySem PySem.Spec L2
open PyProof.Rows hiding St
open SX (S)

theorem swap_one {c : Nat} (h : IsStep c) : Txt.swapcase (S [c]) = S [bk c] := by
  rcases isStep_cases h with rfl | rfl | rfl | rfl | rfl | rfl | rfl | rfl <;> decide +kernel

section
variable {X : Cx} {o e : Expr} {to te : TE}
/-- s.swapcase() of one step -/
def rSwap : V → List V → Hp → VK → Prop := fun x xs H Q => ∃ c, x = .str (S [c]) ∧ xs = [] ∧ IsStep c ∧ Q (.str (S [bk c])) H
theorem mt_swap1 : MtR X "str.swapcase" rSwap := by
  rintro pins s σ H x xs v us Q J rx rs ⟨c, rfl, rfl, hc, q⟩
  obtain ⟨t, rfl⟩ := rx
  cases rs
  refine PySem.SC.swapcase ?_ ?_
  · rw [swap_one hc]
    rfl
  · rw [swap_one hc]
    exact ⟨.str (S [bk c]), H, J.tok _, ⟨_, rfl⟩, q⟩
theorem pe_swap {apos pos : Pos} (ho : PE X o to) (hbase : attributeBase o "swapcase" X.env (eval o X.env) = eval o X.env := by rfl) (hline : (apos.endLine == pos.line) = true := by rfl) :
    PE X (.Call (.Attribute o "swapcase" apos) [] [] pos) (tM0 rSwap to) :=
  pe_m0 F.slot_str_swapcase F.type_str_swapcase mt_swap1 ho hbase hline

/-- t[::-1] of a text -/
def tRevS (te : TE) : TE := fun σ H Q => te σ H fun x H1 => ∃ l : List Nat, x = .str (S l) ∧ l.length ≤ 100000 ∧ Q (.str (S l.reverse)) H1
theorem rev_pick (l : List Nat) : ((Builtin.Str.strSliceIndices none none (-1) l.length).filterMap (l.toArray[·]?)).toArray = l.reverse.toArray := by
  have h : Builtin.Str.strSliceIndices none none (-1) l.length = (List.range l.length).reverse := by
    unfold Builtin.Str.strSliceIndices
    simp only [show ¬ ((-1 : Int) > 0) by decide, if_false]
    exact (W.krv_sliceRange l.length).trans (W.krv_range l.length)
  have a := W.krv_all l.toArray
  rw [List.size_toArray] at a
  rw [h, List.filterMap_reverse, a]
theorem pe_revS {k : Nat} {p1 p2 p3 pos : Pos} (he : PE X e te) : PE X (.Subscript e (.Slice none none (some (.UnaryOp .USub (.Constant (.int 1) k p1) p2)) p3) pos) (tRevS te) := by
  constructor
  intro pins s σ H Q J h
  refine Subscript_ (thn (he.run pins s σ H _ J h) ?_)
  rintro v s1 ⟨x, H1, J1, r1, l, rfl, few, q⟩
  obtain ⟨t, rfl⟩ := r1
  have step : PO X (some (.UnaryOp .USub (.Constant (.int 1) k p1) p2)) (tPart (tUn (rU fun i => .int (-i)) (tC (.int 1)))) := po_some (pe_un un_neg pe_int)
  refine wpAny_Slice (thn (po_none.run pins s1 σ H1 (fun o H2 => o = none ∧ H2 = H1) J1 ⟨rfl, rfl⟩) ?_)
  rintro vl s2 ⟨lo, H2, J2, pl, rfl, rfl⟩
  refine thn (po_none.run pins s2 σ H2 (fun o H3 => o = none ∧ H3 = H2) J2 ⟨rfl, rfl⟩) ?_
  rintro vu s3 ⟨hi, H3, J3, pu, rfl, rfl⟩
  refine thn (step.run pins s3 σ H3 (fun o H4 => o = some (-1) ∧ H4 = H3) J3 ⟨1, rfl, -1, rfl, rfl, rfl⟩) ?_
  rintro vs s4 ⟨o, H4, J4, ps, rfl, rfl⟩
  have J5 : Inv X pins σ H4 { s4 with heap := s4.heap.push { cls := .type "slice", data := .fields #[vl, vu, vs] } } := J4.kept (t' := s4.toks) fun b ob z => Heap.get?_push_of_some _ z
  obtain ⟨l0, rfl, e0⟩ := IsPart.raw pl
  obtain ⟨l1, rfl, e1⟩ := IsPart.raw pu
  obtain ⟨l2, rfl, e2⟩ := IsPart.raw ps
  have n0 : l0 = none := by
    cases l0 with
    | none => rfl
    | some z => cases e0
  have n1 : l1 = none := by
    cases l1 with
    | none => rfl
    | some z => cases e1
  subst n0 n1
  show wpAny (model X.prog X.w) X.A (subscriptTail e (.Slice none none (some (.UnaryOp .USub (.Constant (.int 1) k p1) p2)) p3) (.str (S l) t) (.ref s4.heap.objs.size)) (EP X pins σ Q) X.xe
    { s4 with heap := s4.heap.push { cls := .type "slice", data := .fields #[partValue none, partValue none, partValue l2] } }
  refine tail_any (ops := [.str (S l) t, .ref s4.heap.objs.size]) (typeIs_str _ _ _) (F.slot_str_getitem.lookup) ?_ (by with_unfolding_all rfl)
  obtain ⟨i, u, rfl⟩ : ∃ i u, l2 = some (i, u) := by
    cases l2 with
    | none => cases e2
    | some z => exact ⟨z.1, z.2, rfl⟩
  have ei : i = -1 := by
    have z : some i = some (-1 : Int) := e2
    exact Option.some.inj z
  subst ei
  refine wpAny_getItem_str_slice (l := none) (u := none) (st := some (-1, u)) ⟨_, Heap.get?_push_size _ rfl, rfl, rfl⟩ rfl ?_
  have size : (S l).length = l.length := SX.S_len l
  show Made.post (if (((-1 : Int)) == 1 && (Builtin.Str.strSliceIndices none none (-1) (S l).length).length == (S l).length) = true then Made.val (.str (S l) t)
    else Made.str ⟨((Builtin.Str.strSliceIndices none none (-1) (S l).length).filterMap ((S l).cps[·]?)).toArray⟩) (EP X pins σ Q) _
  rw [if_neg (by simp), size]
  have same : (⟨((Builtin.Str.strSliceIndices none none (-1) l.length).filterMap ((S l).cps[·]?)).toArray⟩ : Str) = S l.reverse := congrArg Str.mk (rev_pick l)
  rw [same]
  refine ⟨?_, .str (S l.reverse), H4, J5.tok _, ⟨_, rfl⟩, q⟩
  rw [SX.S_len, List.length_reverse, sizeLine_eq]
  omega
end
end WK
end Text_WR1
section Text_WR2
set_option Elab.async false
set_option linter.all false
set_option maxRecDepth 100000
set_option maxHeartbeats 4000000
/-! WR2: first, *others = a tuple. -/
namespace WK
open PySem PySem.Spec L2
open PyProof.Rows hiding St

section
variable {prog : Program} {w : World} {A : Around} {E : Value → Shared → Prop} {s : Shared}
theorem unpack_first {l : Addr} {items : Array Value} {v : Value} {vs : List Value} {Q : List Value → Shared → Prop} (tup : IsTup s.heap l items) (cold : A.handled = none) (e : items.toList = v :: vs) (few : items.size ≤ 16384)
    (h : ∀ (h' : Heap) (tk : Nat), (∀ b o, s.heap.get? b = some o → h'.get? b = some o) →
      Q [v, .ref h'.objs.size] { s with heap := h'.push { cls := .type "list", data := .seq vs.toArray }, toks := tk }) : wpAny (model prog w) A (unpackItems (.ref l) 2 (some 1)) Q E s := by
  have old : l ≠ s.heap.objs.size := by
    obtain ⟨o, ho, _⟩ := tup
    exact Nat.ne_of_lt (Heap.lt_size ho)
  have size : items.size = vs.length + 1 := by
    have z := congrArg List.length e
    simpa using z
  unfold unpackItems
  refine wpAny_bind ?_
  unfold notIterableAtAll
  refine wpAny_bind (wpAny_specialOf tup.typeIs slot_tuple_iter.lookup (wpAny_pure ?_))
  simp only [Bool.false_eq_true, if_false]
  refine wpAny_bind (wpAny_holding (iter_tuple tup ?_))
  refine wpAny_bind (wpAny_holding (draw_tuple old 1 0 _ _ ⟨_, Heap.get?_push_size _ rfl, rfl, rfl⟩ (tup.push _) (by omega) ?_))
  intro h1 it1 sb1
  have tup1 : IsTup h1 l items := (tup.push _).extBut sb1.extBut old
  rw [Nat.zero_add] at it1
  obtain ⟨oi, hoi, _⟩ := id it1
  obtain ⟨ol, hol, _⟩ := id tup1
  rw [List.drop_zero, e]
  have front : List.take 1 (v :: vs) = [v] := rfl
  rw [front, if_neg (by simp)]
  refine wpAny_bind (wpAny_holding (PySem.W.kun_collect (s := { s with heap := h1 }) (T := "tuple_iterator") (.inr (.inr (.inr rfl))) (Walks.tuple (A := A.in1) cold s.heap.objs.size l old items)
    (fun j u st => st.1.typeIs) (k := 1) (by omega) ⟨it1, tup1⟩ (Heap.lt_size hoi) (Heap.lt_size hol) ?_ (by rw [sizeLine_eq]; omega)))
  intro h2 tk kp
  have back : items.toList.drop 1 = vs := by rw [e]; rfl
  rw [back]
  show wpAny _ _ (if vs.length < 2 - 1 - 1 then _ else _) _ _ _
  rw [if_neg (by omega)]
  show wpAny _ _ (newList (vs.take (vs.length - 0)) >>= fun d => pure ([v] ++ [d] ++ vs.drop (vs.length - 0))) _ _ _
  rw [Nat.sub_zero, List.take_length, List.drop_length]
  have kept : ∀ b o, s.heap.get? b = some o → h2.get? b = some o := by
    intro b o q
    have nb : b ≠ s.heap.objs.size := Nat.ne_of_lt (Heap.lt_size q)
    exact kp b o nb (sb1.extBut b o nb (Heap.get?_push_of_some _ q))
  exact wpAny_bind (wpAny_newList (wpAny_pure (h h2 tk kept)) (by rw [sizeLine_eq]; omega))
end

section
variable {X : Cx} {a b : Expr} {ga gb : TG} {k : Nat} {p pos : Pos}
/-- a, *b = a tuple -/
def gStar (K : PySem.W.Frag) (ga gb : TG) : TG := fun v σ H Q => ∃ t x xs, v = .ref t ∧ SqT K H t (x :: xs) ∧ xs.length ≤ 1000 ∧ ∀ D, H D = none → ga x σ (upd H D (.lst xs)) fun σ1 H1 => gb (.ref D) σ1 H1 Q
theorem pg_star (hc : X.calm = true) (ha : PG X a ga) (hb : PG X b gb) (h0 : (assignEach [a, .Starred b p] X.env).length = 2 := by rfl) (h1 : (assignEach [a, .Starred b p] X.env).findIdx? (·.1) = some 1 := by rfl)
    (h2 : (assignEach [a, .Starred b p] X.env).map (·.2) = [assign a X.env, assign b X.env] := by rfl) : PG X (.Tuple [a, .Starred b p] k pos) (gStar X.K ga gb) := by
  constructor
  rintro pins s σ H v u Q J r ⟨t, x, xs, rfl, tup, few, q⟩
  obtain rfl : u = Value.ref t := r
  obtain ⟨its, rv, ht, _⟩ := J.tuple tup
  cases rv with
  | @cons _ u0 _ us rx rxs =>
    have sz := rxs.length
    rw [assign_Tuple]
    refine wpAny_bind (wpAny_standAt ?_)
    unfold unpack
    rw [h0, h1, h2]
    refine wpAny_bind (wpAny_holding (unpack_first ht (J.ok.hd hc) (v := u0) (vs := us) (by simp) (by simp; omega) ?_))
    intro h' tk kp
    have J1 : Inv X pins σ H { s with heap := h', toks := tk } := J.kept kp
    have free : H h'.objs.size = none := J1.hok.fresh (Nat.le_refl _)
    have J2 : Inv X pins σ (upd H h'.objs.size (.lst xs)) { s with heap := h'.push { cls := .type "list", data := .seq us.toArray }, toks := tk } :=
      J1.laid (t' := tk) (fun b o z => Heap.get?_push_of_some _ z) (Nat.le_refl _) ⟨by rw [sizeLine_eq]; omega, us, 0, rxs, Heap.get?_push_size _ rfl⟩
    refine assignInOrder_cons (thn (ha.run pins _ σ _ x u0 _ J2 rx (q _ free)) ?_)
    rintro _ s1 ⟨σ1, H1, J3, q1⟩
    refine assignInOrder_cons (thn (hb.run pins s1 σ1 H1 (.ref h'.objs.size) _ Q J3 rfl q1) ?_)
    rintro _ s2 ⟨σ2, H2, J4, q2⟩
    exact assignInOrder_nil ⟨σ2, H2, J4, q2⟩
end
end WK
end Text_WR2
section Text_WR3
set_option Elab.async false
set_option linter.all false
set_option maxRecDepth 100000
set_option maxHeartbeats 4000000
/-! WR3: dict.pop of a tuple key, dict.update, a fresh dict locked, methods called with keywords. -/
namespace WK
open PySem PySem.Spec L2
open PyProof.Rows hiding St

/-! ### d.pop(k), k a tuple that is there -/
section
variable {κ : Type} [DecidableEq κ] {prog : Program} {w : World} {knd : HeapKind prog w κ}
theorem meets_pop1 {d b : Addr} {k : κ} (hd : (d == sysModules) = false) :
    MeetsIn prog w (Builtin.«dict.pop» ⟨[.ref d, .ref b], []⟩) (fun A R s => ∃ xs p, knd.room A.in1 ∧ knd.is s.heap k b ∧ s.heap.DictOfH knd d xs ∧ xs.length ≤ sizeLine ∧ atKey xs k = some p ∧
      ∀ h' tk, h'.DictOfH knd d (DT.dropH xs k) → Heap.SameBut d s.heap h' → R (.ok (.ret p.2)) { s with heap := h', toks := tk }) := by
  refine .of_wp ?_
  rintro A R s ⟨xs, p, room, key, dict, few, there, q⟩
  obtain ⟨o, es, ep, ho, hc, hdat, he, his, hn⟩ := id dict
  have size : es.size = xs.length := size_of_entries he
  have plain : (keyPart (Value.ref b)).isSome = false := rfl
  unfold Builtin.«dict.pop»
  refine wpAny_bind ?_
  unfold Builtin.Dict.keyAndDefault
  refine wpAny_bind (wpAny_notOrdered_dict dict.typeIs ?_)
  show wpAny _ _ (pure (d, Value.ref b, (none : Option Value))) _ _ s
  refine wpAny_pure ?_
  simp only [plain, Bool.false_eq_true, if_false]
  refine wpAny_bind (wpAny_dictEntries ho hdat (wpAny_bind (wpAny_pure ?_)))
  have some_ : es.isEmpty = false := by
    cases z : es.isEmpty with
    | false => rfl
    | true =>
      have z1 : es.size = 0 := by simpa using z
      have z2 : xs = [] := List.length_eq_zero_iff.mp (by omega)
      rw [z2] at there
      cases there
  rw [some_]
  simp only [Bool.false_eq_true, if_false]
  refine wpAny_bind (DT.takeH room key dict few ?_ ?_)
  · intro z
    rw [z] at there
    cases there
  · intro p' e hp hev h' dict' sb
    rw [there] at hp
    obtain rfl := Option.some.inj hp
    simp only [Option.isNone_some, Bool.false_eq_true, if_false]
    exact wpAny_bind (wpAny_letGo (wpAny_pure ⟨e.val, rfl, by rw [hev]; exact q h' _ dict' sb⟩))
end
section
variable {X : Cx}
def rPop1 : V → List V → Hp → VK → Prop := fun x xs H Q => ∃ (a : Addr) (kvs : List (List L2.Key × V)) (k : List L2.Key) (b : Addr) (v : V), x = .ref a ∧ xs = [.ref b] ∧ H a = some (.dT kvs) ∧ H b = some (.tup (k.map kV)) ∧
  valV kvs k = some v ∧ Q v (upd H a (.dT (dropK kvs k)))
theorem mt_pop1 (hu : X.A.units + 1 < cLine) : MtM X "dict.pop" rPop1 := by
  rintro pins s σ H x xs v us Q J rx rxs ⟨a, kvs, k, b, v0, rfl, rfl, ha, hb, there, q⟩
  obtain rfl : v = Value.ref a := rx
  obtain ⟨u1, rfl, r1⟩ := vals1 rxs
  obtain rfl : u1 = Value.ref b := r1
  obtain ⟨z, hd, xs', rel, dd⟩ := dt_of J.hok ha
  have few : xs'.length ≤ sizeLine := by
    rw [← Paired.length rel]
    exact z
  have r := rel.val k
  rw [there] at r
  obtain ⟨u0, e0, rv⟩ := RelO.some_of r
  obtain ⟨p, hp, e1⟩ := Option.map_eq_some_iff.mp e0
  subst e1
  refine call_meetsIn PySem.F.slot_dict_pop dd.typeIs PySem.F.entry_dict_pop (PySem.F.args_dict_pop_2 _ _) (meets_pop1 (knd := tupleKind (mixKind X.prog X.w)) (k := k) hd) ⟨xs', p, tupleKind_room_in1 hu, key_of J.hok hb, dd, few, hp, ?_⟩
  intro h' tk dd' sb
  obtain ⟨o, es, ep, hq, h2, h3, h4, _, h5⟩ := dd'
  have still : KT (upd H a (.dT (dropK kvs k))) (dropK kvs k) (DT.dropH xs' k) := (L2.DX.KT_drop k rel).keeps fun c ys ec => by
    rw [upd_ne (ne_of ec ha (fun z => nomatch z))]
    exact ec
  have J2 : Inv X pins σ (upd H a (.dT (dropK kvs k))) { s with heap := h', toks := tk } :=
    d_write J (by rw [ha]; exact True.intro) sb ⟨o, hq⟩ ⟨Nat.le_trans (dropK_le kvs k) z, hd, _, still, o, es, ep, hq, h2, h3, h4, h5⟩
  show EP X pins σ Q p.2 _
  exact ⟨v0, _, J2, rv, q⟩

/-! ### d.update(e) -/
def rUpdD : V → List V → Hp → VK → Prop := fun x xs H Q => ∃ (a b : Addr) (kvs more : List (L2.Key × V)), x = .ref a ∧ xs = [.ref b] ∧ a ≠ b ∧ H a = some (.dK kvs) ∧ H b = some (.dK more) ∧ kvs.length + more.length ≤ sizeLine ∧ Q .non (upd H a (.dK (mergeK kvs more)))
theorem mt_updD : MtM X "dict.update" rUpdD := by
  rintro pins s σ H x xs v us Q J rx rxs ⟨a, b, kvs, more, rfl, rfl, ne, ha, hb, few, q⟩
  obtain rfl : v = Value.ref a := rx
  obtain ⟨u1, rfl, r1⟩ := vals1 rxs
  obtain rfl : u1 = Value.ref b := r1
  obtain ⟨za, sa, va, ra, da⟩ := dk_of J.hok ha
  obtain ⟨zb, sb, vb, rb, db⟩ := dk_of J.hok hb
  have few2 : va.length + vb.length ≤ sizeLine := by
    rw [← ra.length, ← rb.length]
    exact few
  refine call_meetsIn PySem.F.slot_dict_update da.typeIs PySem.F.entry_dict_update (PySem.F.args_dict_update_2 _ _) (meets_dict_update (mixKind X.prog X.w) a b ne sb) ⟨va, vb, da, db, few2, ?_⟩
  intro h' da' db' still
  have there : ∃ o, h'.get? a = some o := by
    obtain ⟨o, _, _, e, _⟩ := da'
    exact ⟨o, e⟩
  have len : (mergeK kvs more).length ≤ sizeLine := Nat.le_trans (length_mergeK more kvs) few
  have J2 : Inv X pins σ (upd H a (.dK (mergeK kvs more))) { s with heap := h' } :=
    d_write (t' := s.toks) J (by rw [ha]; exact True.intro) still there (dk_new len sa (KV.merge rb ra) da')
  show EP X pins σ Q Value.none _
  exact ⟨.non, _, J2, rfl, q⟩
end

/-! ### an object that an expression hands out, locked from there on -/
def tFrz (te : TE) : TE := fun σ H Q => te σ H fun x H1 => ∃ a u, x = .ref a ∧ H1 a = some u ∧ Mut (some u) ∧ ∀ od, Q x (upd H1 a (.frz od u))
section
variable {X : Cx} {e : Expr} {te : TE}
theorem pe_frz (he : PE X e te) : PE X e (tFrz te) := by
  constructor
  intro pins s σ H Q J h
  refine thn (he.run pins s σ H _ J h) ?_
  rintro v s1 ⟨x, H1, J1, r1, a, u, rfl, ha, mu, q⟩
  obtain ⟨od, J2⟩ := J1.lock ha mu
  exact ⟨.ref a, _, J2, r1, q od⟩
end

/-! ### o.m(e, .., k = v, ..) -/
def tMethK (C : Addr) (m : Str) (sp : Sp) (gV : List V → List V → List V) (E : L2.St → XK) (ta : TE) (t tk : TA) : TE := fun σ H Q => ta σ H fun x H1 => ∃ a dx fs, x = .ref a ∧ H1 a = some (.ins C dx fs) ∧ fs.lookup m = none ∧
  t σ H1 fun vs H2 => tk σ H2 fun zs H3 => sp (gV (x :: vs) zs) H3 Q (E σ)
section
variable {X : Cx} {CX : CXT} {k : Nat} {f C : Addr} {fd : FuncData} {ps ks : List Str} {sp : Sp} {E : L2.St → XK} {m : Str} {pos apos : Pos} {e o : Expr} {es : List Expr} {kws : List Keyword} {ta : TE} {t tk : TA} {g : List Value → List Value → List Value} {gV : List V → List V → List V}
theorem run_methK {pins : List (Addr × Obj)} {σ : L2.St} {H : Hp} {s : Shared} {Q : VK} {us ws : List Value} {vs zs : List V} (F : FnOk X.prog X.w X.K X.mg X.base CX k f fd ps sp) (hr : Room k X.A) (hb : KBinds X.K fd ps ks g gV)
    (hx : PassesAt CX X σ (E σ)) (J : Inv X pins σ H s) (r : Vals vs us) (rz : Vals zs ws) (h : sp (gV vs zs) H Q (E σ)) : wpAny (model X.prog X.w) X.A (call (.ref f) us (ks.zip ws)) (EP X pins σ Q) X.xe s := by
  have r2 := hb.rel r rz
  have sz : (g us ws).length = ps.length := by
    rw [← r2.length]
    exact F.len _ _ _ _ h
  refine wpAny_call (codeAny_mono (F.run X.A X.stack s H ⟨us, ks.zip ws⟩ (g us ws) (gV vs zs) Q (E σ) hr J.env0 (hb.to s us ws J.kIn sz) r2 h) ?_)
  intro res s' out
  cases res with
  | error e => exact hx pins H s e s' J out
  | ok fl =>
    cases fl with
    | ret u => exact J.after out
    | next => exact out.elim
    | brk => exact out.elim
    | cont => exact out.elim
theorem pe_methK {pl : Sem Bool} (he : PE X o ta) (c : Cls X.K C) (hm : Meth X.K C m f) (F : FnOk X.prog X.w X.K X.mg X.base CX k f fd ps sp) (hr : Room k X.A) (hb : KBinds X.K fd ps ks g gV) (hx : ∀ σ, PassesAt CX X σ (E σ))
    (ha : PA X (e :: es) t) (hkw : PK X kws tk) (hall : (backToKw pos (keywordEach kws X.env)).all (·.1.isSome) = true := by rfl) (hks : (backToKw pos (keywordEach kws X.env)).filterMap (·.1) = ks := by rfl)
    (hst : starEach (e :: es) X.env = (false, eval e X.env) :: starEach es X.env := by rfl) (hpl : ((backTo pos (starEach (e :: es) X.env)).any (·.1) || (backToKw pos (keywordEach kws X.env)).any (·.1.isNone)) = false := by rfl)
    (ht : eval (.Call (.Attribute o m apos) (e :: es) kws pos) X.env = (do
      let ov ← eval o X.env
      standAt apos.atName
      let (f, first) ← holding [ov] (getMethod ov m pl)
      callWith pos f first (backTo pos (starEach (e :: es) X.env)) (backToKw pos (keywordEach kws X.env))) := by rfl) :
    PE X (.Call (.Attribute o m apos) (e :: es) kws pos) (tMethK C m sp gV E ta t tk) := by
  constructor
  intro pins s σ H Q J h
  refine PySem.W.methodCall_KW (pl := pl) (thn (he.run pins s σ H _ J h) ?_) ht
  rintro u s1 ⟨x, H1, J1, rx, a, dx, fs, rfl, ea, l, q⟩
  obtain rfl : u = Value.ref a := rx
  refine getmeth_ok J1 ea c hm l ?_
  refine PySem.W.callWith_KW (first := [.ref a]) (h₀ := X.base) J.ok.mod.kin hm.kp hall (thn (ha.run pos pins s1 σ H1 _ J1 q) ?_) hpl hst
  rintro us s2 ⟨vs, H2, J2, r, q2⟩
  refine thn (hkw.run pos pins s2 σ H2 _ J2 q2) ?_
  rintro ws s3 ⟨zs, H3, J3, rz, q3⟩
  refine ⟨J3.kIn, ?_⟩
  rw [hks]
  exact run_methK (us := .ref a :: us) (vs := .ref a :: vs) F hr hb (hx σ) J3 (.cons rfl r) rz q3
theorem pe_methK0 {pl : Sem Bool} (he : PE X o ta) (c : Cls X.K C) (hm : Meth X.K C m f) (F : FnOk X.prog X.w X.K X.mg X.base CX k f fd ps sp) (hr : Room k X.A) (hb : KBinds X.K fd ps ks g gV) (hx : ∀ σ, PassesAt CX X σ (E σ))
    (hkw : PK X kws tk) (hall : (backToKw pos (keywordEach kws X.env)).all (·.1.isSome) = true := by rfl) (hks : (backToKw pos (keywordEach kws X.env)).filterMap (·.1) = ks := by rfl)
    (hpl : ((backTo pos (starEach [] X.env)).any (·.1) || (backToKw pos (keywordEach kws X.env)).any (·.1.isNone)) = false := by rfl)
    (ht : eval (.Call (.Attribute o m apos) [] kws pos) X.env = (do
      let ov ← eval o X.env
      standAt apos.atName
      let (f, first) ← holding [ov] (getMethod ov m pl)
      callWith pos f first (backTo pos (starEach [] X.env)) (backToKw pos (keywordEach kws X.env))) := by rfl) :
    PE X (.Call (.Attribute o m apos) [] kws pos) (tMethK C m sp gV E ta tNil tk) := by
  constructor
  intro pins s σ H Q J h
  refine PySem.W.methodCall_KW (pl := pl) (thn (he.run pins s σ H _ J h) ?_) ht
  rintro u s1 ⟨x, H1, J1, rx, a, dx, fs, rfl, ea, l, q⟩
  obtain rfl : u = Value.ref a := rx
  refine getmeth_ok J1 ea c hm l ?_
  refine PySem.W.callWith_KW0 (first := [.ref a]) (h₀ := X.base) J.ok.mod.kin hm.kp hall (thn (hkw.run pos pins s1 σ H1 _ J1 q) ?_) hpl
  rintro ws s3 ⟨zs, H3, J3, rz, q3⟩
  refine ⟨J3.kIn, ?_⟩
  rw [hks]
  exact run_methK (us := [.ref a]) (vs := [.ref a]) F hr hb (hx σ) J3 (.cons rfl .nil) rz q3
end
end WK
end Text_WR3
section Text_WR4
set_option Elab.async false
set_option linter.all false
set_option maxRecDepth 100000
set_option maxHeartbeats 4000000
/-! WR4: repr and f-string of a dict of scalars, len and repr of an object of one's own. -/
namespace WK
open PySem PySem.Spec L2
open PyProof.Rows hiding St

def datK : Key → PyData
  | .inl i => .int i
  | .inr x => .str x
/-- a scalar as data -/
def datS : V → PyData
  | .int i => .int i
  | .str x => .str x
  | .bl b => .bool b
  | _ => .none
def isScalar : V → Bool
  | .int _ => true
  | .str _ => true
  | .bl _ => true
  | .non => true
  | _ => false
def datD (kvs : List (Key × V)) : List (PyData × PyData) := kvs.map fun p => (datK p.1, datS p.2)
theorem reads_scalar {h : Heap} {v : V} {u : Value} (r : RelV v u) (sc : isScalar v = true) : Reads h u (datS v) [] := by
  cases v with
  | non =>
    obtain rfl : u = Value.none := r
    exact Reads.none
  | bl b =>
    obtain rfl : u = Value.bool b := r
    exact Reads.bool b
  | int i =>
    obtain ⟨t, rfl⟩ := (show ∃ t, u = Value.int i t from r)
    exact Reads.int i t
  | str x =>
    obtain ⟨t, rfl⟩ := (show ∃ t, u = Value.str x t from r)
    exact Reads.str x t
  | _ => cases sc
section
variable {X : Cx} {pins : List (Addr × Obj)} {σ : L2.St} {H : Hp} {s : Shared} {a : Addr} {kvs : List (Key × V)}
theorem pairs_read {h : Heap} : ∀ {kvs : List (Key × V)} {vs : List (Key × Value)}, KV kvs vs → (∀ p ∈ kvs, isScalar p.2 = true) → PyProof.V.PairsRead h datK vs (datD kvs) []
  | _, _, .nil, _ => .nil
  | p :: r, q :: rs, .cons h1 h2, sc => by
    have e : datD (p :: r) = (datK q.1, datS p.2) :: datD r := by
      rw [← h1.1]
      rfl
    rw [e]
    exact PyProof.V.PairsRead.cons (as := []) (bs := []) (reads_scalar h1.2 (sc p List.mem_cons_self)) (pairs_read h2 fun z hz => sc z (List.mem_cons_of_mem _ hz))
theorem reads_key {h : Heap} : ∀ (k : Key) (key : Value), (mixKind X.prog X.w).is k key = true → Reads h key (datK k) [] := by
  intro k key e
  rcases keyIs_shape e with ⟨i, t, rfl, rfl⟩ | ⟨x, t, rfl, rfl⟩
  · exact Reads.int i t
  · exact Reads.str x t
theorem reads_dK (J : Inv X pins σ H s) (e : H a = some (.dK kvs)) (sc : ∀ p ∈ kvs, isScalar p.2 = true) : Reads s.heap (.ref a) (.dict (datD kvs)) [a] ∧ a ≠ sysModules := by
  obtain ⟨z, hs, vs, kv, d⟩ := dk_of J.hok e
  exact ⟨PyProof.V.reads_dictOf (reads_key (X := X)) d (pairs_read kv sc), fun q => by rw [q] at hs; exact absurd hs (by decide)⟩

/-- repr of a dict of scalars -/
def rReprDict : List V → Hp → VK → Prop := fun xs H Q => ∃ (a : Addr) (kvs : List (Key × V)), xs = [.ref a] ∧ H a = some (.dK kvs) ∧ (∀ p ∈ kvs, isScalar p.2 = true) ∧ (PyData.dict (datD kvs)).showable = true ∧
  (PyData.dict (datD kvs)).depth ≤ 32 ∧ (PyData.dict (datD kvs)).shown.length ≤ sizeLine ∧ Q (.str (PyData.dict (datD kvs)).shown) H
theorem call_reprDict (hG : X.A.guards = some []) (hu : X.A.units + 64 < cLine) : CallR X (.builtin "repr") rReprDict := by
  rintro pins s σ H xs us Q J r ⟨a, kvs, rfl, ha, sc, h1, h3, h4, q⟩
  obtain ⟨u, rfl, ru⟩ := vals1 r
  obtain rfl : u = Value.ref a := ru
  obtain ⟨rd, nsys⟩ := reads_dK J ha sc
  refine repr_of_reads' rd h1 (fun _ z => nsys (List.mem_singleton.mp z).symm) hG (by omega) (fun _ _ z => z) ?_ h4
  intro h' t tk kp
  exact ⟨.str _, H, J.kept kp, ⟨_, rfl⟩, q⟩
/-- {d} in an f-string -/
def tFmtD (te : TE) : TE := fun σ H Q => te σ H fun x H1 => ∃ (a : Addr) (kvs : List (Key × V)), x = .ref a ∧ H1 a = some (.dK kvs) ∧ (∀ p ∈ kvs, isScalar p.2 = true) ∧ (PyData.dict (datD kvs)).showable = true ∧
  (PyData.dict (datD kvs)).depth ≤ 32 ∧ (PyData.dict (datD kvs)).shown.length ≤ sizeLine ∧ Q (.str (PyData.dict (datD kvs)).shown) H1
theorem pe_fmtD {e : Expr} {te : TE} {pos : Pos} (hG : X.A.guards = some []) (hu : X.A.units + 64 < cLine) (he : PE X e te) : PE X (.FormattedValue e (-1) none pos) (tFmtD te) := by
  constructor
  intro pins s σ H Q J h
  refine wpAny_FormattedValue_plain (thn (he.run pins s σ H _ J h) ?_)
  rintro v s1 ⟨x, H1, J1, r1, a, kvs, rfl, ha, sc, h1, h3, h4, q⟩
  obtain rfl : v = Value.ref a := r1
  obtain ⟨rd, nsys⟩ := reads_dK J1 ha sc
  refine formatField_of_reads rd h1 (fun _ z => nsys (List.mem_singleton.mp z).symm) hG (by omega) (fun _ _ z => z) ?_ h4
  intro h' t tk kp
  exact ⟨.str _, H1, J1.kept kp, ⟨_, rfl⟩, q⟩
end

/-! ### len(o), repr(o) of an object of one's own -/
section
variable {X : Cx} {C f : Addr} {fd : FuncData} {ps : List Str} {sp : Sp} {k : Nat}
/-- a method run by a builtin, one level in -/
theorem run_in1 {pins : List (Addr × Obj)} {σ : L2.St} {H : Hp} {s : Shared} {Q : VK} {a : Addr} (F : FnOk X.prog X.w X.K X.mg X.base CX0 k f fd ps sp) (hr : Room (k + 1) X.A) (hb : Binds X.K fd ps []) (J : Inv X pins σ H s) (h : sp [.ref a] H Q E0)
    {E : Value → Shared → Prop} : wpAny (model X.prog X.w) X.A.in1 (call (.ref f) [.ref a]) (EP X pins σ Q) E s := by
  have sz : ([Value.ref a] ++ []).length = ps.length := (F.len _ _ _ _ h)
  have bd := hb s [.ref a] J.kIn sz
  rw [List.append_nil] at bd
  refine wpAny_call (codeAny_mono (F.run X.A.in1 X.stack s H ⟨[.ref a], []⟩ [.ref a] [.ref a] Q E0 hr.in1 J.env0.in1 bd (.cons rfl .nil) h) ?_)
  intro res s' out
  cases res with
  | error e => exact out.elim
  | ok fl =>
    cases fl with
    | ret u => exact J.after out
    | next => exact out.elim
    | brk => exact out.elim
    | cont => exact out.elim
theorem run_in1G {pins : List (Addr × Obj)} {σ : L2.St} {H : Hp} {s : Shared} {Q : VK} {a : Addr} (F : FnG X.prog X.w X.K X.mg X.base CX0 k f fd ps sp) (hG : X.A.guards = some []) (hr : Room (k + 1) X.A) (hb : Binds X.K fd ps []) (J : Inv X pins σ H s) (h : sp [.ref a] H Q E0)
    {E : Value → Shared → Prop} : wpAny (model X.prog X.w) X.A.in1 (call (.ref f) [.ref a]) (EP X pins σ Q) E s := by
  have sz : ([Value.ref a] ++ []).length = ps.length := (F.len _ _ _ _ h)
  have bd := hb s [.ref a] J.kIn sz
  rw [List.append_nil] at bd
  refine wpAny_call (codeAny_mono (F.go X.A.in1 X.stack s H ⟨[.ref a], []⟩ [.ref a] [.ref a] Q E0 hG hr.in1 J.env0.in1 bd (.cons rfl .nil) h) ?_)
  intro res s' out
  cases res with
  | error e => exact out.elim
  | ok fl =>
    cases fl with
    | ret u => exact J.after out
    | next => exact out.elim
    | brk => exact out.elim
    | cont => exact out.elim
def rLenO (C : Addr) (sp : Sp) : List V → Hp → VK → Prop := fun xs H Q => ∃ a dx fs, xs = [.ref a] ∧ H a = some (.ins C dx fs) ∧ sp [.ref a] H (fun v H' => ∃ n : Int, v = .int n ∧ 0 ≤ n ∧ n < 2 ^ 63 ∧ Q (.int n) H') E0
theorem call_lenO (F : FnOk X.prog X.w X.K X.mg X.base CX0 k f fd ps sp) (hr : Room (k + 1) X.A) (hb : Binds X.K fd ps []) (hm : Meth X.K C "__len__" f) : CallR X (.builtin "len") (rLenO C sp) := by
  rintro pins s σ H xs us Q J r ⟨a, dx, fs, rfl, ha, q⟩
  obtain ⟨u, rfl, ru⟩ := vals1 r
  obtain rfl : u = Value.ref a := ru
  obtain ⟨mA, O, _⟩ := ins_get J.hok ha
  obtain ⟨od, at_, _⟩ := O.look
  obtain ⟨m, fr⟩ := J.fr
  refine PySem.W.len_K fr J.ok.mod.kin at_ hm.at_ hm.fn (wpAny_mono (run_in1 F hr hb J q) ?_ fun _ _ z => z)
  rintro v s1 ⟨x, H1, J1, r1, n, rfl, h0, h1, q1⟩
  obtain ⟨t, rfl⟩ := r1
  exact ⟨⟨h0, h1⟩, .int n, H1, J1.tok _, ⟨_, rfl⟩, q1⟩
def rReprO (C : Addr) (sp : Sp) : List V → Hp → VK → Prop := fun xs H Q => ∃ a dx fs, xs = [.ref a] ∧ H a = some (.ins C dx fs) ∧ sp [.ref a] H (fun v H' => ∃ z : Str, v = .str z ∧ Q (.str z) H') E0
theorem call_reprO (F : FnG X.prog X.w X.K X.mg X.base CX0 k f fd ps sp) (hG : X.A.guards = some []) (hr : Room (k + 1) X.A) (hb : Binds X.K fd ps []) (hm : Meth X.K C "__repr__" f) : CallR X (.builtin "repr") (rReprO C sp) := by
  rintro pins s σ H xs us Q J r ⟨a, dx, fs, rfl, ha, q⟩
  obtain ⟨u, rfl, ru⟩ := vals1 r
  obtain rfl : u = Value.ref a := ru
  obtain ⟨mA, O, _⟩ := ins_get J.hok ha
  obtain ⟨od, at_, _⟩ := O.look
  obtain ⟨m, fr⟩ := J.fr
  have hu : X.A.in1.units < cLine := by
    have := hr.units
    show X.A.units + 1 < cLine
    omega
  refine PySem.W.repr_K hu fr J.ok.mod.kin at_ hm.at_ hm.fn (wpAny_mono (run_in1G F hG hr hb J q) ?_ fun _ _ z => z)
  rintro v s1 ⟨x, H1, J1, r1, z, rfl, q1⟩
  obtain ⟨t, rfl⟩ := r1
  exact ⟨.str z, H1, J1, ⟨_, rfl⟩, q1⟩
end
end WK
end Text_WR4
section Text_WR5
set_option Elab.async false
set_option linter.all false
set_option maxRecDepth 100000
set_option maxHeartbeats 4000000
/-! WR5: enumerate(text). -/
namespace WK
open PySem PySem.Spec L2
open PyProof.Rows hiding St

/-- the signs of x, each in a new pair with its place -/
def Itx (x : Str) : It :=
  ⟨fun i _ => i < x.cps.size, fun i H v H' => ∃ (T : Addr) (c : Nat), v = .ref T ∧ H T = none ∧ H' = upd H T (.tup [.int (i : Nat), .str ⟨#[c]⟩]) ∧ x.cps[i]? = some c, fun i _ => x.cps.size ≤ i⟩
theorem turn_enumx {P : Program} {w : World} {K : PySem.W.Frag} {elts : List Expr} {kk : Nat} {tpos : Pos} (e it : Addr) (x : Str) (t : Tok) :
    Turn P w K (.Tuple elts kk tpos) (Itx x) [e, it] e (fun i h => (∃ old, IsEnum h e it ((i : Nat) : Int) old) ∧ h.IsStrIter it (strIterType x) x t i ∧ e ≠ it ∧ i ≤ x.cps.size) where
  mem := List.mem_cons_self
  obj := fun i h st b hb => by
    obtain ⟨⟨old, he⟩, ⟨o, ho, hc, hd⟩, _⟩ := st
    rcases List.mem_cons.mp hb with z | z
    · rw [z]
      exact ⟨_, he, fun v q => by cases q⟩
    · rw [List.mem_singleton.mp z]
      exact ⟨o, ho, fun v q => by rw [hd] at q; cases q⟩
  keep := fun i h h' st k => by
    obtain ⟨⟨old, he⟩, ⟨o, ho, r⟩, hne⟩ := st
    exact ⟨⟨old, k e (by simp) _ he⟩, ⟨o, k it (by simp) o ho, r⟩, hne⟩
  item := by
    intro X hP hw hK hc i pins s σ H E I hf st hg
    subst hP
    subst hw
    subst hK
    obtain ⟨⟨old, he⟩, hit, hne, _⟩ := st
    have elt : e < s.heap.objs.size := Heap.lt_size he
    have ilt : it < s.heap.objs.size := by
      obtain ⟨o, q, _⟩ := hit
      exact Heap.lt_size q
    have D := Draws.text (prog := X.prog) (w := X.w) (A := X.A.in1) (I.ok.hd hc) it x t
    refine wpAny_pyNext_enum_itemC D he hit hg hne (fun z => hne (List.mem_singleton.mp z)) ?_
    intro v h' tk hv out hit' hT hsz hk
    obtain ⟨c, u, hx, rfl⟩ := hv
    refine ⟨_, rfl, ?_⟩
    refine wpAny_letOwnedTupleGo_enum (s := { s with heap := h', toks := tk + 1 }) out ?_
    intro h2 he2 sb
    have hT2 : h2.get? s.heap.objs.size = some { cls := .type "tuple", data := .seq #[.int i tk, .str ⟨#[c]⟩ u] } := by rw [sb.2 _ (Nat.ne_of_gt elt)]; exact hT
    have new : ObjOk X.prog X.w (upd H s.heap.objs.size (.tup [.int (i : Nat), .str ⟨#[c]⟩])) h2 s.heap.objs.size (.tup [.int (i : Nat), .str ⟨#[c]⟩]) :=
      ⟨by show 2 ≤ sizeLine; decide, [.int i tk, .str ⟨#[c]⟩ u], .cons ⟨_, rfl⟩ (.cons ⟨_, rfl⟩ .nil), ⟨_, hT2, rfl, _, rfl⟩⟩
    have still : ∀ b o, b ∉ [e, it] → s.heap.get? b = some o → h2.get? b = some o := by
      intro b o hb q
      have b1 : b ≠ e := fun z => hb (by rw [z]; simp)
      have b2 : b ≠ it := fun z => hb (by rw [z]; simp)
      rw [sb.2 b b1]
      exact hk b o b1 b2 q
    have I1 := I.turnedNew (t' := tk + 1) still hf (Nat.le_refl _) new
    refine ⟨.ref s.heap.objs.size, _, I1, rfl, ⟨_, c, rfl, I.hok.fresh (Nat.le_refl _), rfl, hx⟩, ⟨⟨.str ⟨#[c]⟩ u, ?_⟩, ?_, hne, hg⟩, ?_⟩
    · have e1 : ((i + 1 : Nat) : Int) = (i : Int) + 1 := by omega
      rw [e1]
      exact he2
    · obtain ⟨o, q, r⟩ := hit'
      exact ⟨o, by show h2.get? it = some o; rw [sb.2 it (Ne.symm hne)]; exact q, r⟩
    · intro b hb
      have lt : b < s.heap.objs.size := by
        rcases List.mem_cons.mp hb with z | z
        · rw [z]
          exact elt
        · rw [List.mem_singleton.mp z]
          exact ilt
      rw [upd_ne (Nat.ne_of_lt lt)]
      exact (hf b hb).1
  done := by
    intro X hP hw hK hc i pins s σ H E I hf st hg
    subst hP
    subst hw
    subst hK
    obtain ⟨⟨old, he⟩, hit, hne, le⟩ := st
    obtain ⟨f0, f1, f2, f3, f4, f5⟩ := hf it (by simp)
    have D := Draws.text (prog := X.prog) (w := X.w) (A := X.A.in1) (I.ok.hd hc) it x t
    have ei : i = x.cps.size := Nat.le_antisymm le hg
    subst ei
    exact wpAny_pyNext_enum_endD D he hit fun h' eb => ⟨rfl, I.turned (t' := s.toks) (fun b o hb q => eb b o hb q) f0 f1 f3 f4 f5⟩
  self := fun A i s Q E st h => by
    obtain ⟨⟨old, he⟩, _⟩ := st
    exact wpAny_pyIter_enum he h
def iEnumS (ta : TA) : TI := fun σ H R => ta σ H fun vs H1 => ∃ x, vs = [.str x] ∧ R (Itx x) H1
theorem pi_enumS {X : Cx} {e : Expr} {ta : TA} {p pos tpos : Pos} {elts : List Expr} {kk : Nat} (hg : Gl X "enumerate") (hm : X.mg "enumerate" = none) (ha : PA X [e] ta) (hs : starEach [e] X.env = [(false, eval e X.env)] := by rfl) :
    PI X (.Tuple elts kk tpos) (.Call (.Name "enumerate" p) [e] [] pos) (iEnumS ta) := by
  constructor
  intro pins s σ H R I h
  refine Call_ (ld_blt I hg hm boot_enumerate (PyProof.Rows.callWith_type1 (thn (ha.run pos pins s σ H _ I h) ?_) hs rfl))
  rintro us s1 ⟨vs, H1, I1, r1, x, rfl, q⟩
  obtain ⟨u, rfl, ru⟩ := vals1 r1
  obtain ⟨t, rfl⟩ := ru
  refine call_enumerate_str ?_
  intro h' he hit hsz hk
  refine wpAny_pyIter_enum he ?_
  have I2 : Inv X pins σ H1 { s1 with heap := h' } := I1.kept (t' := s1.toks) hk
  refine ⟨s1.heap.objs.size + 1, [s1.heap.objs.size + 1, s1.heap.objs.size], _, _, H1, rfl, I2, turn_enumx (s1.heap.objs.size + 1) s1.heap.objs.size x t, ⟨⟨.none, he⟩, hit, Nat.succ_ne_self _, Nat.zero_le _⟩, ?_, q⟩
  intro b hb
  have hle : s1.heap.objs.size ≤ b := by
    rcases List.mem_cons.mp hb with z | z
    · rw [z]
      exact Nat.le_succ _
    · rw [List.mem_singleton.mp z]
      exact Nat.le_refl _
  exact I1.fpOk hle (I1.hok.fresh hle)
theorem walk_enumS {x : Str} : Walk (Itx x) x.cps.size (fun _ => True) (fun i H v H' => ∃ (T : Addr) (c : Nat), v = .ref T ∧ H T = none ∧ H' = upd H T (.tup [.int (i : Nat), .str ⟨#[c]⟩]) ∧ x.cps[i]? = some c) :=
  ⟨fun _ _ hi _ => hi, fun _ _ => Nat.le_refl _, fun _ _ _ _ _ _ y => y⟩
end WK
end Text_WR5
section Text_WW0
set_option Elab.async false
set_option linter.all false
set_option maxRecDepth 100000
set_option maxHeartbeats 4000000
/-! WW0: the walks' common ground. -/
namespace WK
open PySem PySem.Spec L2 SX
open PyProof.Rows hiding St

abbrev FnD (K : PySem.W.Frag) (d : He.DefD) (f : Addr) (fd : FuncData) : Prop := FunD K d.name d.qual d.params d.body d.scope (d.dvs K) (d.kws K) f fd
abbrev CalE (P : Program) (w : World) (K : PySem.W.Frag) (mg : Str → Option Value) (base : Heap) (k : Nat) (x : Str) (sp : Sp) : Prop := C8.Cal P w K mg base k x sp []
abbrev MetE (P : Program) (w : World) (K : PySem.W.Frag) (mg : Str → Option Value) (base : Heap) (k : Nat) (C : Addr) (m : Str) (sp : Sp) : Prop := C8.Met P w K mg base k C m sp []
section
variable {P : Program} {w : World} {K : PySem.W.Frag} {mg : Str → Option Value} {base : Heap} {k : Nat} {f C : Addr} {fd : FuncData} {ps : List Str} {sp : Sp} {d : He.DefD} {x : Str}
theorem calE (F : FnD K d f fd) (ok : FnOk P w K mg base C8.CX0 k f fd ps sp) (hm : mg x = some (.ref f)) (b : Binds K fd ps []) : CalE P w K mg base k x sp := ⟨f, fd, ps, [], ok, hm, F.kp, b, .nil⟩
theorem metE (c : Cls K C) (m : Meth K C x f) (ok : FnOk P w K mg base C8.CX0 k f fd ps sp) (b : Binds K fd ps []) : MetE P w K mg base k C x sp := ⟨f, fd, ps, [], c, m, ok, b, .nil⟩
end
theorem ifT {b : Bool} {A B : Prop} (e : b = true) (h : A) : if b = true then A else B := by
  rw [if_pos e]
  exact h
theorem ifF {b : Bool} {A B : Prop} (e : b = false) (h : B) : if b = true then A else B := by
  rw [e, if_neg Bool.false_ne_true]
  exact h
/-- texts by codes -/
abbrev vS (w : List Nat) : V := .str (S w)
/-- all but the addresses in F stand as they were -/
def Kp (F : List Addr) (H H' : Hp) : Prop := ∀ b o, H b = some o → b ∉ F → H' b = some o
theorem Kp.refl (F : List Addr) (H : Hp) : Kp F H H := fun _ _ e _ => e
theorem Kp.trans {F : List Addr} {A B C : Hp} (h : Kp F A B) (h' : Kp F B C) : Kp F A C := fun b o e n => h' b o (h b o e n) n
theorem Kp.mono {F G : List Addr} {A B : Hp} (h : Kp F A B) (sub : ∀ a ∈ F, a ∈ G) : Kp G A B := fun b o e n => h b o e fun z => n (sub b z)
theorem Kp.nil {F : List Addr} {A B : Hp} (h : Kp [] A B) : Kp F A B := h.mono fun _ z => nomatch z
theorem Kp.new {F : List Addr} {H : Hp} {p : Addr} {o : HO} (hp : H p = none) : Kp F H (upd H p o) := fun b u e _ => by
  rw [upd_ne (ne_of_none e hp)]
  exact e
theorem Kp.upd {F : List Addr} {H : Hp} {p : Addr} {o : HO} (hp : p ∈ F) : Kp F H (upd H p o) := fun b u e n => by
  have ne : b ≠ p := fun z => n (by rw [z]; exact hp)
  rw [upd_ne ne]
  exact e
theorem Kp.at_ {F : List Addr} {A B : Hp} (h : Kp F A B) {b : Addr} {o : HO} (e : A b = some o) (n : b ∉ F) : B b = some o := h b o e n
/-- what was not there: an address that is new now was new then -/
theorem Kp.free {A B : Hp} (h : Kp [] A B) {b : Addr} (e : B b = none) : A b = none := by
  cases q : A b with
  | none => rfl
  | some o => rw [h b o q (fun z => nomatch z)] at e; cases e
theorem Kp.free' {F : List Addr} {A B : Hp} (h : Kp F A B) {b : Addr} (e : B b = none) (n : b ∉ F) : A b = none := by
  cases q : A b with
  | none => rfl
  | some o => rw [h b o q n] at e; cases e
end WK
end Text_WW0
section Text_WD
set_option Elab.async false
set_option linter.all false
set_option maxRecDepth 100000
set_option maxHeartbeats 4000000
/-! WD: data that can be shown, and how long it shows. -/
namespace WK
open PySem PySem.Spec L2 SX
open PyProof.Rows hiding St

structure Fine (n m : Nat) (d : PyData) : Prop where
  sh : d.showable = true
  nd : d.hasDict = false
  dep : d.depth ≤ n
  len : d.shown.length ≤ m
theorem Fine.mono {n m n' m' : Nat} {d : PyData} (h : Fine n m d) (hn : n ≤ n') (hm : m ≤ m') : Fine n' m' d := ⟨h.sh, h.nd, Nat.le_trans h.dep hn, Nat.le_trans h.len hm⟩
theorem Fine.non : Fine 0 4 .none := ⟨by simp only [PyData.showable], by simp only [PyData.hasDict], by simp only [PyData.depth]; exact Nat.le_refl _, by simp only [PyData.shown]; decide +kernel⟩
theorem Fine.bool (b : Bool) : Fine 0 5 (.bool b) := ⟨by simp only [PyData.showable], by simp only [PyData.hasDict], by simp only [PyData.depth]; exact Nat.le_refl _, by simp only [PyData.shown]; cases b <;> decide +kernel⟩
theorem log_small {n : Nat} (h : n < 10 ^ 9) : n.log2 < 1920 := by
  by_cases z : n = 0
  · rw [z]
    decide
  · exact Nat.lt_of_lt_of_le ((Nat.log2_lt z).mpr (Nat.lt_of_lt_of_le h (by decide : 10 ^ 9 ≤ 2 ^ 30))) (by decide)
theorem Fine.int {n : Nat} (h : n < 10 ^ 9) : Fine 0 10 (.int (n : Int)) := by
  refine ⟨?_, by simp only [PyData.hasDict], by simp only [PyData.depth]; exact Nat.le_refl _, ?_⟩
  · simp only [PyData.showable]
    exact decide_eq_true (log_small h)
  · simp only [PyData.shown]
    show (Str.ofString (toString ((n : Nat) : Int))).length ≤ 10
    rw [num_S, S_len]
    exact Nat.le_succ_of_le (TL.numL_len (k := 9) (by decide) h)
theorem Fine.str {x : Str} (h : ∀ c ∈ x.cps.toList, c < 16 ^ 8) : Fine 0 (10 * x.length + 2) (.str x) := ⟨by simp only [PyData.showable], by simp only [PyData.hasDict], by simp only [PyData.depth]; exact Nat.le_refl _, by simp only [PyData.shown]; exact PySem.StrLaws.reprText_len x h⟩
theorem textFrom_up (m : Nat) : ∀ (ts : List Str) (k : Nat) (acc : Str), (∀ t ∈ ts, t.length ≤ m) → (textFrom k acc ts).length ≤ acc.length + ts.length * (m + 2)
  | [], k, acc, _ => by show acc.length ≤ _; omega
  | t :: r, k, acc, h => by
    have ih := textFrom_up m r (k + 1) (acc ++ (if k > 0 then ", " else "" : String) ++ t) (fun x hx => h x (List.mem_cons_of_mem _ hx))
    have e : (acc ++ (if k > 0 then ", " else "" : String) ++ t).length ≤ acc.length + 2 + t.length := by
      rw [strLen_append, strLen_append]
      split
      · exact Nat.le_refl _
      · show acc.length + 0 + t.length ≤ _
        omega
    have ht := h t List.mem_cons_self
    show (textFrom (k + 1) (acc ++ (if k > 0 then ", " else "" : String) ++ t) r).length ≤ _
    rw [List.length_cons, Nat.succ_mul]
    omega
theorem shownAll_len : ∀ ds : List PyData, (PyData.shownAll ds).length = ds.length
  | [] => by simp only [PyData.shownAll, List.length_nil]
  | d :: ds => by simp only [PyData.shownAll, List.length_cons, shownAll_len ds]
theorem shownAll_mem {m : Nat} : ∀ {ds : List PyData}, (∀ d ∈ ds, d.shown.length ≤ m) → ∀ t ∈ PyData.shownAll ds, t.length ≤ m
  | [], _, t, h => by simp only [PyData.shownAll] at h; cases h
  | d :: ds, hd, t, h => by
    simp only [PyData.shownAll] at h
    rcases List.mem_cons.mp h with rfl | h
    · exact hd d List.mem_cons_self
    · exact shownAll_mem (fun x hx => hd x (List.mem_cons_of_mem _ hx)) t h
theorem Fine.all {n m : Nat} : ∀ {ds : List PyData}, (∀ d ∈ ds, Fine n m d) → PyData.showableAll ds = true ∧ PyData.hasDictAll ds = false ∧ PyData.depthAll ds ≤ n
  | [], _ => ⟨by simp only [PyData.showableAll], by simp only [PyData.hasDictAll], by simp only [PyData.depthAll]; exact Nat.zero_le _⟩
  | d :: ds, h => by
    have z := Fine.all (ds := ds) fun x hx => h x (List.mem_cons_of_mem _ hx)
    have y := h d List.mem_cons_self
    refine ⟨by simp only [PyData.showableAll, y.sh, z.1, Bool.and_self], by simp only [PyData.hasDictAll, y.nd, z.2.1, Bool.or_self], ?_⟩
    simp only [PyData.depthAll]
    have := y.dep
    have := z.2.2
    omega
theorem Fine.lst {n m : Nat} {ds : List PyData} (h : ∀ d ∈ ds, Fine n m d) : Fine (n + 1) (ds.length * (m + 2) + 2) (.list ds) := by
  have a := Fine.all h
  refine ⟨by simp only [PyData.showable]; exact a.1, by simp only [PyData.hasDict]; exact a.2.1, by simp only [PyData.depth]; have := a.2.2; omega, ?_⟩
  simp only [PyData.shown]
  have u := textFrom_up m (PyData.shownAll ds) 0 "[" (shownAll_mem fun d hd => (h d hd).len)
  rw [shownAll_len] at u
  show (textFrom 0 "[" (PyData.shownAll ds) ++ "]").length ≤ _
  rw [strLen_append]
  have e1 : ("[" : Str).length = 1 := rfl
  have e2 : ("]" : Str).length = 1 := rfl
  rw [e1] at u
  rw [e2]
  omega
theorem piled_up (m : Nat) : ∀ ts : List Str, (∀ t ∈ ts, t.length ≤ m) → piled ts ≤ ts.length * (m + 2)
  | [], _ => by simp [piled]
  | t :: r, h => by
    have ih := piled_up m r fun x hx => h x (List.mem_cons_of_mem _ hx)
    have ht := h t List.mem_cons_self
    rw [piled_cons, List.length_cons, Nat.succ_mul]
    omega
theorem join_up (m : Nat) (ts : List Str) (h : ∀ t ∈ ts, t.length ≤ m) : (Str.join ", " ts).length ≤ ts.length * (m + 2) := by
  by_cases e : ts = []
  · rw [e]
    exact Nat.zero_le _
  · have a := join_length_add ts e
    have b := piled_up m ts h
    omega
theorem Fine.tup {n m : Nat} {ds : List PyData} (h : ∀ d ∈ ds, Fine n m d) : Fine (n + 1) (ds.length * (m + 2) + 3) (.tuple ds) := by
  have a := Fine.all h
  refine ⟨by simp only [PyData.showable]; exact a.1, by simp only [PyData.hasDict]; exact a.2.1, by simp only [PyData.depth]; have := a.2.2; omega, ?_⟩
  simp only [PyData.shown]
  have u := join_up m (PyData.shownAll ds) (shownAll_mem fun d hd => (h d hd).len)
  rw [shownAll_len] at u
  unfold tupleText
  rw [strLen_append, strLen_append]
  have e1 : ("(" : Str).length = 1 := rfl
  have e2 : (if (PyData.shownAll ds).length == 1 then ",)" else ")" : String).toList.length ≤ 2 := by split <;> decide
  have e3 : ((if (PyData.shownAll ds).length == 1 then ",)" else ")" : String) : Str).length ≤ 2 := by
    split
    · exact Nat.le_of_ble_eq_true rfl
    · exact Nat.le_of_ble_eq_true rfl
  rw [e1]
  omega
/-- a dict with keys and values that show short -/
theorem dict_fine {n m : Nat} {kvs : List (PyData × PyData)} (h : ∀ p ∈ kvs, Fine n m p.1 ∧ Fine n m p.2) : (PyData.dict kvs).showable = true ∧ (PyData.dict kvs).depth ≤ n + 1 ∧ (PyData.dict kvs).shown.length ≤ kvs.length * (2 * m + 2 + 2) + 2 := by
  have go : ∀ kvs : List (PyData × PyData), (∀ p ∈ kvs, Fine n m p.1 ∧ Fine n m p.2) → PyData.showableKv kvs = true ∧ PyData.depthKv kvs ≤ n ∧ (PyData.shownKv kvs).length = kvs.length ∧ ∀ t ∈ PyData.shownKv kvs, t.length ≤ 2 * m + 2 := by
    intro kvs
    induction kvs with
    | nil => exact fun _ => ⟨by simp only [PyData.showableKv], by simp only [PyData.depthKv]; exact Nat.zero_le _, by simp only [PyData.shownKv, List.length_nil], fun t ht => by simp only [PyData.shownKv] at ht; cases ht⟩
    | cons p r ih =>
      intro h
      obtain ⟨a, b⟩ := p
      have z := ih fun x hx => h x (List.mem_cons_of_mem _ hx)
      have y := h (a, b) List.mem_cons_self
      refine ⟨by simp only [PyData.showableKv, y.1.sh, y.2.sh, z.1, Bool.and_self], ?_, by simp only [PyData.shownKv, List.length_cons, z.2.2.1], ?_⟩
      · simp only [PyData.depthKv]
        have h1 : a.depth ≤ n := y.1.dep
        have h2 : b.depth ≤ n := y.2.dep
        have := z.2.1
        omega
      · intro t ht
        simp only [PyData.shownKv] at ht
        rcases List.mem_cons.mp ht with rfl | ht
        · rw [strLen_append, strLen_append]
          have e : (": " : Str).length = 2 := rfl
          have h1 : a.shown.length ≤ m := y.1.len
          have h2 : b.shown.length ≤ m := y.2.len
          rw [e]
          omega
        · exact z.2.2.2 t ht
  obtain ⟨a, b, c, d⟩ := go kvs h
  refine ⟨by simp only [PyData.showable]; exact a, by simp only [PyData.depth]; omega, ?_⟩
  simp only [PyData.shown]
  have u := join_up (2 * m + 2) (PyData.shownKv kvs) d
  rw [c] at u
  unfold dictText
  rw [strLen_append, strLen_append]
  have e1 : ("{" : Str).length = 1 := rfl
  have e2 : ("}" : Str).length = 1 := rfl
  rw [e1, e2]
  omega
end WK
end Text_WD
section Text_WW1
set_option Elab.async false
set_option linter.all false
set_option maxRecDepth 100000
set_option maxHeartbeats 4000000
/-! WW1: how the folding stands in the heap. -/
namespace WK
open PySem PySem.Spec L2 SX
open PyProof.Rows hiding St

/-! ### lists of things beside lists of tuples -/
/-- the tuples stand -/
def Tp (H H' : Hp) : Prop := ∀ b xs, H b = some (.tup xs) → H' b = some (.tup xs)
theorem Tp.refl (H : Hp) : Tp H H := fun _ _ e => e
theorem Tp.trans {A B C : Hp} (h : Tp A B) (h' : Tp B C) : Tp A C := fun b xs e => h' b xs (h b xs e)
theorem Kp.tp {F : List Addr} {A B : Hp} (h : Kp F A B) (n : ∀ a ∈ F, ∀ xs, A a ≠ some (.tup xs)) : Tp A B := fun b xs e => h b _ e fun z => n b z xs e
theorem Kp.tp0 {A B : Hp} (h : Kp [] A B) : Tp A B := h.tp fun _ z => nomatch z
theorem Tp.new {H : Hp} {p : Addr} {o : HO} (hp : H p = none) : Tp H (upd H p o) := (Kp.new (F := []) hp).tp0
theorem Tp.upd {H : Hp} {p : Addr} {u o : HO} (hp : H p = some u) (n : ∀ xs, u ≠ .tup xs) : Tp H (upd H p o) := fun b xs e => by
  rw [upd_ne (fun z => by rw [z, hp] at e; exact n xs (Option.some.inj e))]
  exact e
def Tups {α : Type} (f : α → List V) (H : Hp) (xs : List α) (ts : List Addr) : Prop := Paired (fun x t => H t = some (.tup (f x))) xs ts
section
variable {α : Type} {f : α → List V} {H H' : Hp} {xs : List α} {ts : List Addr}
theorem Tups.tp (h : Tups f H xs ts) (k : Tp H H') : Tups f H' xs ts := Paired.mono (fun _ _ e => k _ _ e) h
theorem Tups.len (h : Tups f H xs ts) : xs.length = ts.length := Paired.length h
theorem Tups.get (h : Tups f H xs ts) {i : Nat} {x : α} (e : xs[i]? = some x) : ∃ t, ts[i]? = some t ∧ H t = some (.tup (f x)) := paired_get h e
theorem Tups.snoc (h : Tups f H xs ts) {x : α} {t : Addr} (e : H t = some (.tup (f x))) : Tups f H (xs ++ [x]) (ts ++ [t]) := Paired.snoc h e
theorem Tups.dropLast : ∀ {xs : List α} {ts : List Addr}, Tups f H xs ts → Tups f H xs.dropLast ts.dropLast
  | _, _, .nil => .nil
  | _, _, .cons h .nil => .nil
  | _, _, .cons h (.cons h2 r) => by
    rw [List.dropLast_cons₂, List.dropLast_cons₂]
    exact .cons h (Tups.dropLast (.cons h2 r))
end
/-- a table: keys by kf, values tuples by f -/
def Tab {κ α K' : Type} (kf : κ → K') (f : α → List V) (H : Hp) (T : List (κ × α)) (kvs : List (K' × V)) : Prop := Paired (fun p q => q.1 = kf p.1 ∧ ∃ t, q.2 = .ref t ∧ H t = some (.tup (f p.2))) T kvs
section
variable {κ α K' : Type} [DecidableEq κ] [DecidableEq K'] {kf : κ → K'} {f : α → List V} {H H' : Hp} {T : List (κ × α)} {kvs : List (K' × V)}
theorem Tab.tp (h : Tab kf f H T kvs) (k : Tp H H') : Tab kf f H' T kvs := Paired.mono (fun _ _ ⟨e, t, e2, e3⟩ => ⟨e, t, e2, k _ _ e3⟩) h
theorem Tab.len (h : Tab kf f H T kvs) : T.length = kvs.length := Paired.length h
theorem Tab.get (inj : ∀ a b, kf a = kf b → a = b) (k : κ) : ∀ {T : List (κ × α)} {kvs : List (K' × V)}, Tab kf f H T kvs → (gt T k = none ∧ valV kvs (kf k) = none) ∨ ∃ x t, gt T k = some x ∧ valV kvs (kf k) = some (.ref t) ∧ H t = some (.tup (f x)) := by
  intro T kvs h
  induction h with
  | nil => exact .inl ⟨rfl, rfl⟩
  | @cons p q ps qs h r ih =>
    obtain ⟨h1, t, h2, h3⟩ := h
    by_cases e : p.1 = k
    · refine .inr ⟨p.2, t, gt_pos e, ?_, h3⟩
      rw [valV_pos (by rw [h1, e]), h2]
    · have e' : ¬ q.1 = kf k := fun z => e (inj _ _ (h1.symm.trans z))
      rw [gt_neg e, valV_neg e']
      exact ih
theorem Tab.getN (inj : ∀ a b, kf a = kf b → a = b) (h : Tab kf f H T kvs) {k : κ} (e : gt T k = none) : valV kvs (kf k) = none := by
  rcases h.get inj k with z | ⟨x, t, z, _⟩
  · exact z.2
  · rw [e] at z
    cases z
theorem Tab.getS (inj : ∀ a b, kf a = kf b → a = b) (h : Tab kf f H T kvs) {k : κ} {x : α} (e : gt T k = some x) : ∃ t, valV kvs (kf k) = some (.ref t) ∧ H t = some (.tup (f x)) := by
  rcases h.get inj k with z | ⟨y, t, z, a, b⟩
  · rw [e] at z
    cases z.1
  · rw [e] at z
    cases z
    exact ⟨t, a, b⟩
theorem Tab.put (inj : ∀ a b, kf a = kf b → a = b) (h : Tab kf f H T kvs) (k : κ) {x : α} {t : Addr} (e : H t = some (.tup (f x))) : Tab kf f H (pt T k x) (putK kvs (kf k) (.ref t)) := by
  have iff : (gt T k).isSome = (valV kvs (kf k)).isSome := by
    rcases h.get inj k with ⟨a, b⟩ | ⟨y, u, a, b, _⟩
    · rw [a, b]
      rfl
    · rw [a, b]
      rfl
  unfold pt putK
  rw [valV_any, iff]
  by_cases z : (valV kvs (kf k)).isSome = true
  · rw [if_pos z, if_pos z]
    clear iff z
    unfold Tab at h
    induction h with
    | nil => exact .nil
    | @cons p q ps qs h r ih =>
      rw [List.map_cons, List.map_cons]
      refine .cons ?_ ih
      obtain ⟨h1, u, h2, h3⟩ := h
      by_cases c : p.1 = k
      · rw [if_pos c, if_pos (by rw [h1, c])]
        exact ⟨h1, t, rfl, e⟩
      · rw [if_neg c, if_neg (fun z => c (inj _ _ (h1.symm.trans z)))]
        exact ⟨h1, u, h2, h3⟩
  · rw [if_neg z, if_neg z]
    exact Paired.snoc h ⟨rfl, t, rfl, e⟩
theorem Tab.drop (inj : ∀ a b, kf a = kf b → a = b) (h : Tab kf f H T kvs) (k : κ) : Tab kf f H (dl T k) (dropK kvs (kf k)) := by
  unfold dl dropK
  unfold Tab at h
  induction h with
  | nil => exact .nil
  | @cons p q ps qs h r ih =>
    obtain ⟨h1, u, h2, h3⟩ := h
    rw [List.filter_cons, List.filter_cons]
    by_cases c : p.1 = k
    · rw [if_neg (by simp [c]), if_neg (by simp [h1, c])]
      exact ih
    · rw [if_pos (by simp [c]), if_pos (by simp only [decide_eq_true_eq]; exact fun z => c (inj _ _ (h1.symm.trans z)))]
      exact .cons ⟨h1, u, h2, h3⟩ ih
end

/-! ### the folding's parts -/
def lab : Lab → V
  | none => .non
  | some n => .int n
def lineT : Line → List V
  | .gen i => [.str "generator", .int i]
  | .invl j => [.str "inverse", .int j]
  | .prod j k => [.str "product", .int j, .int k]
def edgeT (x : Nat × Lab) : List V := [.int x.1, lab x.2]
def pendT (x : Nat × Nat × Lab) : List V := [.int x.1, .int x.2.1, lab x.2.2]
def keyT (k : Nat × Nat) : List L2.Key := [Sum.inl (k.1 : Int), Sum.inr (S [k.2])]
def keyM (k : Nat) : L2.Key := Sum.inl (k : Int)
theorem keyT_inj (a b : Nat × Nat) (h : keyT a = keyT b) : a = b := by
  unfold keyT at h
  have h1 := (List.cons.inj h).1
  have h2 := (List.cons.inj (List.cons.inj h).2).1
  have e1 : (a.1 : Int) = b.1 := Sum.inl.inj h1
  have e2 : [a.2] = [b.2] := S_inj (Sum.inr.inj h2)
  have e3 : a.1 = b.1 := by omega
  have e4 : a.2 = b.2 := (List.cons.inj e2).1
  exact Prod.ext e3 e4
theorem keyM_inj (a b : Nat) (h : keyM a = keyM b) : a = b := by
  have e : (a : Int) = b := Sum.inl.inj h
  omega
theorem keyT_kV (n c : Nat) : (keyT (n, c)).map kV = [.int n, vS [c]] := rfl
def LstT {α : Type} (f : α → List V) (H : Hp) (l : Addr) (xs : List α) : Prop := ∃ ts : List Addr, H l = some (.lst (ts.map V.ref)) ∧ Tups f H xs ts
def DctT (H : Hp) (d : Addr) (T : Tgt) : Prop := ∃ kvs, H d = some (.dT kvs) ∧ Tab keyT edgeT H T kvs
def DctK (H : Hp) (d : Addr) (T : Mrg) : Prop := ∃ kvs, H d = some (.dK kvs) ∧ Tab keyM edgeT H T kvs
section
variable {α : Type} {f : α → List V} {H H' : Hp} {l : Addr} {xs : List α}
theorem LstT.keep (h : LstT f H l xs) (k : Tp H H') (e : H' l = H l) : LstT f H' l xs := by
  obtain ⟨ts, h1, h2⟩ := h
  exact ⟨ts, by rw [e]; exact h1, h2.tp k⟩
theorem LstT.kp {F : List Addr} (h : LstT f H l xs) (k : Kp F H H') (tp : Tp H H') (n : l ∉ F) : LstT f H' l xs := by
  obtain ⟨ts, h1, h2⟩ := h
  exact ⟨ts, k _ _ h1 n, h2.tp tp⟩
theorem LstT.app (h : LstT f H l xs) {x : α} {t : Addr} (e : H t = some (.tup (f x))) : ∃ ts : List Addr, H l = some (.lst (ts.map V.ref)) ∧ ts.length = xs.length ∧ LstT f (upd H l (.lst (ts.map V.ref ++ [.ref t]))) l (xs ++ [x]) := by
  obtain ⟨ts, h1, h2⟩ := h
  have tp : Tp H (upd H l (.lst (ts.map V.ref ++ [.ref t]))) := Tp.upd h1 (fun _ z => nomatch z)
  refine ⟨ts, h1, h2.len.symm, ts ++ [t], ?_, (h2.snoc e).tp tp⟩
  rw [upd_same, List.map_append]
  rfl
theorem DctT.kp {d : Addr} {T : Tgt} {F : List Addr} (h : DctT H d T) (k : Kp F H H') (tp : Tp H H') (n : d ∉ F) : DctT H' d T := by
  obtain ⟨kvs, h1, h2⟩ := h
  exact ⟨kvs, k _ _ h1 n, h2.tp tp⟩
theorem DctK.kp {d : Addr} {T : Mrg} {F : List Addr} (h : DctK H d T) (k : Kp F H H') (tp : Tp H H') (n : d ∉ F) : DctK H' d T := by
  obtain ⟨kvs, h1, h2⟩ := h
  exact ⟨kvs, k _ _ h1 n, h2.tp tp⟩
end

/-! ### the folding -/
structure Ads where
  p : Addr
  l : Addr
  d : Addr
  m : Addr
  q : Addr
def Ads.all (a : Ads) : List Addr := [a.p, a.l, a.d, a.m, a.q]
def fldF (a : Ads) (n : Nat) : List (Str × V) := [("lines", .ref a.l), ("targets_of", .ref a.d), ("merged", .ref a.m), ("next_node", .int n), ("pending", .ref a.q)]
structure FA (C : Addr) (a : Ads) (H : Hp) (g : G) : Prop where
  ob : ∃ dx, H a.p = some (.ins C dx (fldF a g.next))
  ln : LstT lineT H a.l g.lines
  tg : DctT H a.d g.tgt
  mg : DctK H a.m g.mrg
  pd : LstT pendT H a.q g.pend
  lq : a.l ≠ a.q
section
variable {C : Addr} {a : Ads} {H H' : Hp} {g : G}
/-- the places are of unlike kinds -/
structure Apart (a : Ads) : Prop where
  pl : a.p ≠ a.l
  pd : a.p ≠ a.d
  pm : a.p ≠ a.m
  pq : a.p ≠ a.q
  ld : a.l ≠ a.d
  lm : a.l ≠ a.m
  lq : a.l ≠ a.q
  dm : a.d ≠ a.m
  dq : a.d ≠ a.q
  mq : a.m ≠ a.q
theorem FA.apart (h : FA C a H g) : Apart a := by
  obtain ⟨dx, h1⟩ := h.ob
  obtain ⟨ts, h2, _⟩ := h.ln
  obtain ⟨kvs, h3, _⟩ := h.tg
  obtain ⟨kvs2, h4, _⟩ := h.mg
  obtain ⟨ts2, h5, _⟩ := h.pd
  exact ⟨ne_of h1 h2 (fun z => nomatch z), ne_of h1 h3 (fun z => nomatch z), ne_of h1 h4 (fun z => nomatch z), ne_of h1 h5 (fun z => nomatch z), ne_of h2 h3 (fun z => nomatch z), ne_of h2 h4 (fun z => nomatch z), h.lq, ne_of h3 h4 (fun z => nomatch z), ne_of h3 h5 (fun z => nomatch z), ne_of h4 h5 (fun z => nomatch z)⟩
/-- none of the places is a tuple -/
theorem FA.noTup (h : FA C a H g) : ∀ b ∈ a.all, ∀ xs, H b ≠ some (.tup xs) := by
  obtain ⟨dx, h1⟩ := h.ob
  obtain ⟨ts, h2, _⟩ := h.ln
  obtain ⟨kvs, h3, _⟩ := h.tg
  obtain ⟨kvs2, h4, _⟩ := h.mg
  obtain ⟨ts2, h5, _⟩ := h.pd
  intro b hb xs e
  unfold Ads.all at hb
  simp only [List.mem_cons, List.not_mem_nil, or_false] at hb
  rcases hb with rfl | rfl | rfl | rfl | rfl
  · rw [h1] at e; cases e
  · rw [h2] at e; cases e
  · rw [h3] at e; cases e
  · rw [h4] at e; cases e
  · rw [h5] at e; cases e
/-- none of the places is new -/
theorem FA.not_new (h : FA C a H g) {b : Addr} (e : H b = none) : b ∉ a.all := by
  obtain ⟨dx, h1⟩ := h.ob
  obtain ⟨ts, h2, _⟩ := h.ln
  obtain ⟨kvs, h3, _⟩ := h.tg
  obtain ⟨kvs2, h4, _⟩ := h.mg
  obtain ⟨ts2, h5, _⟩ := h.pd
  intro hb
  unfold Ads.all at hb
  simp only [List.mem_cons, List.not_mem_nil, or_false] at hb
  rcases hb with rfl | rfl | rfl | rfl | rfl
  · rw [h1] at e; cases e
  · rw [h2] at e; cases e
  · rw [h3] at e; cases e
  · rw [h4] at e; cases e
  · rw [h5] at e; cases e
theorem FA.kp {F : List Addr} (h : FA C a H g) (k : Kp F H H') (tp : Tp H H') (n : ∀ b ∈ a.all, b ∉ F) : FA C a H' g := by
  obtain ⟨dx, h1⟩ := h.ob
  exact ⟨⟨dx, k _ _ h1 (n _ (by simp [Ads.all]))⟩, h.ln.kp k tp (n _ (by simp [Ads.all])), h.tg.kp k tp (n _ (by simp [Ads.all])), h.mg.kp k tp (n _ (by simp [Ads.all])), h.pd.kp k tp (n _ (by simp [Ads.all])), h.lq⟩
theorem FA.kp0 (h : FA C a H g) (k : Kp [] H H') : FA C a H' g := h.kp k k.tp0 fun _ _ z => nomatch z
theorem FA.new (h : FA C a H g) {p : Addr} {o : HO} (hp : H p = none) : FA C a (upd H p o) g := h.kp0 (Kp.new hp)
/-- one more line -/
theorem FA.line (h : FA C a H g) {x : Line} {t : Addr} (e : H t = some (.tup (lineT x))) : ∃ ts : List Addr, H a.l = some (.lst (ts.map V.ref)) ∧ ts.length = g.lines.length ∧ FA C a (upd H a.l (.lst (ts.map V.ref ++ [.ref t]))) { g with lines := g.lines ++ [x] } := by
  have ap := h.apart
  obtain ⟨dx, h1⟩ := h.ob
  obtain ⟨ts, e1, e2, e3⟩ := h.ln.app e
  have tp : Tp H (upd H a.l (.lst (ts.map V.ref ++ [.ref t]))) := Tp.upd e1 (fun _ z => nomatch z)
  have k : Kp [a.l] H (upd H a.l (.lst (ts.map V.ref ++ [.ref t]))) := Kp.upd List.mem_cons_self
  refine ⟨ts, e1, e2, ⟨dx, k _ _ h1 (by simp [ap.pl])⟩, e3, h.tg.kp k tp (by simp [ap.ld.symm]), h.mg.kp k tp (by simp [ap.lm.symm]), h.pd.kp k tp (by simp [ap.lq.symm]), h.lq⟩
/-- one more pending pair -/
theorem FA.pair (h : FA C a H g) {x : Nat × Nat × Lab} {t : Addr} (e : H t = some (.tup (pendT x))) : ∃ ts : List Addr, H a.q = some (.lst (ts.map V.ref)) ∧ ts.length = g.pend.length ∧ FA C a (upd H a.q (.lst (ts.map V.ref ++ [.ref t]))) { g with pend := g.pend ++ [x] } := by
  have ap := h.apart
  obtain ⟨dx, h1⟩ := h.ob
  obtain ⟨ts, e1, e2, e3⟩ := h.pd.app e
  have tp : Tp H (upd H a.q (.lst (ts.map V.ref ++ [.ref t]))) := Tp.upd e1 (fun _ z => nomatch z)
  have k : Kp [a.q] H (upd H a.q (.lst (ts.map V.ref ++ [.ref t]))) := Kp.upd List.mem_cons_self
  refine ⟨ts, e1, e2, ⟨dx, k _ _ h1 (by simp [ap.pq])⟩, h.ln.kp k tp (by simp [ap.lq]), h.tg.kp k tp (by simp [ap.dq]), h.mg.kp k tp (by simp [ap.mq]), e3, h.lq⟩
/-- an edge put -/
theorem FA.putT (h : FA C a H g) (k : Nat × Nat) {x : Nat × Lab} {t : Addr} (e : H t = some (.tup (edgeT x))) : ∃ kvs, H a.d = some (.dT kvs) ∧ kvs.length = g.tgt.length ∧ FA C a (upd H a.d (.dT (putK kvs (keyT k) (.ref t)))) { g with tgt := pt g.tgt k x } := by
  have ap := h.apart
  obtain ⟨dx, h1⟩ := h.ob
  obtain ⟨kvs, e1, e2⟩ := h.tg
  have tp : Tp H (upd H a.d (.dT (putK kvs (keyT k) (.ref t)))) := Tp.upd e1 (fun _ z => nomatch z)
  have kp : Kp [a.d] H (upd H a.d (.dT (putK kvs (keyT k) (.ref t)))) := Kp.upd List.mem_cons_self
  exact ⟨kvs, e1, e2.len.symm, ⟨dx, kp _ _ h1 (by simp [ap.pd])⟩, h.ln.kp kp tp (by simp [ap.ld]), ⟨_, upd_same, (e2.put keyT_inj k e).tp tp⟩, h.mg.kp kp tp (by simp [ap.dm.symm]), h.pd.kp kp tp (by simp [ap.dq.symm]), h.lq⟩
/-- an edge taken out -/
theorem FA.cutT (h : FA C a H g) (k : Nat × Nat) : ∃ kvs, H a.d = some (.dT kvs) ∧ Tab keyT edgeT H g.tgt kvs ∧ FA C a (upd H a.d (.dT (dropK kvs (keyT k)))) { g with tgt := dl g.tgt k } := by
  have ap := h.apart
  obtain ⟨dx, h1⟩ := h.ob
  obtain ⟨kvs, e1, e2⟩ := h.tg
  have tp : Tp H (upd H a.d (.dT (dropK kvs (keyT k)))) := Tp.upd e1 (fun _ z => nomatch z)
  have kp : Kp [a.d] H (upd H a.d (.dT (dropK kvs (keyT k)))) := Kp.upd List.mem_cons_self
  exact ⟨kvs, e1, e2, ⟨dx, kp _ _ h1 (by simp [ap.pd])⟩, h.ln.kp kp tp (by simp [ap.ld]), ⟨_, upd_same, (e2.drop keyT_inj k).tp tp⟩, h.mg.kp kp tp (by simp [ap.dm.symm]), h.pd.kp kp tp (by simp [ap.dq.symm]), h.lq⟩
/-- a merged node put -/
theorem FA.putM (h : FA C a H g) (k : Nat) {x : Nat × Lab} {t : Addr} (e : H t = some (.tup (edgeT x))) : ∃ kvs, H a.m = some (.dK kvs) ∧ kvs.length = g.mrg.length ∧ FA C a (upd H a.m (.dK (putK kvs (keyM k) (.ref t)))) { g with mrg := pt g.mrg k x } := by
  have ap := h.apart
  obtain ⟨dx, h1⟩ := h.ob
  obtain ⟨kvs, e1, e2⟩ := h.mg
  have tp : Tp H (upd H a.m (.dK (putK kvs (keyM k) (.ref t)))) := Tp.upd e1 (fun _ z => nomatch z)
  have kp : Kp [a.m] H (upd H a.m (.dK (putK kvs (keyM k) (.ref t)))) := Kp.upd List.mem_cons_self
  exact ⟨kvs, e1, e2.len.symm, ⟨dx, kp _ _ h1 (by simp [ap.pm])⟩, h.ln.kp kp tp (by simp [ap.lm]), h.tg.kp kp tp (by simp [ap.dm]), ⟨_, upd_same, (e2.put keyM_inj k e).tp tp⟩, h.pd.kp kp tp (by simp [ap.mq.symm]), h.lq⟩
end
theorem fldF_lines (a : Ads) (n : Nat) : (fldF a n).lookup ("lines" : Str) = some (.ref a.l) := by rfl
theorem fldF_targets (a : Ads) (n : Nat) : (fldF a n).lookup ("targets_of" : Str) = some (.ref a.d) := by rfl
theorem fldF_merged (a : Ads) (n : Nat) : (fldF a n).lookup ("merged" : Str) = some (.ref a.m) := by rfl
theorem fldF_next (a : Ads) (n : Nat) : (fldF a n).lookup ("next_node" : Str) = some (.int n) := by rfl
theorem fldF_pending (a : Ads) (n : Nat) : (fldF a n).lookup ("pending" : Str) = some (.ref a.q) := by rfl
theorem fldF_put (a : Ads) (n m : Nat) : putF "next_node" (.int m) (fldF a n) = fldF a m := by rfl
theorem fldF_no (a : Ads) (n : Nat) : (fldF a n).lookup ("product_line" : Str) = none := by rfl
end WK
end Text_WW1
section Text_WW2
set_option Elab.async false
set_option linter.all false
set_option maxRecDepth 100000
set_option maxHeartbeats 4000000
/-! WW2: the folding's lines and edges. -/
namespace WK
open PySem PySem.Spec L2 SX
open PyProof.Rows hiding St

def LIM : Nat := 100000
theorem lim_line {n : Nat} (h : n ≤ LIM) : n < sizeLine := by
  rw [sizeLine_eq]
  unfold LIM at h
  omega
theorem line2 {α : Type} (a b : α) : [a, b].length ≤ sizeLine := by rw [sizeLine_eq]; exact Nat.le_of_ble_eq_true rfl
theorem line3 {α : Type} (a b c : α) : [a, b, c].length ≤ sizeLine := by rw [sizeLine_eq]; exact Nat.le_of_ble_eq_true rfl
/-- what the walks ask of the top -/
structure Txt (K : PySem.W.Frag) (mg : Str → Option Value) (CF CS : Addr) : Prop where
  f_isinstance : mg "isinstance" = none
  f_len : mg "len" = none
  f_all : mg "all" = none
  f_range : mg "range" = none
  f_sorted : mg "sorted" = none
  f_list : mg "list" = none
  f_tuple : mg "tuple" = none
  f_enumerate : mg "enumerate" = none
  f_int : mg "int" = none
  f_max : mg "max" = none
  f_min : mg "min" = none
  f_repr : mg "repr" = none
  f_str : mg "str" = none
  f_bool : mg "bool" = none
  g_STEPS : ∃ u, mg "STEPS" = some u ∧ RelV (.str "aAbBcCdD") u
  g_MAX_STEPS : ∃ u, mg "MAX_STEPS" = some u ∧ RelV (.int 400) u
  g_MAX_GENERATORS : ∃ u, mg "MAX_GENERATORS" = some u ∧ RelV (.int 16) u
  g_MAX_GENERATOR_STEPS : ∃ u, mg "MAX_GENERATOR_STEPS" = some u ∧ RelV (.int 60) u
  g_USER_COUNT : ∃ u, mg "USER_COUNT" = some u ∧ RelV (.int 4) u
  g_MAX_CHANGES : ∃ u, mg "MAX_CHANGES" = some u ∧ RelV (.int 200) u
  clF : Cls K CF
  nL : NoAttr K CF "lines"
  nT : NoAttr K CF "targets_of"
  nM : NoAttr K CF "merged"
  nN : NoAttr K CF "next_node"
  nP : NoAttr K CF "pending"
  clS : Cls K CS
  nA : NoAttr K CS "added"
  nC : NoAttr K CS "changes"
  nK : NoAttr K CS "change_count"
theorem FA.tp {C : Addr} {a : Ads} {H H' : Hp} {g : G} (h : FA C a H g) (k : Kp a.all H H') : Tp H H' := k.tp h.noTup
theorem mem_p {a : Ads} : a.p ∈ a.all := by simp [Ads.all]
theorem mem_l {a : Ads} : a.l ∈ a.all := by simp [Ads.all]
theorem mem_d {a : Ads} : a.d ∈ a.all := by simp [Ads.all]
theorem mem_m {a : Ads} : a.m ∈ a.all := by simp [Ads.all]
theorem mem_q {a : Ads} : a.q ∈ a.all := by simp [Ads.all]

def spGenLine (C : Addr) : Sp := fun vs H Q _ => ∃ (a : Ads) (g : G) (i : Nat), vs = [.ref a.p, .int i] ∧ FA C a H g ∧ g.lines.length ≤ LIM ∧
  ∀ H', FA C a H' { g with lines := (genL g.lines i).1 } → Kp a.all H H' → Q (lab (genL g.lines i).2) H'
def spInvLine (C : Addr) : Sp := fun vs H Q _ => ∃ (a : Ads) (g : G) (l : Lab), vs = [.ref a.p, lab l] ∧ FA C a H g ∧ g.lines.length ≤ LIM ∧
  ∀ H', FA C a H' { g with lines := (invL g.lines l).1 } → Kp a.all H H' → Q (lab (invL g.lines l).2) H'
def spProdLine (C : Addr) : Sp := fun vs H Q _ => ∃ (a : Ads) (g : G) (l k : Lab), vs = [.ref a.p, lab l, lab k] ∧ FA C a H g ∧ g.lines.length ≤ LIM ∧
  ∀ H', FA C a H' { g with lines := (prodL g.lines l k).1 } → Kp a.all H H' → Q (lab (prodL g.lines l k).2) H'
def spAddEdge (C : Addr) : Sp := fun vs H Q _ => ∃ (a : Ads) (g : G) (s c t : Nat) (l : Lab), vs = [.ref a.p, .int s, vS [c], .int t, lab l] ∧ FA C a H g ∧ g.lines.length + 2 ≤ LIM ∧ mu g + 2 ≤ LIM ∧ IsStep c ∧
  ∀ H', FA C a H' (addEdge g s c t l) → Kp a.all H H' → Q .non H'
/-- one more line, by its tuple -/
theorem FA.lineKp {a : Ads} {H : Hp} {ts : List Addr} {t : Addr} : Kp a.all H (upd H a.l (.lst (ts.map V.ref ++ [.ref t]))) := Kp.upd mem_l

/-- between two steps of a walk that began at H0 -/
structure AtF (C : Addr) (a : Ads) (H0 H : Hp) (g : G) : Prop where
  fa : FA C a H g
  kp : Kp a.all H0 H
section
variable {C : Addr} {a : Ads} {H0 H H' : Hp} {g g' : G}
theorem FA.at0 (h : FA C a H g) : AtF C a H H g := ⟨h, Kp.refl _ _⟩
theorem AtF.new (h : AtF C a H0 H g) {b : Addr} {o : HO} (hb : H b = none) : AtF C a H0 (upd H b o) g := ⟨h.fa.new hb, h.kp.trans (Kp.new hb)⟩
theorem AtF.go (h : AtF C a H0 H g) (fa : FA C a H' g') (kp : Kp a.all H H') : AtF C a H0 H' g' := ⟨fa, h.kp.trans kp⟩
theorem AtF.tp (h : AtF C a H0 H g) (f0 : FA C a H0 g') : Tp H0 H := f0.tp h.kp
/-- a tuple stands after a step -/
theorem AtF.tup (h : AtF C a H0 H g) (fa : FA C a H' g') (kp : Kp a.all H H') {b : Addr} {xs : List V} (e : H b = some (.tup xs)) : H' b = some (.tup xs) := h.fa.tp kp b xs e
theorem AtF.dx (h : AtF C a H0 H g) : ∃ dx, H a.p = some (.ins C dx (fldF a g.next)) := h.fa.ob
end
section
variable {P : Program} {w : World} {K : PySem.W.Frag} {mg : Str → Option Value} {base : Heap} {f CF CS : Addr} {fd : FuncData}
abbrev N_LabelledFolding_generator_line : List Str := ["self", "index"]
theorem sc_LabelledFolding_generator_line : FnScope N_LabelledFolding_generator_line ["self", "index"] WHead.d_LabelledFolding_generator_line.scope := ⟨rfl, rfl, rfl, by decide +kernel, rfl, by decide +kernel, by decide +kernel⟩
theorem ok_LabelledFolding_generator_line (F : FnD K WHead.d_LabelledFolding_generator_line f fd) (T : Txt K mg CF CS) : FnOk P w K mg base C8.CX0 1 f fd ["self", "index"] (spGenLine CF) := by
  refine F.ok sc_LabelledFolding_generator_line (fun vs H Q E h => ?_) (fun cdv A outer s H vs Q E hr h => ?_)
  · obtain ⟨a, g, i, rfl, _⟩ := h
    rfl
  · obtain ⟨a, g, i, rfl, fa, lim, k⟩ := h
    refine ⟨_, PSs.nox ((pss_cons (ps_expr (pe_bm PySem.F.plainAttrs_list PySem.F.slot_list_append PySem.F.type_list_append mt_append (pe_fld (pv 0) rfl) (pa_cons (pe_tup (pa_cons pe_str (pa_cons (pv 1) pa_nil))) pa_nil)))
      (pss_one (ps_ret (pe_op op_sub (pe_callB call_len (by rfl) T.f_len PySem.boot_len (pa_cons (pe_fld (pv 0) rfl) pa_nil)) pe_int))))), ?_⟩
    obtain ⟨dx, hp⟩ := fa.ob
    obtain ⟨ts0, hl0, _⟩ := fa.ln
    refine ⟨_, rfl, a.p, CF, dx, _, _, rfl, hp, T.clF, T.nL, fldF_lines _ _, .inl ⟨rfl, _, SqL.of hl0⟩, _, rfl, line2 _ _, ?_⟩
    intro t ht
    have fa1 := fa.new (o := .tup [.str "generator", .int (i : Int)]) ht
    obtain ⟨ts, hl, tl, fa2⟩ := fa1.line (x := .gen i) (t := t) upd_same
    refine ⟨a.l, _, _, rfl, rfl, hl, by rw [List.length_map, tl]; exact lim_line lim, ?_⟩
    obtain ⟨dx2, hp2⟩ := fa2.ob
    refine ⟨_, rfl, a.p, CF, dx2, _, _, rfl, hp2, T.clF, T.nL, fldF_lines _ _, _, _, rfl, .inl ⟨_, SqL.of upd_same, rfl⟩, _, _, rfl, rfl, ?_⟩
    have e : V.int ((((ts.map V.ref ++ [V.ref t]).length : Nat) : Int) - 1) = lab (some g.lines.length) := by
      rw [List.length_append, List.length_map, tl]
      simp [lab]
    show Q (V.int ((((ts.map V.ref ++ [V.ref t]).length : Nat) : Int) - 1)) _
    rw [e]
    exact k _ fa2 ((Kp.new ht).trans FA.lineKp)
abbrev N_LabelledFolding_inverse_line : List Str := ["self", "line"]
theorem sc_LabelledFolding_inverse_line : FnScope N_LabelledFolding_inverse_line ["self", "line"] WHead.d_LabelledFolding_inverse_line.scope := ⟨rfl, rfl, rfl, by decide +kernel, rfl, by decide +kernel, by decide +kernel⟩
theorem ok_LabelledFolding_inverse_line (F : FnD K WHead.d_LabelledFolding_inverse_line f fd) (T : Txt K mg CF CS) : FnOk P w K mg base C8.CX0 1 f fd ["self", "line"] (spInvLine CF) := by
  refine F.ok sc_LabelledFolding_inverse_line (fun vs H Q E h => ?_) (fun cdv A outer s H vs Q E hr h => ?_)
  · obtain ⟨a, g, l, rfl, _⟩ := h
    rfl
  · obtain ⟨a, g, l, rfl, fa, lim, k⟩ := h
    refine ⟨_, PSs.nox ((pss_cons (ps_if (pt_cmpR op_isN (pv 1) pe_non (nomark _)) (pss_one (ps_ret pe_non)) pss_nil)
      (pss_cons (ps_expr (pe_bm PySem.F.plainAttrs_list PySem.F.slot_list_append PySem.F.type_list_append mt_append (pe_fld (pv 0) rfl) (pa_cons (pe_tup (pa_cons pe_str (pa_cons (pv 1) pa_nil))) pa_nil)))
      (pss_one (ps_ret (pe_op op_sub (pe_callB call_len (by rfl) T.f_len PySem.boot_len (pa_cons (pe_fld (pv 0) rfl) pa_nil)) pe_int)))))), ?_⟩
    cases l with
    | none => exact ⟨_, rfl, rfl, _, rfl, ifT rfl (k _ fa (Kp.refl _ _))⟩
    | some j =>
      refine ⟨_, rfl, rfl, _, rfl, ifF rfl ?_⟩
      obtain ⟨dx, hp⟩ := fa.ob
      obtain ⟨ts0, hl0, _⟩ := fa.ln
      refine ⟨_, rfl, a.p, CF, dx, _, _, rfl, hp, T.clF, T.nL, fldF_lines _ _, .inl ⟨rfl, _, SqL.of hl0⟩, _, rfl, line2 _ _, ?_⟩
      intro t ht
      have fa1 := fa.new (o := .tup [.str "inverse", .int (j : Int)]) ht
      obtain ⟨ts, hl, tl, fa2⟩ := fa1.line (x := .invl j) (t := t) upd_same
      refine ⟨a.l, _, _, rfl, rfl, hl, by rw [List.length_map, tl]; exact lim_line lim, ?_⟩
      obtain ⟨dx2, hp2⟩ := fa2.ob
      refine ⟨_, rfl, a.p, CF, dx2, _, _, rfl, hp2, T.clF, T.nL, fldF_lines _ _, _, _, rfl, .inl ⟨_, SqL.of upd_same, rfl⟩, _, _, rfl, rfl, ?_⟩
      have e : V.int ((((ts.map V.ref ++ [V.ref t]).length : Nat) : Int) - 1) = lab (some g.lines.length) := by
        rw [List.length_append, List.length_map, tl]
        simp [lab]
      show Q (V.int ((((ts.map V.ref ++ [V.ref t]).length : Nat) : Int) - 1)) _
      rw [e]
      exact k _ fa2 ((Kp.new ht).trans FA.lineKp)
abbrev N_LabelledFolding_product_line : List Str := ["self", "first", "second"]
theorem sc_LabelledFolding_product_line : FnScope N_LabelledFolding_product_line ["self", "first", "second"] WHead.d_LabelledFolding_product_line.scope := ⟨rfl, rfl, rfl, by decide +kernel, rfl, by decide +kernel, by decide +kernel⟩
theorem ok_LabelledFolding_product_line (F : FnD K WHead.d_LabelledFolding_product_line f fd) (T : Txt K mg CF CS) : FnOk P w K mg base C8.CX0 1 f fd ["self", "first", "second"] (spProdLine CF) := by
  refine F.ok sc_LabelledFolding_product_line (fun vs H Q E h => ?_) (fun cdv A outer s H vs Q E hr h => ?_)
  · obtain ⟨a, g, l, j, rfl, _⟩ := h
    rfl
  · obtain ⟨a, g, l, j, rfl, fa, lim, k⟩ := h
    refine ⟨_, PSs.nox ((pss_cons (ps_if (PW.pt (pw_or (pt_cmpR op_isN (pv 1) pe_non (nomark _)) (pw_or1 (pt_cmpR op_isN (pv 2) pe_non (nomark _))))) (pss_one (ps_ret (pe_ifExp (pt_cmpR op_isN (pv 2) pe_non (nomark _)) (pv 1) (pv 2)))) pss_nil)
      (pss_cons (ps_expr (pe_bm PySem.F.plainAttrs_list PySem.F.slot_list_append PySem.F.type_list_append mt_append (pe_fld (pv 0) rfl) (pa_cons (pe_tup (pa_cons pe_str (pa_cons (pv 1) (pa_cons (pv 2) pa_nil)))) pa_nil)))
      (pss_one (ps_ret (pe_op op_sub (pe_callB call_len (by rfl) T.f_len PySem.boot_len (pa_cons (pe_fld (pv 0) rfl) pa_nil)) pe_int)))))), ?_⟩
    cases l with
    | none =>
      refine ⟨_, rfl, rfl, _, rfl, ifT rfl (ifT rfl ?_)⟩
      cases j with
      | none => exact ⟨_, rfl, rfl, _, rfl, ifT rfl ⟨_, rfl, k _ fa (Kp.refl _ _)⟩⟩
      | some j => exact ⟨_, rfl, rfl, _, rfl, ifF rfl ⟨_, rfl, k _ fa (Kp.refl _ _)⟩⟩
    | some i =>
      cases j with
      | none => exact ⟨_, rfl, rfl, _, rfl, ifF rfl ⟨_, rfl, rfl, _, rfl, ifT rfl ⟨_, rfl, rfl, _, rfl, ifT rfl ⟨_, rfl, k _ fa (Kp.refl _ _)⟩⟩⟩⟩
      | some j =>
        refine ⟨_, rfl, rfl, _, rfl, ifF rfl ⟨_, rfl, rfl, _, rfl, ifF rfl ?_⟩⟩
        obtain ⟨dx, hp⟩ := fa.ob
        obtain ⟨ts0, hl0, _⟩ := fa.ln
        refine ⟨_, rfl, a.p, CF, dx, _, _, rfl, hp, T.clF, T.nL, fldF_lines _ _, .inl ⟨rfl, _, SqL.of hl0⟩, _, rfl, _, rfl, line3 _ _ _, ?_⟩
        intro t ht
        have fa1 := fa.new (o := .tup [.str "product", .int (i : Int), .int (j : Int)]) ht
        obtain ⟨ts, hl, tl, fa2⟩ := fa1.line (x := .prod i j) (t := t) upd_same
        refine ⟨a.l, _, _, rfl, rfl, hl, by rw [List.length_map, tl]; exact lim_line lim, ?_⟩
        obtain ⟨dx2, hp2⟩ := fa2.ob
        refine ⟨_, rfl, a.p, CF, dx2, _, _, rfl, hp2, T.clF, T.nL, fldF_lines _ _, _, _, rfl, .inl ⟨_, SqL.of upd_same, rfl⟩, _, _, rfl, rfl, ?_⟩
        have e : V.int ((((ts.map V.ref ++ [V.ref t]).length : Nat) : Int) - 1) = lab (some g.lines.length) := by
          rw [List.length_append, List.length_map, tl]
          simp [lab]
        show Q (V.int ((((ts.map V.ref ++ [V.ref t]).length : Nat) : Int) - 1)) _
        rw [e]
        exact k _ fa2 ((Kp.new ht).trans FA.lineKp)
theorem inv_few (ls : List Line) (l : Lab) : (invL ls l).1.length ≤ ls.length + 1 := by
  cases l with
  | none => exact Nat.le_succ _
  | some j =>
    show (ls ++ [_]).length ≤ _
    rw [List.length_append]
    exact Nat.le_refl _
theorem prod_few (ls : List Line) (l k : Lab) : (prodL ls l k).1.length ≤ ls.length + 1 := by
  cases l with
  | none => exact Nat.le_succ _
  | some j =>
    cases k with
    | none => exact Nat.le_succ _
    | some k =>
      show (ls ++ [_]).length ≤ _
      rw [List.length_append]
      exact Nat.le_refl _
abbrev N_LabelledFolding_add_edge : List Str := ["self", "source", "step", "target", "label", "back", "node", "known"]
theorem sc_LabelledFolding_add_edge : FnScope N_LabelledFolding_add_edge ["self", "source", "step", "target", "label"] WHead.d_LabelledFolding_add_edge.scope := ⟨rfl, rfl, rfl, by decide +kernel, rfl, by decide +kernel, by decide +kernel⟩
theorem ok_LabelledFolding_add_edge (F : FnD K WHead.d_LabelledFolding_add_edge f fd) (T : Txt K mg CF CS) (m_LabelledFolding_inverse_line : MetE P w K mg base 1 CF "inverse_line" (spInvLine CF)) (m_LabelledFolding_product_line : MetE P w K mg base 1 CF "product_line" (spProdLine CF)) :
    FnOk P w K mg base C8.CX0 2 f fd ["self", "source", "step", "target", "label"] (spAddEdge CF) := by
  refine F.ok sc_LabelledFolding_add_edge (fun vs H Q E h => ?_) (fun cdv A outer s H vs Q E hr h => ?_)
  · obtain ⟨a, g, n, c, t, l, rfl, _⟩ := h
    rfl
  · obtain ⟨a, g, n, c, t, l, rfl, fa, lim, lmu, hc, k⟩ := h
    have hu := hu_of hr
    refine ⟨_, PSs.nox ((pss_cons (ps_set (i := 5) sc_LabelledFolding_add_edge.nd rfl (Or.inl rfl) (pe_swap (pv 2)))
      (pss_one (ps_if (pt_cmp (pc_din hu (pe_tup (pa_cons (pv 1) (pa_cons (pv 2) pa_nil))) (pe_fld (pv 0) rfl))) (pss_cons (ps_asg (pe_dget hu (pe_fld (pv 0) rfl) (pe_tup (pa_cons (pv 1) (pa_cons (pv 2) pa_nil))) (fun _ _ => rfl)) (pg_tup rfl (pgs_cons (pg_name (i := 6) sc_LabelledFolding_add_edge.nd rfl (Or.inl rfl)) (pgs_cons (pg_name (i := 7) sc_LabelledFolding_add_edge.nd rfl (Or.inl rfl)) pgs_nil))))
      (pss_one (ps_expr (pe_bm PySem.F.plainAttrs_list PySem.F.slot_list_append PySem.F.type_list_append mt_append (pe_fld (pv 0) rfl) (pa_cons (pe_tup (pa_cons (pv 6) (pa_cons (pv 3) (pa_cons (C8.pe_mt m_LabelledFolding_product_line hr (by decide) (pv 0) (pa_cons (C8.pe_mt m_LabelledFolding_inverse_line hr (by decide) (pv 0) (pa_cons (pv 4) pa_nil)) (pa_cons (pv 7) pa_nil))) pa_nil)))) pa_nil))))) (pss_one (ps_if (pt_cmp (pc_din hu (pe_tup (pa_cons (pv 3) (pa_cons (pv 5) pa_nil))) (pe_fld (pv 0) rfl))) (pss_cons (ps_asg (pe_dget hu (pe_fld (pv 0) rfl) (pe_tup (pa_cons (pv 3) (pa_cons (pv 5) pa_nil))) (fun _ _ => rfl)) (pg_tup rfl (pgs_cons (pg_name (i := 6) sc_LabelledFolding_add_edge.nd rfl (Or.inl rfl)) (pgs_cons (pg_name (i := 7) sc_LabelledFolding_add_edge.nd rfl (Or.inl rfl)) pgs_nil))))
      (pss_one (ps_expr (pe_bm PySem.F.plainAttrs_list PySem.F.slot_list_append PySem.F.type_list_append mt_append (pe_fld (pv 0) rfl) (pa_cons (pe_tup (pa_cons (pv 6) (pa_cons (pv 1) (pa_cons (C8.pe_mt m_LabelledFolding_product_line hr (by decide) (pv 0) (pa_cons (pv 4) (pa_cons (pv 7) pa_nil))) pa_nil)))) pa_nil))))) (pss_cons (ps_dput hu (pe_fld (pv 0) rfl) (pe_tup (pa_cons (pv 1) (pa_cons (pv 2) pa_nil))) (pe_tup (pa_cons (pv 3) (pa_cons (pv 4) pa_nil))) rfl)
      (pss_one (ps_dput hu (pe_fld (pv 0) rfl) (pe_tup (pa_cons (pv 3) (pa_cons (pv 5) pa_nil))) (pe_tup (pa_cons (pv 1) (pa_cons (C8.pe_mt m_LabelledFolding_inverse_line hr (by decide) (pv 0) (pa_cons (pv 4) pa_nil)) pa_nil))) rfl))))))))), ?_⟩
    have s0 := fa.at0
    -- back = step.swapcase()
    refine ⟨_, rfl, ⟨_, rfl⟩, c, rfl, rfl, hc, ?_⟩
    -- (source, step) in self.targets_of
    refine ⟨_, rfl, _, rfl, line2 _ _, fun b1 hb1 => ?_⟩
    have s1 := s0.new (o := .tup [.int (n : Int), vS [c]]) hb1
    refine ⟨_, rfl, a.p, CF, _, _, _, rfl, s1.dx.choose_spec, T.clF, T.nT, fldF_targets _ _, a.d, _, rfl, DGet.t (k := keyT (n, c)) s1.fa.tg.choose_spec.1 upd_same, _, rfl, ?_⟩
    have few1 := inv_few g.lines l
    have sz : sizeLine = 16777216 := sizeLine_eq
    have tgl : g.tgt.length ≤ mu g ∧ g.pend.length ≤ mu g := by
      unfold mu
      omega
    rcases s1.fa.tg.choose_spec.2.get keyT_inj (n, c) with ⟨e1, e2⟩ | ⟨x, u, e1, e2, e3⟩
    · refine ifF (by rw [e2]; rfl) ?_
      -- (target, back) in self.targets_of
      refine ⟨_, rfl, _, rfl, line2 _ _, fun b2 hb2 => ?_⟩
      have s2 := s1.new (o := .tup [.int (t : Int), vS [bk c]]) hb2
      refine ⟨_, rfl, a.p, CF, _, _, _, rfl, s2.dx.choose_spec, T.clF, T.nT, fldF_targets _ _, a.d, _, rfl, DGet.t (k := keyT (t, bk c)) s2.fa.tg.choose_spec.1 upd_same, _, rfl, ?_⟩
      rcases s2.fa.tg.choose_spec.2.get keyT_inj (t, bk c) with ⟨f1, f2⟩ | ⟨x, u, f1, f2, f3⟩
      · refine ifF (by rw [f2]; rfl) ?_
        -- self.targets_of[(source, step)] = (target, label)
        refine ⟨_, rfl, _, rfl, line2 _ _, fun b3 hb3 => ?_⟩
        have s3 := s2.new (o := .tup [.int (t : Int), lab l]) hb3
        refine ⟨_, rfl, a.p, CF, _, _, _, rfl, s3.dx.choose_spec, T.clF, T.nT, fldF_targets _ _, _, rfl, _, rfl, line2 _ _, fun b4 hb4 => ?_⟩
        have s4 := s3.new (o := .tup [.int (n : Int), vS [c]]) hb4
        obtain ⟨kvs, hd, kl, fa5⟩ := s4.fa.putT (n, c) (x := (t, l)) (t := b3) (by rw [upd_ne (ne_of_none upd_same hb4)]; exact upd_same)
        refine ⟨a.d, _, rfl, DPut.t (k := keyT (n, c)) hd upd_same (by unfold LIM at lmu; omega), ?_⟩
        have s5 := s4.go fa5 (Kp.upd mem_d)
        -- self.targets_of[(target, back)] = (source, self.inverse_line(label))
        refine ⟨_, rfl, _, rfl, a.p, _, _, rfl, s5.dx.choose_spec, rfl, _, rfl, a, _, l, rfl, s5.fa, by show g.lines.length ≤ LIM; omega, fun H6 fa6 kp6 => ⟨line2 _ _, fun b6 hb6 => ?_⟩⟩
        have s6 := s5.go fa6 kp6
        have s7 := s6.new (o := .tup [.int (n : Int), lab (invL g.lines l).2]) hb6
        refine ⟨_, rfl, a.p, CF, _, _, _, rfl, s7.dx.choose_spec, T.clF, T.nT, fldF_targets _ _, _, rfl, _, rfl, line2 _ _, fun b8 hb8 => ?_⟩
        have s8 := s7.new (o := .tup [.int (t : Int), vS [bk c]]) hb8
        obtain ⟨kvs2, hd2, kl2, fa9⟩ := s8.fa.putT (t, bk c) (x := (n, (invL g.lines l).2)) (t := b6) (by rw [upd_ne (ne_of_none upd_same hb8)]; exact upd_same)
        have few2 := length_pt_le g.tgt (n, c) (t, l)
        refine ⟨a.d, _, rfl, DPut.t (k := keyT (t, bk c)) hd2 upd_same (by show kvs2.length < sizeLine; rw [kl2]; show (pt g.tgt (n, c) (t, l)).length < sizeLine; unfold LIM at lmu; omega), ?_⟩
        have s9 := s8.go fa9 (Kp.upd mem_d)
        have eq : addEdge g n c t l = { g with lines := (invL g.lines l).1, tgt := pt (pt g.tgt (n, c) (t, l)) (t, bk c) (n, (invL g.lines l).2) } := by
          unfold addEdge
          rw [e1]
          simp only [f1]
        refine k _ ?_ s9.kp
        rw [eq]
        exact s9.fa
      · refine ifT (by rw [f2]; rfl) ?_
        obtain ⟨m, kn⟩ := x
        -- node, known = self.targets_of[(target, back)]
        refine ⟨_, rfl, a.p, CF, _, _, _, rfl, s2.dx.choose_spec, T.clF, T.nT, fldF_targets _ _, _, rfl, _, rfl, line2 _ _, fun b3 hb3 => ?_⟩
        have s3 := s2.new (o := .tup [.int (t : Int), vS [bk c]]) hb3
        obtain ⟨u3, g2, g3⟩ := s3.fa.tg.choose_spec.2.getS keyT_inj f1
        refine ⟨a.d, _, rfl, by rw [← g2]; exact DGet.t (k := keyT (t, bk c)) s3.fa.tg.choose_spec.1 upd_same, u3, _, rfl, SqT.of g3, rfl, _, _, rfl, _, _, rfl, rfl, ?_⟩
        -- self.pending.append((node, source, self.product_line(label, known)))
        refine ⟨_, rfl, a.p, CF, _, _, _, rfl, s3.dx.choose_spec, T.clF, T.nP, fldF_pending _ _, .inl ⟨rfl, _, SqL.of s3.fa.pd.choose_spec.1⟩, _, rfl, _, rfl, _, rfl, a.p, _, _, rfl, s3.dx.choose_spec, rfl, _, rfl, _, rfl, a, _, l, kn, rfl, s3.fa, by omega, fun H4 fa4 kp4 => ⟨line3 _ _ _, fun b5 hb5 => ?_⟩⟩
        have s4 := s3.go fa4 kp4
        have s5 := s4.new (o := .tup [.int (m : Int), .int (n : Int), lab (prodL g.lines l kn).2]) hb5
        obtain ⟨ts, hl, tl, fa6⟩ := s5.fa.pair (x := (m, n, (prodL g.lines l kn).2)) (t := b5) upd_same
        refine ⟨a.q, _, _, rfl, rfl, hl, by rw [List.length_map, tl]; show g.pend.length < sizeLine; unfold LIM at lmu; omega, ?_⟩
        have s6 := s5.go fa6 (Kp.upd mem_q)
        have eq : addEdge g n c t l = { g with lines := (prodL g.lines l kn).1, pend := g.pend ++ [(m, n, (prodL g.lines l kn).2)] } := by
          unfold addEdge
          rw [e1]
          simp only [f1]
        refine k _ ?_ s6.kp
        rw [eq]
        exact s6.fa
    · -- the edge is there
      refine ifT (by rw [e2]; rfl) ?_
      obtain ⟨m, kn⟩ := x
      -- node, known = self.targets_of[(source, step)]
      refine ⟨_, rfl, a.p, CF, _, _, _, rfl, s1.dx.choose_spec, T.clF, T.nT, fldF_targets _ _, _, rfl, _, rfl, line2 _ _, fun b3 hb3 => ?_⟩
      have s3 := s1.new (o := .tup [.int (n : Int), vS [c]]) hb3
      obtain ⟨u3, g2, g3⟩ := s3.fa.tg.choose_spec.2.getS keyT_inj e1
      refine ⟨a.d, _, rfl, by rw [← g2]; exact DGet.t (k := keyT (n, c)) s3.fa.tg.choose_spec.1 upd_same, u3, _, rfl, SqT.of g3, rfl, _, _, rfl, _, _, rfl, rfl, ?_⟩
      -- self.pending.append((node, target, self.product_line(self.inverse_line(label), known)))
      refine ⟨_, rfl, a.p, CF, _, _, _, rfl, s3.dx.choose_spec, T.clF, T.nP, fldF_pending _ _, .inl ⟨rfl, _, SqL.of s3.fa.pd.choose_spec.1⟩, _, rfl, _, rfl, _, rfl, a.p, _, _, rfl, s3.dx.choose_spec, rfl, _, rfl, a.p, _, _, rfl, s3.dx.choose_spec, rfl, _, rfl, a, _, l, rfl, s3.fa, by omega, fun H4 fa4 kp4 => ?_⟩
      have s4 := s3.go fa4 kp4
      refine ⟨_, rfl, a, _, (invL g.lines l).2, kn, rfl, s4.fa, by show (invL g.lines l).1.length ≤ LIM; omega, fun H5 fa5 kp5 => ⟨line3 _ _ _, fun b5 hb5 => ?_⟩⟩
      have s5 := s4.go fa5 kp5
      have s6 := s5.new (o := .tup [.int (m : Int), .int (t : Int), lab (prodL (invL g.lines l).1 (invL g.lines l).2 kn).2]) hb5
      obtain ⟨ts, hl, tl, fa6⟩ := s6.fa.pair (x := (m, t, (prodL (invL g.lines l).1 (invL g.lines l).2 kn).2)) (t := b5) upd_same
      refine ⟨a.q, _, _, rfl, rfl, hl, by rw [List.length_map, tl]; show g.pend.length < sizeLine; unfold LIM at lmu; omega, ?_⟩
      have s7 := s6.go fa6 (Kp.upd mem_q)
      have eq : addEdge g n c t l = { g with lines := (prodL (invL g.lines l).1 (invL g.lines l).2 kn).1, pend := g.pend ++ [(m, t, (prodL (invL g.lines l).1 (invL g.lines l).2 kn).2)] } := by
        unfold addEdge
        rw [e1]
      refine k _ ?_ s7.kp
      rw [eq]
      exact s7.fa
end
end WK
end Text_WW2
section Text_WW3
set_option Elab.async false
set_option linter.all false
set_option maxRecDepth 100000
set_option maxHeartbeats 4000000
/-! WW3: the folding's walk, a node's root. -/
namespace WK
open PySem PySem.Spec L2 SX
open PyProof.Rows hiding St

section
variable {C : Addr} {a : Ads} {H0 H H' : Hp} {g g' g0 : G}
/-- a thing of ours, no part of the folding, is written -/
theorem AtF.mine (h : AtF C a H0 H g) (fa0 : FA C a H0 g0) {c : Addr} {u o : HO} (n0 : H0 c = none) (e : H c = some u) (nt : ∀ xs, u ≠ .tup xs) : AtF C a H0 (upd H c o) g := by
  have nc := fa0.not_new n0
  refine ⟨h.fa.kp (F := [c]) (Kp.upd List.mem_cons_self) (Tp.upd e nt) ?_, ?_⟩
  · intro b hb z
    rw [List.mem_singleton.mp z] at hb
    exact nc hb
  · intro b v e2 nb
    rw [upd_ne (ne_of_none e2 n0)]
    exact h.kp b v e2 nb
/-- .. and stands through a step -/
theorem AtF.still (fa0 : FA C a H0 g0) {c : Addr} {u : HO} (n0 : H0 c = none) (kp : Kp a.all H H') (e : H c = some u) : H' c = some u := kp c u e (fa0.not_new n0)
end
theorem tl_at (w : List Nat) (i : Nat) : (S w).cps[i]? = w[i]? := by
  show w.toArray[i]? = w[i]?
  simp
theorem tl_size (w : List Nat) : (S w).cps.size = w.length := by
  show w.toArray.size = _
  simp
theorem drop_at {α : Type} {w : List α} {i : Nat} {c : α} (h : w[i]? = some c) : w.drop i = c :: w.drop (i + 1) := by
  obtain ⟨hi, e⟩ := List.getElem?_eq_some_iff.mp h
  rw [List.drop_eq_getElem_cons hi, e]
theorem walkL_none {tgt : Tgt} {c : Nat} {w : List Nat} {x : Wk} (e : gt tgt (x.node, c) = none) : walkL tgt (c :: w) x = x := by
  show (match gt tgt (x.node, c) with | none => x | some e => _) = x
  rw [e]
theorem walkL_some {tgt : Tgt} {c : Nat} {w : List Nat} {x : Wk} {y : Nat × Lab} (e : gt tgt (x.node, c) = some y) : walkL tgt (c :: w) x = walkL tgt w ⟨(prodL x.lines x.lab y.2).1, y.1, (prodL x.lines x.lab y.2).2, x.pos + 1⟩ := by
  show (match gt tgt (x.node, c) with | none => x | some e => walkL tgt w ⟨(prodL x.lines x.lab e.2).1, e.1, (prodL x.lines x.lab e.2).2, x.pos + 1⟩) = _
  rw [e]
def spWalk (C : Addr) : Sp := fun vs H Q _ => ∃ (a : Ads) (g : G) (w : List Nat), vs = [.ref a.p, vS w] ∧ FA C a H g ∧ g.lines.length + w.length ≤ LIM ∧
  ∀ H' b, FA C a H' { g with lines := (walk0 g w).lines } → Kp a.all H H' → H b = none → H' b = some (.tup [.int (walk0 g w).node, lab (walk0 g w).lab, .int (walk0 g w).pos]) → Q (.ref b) H'
section
variable {P : Program} {w : World} {K : PySem.W.Frag} {mg : Str → Option Value} {base : Heap} {f CF CS : Addr} {fd : FuncData}
abbrev N_LabelledFolding_walk : List Str := ["self", "path", "node", "label", "position", "step", "edge_label"]
theorem sc_LabelledFolding_walk : FnScope N_LabelledFolding_walk ["self", "path"] WHead.d_LabelledFolding_walk.scope := ⟨rfl, rfl, rfl, by decide +kernel, rfl, by decide +kernel, by decide +kernel⟩
theorem ok_LabelledFolding_walk (F : FnD K WHead.d_LabelledFolding_walk f fd) (T : Txt K mg CF CS) (m_LabelledFolding_product_line : MetE P w K mg base 1 CF "product_line" (spProdLine CF)) : FnOk P w K mg base C8.CX0 2 f fd ["self", "path"] (spWalk CF) := by
  refine F.ok sc_LabelledFolding_walk (fun vs H Q E h => ?_) (fun cdv A outer s H vs Q E hr h => ?_)
  · obtain ⟨a, g, w, rfl, _⟩ := h
    rfl
  · obtain ⟨a, g, w, rfl, fa, lim, k⟩ := h
    have hu := hu_of hr
    refine ⟨_, PSs.nox ((pss_cons (ps_asg (pe_tup (pa_cons pe_int (pa_cons pe_non pa_nil))) (pg_tup rfl (pgs_cons (pg_name (i := 2) sc_LabelledFolding_walk.nd rfl (Or.inl rfl)) (pgs_cons (pg_name (i := 3) sc_LabelledFolding_walk.nd rfl (Or.inl rfl)) pgs_nil))))
      (pss_cons (ps_for PassesOwn.never rfl (pi_enumS (by rfl) T.f_enumerate (pa_cons (pv 1) pa_nil)) (pg_tup rfl (pgs_cons (pg_name (i := 4) sc_LabelledFolding_walk.nd rfl (Or.inl rfl)) (pgs_cons (pg_name (i := 5) sc_LabelledFolding_walk.nd rfl (Or.inl rfl)) pgs_nil))) (pss_cons (ps_if (pt_cmp (pc_dnotin hu (pe_tup (pa_cons (pv 2) (pa_cons (pv 5) pa_nil))) (pe_fld (pv 0) rfl))) (pss_one (ps_ret (pe_tup (pa_cons (pv 2) (pa_cons (pv 3) (pa_cons (pv 4) pa_nil)))))) pss_nil)
      (pss_cons (ps_asg (pe_dget hu (pe_fld (pv 0) rfl) (pe_tup (pa_cons (pv 2) (pa_cons (pv 5) pa_nil))) (fun _ _ => rfl)) (pg_tup rfl (pgs_cons (pg_name (i := 2) sc_LabelledFolding_walk.nd rfl (Or.inl rfl)) (pgs_cons (pg_name (i := 6) sc_LabelledFolding_walk.nd rfl (Or.inl rfl)) pgs_nil))))
      (pss_one (ps_set (i := 3) sc_LabelledFolding_walk.nd rfl (Or.inl rfl) (C8.pe_mt m_LabelledFolding_product_line hr (by decide) (pv 0) (pa_cons (pv 3) (pa_cons (pv 6) pa_nil))))))))
      (pss_one (ps_ret (pe_tup (pa_cons (pv 2) (pa_cons (pv 3) (pa_cons (pe_callB call_len (by rfl) T.f_len PySem.boot_len (pa_cons (pv 1) pa_nil)) pa_nil))))))))), ?_⟩
    refine ⟨line2 _ _, fun b0 hb0 => ⟨b0, _, rfl, SqT.of upd_same, rfl, _, _, rfl, _, _, rfl, rfl, ?_⟩⟩
    have s0 := fa.at0.new (o := .tup [.int 0, .non]) hb0
    refine ⟨_, rfl, _, rfl, for_it walk_enumS (fun i σ H1 => ∃ (x : Wk) (o4 o5 o6 : Option V), σ = [some (.ref a.p), some (vS w), some (.int x.node), some (lab x.lab), o4, o5, o6] ∧ AtF CF a H H1 { g with lines := x.lines } ∧ x.pos = i ∧ walkL g.tgt (w.drop i) x = walk0 g w ∧ x.lines.length ≤ g.lines.length + i)
      ⟨⟨g.lines, 0, none, 0⟩, _, _, _, rfl, s0, rfl, rfl, Nat.le_refl _⟩ (fun _ _ _ _ _ => trivial) ?_ ?_⟩
    · rintro i v σ H1 H2 hi ⟨x, o4, o5, o6, rfl, s1, hpos, hw, hl⟩ ⟨b1, c, rfl, hb1, rfl, hc⟩
      have hc' : w[i]? = some c := by rw [← tl_at]; exact hc
      have hi' : i < w.length := (List.getElem?_eq_some_iff.mp hc').1
      have s2 := s1.new (o := .tup [.int (i : Int), vS [c]]) hb1
      refine ⟨b1, _, rfl, SqT.of upd_same, rfl, _, _, rfl, _, _, rfl, rfl, ?_⟩
      -- (node, step) not in self.targets_of
      refine ⟨_, rfl, _, rfl, line2 _ _, fun b2 hb2 => ?_⟩
      have s3 := s2.new (o := .tup [.int (x.node : Int), vS [c]]) hb2
      refine ⟨_, rfl, a.p, CF, _, _, _, rfl, s3.dx.choose_spec, T.clF, T.nT, fldF_targets _ _, a.d, _, rfl, DGet.t (k := keyT (x.node, c)) s3.fa.tg.choose_spec.1 upd_same, _, rfl, ?_⟩
      rw [drop_at hc'] at hw
      rcases s3.fa.tg.choose_spec.2.get keyT_inj (x.node, c) with ⟨e1, e2⟩ | ⟨y, u, e1, e2, e3⟩
      · refine ifT (by rw [e2]; rfl) ?_
        rw [walkL_none e1] at hw
        refine ⟨_, rfl, _, rfl, _, rfl, line3 _ _ _, fun b4 hb4 => ?_⟩
        have s4 := s3.new (o := .tup [.int (x.node : Int), lab x.lab, .int (i : Int)]) hb4
        refine k _ b4 (by rw [← hw]; exact s4.fa) s4.kp (s3.kp.free' hb4 (s3.fa.not_new hb4)) ?_
        rw [← hw, hpos]
        exact upd_same
      · refine ifF (by rw [e2]; rfl) ?_
        obtain ⟨m, kn⟩ := y
        rw [walkL_some e1] at hw
        refine ⟨_, rfl, a.p, CF, _, _, _, rfl, s3.dx.choose_spec, T.clF, T.nT, fldF_targets _ _, _, rfl, _, rfl, line2 _ _, fun b4 hb4 => ?_⟩
        have s4 := s3.new (o := .tup [.int (x.node : Int), vS [c]]) hb4
        obtain ⟨u4, g2, g3⟩ := s4.fa.tg.choose_spec.2.getS keyT_inj e1
        refine ⟨a.d, _, rfl, by rw [← g2]; exact DGet.t (k := keyT (x.node, c)) s4.fa.tg.choose_spec.1 upd_same, u4, _, rfl, SqT.of g3, rfl, _, _, rfl, _, _, rfl, rfl, ?_⟩
        have few := prod_few x.lines x.lab kn
        refine ⟨_, rfl, a.p, _, _, rfl, s4.dx.choose_spec, rfl, _, rfl, _, rfl, a, _, x.lab, kn, rfl, s4.fa, by show x.lines.length ≤ LIM; omega, fun H5 fa5 kp5 => ?_⟩
        have s5 := s4.go fa5 kp5
        exact ⟨⟨(prodL x.lines x.lab kn).1, m, (prodL x.lines x.lab kn).2, x.pos + 1⟩, _, _, _, rfl, s5, by show x.pos + 1 = i + 1; omega, hw, by show (prodL x.lines x.lab kn).1.length ≤ _; omega⟩
    · rintro σ H1 ⟨x, o4, o5, o6, rfl, s1, hpos, hw, hl⟩
      rw [tl_size] at hpos hw
      have e : w.drop w.length = [] := by simp
      rw [e] at hw
      have hw' : x = walk0 g w := hw
      refine ⟨_, rfl, _, rfl, _, rfl, _, w.length, rfl, ⟨by rw [S_len, sizeLine_eq]; unfold LIM at lim; omega, by rw [S_len]⟩, line3 _ _ _, fun b4 hb4 => ?_⟩
      have s4 := s1.new (o := .tup [.int (x.node : Int), lab x.lab, .int (w.length : Int)]) hb4
      refine k _ b4 (by rw [← hw']; exact s4.fa) s4.kp (s1.kp.free' hb4 (s1.fa.not_new hb4)) ?_
      rw [← hw', hpos]
      exact upd_same
end
end WK
end Text_WW3
section Text_WW4
set_option Elab.async false
set_option linter.all false
set_option maxRecDepth 100000
set_option maxHeartbeats 4000000
/-! WW4: a node's root. -/
namespace WK
open PySem PySem.Spec L2 SX
open PyProof.Rows hiding St

theorem chain_same {mrg : Mrg} (down_ : ∀ r k l, gt mrg r = some (k, l) → k < r) : ∀ (k n : Nat), n < k → ∀ j, n < j → chain mrg k n = chain mrg j n := by
  intro k
  induction k with
  | zero => exact fun n h => (Nat.not_lt_zero _ h).elim
  | succ k ih =>
    intro n h j hj
    cases j with
    | zero => omega
    | succ j =>
      unfold chain
      cases e : gt mrg n with
      | none => rfl
      | some x =>
        have := down_ n x.1 x.2 e
        have z := ih x.1 (by omega) j (by omega)
        show (n :: (chain mrg k x.1).1, (chain mrg k x.1).2) = (n :: (chain mrg j x.1).1, (chain mrg j x.1).2)
        rw [z]
theorem chain_none {mrg : Mrg} {n : Nat} (e : gt mrg n = none) : chain mrg (n + 1) n = ([], n) := by
  unfold chain
  rw [e]
theorem chain_some {mrg : Mrg} (down_ : ∀ r k l, gt mrg r = some (k, l) → k < r) {n : Nat} {x : Nat × Lab} (e : gt mrg n = some x) : chain mrg (n + 1) n = (n :: (chain mrg (x.1 + 1) x.1).1, (chain mrg (x.1 + 1) x.1).2) := by
  have lt := down_ n x.1 x.2 e
  have z := chain_same down_ n x.1 lt (x.1 + 1) (Nat.lt_succ_self _)
  rw [← z]
  show (match gt mrg n with | none => ([], n) | some e => (n :: (chain mrg n e.1).1, (chain mrg n e.1).2)) = _
  rw [e]
def nums (l : List Nat) : List V := l.map fun n : Nat => V.int (n : Int)
theorem nums_get {l : List Nat} {i : Nat} {v : V} (h : (nums l)[i]? = some v) : ∃ n, l[i]? = some n ∧ v = .int (n : Int) := by
  unfold nums at h
  rw [List.getElem?_map] at h
  obtain ⟨n, e, q⟩ := Option.map_eq_some_iff.mp h
  exact ⟨n, e, q.symm⟩
def spCurrent (C : Addr) : Sp := fun vs H Q _ => ∃ (a : Ads) (g : G) (n : Nat), vs = [.ref a.p, .int n] ∧ FA C a H g ∧ (∀ r k l, gt g.mrg r = some (k, l) → k < r) ∧ g.lines.length + g.mrg.length ≤ LIM ∧
  ∀ H' b, FA C a H' (curG g n) → Kp a.all H H' → H b = none → H' b = some (.tup [.int (curN g n), lab (curL g n)]) → Q (.ref b) H'
/-- the chain's members, from the last, so far -/
def back (root : Nat) (rev : List Nat) (i : Nat) (x0 : Cur) : Cur := (rev.take i).foldl (fun x m => cmpStep root m x) x0
theorem back_succ {root : Nat} {rev : List Nat} {i m : Nat} {x0 : Cur} (h : rev[i]? = some m) : back root rev (i + 1) x0 = cmpStep root m (back root rev i x0) := by
  unfold back
  rw [List.take_add_one, h]
  show (rev.take i ++ [m]).foldl _ _ = _
  rw [List.foldl_append]
  rfl
theorem back_end {root : Nat} {c : List Nat} {x0 : Cur} : back root c.reverse c.reverse.length x0 = c.foldr (cmpStep root) x0 := by
  unfold back
  rw [List.take_length, List.foldl_reverse]
structure BackOk (g : G) (c : List Nat) (i : Nat) (x : Cur) : Prop where
  keys : ∀ m, (gt x.mrg m).isSome = (gt g.mrg m).isSome
  few : x.lines.length ≤ g.lines.length + i
  len : x.mrg.length = g.mrg.length
theorem BackOk.step {g : G} {c : List Nat} {i : Nat} {x : Cur} (h : BackOk g c i x) (root : Nat) {m : Nat} (hm : (gt g.mrg m).isSome = true) : BackOk g c (i + 1) (cmpStep root m x) := by
  have k := h.keys m
  rw [hm] at k
  obtain ⟨y, hy⟩ := Option.isSome_iff_exists.mp k
  refine ⟨?_, ?_, ?_⟩
  · intro j
    show (gt (pt x.mrg m _) j).isSome = _
    rw [gt_pt]
    by_cases e : m = j
    · subst e
      rw [if_pos rfl, hm]
      rfl
    · rw [if_neg e]
      exact h.keys j
  · have := prod_few x.lines (labOf x.mrg m) x.lab
    have := h.few
    show (prodL _ _ _).1.length ≤ _
    omega
  · show (pt x.mrg m _).length = _
    rw [length_pt_old _ hy]
    exact h.len
section
variable {P : Program} {w : World} {K : PySem.W.Frag} {mg : Str → Option Value} {base : Heap} {f CF CS : Addr} {fd : FuncData}
abbrev N_LabelledFolding_current : List Str := ["self", "node", "chain", "label", "member"]
theorem sc_LabelledFolding_current : FnScope N_LabelledFolding_current ["self", "node"] WHead.d_LabelledFolding_current.scope := ⟨rfl, rfl, rfl, by decide +kernel, rfl, by decide +kernel, by decide +kernel⟩
theorem ok_LabelledFolding_current (F : FnD K WHead.d_LabelledFolding_current f fd) (T : Txt K mg CF CS) (m_LabelledFolding_product_line : MetE P w K mg base 1 CF "product_line" (spProdLine CF)) : FnOk P w K mg base C8.CX0 2 f fd ["self", "node"] (spCurrent CF) := by
  refine F.ok sc_LabelledFolding_current (fun vs H Q E h => ?_) (fun cdv A outer s H vs Q E hr h => ?_)
  · obtain ⟨a, g, n, rfl, _⟩ := h
    rfl
  · obtain ⟨a, g, n, rfl, fa, down_, lim, k⟩ := h
    have hu := hu_of hr
    have sz : sizeLine = 16777216 := sizeLine_eq
    have clen := chain_len g.mrg down_ (n + 1) n
    have clen2 : (g.mrg.filter fun p => decide (p.1 ≤ n)).length ≤ g.mrg.length := List.length_filter_le _ _
    have croot := chain_root (next := 0) down_ (n + 1) n (Nat.lt_succ_self _)
    unfold LIM at lim
    refine ⟨_, PSs.nox ((pss_cons (ps_set (i := 2) sc_LabelledFolding_current.nd rfl (Or.inl rfl) (pe_lst pa_nil))
      (pss_cons (ps_while PassesOwn.never (pt_cmp (pc_din hu (pv 1) (pe_fld (pv 0) rfl))) (pss_cons (ps_expr (pe_bm PySem.F.plainAttrs_list PySem.F.slot_list_append PySem.F.type_list_append mt_append (pv 2) (pa_cons (pv 1) pa_nil)))
      (pss_one (ps_set (i := 1) sc_LabelledFolding_current.nd rfl (Or.inl rfl) (pe_ix ix_tup (pe_dget hu (pe_fld (pv 0) rfl) (pv 1) (fun _ _ => rfl)) pe_int (fun _ _ => rfl))))))
      (pss_cons (ps_set (i := 3) sc_LabelledFolding_current.nd rfl (Or.inl rfl) pe_non)
      (pss_cons (ps_for PassesOwn.never rfl (pi_list (pe_revL (pv 2))) (pg_name (i := 4) sc_LabelledFolding_current.nd rfl (Or.inl rfl)) (pss_cons (ps_set (i := 3) sc_LabelledFolding_current.nd rfl (Or.inl rfl) (C8.pe_mt m_LabelledFolding_product_line hr (by decide) (pv 0) (pa_cons (pe_ix ix_tup (pe_dget hu (pe_fld (pv 0) rfl) (pv 4) (fun _ _ => rfl)) pe_int (fun _ _ => rfl)) (pa_cons (pv 3) pa_nil))))
      (pss_one (ps_dput hu (pe_fld (pv 0) rfl) (pv 4) (pe_tup (pa_cons (pv 1) (pa_cons (pv 3) pa_nil))) rfl))))
      (pss_one (ps_ret (pe_tup (pa_cons (pv 1) (pa_cons (pv 3) pa_nil)))))))))), ?_⟩
    -- chain = []
    refine ⟨by rw [sz]; exact Nat.zero_le _, fun c hc => ?_⟩
    have s0 := fa.at0.new (o := .lst []) hc
    -- while node in self.merged
    refine ⟨fun m σ H1 => ∃ (pre : List Nat), σ = [some (.ref a.p), some (.int (m : Int)), some (.ref c), none, none] ∧ H1 c = some (.lst (nums pre)) ∧ AtF CF a H H1 g ∧ chain g.mrg (n + 1) n = (pre ++ (chain g.mrg (m + 1) m).1, (chain g.mrg (m + 1) m).2), ⟨n, [], rfl, upd_same, s0, rfl⟩, ?_⟩
    rintro m σ H1 ⟨pre, rfl, hc1, s1, ch⟩
    have plen : pre.length ≤ g.mrg.length := by
      have z := congrArg (fun p : List Nat × Nat => p.1.length) ch
      simp only [List.length_append] at z
      omega
    refine ⟨_, rfl, _, rfl, a.p, CF, _, _, _, rfl, s1.dx.choose_spec, T.clF, T.nM, fldF_merged _ _, a.m, _, rfl, DGet.k (k := keyM m) s1.fa.mg.choose_spec.1, _, rfl, ?_⟩
    rcases s1.fa.mg.choose_spec.2.get keyM_inj m with ⟨e1, e2⟩ | ⟨y, u, e1, e2, e3⟩
    rotate_left
    · refine ifT (by rw [e2]; rfl) ?_
      obtain ⟨r, l⟩ := y
      have lt := down_ m r l e1
      rw [chain_some down_ e1] at ch
      -- chain.append(node); node = self.merged[node][0]
      refine ⟨fun σ' H2 => ∃ (pre : List Nat), σ' = [some (.ref a.p), some (.int (r : Int)), some (.ref c), none, none] ∧ H2 c = some (.lst (nums pre)) ∧ AtF CF a H H2 g ∧ chain g.mrg (n + 1) n = (pre ++ (chain g.mrg (r + 1) r).1, (chain g.mrg (r + 1) r).2), fun σ' H2 q => ⟨r, lt, q⟩, ?_⟩
      refine ⟨_, rfl, .inl ⟨rfl, _, SqL.of hc1⟩, _, rfl, c, _, _, rfl, rfl, hc1, by unfold nums; rw [List.length_map]; omega, ?_⟩
      have s2 := s1.mine (o := .lst (nums pre ++ [.int (m : Int)])) fa hc hc1 (fun _ z => nomatch z)
      obtain ⟨u3, g2, g3⟩ := s2.fa.mg.choose_spec.2.getS keyM_inj e1
      refine ⟨_, rfl, a.p, CF, _, _, _, rfl, s2.dx.choose_spec, T.clF, T.nM, fldF_merged _ _, _, rfl, a.m, _, rfl, by rw [← g2]; exact DGet.k (k := keyM m) s2.fa.mg.choose_spec.1, u3, _, _, _, rfl, rfl, SqT.of g3, rfl, ?_⟩
      refine ⟨pre ++ [m], rfl, ?_, s2, ?_⟩
      · unfold nums
        rw [List.map_append]
        exact upd_same
      · rw [ch]
        simp
    · refine ifF (by rw [e2]; rfl) ?_
      rw [chain_none e1, List.append_nil] at ch
      have eroot : curN g n = m := by
        show (chain g.mrg (n + 1) n).2 = m
        rw [ch]
      have ecmp : compress g.lines g.mrg n = pre.foldr (cmpStep m) ⟨g.lines, g.mrg, none⟩ := by
        show (chain g.mrg (n + 1) n).1.foldr (cmpStep (chain g.mrg (n + 1) n).2) _ = _
        rw [ch]
      rw [ch] at croot
      -- label = None; for member in chain[::-1]
      refine ⟨_, rfl, c, _, rfl, SqL.of hc1, fun rv hrv => ?_⟩
      have s2 := s1.new (o := .lst (nums pre).reverse) hrv
      have rv0 : H rv = none := s1.kp.free' hrv (s1.fa.not_new hrv)
      have erev : (nums pre).reverse = nums pre.reverse := by unfold nums; rw [List.map_reverse]
      refine ⟨rv, rfl, ⟨_, SqL.of upd_same⟩, for_it (walk_list (xs := nums pre.reverse)) (fun i σ H2 => ∃ o4 : Option V, σ = [some (.ref a.p), some (.int (m : Int)), some (.ref c), some (lab (back m pre.reverse i ⟨g.lines, g.mrg, none⟩).lab), o4] ∧ H2 rv = some (.lst (nums pre.reverse)) ∧
          AtF CF a H H2 { g with lines := (back m pre.reverse i ⟨g.lines, g.mrg, none⟩).lines, mrg := (back m pre.reverse i ⟨g.lines, g.mrg, none⟩).mrg } ∧ BackOk g pre i (back m pre.reverse i ⟨g.lines, g.mrg, none⟩))
        ⟨none, rfl, by rw [← erev]; exact upd_same, s2, ⟨fun _ => rfl, Nat.le_refl _, rfl⟩⟩ (fun i σ H2 _ q => SqL.of q.choose_spec.2.1) ?_ ?_⟩
      · rintro i v σ H2 H3 hi ⟨o4, rfl, hrv2, s3, bo⟩ ⟨rfl, hv⟩
        obtain ⟨j, hj, rfl⟩ := nums_get hv
        have il : i < pre.length := by
          have z := (List.getElem?_eq_some_iff.mp hj).1
          rwa [List.length_reverse] at z
        have jm : j ∈ pre := by
          have z := List.mem_of_getElem? hj
          exact List.mem_reverse.mp z
        have jk := (croot.mem j jm).1
        rw [back_succ hj]
        generalize back m pre.reverse i ⟨g.lines, g.mrg, none⟩ = x at s3 bo ⊢
        have bo2 := bo.step m jk
        have bfew := bo.few
        have blen := bo.len
        have k1 := bo.keys j
        rw [jk] at k1
        obtain ⟨y, hy⟩ := Option.isSome_iff_exists.mp k1
        obtain ⟨y1, y2⟩ := y
        have hlab : labOf x.mrg j = y2 := by unfold labOf; rw [hy]; rfl
        obtain ⟨u3, g2, g3⟩ := s3.fa.mg.choose_spec.2.getS keyM_inj hy
        -- label = self.product_line(self.merged[member][1], label)
        refine ⟨_, rfl, a.p, _, _, rfl, s3.dx.choose_spec, rfl, _, rfl, a.p, CF, _, _, _, rfl, s3.dx.choose_spec, T.clF, T.nM, fldF_merged _ _, _, rfl, a.m, _, rfl, by rw [← g2]; exact DGet.k (k := keyM j) s3.fa.mg.choose_spec.1, u3, _, _, _, rfl, rfl, SqT.of g3, rfl, _, rfl, a, _, y2, x.lab, rfl, s3.fa, by show x.lines.length ≤ LIM; unfold LIM; omega, fun H4 fa4 kp4 => ?_⟩
        have s4 := s3.go fa4 kp4
        have rv4 := AtF.still fa rv0 kp4 hrv2
        -- self.merged[member] = (node, label)
        refine ⟨_, rfl, _, rfl, line2 _ _, fun b5 hb5 => ?_⟩
        have s5 := s4.new (o := .tup [.int (m : Int), lab (prodL x.lines y2 x.lab).2]) hb5
        have rv5 : (upd H4 b5 (.tup [.int (m : Int), lab (prodL x.lines y2 x.lab).2])) rv = some (.lst (nums pre.reverse)) := by rw [upd_ne (ne_of_none rv4 hb5)]; exact rv4
        obtain ⟨kvs, hd, kl, fa6⟩ := s5.fa.putM j (x := (m, (prodL x.lines y2 x.lab).2)) (t := b5) upd_same
        refine ⟨_, rfl, a.p, CF, _, _, _, rfl, s5.dx.choose_spec, T.clF, T.nM, fldF_merged _ _, _, rfl, a.m, _, rfl, DPut.k (k := keyM j) hd (by rw [kl]; show x.mrg.length < sizeLine; omega), ?_⟩
        have s6 := s5.go fa6 (Kp.upd mem_m)
        have e : cmpStep m j x = ⟨(prodL x.lines y2 x.lab).1, pt x.mrg j (m, (prodL x.lines y2 x.lab).2), (prodL x.lines y2 x.lab).2⟩ := by
          unfold cmpStep
          rw [hlab]
        rw [e] at bo2 ⊢
        exact ⟨_, rfl, AtF.still fa rv0 (Kp.upd mem_m) rv5, s6, bo2⟩
      · rintro σ H2 ⟨o4, rfl, hrv2, s3, bo⟩
        have el : (nums pre.reverse).length = pre.reverse.length := by unfold nums; rw [List.length_map]
        rw [el, back_end, ← ecmp] at s3 ⊢
        refine ⟨_, rfl, _, rfl, line2 _ _, fun b5 hb5 => ?_⟩
        have s5 := s3.new (o := .tup [.int (m : Int), lab (compress g.lines g.mrg n).lab]) hb5
        refine k _ b5 s5.fa s5.kp (s3.kp.free' hb5 (s3.fa.not_new hb5)) ?_
        rw [eroot]
        exact upd_same
end
end WK
end Text_WW4
section Text_WW5
set_option Elab.async false
set_option linter.all false
set_option maxRecDepth 100000
set_option maxHeartbeats 4000000
/-! WW5: merging. -/
namespace WK
open PySem PySem.Spec L2 SX
open PyProof.Rows hiding St

/-! ### data that can be compared -/
structure Lay (n : Nat) (d : PyData) : Prop where
  can : d.canLay0 = true
  dep : d.depth ≤ n
theorem Lay.shaped {n : Nat} {d : PyData} (h : Lay n d) (hn : n ≤ 64) : SeqAt.shaped d = true := by
  unfold SeqAt.shaped
  rw [h.can, decide_eq_true (Nat.le_trans h.dep hn)]
  rfl
theorem Lay.non (n : Nat) : Lay n .none := ⟨by simp only [PyData.canLay0], by simp only [PyData.depth]; exact Nat.zero_le _⟩
theorem Lay.int (n : Nat) (i : Int) : Lay n (.int i) := ⟨by simp only [PyData.canLay0], by simp only [PyData.depth]; exact Nat.zero_le _⟩
theorem Lay.bool (n : Nat) (b : Bool) : Lay n (.bool b) := ⟨by simp only [PyData.canLay0], by simp only [PyData.depth]; exact Nat.zero_le _⟩
theorem Lay.str (n : Nat) {x : Str} (h : PyData.strOk x = true) : Lay n (.str x) := ⟨by simp only [PyData.canLay0]; exact h, by simp only [PyData.depth]; exact Nat.zero_le _⟩
theorem Lay.all {n : Nat} : ∀ {ds : List PyData}, (∀ d ∈ ds, Lay n d) → PyData.canLayAll0 ds = true ∧ PyData.depthAll ds ≤ n
  | [], _ => ⟨by simp only [PyData.canLayAll0], by simp only [PyData.depthAll]; exact Nat.zero_le _⟩
  | d :: ds, h => by
    have z := Lay.all (ds := ds) fun x hx => h x (List.mem_cons_of_mem _ hx)
    have y := h d List.mem_cons_self
    refine ⟨by simp only [PyData.canLayAll0, y.can, z.1, Bool.and_self], ?_⟩
    simp only [PyData.depthAll]
    have := y.dep
    have := z.2
    omega
theorem Lay.lst {n : Nat} {ds : List PyData} (h : ∀ d ∈ ds, Lay n d) : Lay (n + 1) (.list ds) := ⟨by simp only [PyData.canLay0]; exact (Lay.all h).1, by simp only [PyData.depth]; have := (Lay.all h).2; omega⟩
theorem Lay.tup {n : Nat} {ds : List PyData} (h : ∀ d ∈ ds, Lay n d) : Lay (n + 1) (.tuple ds) := ⟨by simp only [PyData.canLay0]; exact (Lay.all h).1, by simp only [PyData.depth]; have := (Lay.all h).2; omega⟩
theorem eqv_nil (ds : List PyData) : PyData.eqv (.list ds) (.list []) = ds.isEmpty := by
  cases ds with
  | nil => simp [PyData.eqv, PyData.eqvAll]
  | cons d ds => simp [PyData.eqv, PyData.eqvAll]
def labD : Lab → PyData
  | none => .none
  | some n => .int n
theorem lab_dp {K : PySem.W.Frag} {H : Hp} (l : Lab) : Dp K H (lab l) (labD l) := by
  cases l with
  | none => exact .non
  | some n => exact .int _
theorem labD_lay (n : Nat) (l : Lab) : Lay n (labD l) := by
  cases l with
  | none => exact Lay.non n
  | some j => exact Lay.int n _
theorem mem3 {α : Type} {p : α → Prop} {a b c : α} (ha : p a) (hb : p b) (hc : p c) : ∀ x ∈ [a, b, c], p x := by
  intro x hx
  simp only [List.mem_cons, List.not_mem_nil, or_false] at hx
  rcases hx with rfl | rfl | rfl
  · exact ha
  · exact hb
  · exact hc
def pendD (x : Nat × Nat × Lab) : PyData := .tuple [.int x.1, .int x.2.1, labD x.2.2]
theorem pend_dp {K : PySem.W.Frag} {H : Hp} : ∀ {xs : List (Nat × Nat × Lab)} {ts : List Addr}, Tups pendT H xs ts → DpAll K H (ts.map V.ref) (xs.map pendD) := by
  intro xs ts h
  unfold Tups at h
  induction h with
  | nil => exact .nil
  | cons e r ih => exact .cons (.tup (SqT.of e) (.cons (.int _) (.cons (.int _) (.cons (lab_dp _) .nil)))) ih
theorem pend_lay (xs : List (Nat × Nat × Lab)) : Lay 2 (.list (xs.map pendD)) := by
  refine Lay.lst fun d hd => ?_
  obtain ⟨x, _, rfl⟩ := List.mem_map.mp hd
  exact Lay.tup (mem3 (Lay.int _ _) (Lay.int _ _) (labD_lay _ _))

def spMerge (C : Addr) : Sp := fun vs H Q _ => ∃ (a : Ads) (paths : List (List Nat)) (nm : Nat → List Nat) (g : G) (n r : Nat) (l : Lab), vs = [.ref a.p, .int n, .int r, lab l] ∧ FA C a H g ∧ Good paths nm g ∧ Live g ∧ n < r ∧ r < g.next ∧
  gt g.mrg n = none ∧ gt g.mrg r = none ∧ Lb paths g.lines l (nm r) (nm n) ∧ g.lines.length + 40 ≤ LIM ∧ mu g + 2 ≤ LIM ∧ g.mrg.length ≤ LIM ∧
  ∀ H', FA C a H' (mergeG g n r l) → Kp a.all H H' → Q .non H'
theorem steps_str : ("aAbBcCdD" : Str) = S steps8 := by decide +kernel
theorem op_eq_nat {i j : Nat} (h : i = j) : decide (V.int (i : Int) = V.int (j : Int)) = true := decide_eq_true (by rw [h])
theorem op_ne_nat {i j : Nat} (h : i ≠ j) : decide (V.int (i : Int) = V.int (j : Int)) = false := decide_eq_false (fun z => h (by have := V.int.inj z; omega))
section
variable {P : Program} {w : World} {K : PySem.W.Frag} {mg : Str → Option Value} {base : Heap} {f CF CS : Addr} {fd : FuncData}
abbrev N_LabelledFolding_merge : List Str := ["self", "kept", "removed", "label", "back_label", "step", "target", "edge_label"]
theorem sc_LabelledFolding_merge : FnScope N_LabelledFolding_merge ["self", "kept", "removed", "label"] WHead.d_LabelledFolding_merge.scope := ⟨rfl, rfl, rfl, by decide +kernel, rfl, by decide +kernel, by decide +kernel⟩
theorem ok_LabelledFolding_merge (F : FnD K WHead.d_LabelledFolding_merge f fd) (T : Txt K mg CF CS) (m_LabelledFolding_inverse_line : MetE P w K mg base 1 CF "inverse_line" (spInvLine CF)) (m_LabelledFolding_product_line : MetE P w K mg base 1 CF "product_line" (spProdLine CF))
    (m_LabelledFolding_add_edge : MetE P w K mg base 2 CF "add_edge" (spAddEdge CF)) : FnOk P w K mg base C8.CX0 3 f fd ["self", "kept", "removed", "label"] (spMerge CF) := by
  refine F.ok sc_LabelledFolding_merge (fun vs H Q E h => ?_) (fun cdv A outer s H vs Q E hr h => ?_)
  · obtain ⟨a, paths, nm, g, n, r, l, rfl, _⟩ := h
    rfl
  · obtain ⟨a, paths, nm, g, n, r, l, rfl, fa, good, live, lt, rn, rk, rr, lb, lim, lmu, lmr, k⟩ := h
    have hu := hu_of hr
    have sz : sizeLine = 16777216 := sizeLine_eq
    refine ⟨_, PSs.nox ((pss_cons (ps_dput hu (pe_fld (pv 0) rfl) (pv 2) (pe_tup (pa_cons (pv 1) (pa_cons (pv 3) pa_nil))) rfl)
      (pss_cons (ps_set (i := 4) sc_LabelledFolding_merge.nd rfl (Or.inl rfl) (C8.pe_mt m_LabelledFolding_inverse_line hr (by decide) (pv 0) (pa_cons (pv 3) pa_nil)))
      (pss_one (ps_for PassesOwn.never rfl (pi_str (C8.pe_gc rfl T.g_STEPS)) (pg_name (i := 5) sc_LabelledFolding_merge.nd rfl (Or.inl rfl)) (pss_one (ps_if (pt_cmp (pc_din hu (pe_tup (pa_cons (pv 2) (pa_cons (pv 5) pa_nil))) (pe_fld (pv 0) rfl))) (pss_cons (ps_asg (pe_bm PySem.F.plainAttrs_dict PySem.F.slot_dict_pop PySem.F.type_dict_pop (mt_pop1 hu) (pe_fld (pv 0) rfl) (pa_cons (pe_tup (pa_cons (pv 2) (pa_cons (pv 5) pa_nil))) pa_nil)) (pg_tup rfl (pgs_cons (pg_name (i := 6) sc_LabelledFolding_merge.nd rfl (Or.inl rfl)) (pgs_cons (pg_name (i := 7) sc_LabelledFolding_merge.nd rfl (Or.inl rfl)) pgs_nil))))
      (pss_cons (ps_expr (pe_bm PySem.F.plainAttrs_dict PySem.F.slot_dict_pop PySem.F.type_dict_pop (mt_pop1 hu) (pe_fld (pv 0) rfl) (pa_cons (pe_tup (pa_cons (pv 6) (pa_cons (pe_swap (pv 5)) pa_nil))) pa_nil)))
      (C8.pss_cut (ps_if (pt_cmpR op_eq (pv 6) (pv 2) (nomark _)) (pss_one (ps_par (i := 6) (j := 7) (by rfl) sc_LabelledFolding_merge.nd rfl rfl (by decide) rfl rfl (pa_cons (pv 1) (pa_cons (C8.pe_mt m_LabelledFolding_product_line hr (by decide) (pv 0) (pa_cons (pv 7) (pa_cons (pv 3) pa_nil))) pa_nil)) (by rfl))) pss_nil)
      (pss_one (ps_expr (C8.pe_mt m_LabelledFolding_add_edge hr (by decide) (pv 0) (pa_cons (pv 1) (pa_cons (pv 5) (pa_cons (pv 6) (pa_cons (C8.pe_mt m_LabelledFolding_product_line hr (by decide) (pv 0) (pa_cons (pv 4) (pa_cons (pv 7) pa_nil))) pa_nil)))))))))) pss_nil))))))), ?_⟩
    have M0 := moves_start good live lt rn rk rr lb
    unfold LIM at lim lmu lmr
    -- self.merged[removed] = (kept, label)
    refine ⟨_, rfl, _, rfl, line2 _ _, fun b1 hb1 => ?_⟩
    have s1 := fa.at0.new (o := .tup [.int (n : Int), lab l]) hb1
    obtain ⟨kvs, hd, kl, fa2⟩ := s1.fa.putM r (x := (n, l)) (t := b1) upd_same
    refine ⟨_, rfl, a.p, CF, _, _, _, rfl, s1.dx.choose_spec, T.clF, T.nM, fldF_merged _ _, _, rfl, a.m, _, rfl, DPut.k (k := keyM r) hd (by rw [kl]; omega), ?_⟩
    have s2 := s1.go fa2 (Kp.upd mem_m)
    -- back_label = self.inverse_line(label)
    refine ⟨_, rfl, a.p, _, _, rfl, s2.dx.choose_spec, rfl, _, rfl, a, _, l, rfl, s2.fa, by show g.lines.length ≤ LIM; unfold LIM; omega, fun H3 fa3 kp3 => ?_⟩
    have s3 := s2.go fa3 kp3
    -- for step in STEPS
    generalize hg1 : ({ g with lines := (invL g.lines l).1, mrg := pt g.mrg r (n, l) } : G) = g1 at s3 M0
    have mu1 : mu g1 = mu g := by rw [← hg1]; rfl
    have e_end : mergeG g n r l = steps8.foldl (mergeStep n r l (invL g.lines l).2) g1 := by rw [← hg1]; rfl
    refine ⟨_, rfl, for_it walk_str (fun i σ H4 => ∃ o5 o6 o7 : Option V, σ = [some (.ref a.p), some (.int (n : Int)), some (.int (r : Int)), some (lab l), some (lab (invL g.lines l).2), o5, o6, o7] ∧
        AtF CF a H H4 ((steps8.take i).foldl (mergeStep n r l (invL g.lines l).2) g1) ∧ Moving paths nm g1 n r l (invL g.lines l).2 (steps8.take i).reverse (g.lines.length + 1 + 4 * i) ((steps8.take i).foldl (mergeStep n r l (invL g.lines l).2) g1) ∧ i ≤ 8)
      ⟨none, none, none, rfl, s3, M0, Nat.zero_le _⟩ (fun _ _ _ _ _ => trivial) ?_ ?_⟩
    · rintro i v σ H4 H5 hi ⟨o5, o6, o7, rfl, s4, M4, i8⟩ ⟨rfl, c, hc, rfl⟩
      rw [steps_str, tl_at] at hc
      have i8' : i < 8 := (List.getElem?_eq_some_iff.mp hc).1
      have stp : IsStep c := by
        have m := List.mem_of_getElem? hc
        unfold steps8 at m
        simp only [List.mem_cons, List.not_mem_nil, or_false] at m
        rcases m with rfl | rfl | rfl | rfl | rfl | rfl | rfl | rfl <;> (show stepB _ = true) <;> decide
      have e_next : (steps8.take (i + 1)).foldl (mergeStep n r l (invL g.lines l).2) g1 = mergeStep n r l (invL g.lines l).2 ((steps8.take i).foldl (mergeStep n r l (invL g.lines l).2) g1) c := by
        rw [List.take_add_one, hc]
        show (steps8.take i ++ [c]).foldl _ _ = _
        rw [List.foldl_append]
        rfl
      have e_rev : (steps8.take (i + 1)).reverse = c :: (steps8.take i).reverse := by
        rw [List.take_add_one, hc]
        show (steps8.take i ++ [c]).reverse = _
        rw [List.reverse_append]
        rfl
      rw [e_next, e_rev]
      have M5 := move_ok M4 c
      generalize (steps8.take i).foldl (mergeStep n r l (invL g.lines l).2) g1 = gi at s4 M4 M5 ⊢
      have few4 := M4.few
      have mu4 := M4.mu
      -- (removed, step) in self.targets_of
      refine ⟨_, rfl, _, rfl, line2 _ _, fun b2 hb2 => ?_⟩
      have s5 := s4.new (o := .tup [.int (r : Int), vS [c]]) hb2
      refine ⟨_, rfl, a.p, CF, _, _, _, rfl, s5.dx.choose_spec, T.clF, T.nT, fldF_targets _ _, a.d, _, rfl, DGet.t (k := keyT (r, c)) s5.fa.tg.choose_spec.1 upd_same, _, rfl, ?_⟩
      rcases s5.fa.tg.choose_spec.2.get keyT_inj (r, c) with ⟨e1, e2⟩ | ⟨y, u, e1, e2, e3⟩
      · refine ifF (by rw [e2]; rfl) ?_
        have z : mergeStep n r l (invL g.lines l).2 gi c = gi := by unfold mergeStep; rw [e1]
        rw [z] at M5 ⊢
        have e4 : g.lines.length + 1 + 4 * (i + 1) = g.lines.length + 1 + 4 * i + 4 := by omega
        rw [e4]
        exact ⟨_, o6, o7, rfl, s5, M5, i8'⟩
      · refine ifT (by rw [e2]; rfl) ?_
        obtain ⟨t, el⟩ := y
        obtain ⟨_, hrn, htn, hel, l', eb⟩ := M4.good.edge _ _ _ _ e1
        -- target, edge_label = self.targets_of.pop((removed, step))
        refine ⟨_, rfl, a.p, CF, _, _, _, rfl, s5.dx.choose_spec, T.clF, T.nT, fldF_targets _ _, .inr (.inr (.inl ⟨rfl, .inr ⟨_, s5.fa.tg.choose_spec.1⟩⟩)), _, rfl, _, rfl, line2 _ _, fun b3 hb3 => ?_⟩
        have s6 := s5.new (o := .tup [.int (r : Int), vS [c]]) hb3
        obtain ⟨kvs6, hd6, tab6, fa7⟩ := s6.fa.cutT (r, c)
        obtain ⟨u6, g2, g3⟩ := tab6.getS keyT_inj e1
        refine ⟨a.d, kvs6, keyT (r, c), b3, .ref u6, rfl, rfl, hd6, upd_same, g2, ?_⟩
        have s7 := s6.go fa7 (Kp.upd mem_d)
        refine ⟨u6, _, rfl, SqT.of (Tp.upd hd6 (fun _ z => nomatch z) _ _ g3), rfl, _, _, rfl, _, _, rfl, rfl, ?_⟩
        -- self.targets_of.pop((target, step.swapcase()))
        refine ⟨_, rfl, a.p, CF, _, _, _, rfl, s7.dx.choose_spec, T.clF, T.nT, fldF_targets _ _, .inr (.inr (.inl ⟨rfl, .inr ⟨_, s7.fa.tg.choose_spec.1⟩⟩)), _, rfl, _, rfl, ⟨_, rfl⟩, c, rfl, rfl, stp, line2 _ _, fun b8 hb8 => ?_⟩
        have s8 := s7.new (o := .tup [.int (t : Int), vS [bk c]]) hb8
        obtain ⟨kvs8, hd8, tab8, fa9⟩ := s8.fa.cutT (t, bk c)
        have ne : (r, c) ≠ (t, bk c) := fun z => bk_ne stp (Prod.ext_iff.mp z).2.symm
        obtain ⟨u8, j2, j3⟩ := tab8.getS keyT_inj (k := (t, bk c)) (x := (r, l')) (by show gt (dl gi.tgt (r, c)) (t, bk c) = _; rw [gt_dl_ne _ ne]; exact eb)
        refine ⟨a.d, kvs8, keyT (t, bk c), b8, .ref u8, rfl, rfl, hd8, upd_same, j2, ?_⟩
        have s9 := s8.go fa9 (Kp.upd mem_d)
        have few9 : (dl (dl gi.tgt (r, c)) (t, bk c)).length ≤ gi.tgt.length := Nat.le_trans (length_dl_le _ _) (length_dl_le _ _)
        have mub : ∀ ls : List Line, mu { gi with lines := ls, tgt := dl (dl gi.tgt (r, c)) (t, bk c) } ≤ mu gi := by
          intro ls
          unfold mu
          show (dl (dl gi.tgt (r, c)) (t, bk c)).length + 2 * gi.pend.length ≤ _
          omega
        -- if target == removed: target, edge_label = kept, self.product_line(edge_label, label)
        refine ⟨fun σ H10 => ∃ (t' : Nat) (p : Lab) (ls : List Line), σ = [some (.ref a.p), some (.int (n : Int)), some (.int (r : Int)), some (lab l), some (lab (invL g.lines l).2), some (vS [c]), some (.int (t' : Int)), some (lab p)] ∧
            AtF CF a H H10 { gi with lines := ls, tgt := dl (dl gi.tgt (r, c)) (t, bk c) } ∧ ls.length ≤ gi.lines.length + 1 ∧
            mergeStep n r l (invL g.lines l).2 gi c = addEdge { gi with lines := (prodL ls (invL g.lines l).2 p).1, tgt := dl (dl gi.tgt (r, c)) (t, bk c) } n c t' (prodL ls (invL g.lines l).2 p).2, ?_, ?_⟩
        · refine ⟨_, rfl, _, rfl, rfl, _, rfl, ?_⟩
          by_cases et : t = r
          · refine ifT (op_eq_nat et) ?_
            refine ⟨_, rfl, _, rfl, a.p, _, _, rfl, s9.dx.choose_spec, rfl, _, rfl, _, rfl, a, _, el, l, rfl, s9.fa, by show gi.lines.length ≤ LIM; unfold LIM; omega, fun H10 fa10 kp10 => ?_⟩
            have s10 := s9.go fa10 kp10
            refine ⟨_, _, rfl, n, (prodL gi.lines el l).2, (prodL gi.lines el l).1, rfl, s10, prod_few _ _ _, ?_⟩
            unfold mergeStep
            rw [e1]
            show mergeEdge n r c t l (invL g.lines l).2 el gi = _
            unfold mergeEdge
            rw [if_pos et]
          · refine ifF (op_ne_nat et) ?_
            refine ⟨t, el, gi.lines, rfl, s9, Nat.le_succ _, ?_⟩
            unfold mergeStep
            rw [e1]
            show mergeEdge n r c t l (invL g.lines l).2 el gi = _
            unfold mergeEdge
            rw [if_neg et]
        · -- self.add_edge(kept, step, target, self.product_line(back_label, edge_label))
          rintro σ H10 ⟨t', p, ls, rfl, s10, fewl, eq⟩
          refine ⟨_, rfl, a.p, _, _, rfl, s10.dx.choose_spec, rfl, _, rfl, _, rfl, _, rfl, _, rfl, a.p, _, _, rfl, s10.dx.choose_spec, rfl, _, rfl, _, rfl, a, _, (invL g.lines l).2, p, rfl, s10.fa, by show ls.length ≤ LIM; unfold LIM; omega, fun H11 fa11 kp11 => ?_⟩
          have s11 := s10.go fa11 kp11
          have pf := prod_few ls (invL g.lines l).2 p
          refine ⟨a, _, n, c, t', (prodL ls (invL g.lines l).2 p).2, rfl, s11.fa, by show (prodL ls (invL g.lines l).2 p).1.length + 2 ≤ LIM; unfold LIM; omega, ?_, stp, fun H12 fa12 kp12 => ?_⟩
          · have := mub (prodL ls (invL g.lines l).2 p).1
            show mu { gi with lines := (prodL ls (invL g.lines l).2 p).1, tgt := dl (dl gi.tgt (r, c)) (t, bk c) } + 2 ≤ LIM
            unfold LIM
            omega
          · have s12 := s11.go fa12 kp12
            rw [eq] at M5 ⊢
            refine ⟨_, _, _, rfl, s12, ?_, i8'⟩
            have e4 : g.lines.length + 1 + 4 * (i + 1) = g.lines.length + 1 + 4 * i + 4 := by omega
            rw [e4]
            exact M5
    · rintro σ H4 ⟨o5, o6, o7, rfl, s4, M4, i8⟩
      refine k _ ?_ s4.kp
      rw [e_end]
      exact s4.fa
end
end WK
end Text_WW5
section Text_WW6
set_option Elab.async false
set_option linter.all false
set_option maxRecDepth 100000
set_option maxHeartbeats 4000000
/-! WW6: all pending pairs. -/
namespace WK
open PySem PySem.Spec L2 SX
open PyProof.Rows hiding St

theorem Cnt.line {P A B : Nat} {g : G} (c : Cnt P A B g) (ha : A ≤ 200) (hb : B ≤ 1000) : g.lines.length ≤ 50000 ∧ g.mrg.length ≤ 200 ∧ WK.mu g ≤ 400 := by
  have c1 := c.mu
  have c2 := c.len
  have c3 := c.few
  have sq : P * P ≤ 200 * 200 := Nat.mul_le_mul (by omega) (by omega)
  omega
theorem lay_nil : Lay 1 (.list []) := Lay.lst (n := 0) (by intro d z; cases z)
def spMergePending (C : Addr) : Sp := fun vs H Q _ => ∃ (a : Ads) (paths : List (List Nat)) (nm : Nat → List Nat) (g : G) (P A B : Nat), vs = [.ref a.p] ∧ FA C a H g ∧ Good paths nm g ∧ Live g ∧ Cnt P A B g ∧ A ≤ 200 ∧ B ≤ 1000 ∧
  ∀ H', FA C a H' (mergeAll (mu g) g) → Kp a.all H H' → Q .non H'
theorem mergeAll_none {k : Nat} {g : G} (e : g.pend = []) : mergeAll k g = g := by
  cases k with
  | zero => rfl
  | succ k =>
    show (match g.pend.getLast? with | none => g | some x => mergeAll k (popG { g with pend := g.pend.dropLast } x)) = g
    rw [e]
    rfl
theorem mergeAll_some {k : Nat} {g : G} {x : Nat × Nat × Lab} (e : g.pend.getLast? = some x) : mergeAll (k + 1) g = mergeAll k (popG { g with pend := g.pend.dropLast } x) := by
  show (match g.pend.getLast? with | none => g | some x => mergeAll k (popG { g with pend := g.pend.dropLast } x)) = _
  rw [e]
/-- one pending pair taken out -/
theorem FA.popP {C : Addr} {a : Ads} {H : Hp} {g : G} (h : FA C a H g) {x : Nat × Nat × Lab} (e : g.pend.getLast? = some x) : ∃ (ts : List Addr) (t : Addr), H a.q = some (.lst (ts.map V.ref)) ∧ (ts.map V.ref)[(ts.map V.ref).length - 1]? = some (.ref t) ∧ H t = some (.tup (pendT x)) ∧
    FA C a (upd H a.q (.lst (ts.map V.ref).dropLast)) { g with pend := g.pend.dropLast } := by
  have ap := h.apart
  obtain ⟨dx, h1⟩ := h.ob
  obtain ⟨ts, e1, e2⟩ := h.pd
  have at_ : g.pend[ts.length - 1]? = some x := by
    rw [List.getLast?_eq_getElem?, e2.len] at e
    exact e
  obtain ⟨t, et, ht⟩ := e2.get at_
  have tp : Tp H (upd H a.q (.lst (ts.map V.ref).dropLast)) := Tp.upd e1 (fun _ z => nomatch z)
  have kp : Kp [a.q] H (upd H a.q (.lst (ts.map V.ref).dropLast)) := Kp.upd List.mem_cons_self
  refine ⟨ts, t, e1, ?_, ht, ⟨dx, kp _ _ h1 (by simp [ap.pq])⟩, h.ln.kp kp tp (by simp [ap.lq]), h.tg.kp kp tp (by simp [ap.dq]), h.mg.kp kp tp (by simp [ap.mq]), ⟨ts.dropLast, ?_, e2.dropLast.tp tp⟩, h.lq⟩
  · rw [List.length_map, List.getElem?_map, et]
    rfl
  · rw [upd_same, List.map_dropLast]
section
variable {P : Program} {w : World} {K : PySem.W.Frag} {mg : Str → Option Value} {base : Heap} {f CF CS : Addr} {fd : FuncData}
abbrev N_LabelledFolding_merge_pending : List Str := ["self", "first", "second", "label", "first_label", "second_label"]
theorem sc_LabelledFolding_merge_pending : FnScope N_LabelledFolding_merge_pending ["self"] WHead.d_LabelledFolding_merge_pending.scope := ⟨rfl, rfl, rfl, by decide +kernel, rfl, by decide +kernel, by decide +kernel⟩
theorem ok_LabelledFolding_merge_pending (F : FnD K WHead.d_LabelledFolding_merge_pending f fd) (T : Txt K mg CF CS) (m_LabelledFolding_inverse_line : MetE P w K mg base 1 CF "inverse_line" (spInvLine CF)) (m_LabelledFolding_product_line : MetE P w K mg base 1 CF "product_line" (spProdLine CF))
    (m_LabelledFolding_current : MetE P w K mg base 2 CF "current" (spCurrent CF)) (m_LabelledFolding_merge : MetE P w K mg base 3 CF "merge" (spMerge CF)) : FnOk P w K mg base C8.CX0 4 f fd ["self"] (spMergePending CF) := by
  refine F.ok sc_LabelledFolding_merge_pending (fun vs H Q E h => ?_) (fun cdv A outer s H vs Q E hr h => ?_)
  · obtain ⟨a, paths, nm, g, P, A', B, rfl, _⟩ := h
    rfl
  · obtain ⟨a, paths, nm, g, P0, A0, B0, rfl, fa, good, live, cnt, hA, hB, k⟩ := h
    have hu := hu_of hr
    have sz : sizeLine = 16777216 := sizeLine_eq
    refine ⟨_, PSs.nox ((pss_one (ps_while PassesOwn.never (pt_cmpR (op_neD hr.units) (pe_fld (pv 0) rfl) (pe_lst pa_nil) (nomark _)) (pss_cons (ps_asg (pe_bm0 PySem.F.plainAttrs_list PySem.F.slot_list_pop PySem.F.type_list_pop mt_pop (pe_fld (pv 0) rfl)) (pg_tup rfl (pgs_cons (pg_name (i := 1) sc_LabelledFolding_merge_pending.nd rfl (Or.inl rfl)) (pgs_cons (pg_name (i := 2) sc_LabelledFolding_merge_pending.nd rfl (Or.inl rfl)) (pgs_cons (pg_name (i := 3) sc_LabelledFolding_merge_pending.nd rfl (Or.inl rfl)) pgs_nil)))))
      (pss_cons (ps_asg (C8.pe_mt m_LabelledFolding_current hr (by decide) (pv 0) (pa_cons (pv 1) pa_nil)) (pg_tup rfl (pgs_cons (pg_name (i := 1) sc_LabelledFolding_merge_pending.nd rfl (Or.inl rfl)) (pgs_cons (pg_name (i := 4) sc_LabelledFolding_merge_pending.nd rfl (Or.inl rfl)) pgs_nil))))
      (pss_cons (ps_asg (C8.pe_mt m_LabelledFolding_current hr (by decide) (pv 0) (pa_cons (pv 2) pa_nil)) (pg_tup rfl (pgs_cons (pg_name (i := 2) sc_LabelledFolding_merge_pending.nd rfl (Or.inl rfl)) (pgs_cons (pg_name (i := 5) sc_LabelledFolding_merge_pending.nd rfl (Or.inl rfl)) pgs_nil))))
      (pss_one (ps_if (pt_cmpR op_ne (pv 1) (pv 2) (nomark _)) (pss_cons (ps_set (i := 3) sc_LabelledFolding_merge_pending.nd rfl (Or.inl rfl) (C8.pe_mt m_LabelledFolding_product_line hr (by decide) (pv 0) (pa_cons (C8.pe_mt m_LabelledFolding_inverse_line hr (by decide) (pv 0) (pa_cons (pv 5) pa_nil)) (pa_cons (pv 3) pa_nil))))
      (pss_cons (ps_set (i := 3) sc_LabelledFolding_merge_pending.nd rfl (Or.inl rfl) (C8.pe_mt m_LabelledFolding_product_line hr (by decide) (pv 0) (pa_cons (pv 3) (pa_cons (pv 4) pa_nil))))
      (C8.pss_cut (ps_if (pt_cmpR op_gt (pv 1) (pv 2) (nomark _)) (pss_one (ps_par3 (i := 1) (j := 2) (l := 3) (by rfl) sc_LabelledFolding_merge_pending.nd rfl rfl rfl (by decide) (by decide) (by decide) rfl rfl rfl (pa_cons (pv 2) (pa_cons (pv 1) (pa_cons (C8.pe_mt m_LabelledFolding_inverse_line hr (by decide) (pv 0) (pa_cons (pv 3) pa_nil)) pa_nil))) (by rfl))) pss_nil)
      (pss_one (ps_expr (C8.pe_mt m_LabelledFolding_merge hr (by decide) (pv 0) (pa_cons (pv 1) (pa_cons (pv 2) (pa_cons (pv 3) pa_nil))))))))) pss_nil)))))))), ?_⟩
    refine ⟨fun m σ H1 => ∃ (g1 : G) (P1 : Nat) (o1 o2 o3 o4 o5 : Option V), σ = [some (.ref a.p), o1, o2, o3, o4, o5] ∧ AtF CF a H H1 g1 ∧ Good paths nm g1 ∧ Live g1 ∧ Cnt P1 A0 B0 g1 ∧ mu g1 ≤ m ∧ mergeAll m g1 = mergeAll (mu g) g, ⟨mu g, g, P0, none, none, none, none, none, rfl, fa.at0, good, live, cnt, Nat.le_refl _, rfl⟩, ?_⟩
    rintro m σ H1 ⟨g1, P1, o1, o2, o3, o4, o5, rfl, s1, good1, live1, cnt1, hm, eq⟩
    have line1 := cnt1.line hA hB
    -- self.pending != []
    refine ⟨_, rfl, a.p, CF, _, _, _, rfl, s1.dx.choose_spec, T.clF, T.nP, fldF_pending _ _, by rw [sz]; exact Nat.zero_le _, fun b2 hb2 => ?_⟩
    have s2 := s1.new (o := .lst []) hb2
    have hq2 := s2.fa.pd.choose_spec
    refine ⟨.list (g1.pend.map pendD), .list [], ?_, .lst (SqL.of upd_same) .nil, (pend_lay _).shaped (by decide), lay_nil.shaped (by decide), _, rfl, ?_⟩
    · obtain ⟨ts1, h1, h2⟩ := s1.fa.pd
      have e : s1.fa.pd.choose = ts1 ∨ True := .inr trivial
      have hq1 := s1.fa.pd.choose_spec
      have kpn : Kp [] H1 (upd H1 b2 (.lst [])) := Kp.new hb2
      exact .lst (SqL.of (kpn _ _ hq1.1 (fun z => nomatch z))) (pend_dp (hq1.2.tp kpn.tp0))
    rw [eqv_nil]
    cases elast : g1.pend.getLast? with
    | none =>
      have e0 : g1.pend = [] := List.getLast?_eq_none_iff.mp elast
      refine ifF (by rw [e0]; rfl) ?_
      rw [mergeAll_none e0] at eq
      exact k _ (by rw [← eq]; exact s2.fa) s2.kp
    | some x =>
      have sp := last_split elast
      have ne : g1.pend ≠ [] := by
        intro z
        rw [z] at elast
        cases elast
      refine ifT (by cases hq : g1.pend with | nil => exact (ne hq).elim | cons y r => rfl) ?_
      have xm : x ∈ g1.pend := by rw [sp]; exact List.mem_append_right _ List.mem_cons_self
      have px := good1.pend x xm
      have plen : g1.pend.length = g1.pend.dropLast.length + 1 := by
        have z := congrArg List.length sp
        rw [List.length_append] at z
        exact z
      have m1 : mu { g1 with pend := g1.pend.dropLast } + 2 = mu g1 := by
        unfold mu
        show g1.tgt.length + 2 * g1.pend.dropLast.length + 2 = g1.tgt.length + 2 * g1.pend.length
        omega
      obtain ⟨m', rfl⟩ : ∃ m', m = m' + 1 := ⟨m - 1, by omega⟩
      rw [mergeAll_some elast] at eq
      have goodP : Good paths nm { g1 with pend := g1.pend.dropLast } := ⟨good1.sp, good1.lg, good1.pos, good1.nm0, good1.nms, good1.edge, good1.mrg, fun y hy => good1.pend y (by rw [sp]; exact List.mem_append_left _ hy)⟩
      have pop := pop_ok goodP live1 px.1 px.2.1 px.2.2
      obtain ⟨x1, x2, x3⟩ := x
      -- what the next turn finds
      refine ⟨fun σ' H2 => ∃ (o1 o2 o3 o4 o5 : Option V), σ' = [some (.ref a.p), o1, o2, o3, o4, o5] ∧ AtF CF a H H2 (popG { g1 with pend := g1.pend.dropLast } (x1, x2, x3)), ?_, ?_⟩
      · rintro σ' H2 ⟨p1, p2, p3, p4, p5, rfl, s⟩
        refine ⟨m', Nat.lt_succ_self _, _, P1 + 1, p1, p2, p3, p4, p5, rfl, s, pop.1.good, pop.1.live, ?_, ?_, eq⟩
        · have c1 := cnt1.mu
          have c2 := cnt1.len
          have c3 := cnt1.few
          have p1 := pop.1.mu
          have p2 := pop.1.few
          have p3 := pop.1.len
          simp only at p2 p3
          have sq : (P1 + 1) * (P1 + 1) = P1 * P1 + 2 * P1 + 1 := by
            rw [Nat.add_mul, Nat.mul_add]
            omega
          exact ⟨by omega, by omega, by rw [sq]; omega⟩
        · have p1 := pop.1.mu
          omega
      generalize hgp : ({ g1 with pend := g1.pend.dropLast } : G) = gp at pop goodP m1 eq ⊢
      have gpl : gp.lines = g1.lines := by rw [← hgp]
      have gpm : gp.mrg = g1.mrg := by rw [← hgp]
      have gpn : gp.next = g1.next := by rw [← hgp]
      have liveP : Live gp := by rw [← hgp]; exact live1
      have c1 := cur_ok goodP x1
      have c2 := cur_ok c1.good x2
      have f1 := c1.few
      have f2 := c2.few
      have l1 := c1.len
      have l2 := c2.len
      -- first, second, label = self.pending.pop()
      obtain ⟨ts, t, q1, q2, q3, fa3⟩ := s2.fa.popP elast
      refine ⟨_, rfl, a.p, CF, _, _, _, rfl, s2.dx.choose_spec, T.clF, T.nP, fldF_pending _ _, .inl ⟨rfl, _, SqL.of q1⟩, a.q, _, _, rfl, rfl, q1, q2, ?_⟩
      rw [hgp] at fa3
      have s3 := s2.go fa3 (Kp.upd mem_q)
      refine ⟨t, _, rfl, SqT.of (Tp.upd q1 (fun _ z => nomatch z) _ _ q3), rfl, _, _, rfl, _, _, rfl, _, _, rfl, rfl, ?_⟩
      -- first, first_label = self.current(first)
      refine ⟨_, rfl, a.p, _, _, rfl, s3.dx.choose_spec, rfl, _, rfl, a, _, x1, rfl, s3.fa, (fun r k l q => (goodP.mrg r k l q).1), by rw [gpl, gpm]; unfold LIM; omega, fun H4 b4 fa4 kp4 n4 hb4 => ?_⟩
      have s4 := s3.go fa4 kp4
      refine ⟨b4, _, rfl, SqT.of hb4, rfl, _, _, rfl, _, _, rfl, rfl, ?_⟩
      -- second, second_label = self.current(second)
      refine ⟨_, rfl, a.p, _, _, rfl, s4.dx.choose_spec, rfl, _, rfl, a, _, x2, rfl, s4.fa, (fun r k l q => (c1.good.mrg r k l q).1), by rw [gpl, gpm] at f1; rw [l1, gpm]; unfold LIM; omega, fun H5 b5 fa5 kp5 n5 hb5 => ?_⟩
      have s5 := s4.go fa5 kp5
      refine ⟨b5, _, rfl, SqT.of hb5, rfl, _, _, rfl, _, _, rfl, rfl, ?_⟩
      -- the joined graph
      have j_eq : popG gp (x1, x2, x3) = joinG (curG (curG gp x1) x2) (curN gp x1) (curN (curG gp x1) x2) x3 (curL gp x1) (curL (curG gp x1) x2) := rfl
      rw [j_eq]
      have c1le := c1.le
      have c2le := c2.le
      have lbl : Lb paths (curG (curG gp x1) x2).lines x3 (nm x2) (nm x1) := by
        have z := px.2.2
        rw [← gpl] at z
        exact z.ext (c1.ext.trans c2.ext)
      have lbf := c1.lb.ext c2.ext
      have lbs := c2.lb
      have root1 : gt (curG (curG gp x1) x2).mrg (curN gp x1) = none := by
        have z := c2.keys (curN gp x1)
        rw [c1.root] at z
        exact Option.isNone_iff_eq_none.mp (by simpa using z)
      have root2 := c2.root
      have live5 := c2.live (c1.live liveP)
      have good5 := c2.good
      have next5 : (curG (curG gp x1) x2).next = g1.next := gpn
      have mu5 : mu (curG (curG gp x1) x2) = mu gp := rfl
      have few5 : (curG (curG gp x1) x2).lines.length ≤ 50400 := by rw [gpl, gpm] at f1; rw [l1, gpm] at f2; omega
      have len5 : (curG (curG gp x1) x2).mrg.length ≤ 200 := by rw [l2, l1, gpm]; omega
      have fn : curN gp x1 < g1.next := by have := px.1; simp only at this; omega
      have sn : curN (curG gp x1) x2 < g1.next := by have := px.2.1; simp only at this; omega
      generalize curG (curG gp x1) x2 = g5 at *
      generalize curN gp x1 = fx at *
      generalize curN (curG gp x1) x2 = sx at *
      generalize curL gp x1 = fl at *
      generalize curL (curG gp x1) x2 = sl at *
      -- if first != second
      refine ⟨_, rfl, _, rfl, rfl, _, rfl, ?_⟩
      by_cases ec : fx = sx
      · refine ifF (by rw [op_eq_nat ec]; rfl) ?_
        refine ⟨_, _, _, _, _, rfl, ?_⟩
        unfold joinG
        rw [if_pos ec]
        exact s5
      · refine ifT (by rw [op_ne_nat ec]; rfl) ?_
        -- label = self.product_line(self.inverse_line(second_label), label)
        refine ⟨_, rfl, a.p, _, _, rfl, s5.dx.choose_spec, rfl, _, rfl, a.p, _, _, rfl, s5.dx.choose_spec, rfl, _, rfl, a, _, sl, rfl, s5.fa, by unfold LIM; omega, fun H6 fa6 kp6 => ?_⟩
        have s6 := s5.go fa6 kp6
        have i6 := inv_few g5.lines sl
        refine ⟨_, rfl, a, _, (invL g5.lines sl).2, x3, rfl, s6.fa, by show (invL g5.lines sl).1.length ≤ LIM; unfold LIM; omega, fun H7 fa7 kp7 => ?_⟩
        have s7 := s6.go fa7 kp7
        have i7 := prod_few (invL g5.lines sl).1 (invL g5.lines sl).2 x3
        -- label = self.product_line(label, first_label)
        refine ⟨_, rfl, a.p, _, _, rfl, s7.dx.choose_spec, rfl, _, rfl, _, rfl, a, _, (prodL (invL g5.lines sl).1 (invL g5.lines sl).2 x3).2, fl, rfl, s7.fa, by show (prodL (invL g5.lines sl).1 (invL g5.lines sl).2 x3).1.length ≤ LIM; unfold LIM; omega, fun H8 fa8 kp8 => ?_⟩
        have s8 := s7.go fa8 kp8
        have i8 := prod_few (prodL (invL g5.lines sl).1 (invL g5.lines sl).2 x3).1 (prodL (invL g5.lines sl).1 (invL g5.lines sl).2 x3).2 fl
        -- the label's meaning
        have n1 := good5.nms fx
        have n2 := good5.nms sx
        have n3 := good5.nms x1
        have n4' := good5.nms x2
        have ga := inv_got good5.sp good5.lg lbs (by omega)
        have gb := prod_got good5.sp ga.lg ga.lb (lbl.ext ga.ext) (by omega)
        have gc := prod_got good5.sp gb.lg gb.lb (lbf.ext (ga.ext.trans gb.ext)) (by omega)
        have ext := (ga.ext.trans gb.ext).trans gc.ext
        have gd := inv_got good5.sp gc.lg gc.lb (by omega)
        have jn : joinG g5 fx sx x3 fl sl = if sx < fx then mergeG { g5 with lines := (invL (prodL (prodL (invL g5.lines sl).1 (invL g5.lines sl).2 x3).1 (prodL (invL g5.lines sl).1 (invL g5.lines sl).2 x3).2 fl).1 (prodL (prodL (invL g5.lines sl).1 (invL g5.lines sl).2 x3).1 (prodL (invL g5.lines sl).1 (invL g5.lines sl).2 x3).2 fl).2).1 } sx fx (invL (prodL (prodL (invL g5.lines sl).1 (invL g5.lines sl).2 x3).1 (prodL (invL g5.lines sl).1 (invL g5.lines sl).2 x3).2 fl).1 (prodL (prodL (invL g5.lines sl).1 (invL g5.lines sl).2 x3).1 (prodL (invL g5.lines sl).1 (invL g5.lines sl).2 x3).2 fl).2).2
            else mergeG { g5 with lines := (prodL (prodL (invL g5.lines sl).1 (invL g5.lines sl).2 x3).1 (prodL (invL g5.lines sl).1 (invL g5.lines sl).2 x3).2 fl).1 } fx sx (prodL (prodL (invL g5.lines sl).1 (invL g5.lines sl).2 x3).1 (prodL (invL g5.lines sl).1 (invL g5.lines sl).2 x3).2 fl).2 := by
          unfold joinG
          rw [if_neg ec]
        rw [jn]
        generalize prodL (prodL (invL g5.lines sl).1 (invL g5.lines sl).2 x3).1 (prodL (invL g5.lines sl).1 (invL g5.lines sl).2 x3).2 fl = pc at *
        -- if first > second
        refine ⟨fun σ H9 => ∃ (n r : Nat) (l : Lab) (ls : List Line), n < r ∧ r < g5.next ∧ gt g5.mrg n = none ∧ gt g5.mrg r = none ∧ σ = [some (.ref a.p), some (.int (n : Int)), some (.int (r : Int)), some (lab l), some (lab fl), some (lab sl)] ∧ AtF CF a H H9 { g5 with lines := ls } ∧
            LG paths ls ∧ Ext g5.lines ls ∧ ls.length ≤ g5.lines.length + 4 ∧ Lb paths ls l (nm r) (nm n) ∧ (if sx < fx then mergeG { g5 with lines := (invL pc.1 pc.2).1 } sx fx (invL pc.1 pc.2).2 else mergeG { g5 with lines := pc.1 } fx sx pc.2) = mergeG { g5 with lines := ls } n r l, ?_, ?_⟩
        · refine ⟨_, rfl, _, rfl, _, _, rfl, rfl, _, rfl, ?_⟩
          by_cases lt : sx < fx
          · refine ifT (decide_eq_true (by omega)) ?_
            refine ⟨_, rfl, _, rfl, _, rfl, a.p, _, _, rfl, s8.dx.choose_spec, rfl, _, rfl, a, _, pc.2, rfl, s8.fa, by show pc.1.length ≤ LIM; unfold LIM; omega, fun H9 fa9 kp9 => ?_⟩
            have s9 := s8.go fa9 kp9
            have i9 := inv_few pc.1 pc.2
            refine ⟨_, _, _, rfl, sx, fx, (invL pc.1 pc.2).2, (invL pc.1 pc.2).1, lt, by rw [next5]; exact fn, root2, root1, rfl, s9, gd.lg, ext.trans gd.ext, by omega, gd.lb, ?_⟩
            rw [if_pos lt]
          · refine ifF (decide_eq_false (by omega)) ?_
            refine ⟨fx, sx, pc.2, pc.1, by omega, by rw [next5]; exact sn, root1, root2, rfl, s8, gc.lg, ext, by omega, gc.lb, ?_⟩
            rw [if_neg lt]
        · rintro σ H9 ⟨n, r, l, ls, lt, rn, r1, r2, rfl, s9, lg9, ext9, few9, lb9, eq9⟩
          rw [eq9]
          refine ⟨_, rfl, a.p, _, _, rfl, s9.dx.choose_spec, rfl, _, rfl, _, rfl, _, rfl, a, paths, nm, _, n, r, l, rfl, s9.fa, good5.lines lg9 ext9, live5, lt, rn, r1, r2, lb9, by show ls.length + 40 ≤ LIM; unfold LIM; omega, by show mu g5 + 2 ≤ LIM; unfold LIM; omega, by show g5.mrg.length ≤ LIM; unfold LIM; omega, fun H10 fa10 kp10 => ?_⟩
          exact ⟨_, _, _, _, _, rfl, s9.go fa10 kp10⟩
end
end WK
end Text_WW6
section Text_WW7
set_option Elab.async false
set_option linter.all false
set_option maxRecDepth 100000
set_option maxHeartbeats 4000000
/-! WW7: a generator's cycle. -/
namespace WK
open PySem PySem.Spec L2 SX
open PyProof.Rows hiding St

theorem idx_neg1 {i : Int} {n : Nat} (hn : 0 < n) : Builtin.Str.strSliceIndices (some i) (some (-1)) 1 n = Builtin.Str.strSliceIndices (some i) (some ((n : Int) - 1)) 1 n := by
  unfold Builtin.Str.strSliceIndices
  have a : ¬ ((n : Int) - 1 < 0) := by omega
  have b : (-1 : Int) + n = (n : Int) - 1 := by omega
  simp only [if_neg a, b, show ((-1 : Int) < 0) from by decide, if_true]
theorem slice_mid {w : List Nat} {i : Nat} (h : i < w.length) : Txt.slice (S w) (some (i : Int)) (some (-1)) = S ((w.drop i).dropLast) := by
  have e1 : Txt.slice (S w) (some (i : Int)) (some (-1)) = Txt.slice (S w) (some (i : Int)) (some ((w.length : Int) - 1)) := by
    unfold Txt.slice
    rw [S_len, idx_neg1 (by omega)]
  have e2 := beq_iff_eq.mp (PyProof.Rows.slice_closes (x := S w) (i := (i : Int)) (j := (w.length : Int) - 1) ⟨by omega, by omega, by show (w.length : Int) - 1 ≤ ((S w).cps.toList.length : Int); simp; omega⟩)
  refine e1.trans (e2.trans (TL.ext_tl ?_))
  show (w.drop (i : Int).toNat).take ((w.length : Int) - 1 - i).toNat = (w.drop i).dropLast
  rw [List.dropLast_eq_take, List.length_drop, Int.toNat_natCast, show ((w.length : Int) - 1 - i).toNat = w.length - i - 1 by omega]
theorem addEdge_few (g : G) (s c t : Nat) (l : Lab) : (addEdge g s c t l).lines.length ≤ g.lines.length + 2 ∧ mu (addEdge g s c t l) ≤ mu g + 2 ∧ (addEdge g s c t l).next = g.next := by
  have i1 := inv_few g.lines l
  unfold addEdge
  cases gt g.tgt (s, c) with
  | some e =>
    have i2 := prod_few (invL g.lines l).1 (invL g.lines l).2 e.2
    refine ⟨by show (prodL (invL g.lines l).1 (invL g.lines l).2 e.2).1.length ≤ _; omega, ?_, rfl⟩
    show g.tgt.length + 2 * (g.pend ++ [_]).length ≤ g.tgt.length + 2 * g.pend.length + 2
    rw [List.length_append]
    show g.tgt.length + 2 * (g.pend.length + 1) ≤ _
    omega
  | none =>
    simp only
    cases gt g.tgt (t, bk c) with
    | some e =>
      have i2 := prod_few g.lines l e.2
      refine ⟨by show (prodL g.lines l e.2).1.length ≤ _; omega, ?_, rfl⟩
      show g.tgt.length + 2 * (g.pend ++ [_]).length ≤ g.tgt.length + 2 * g.pend.length + 2
      rw [List.length_append]
      show g.tgt.length + 2 * (g.pend.length + 1) ≤ _
      omega
    | none =>
      refine ⟨by show (invL g.lines l).1.length ≤ _; omega, ?_, rfl⟩
      have a := length_pt_le g.tgt (s, c) (t, l)
      have b := length_pt_le (pt g.tgt (s, c) (t, l)) (t, bk c) (s, (invL g.lines l).2)
      show (pt (pt g.tgt (s, c) (t, l)) (t, bk c) (s, (invL g.lines l).2)).length + 2 * g.pend.length ≤ g.tgt.length + 2 * g.pend.length + 2
      omega
/-- the next node's number -/
theorem FA.putN {C : Addr} {a : Ads} {H : Hp} {g : G} (h : FA C a H g) {dx : Addr} (e : H a.p = some (.ins C dx (fldF a g.next))) (n : Nat) : FA C a (upd H a.p (.ins C dx (fldF a n))) { g with next := n } := by
  have ap := h.apart
  have tp : Tp H (upd H a.p (.ins C dx (fldF a n))) := Tp.upd e (fun _ z => nomatch z)
  have kp : Kp [a.p] H (upd H a.p (.ins C dx (fldF a n))) := Kp.upd List.mem_cons_self
  exact ⟨⟨dx, upd_same⟩, h.ln.kp kp tp (by simp [ap.pl.symm]), h.tg.kp kp tp (by simp [ap.pd.symm]), h.mg.kp kp tp (by simp [ap.pm.symm]), h.pd.kp kp tp (by simp [ap.pq.symm]), h.lq⟩
def mids (x : G × Nat × Lab) (L : List Nat) (i : Nat) : G × Nat × Lab := (L.take i).foldl midStep x
theorem mids_succ {x : G × Nat × Lab} {L : List Nat} {i c : Nat} (h : L[i]? = some c) : mids x L (i + 1) = midStep (mids x L i) c := by
  unfold mids
  rw [List.take_add_one, h]
  show (L.take i ++ [c]).foldl _ _ = _
  rw [List.foldl_append]
  rfl
theorem mids_end {x : G × Nat × Lab} {L : List Nat} : mids x L L.length = L.foldl midStep x := by
  unfold mids
  rw [List.take_length]
def spAddGen (C : Addr) : Sp := fun vs H Q _ => ∃ (a : Ads) (paths : List (List Nat)) (nm : Nat → List Nat) (g : G) (P A B i : Nat) (w : List Nat), vs = [.ref a.p, .int i, vS w] ∧ FA C a H g ∧ Good paths nm g ∧ Live g ∧ Cnt P A B g ∧ A + w.length ≤ 200 ∧ B + 3 * w.length + 3 ≤ 1000 ∧
  paths[i]? = some w ∧ Steps w ∧ w.length ≤ 60 ∧ ∀ H', FA C a H' (addGen g i w) → Kp a.all H H' → Q .non H'
section
variable {P : Program} {w : World} {K : PySem.W.Frag} {mg : Str → Option Value} {base : Heap} {f CF CS : Addr} {fd : FuncData}
abbrev N_LabelledFolding_add_generator : List Str := ["self", "index", "path", "node", "label", "position", "step"]
theorem sc_LabelledFolding_add_generator : FnScope N_LabelledFolding_add_generator ["self", "index", "path"] WHead.d_LabelledFolding_add_generator.scope := ⟨rfl, rfl, rfl, by decide +kernel, rfl, by decide +kernel, by decide +kernel⟩
theorem ok_LabelledFolding_add_generator (F : FnD K WHead.d_LabelledFolding_add_generator f fd) (T : Txt K mg CF CS) (m_LabelledFolding_generator_line : MetE P w K mg base 1 CF "generator_line" (spGenLine CF)) (m_LabelledFolding_inverse_line : MetE P w K mg base 1 CF "inverse_line" (spInvLine CF)) (m_LabelledFolding_product_line : MetE P w K mg base 1 CF "product_line" (spProdLine CF))
    (m_LabelledFolding_walk : MetE P w K mg base 2 CF "walk" (spWalk CF)) (m_LabelledFolding_add_edge : MetE P w K mg base 2 CF "add_edge" (spAddEdge CF)) (m_LabelledFolding_merge_pending : MetE P w K mg base 4 CF "merge_pending" (spMergePending CF)) : FnOk P w K mg base C8.CX0 5 f fd ["self", "index", "path"] (spAddGen CF) := by
  refine F.ok sc_LabelledFolding_add_generator (fun vs H Q E h => ?_) (fun cdv A outer s H vs Q E hr h => ?_)
  · obtain ⟨a, paths, nm, g, P, A', B, i, w, rfl, _⟩ := h
    rfl
  · obtain ⟨a, paths, nm, g, P0, A0, B0, i, w, rfl, fa, good, live, cnt, hA, hB, hi, sw, wl, k⟩ := h
    have hu := hu_of hr
    have sz : sizeLine = 16777216 := sizeLine_eq
    have line := cnt.line (by omega) (by omega)
    refine ⟨_, PSs.nox ((pss_cons (ps_asg (C8.pe_mt m_LabelledFolding_walk hr (by decide) (pv 0) (pa_cons (pv 2) pa_nil)) (pg_tup rfl (pgs_cons (pg_name (i := 3) sc_LabelledFolding_add_generator.nd rfl (Or.inl rfl)) (pgs_cons (pg_name (i := 4) sc_LabelledFolding_add_generator.nd rfl (Or.inl rfl)) (pgs_cons (pg_name (i := 5) sc_LabelledFolding_add_generator.nd rfl (Or.inl rfl)) pgs_nil)))))
      (C8.pss_cut (ps_if (pt_cmpR op_lt (pv 5) (pe_callB call_len (by rfl) T.f_len PySem.boot_len (pa_cons (pv 2) pa_nil)) (nomark _)) (pss_cons (ps_set (i := 4) sc_LabelledFolding_add_generator.nd rfl (Or.inl rfl) (C8.pe_mt m_LabelledFolding_inverse_line hr (by decide) (pv 0) (pa_cons (pv 4) pa_nil)))
      (pss_cons (ps_for PassesOwn.never rfl (pi_str (pe_slice C8.sl_txt (pv 2) (po_some (pv 5)) (po_some (pe_un un_neg pe_int)))) (pg_name (i := 6) sc_LabelledFolding_add_generator.nd rfl (Or.inl rfl)) (pss_cons (ps_expr (C8.pe_mt m_LabelledFolding_add_edge hr (by decide) (pv 0) (pa_cons (pv 3) (pa_cons (pv 6) (pa_cons (pe_fld (pv 0) rfl) (pa_cons (pv 4) pa_nil))))))
      (pss_cons (ps_par (i := 3) (j := 4) (by rfl) sc_LabelledFolding_add_generator.nd rfl rfl (by decide) rfl rfl (pa_cons (pe_fld (pv 0) rfl) (pa_cons pe_non pa_nil)) (by rfl))
      (pss_one (ps_fldaug (pv 0) pe_int in_add)))))
      (pss_one (ps_expr (C8.pe_mt m_LabelledFolding_add_edge hr (by decide) (pv 0) (pa_cons (pv 3) (pa_cons (pe_ix ix_str (pv 2) (pe_un un_neg pe_int) (fun _ _ => rfl)) (pa_cons pe_int (pa_cons (C8.pe_mt m_LabelledFolding_product_line hr (by decide) (pv 0) (pa_cons (pv 4) (pa_cons (C8.pe_mt m_LabelledFolding_generator_line hr (by decide) (pv 0) (pa_cons (pv 1) pa_nil)) pa_nil))) pa_nil))))))))) (pss_one (ps_if (pt_cmpR op_ne (pv 3) pe_int (nomark _)) (pss_one (ps_expr (pe_bm PySem.F.plainAttrs_list PySem.F.slot_list_append PySem.F.type_list_append mt_append (pe_fld (pv 0) rfl) (pa_cons (pe_tup (pa_cons pe_int (pa_cons (pv 3) (pa_cons (C8.pe_mt m_LabelledFolding_product_line hr (by decide) (pv 0) (pa_cons (C8.pe_mt m_LabelledFolding_inverse_line hr (by decide) (pv 0) (pa_cons (pv 4) pa_nil)) (pa_cons (C8.pe_mt m_LabelledFolding_generator_line hr (by decide) (pv 0) (pa_cons (pv 1) pa_nil)) pa_nil))) pa_nil)))) pa_nil)))) pss_nil)))
      (pss_one (ps_expr (C8.pe_mt0 m_LabelledFolding_merge_pending hr (by decide) (pv 0))))))), ?_⟩
    -- node, label, position = self.walk(path)
    refine ⟨_, rfl, a.p, _, _, rfl, fa.at0.dx.choose_spec, rfl, _, rfl, a, g, w, rfl, fa, by unfold LIM; omega, fun H1 b1 fa1 kp1 n1 hb1 => ?_⟩
    have s1 := fa.at0.go fa1 kp1
    refine ⟨b1, _, rfl, SqT.of hb1, rfl, _, _, rfl, _, _, rfl, _, _, rfl, rfl, ?_⟩
    have pre := addPre_ok good live hi sw wl
    have gdef : addGen g i w = mergeAll (mu (addPre g i w)) (addPre g i w) := rfl
    obtain ⟨pre_, rest, ew, W, _⟩ := walk0_ok good w wl
    have Wpos := W.pos
    have Wfew := W.few
    have pl : w.length = pre_.length + rest.length := by rw [ew, List.length_append]
    -- the cycle's edges, then the merging
    refine ⟨fun σ H2 => ∃ o3 o4 o5 o6 : Option V, σ = [some (.ref a.p), some (.int (i : Int)), some (vS w), o3, o4, o5, o6] ∧ AtF CF a H H2 (addPre g i w), ?_, ?_⟩
    rotate_left
    · rintro σ H2 ⟨o3, o4, o5, o6, rfl, s2⟩
      obtain ⟨nm', p⟩ := pre
      have c' : Cnt P0 (A0 + w.length) (B0 + 3 * w.length + 3) (addPre g i w) := by
        have c1 := cnt.mu
        have c2 := cnt.len
        have c3 := cnt.few
        have p1 := p.mu
        have p2 := p.few
        exact ⟨by omega, by rw [p.mrg]; exact c2, by omega⟩
      refine ⟨_, rfl, a.p, _, _, rfl, s2.dx.choose_spec, rfl, a, paths, nm', _, P0, A0 + w.length, B0 + 3 * w.length + 3, rfl, s2.fa, p.good, p.live, c', hA, hB, fun H3 fa3 kp3 => ?_⟩
      exact k _ (by rw [gdef]; exact fa3) (s2.kp.trans kp3)
    -- if position < len(path)
    have edef : addPre g i w = (if (walk0 g w).pos < w.length then addRest { g with lines := (walk0 g w).lines } i (walk0 g w).node (walk0 g w).lab (w.drop (walk0 g w).pos) else if (walk0 g w).node ≠ 0 then addLoop { g with lines := (walk0 g w).lines } i (walk0 g w).node (walk0 g w).lab else { g with lines := (walk0 g w).lines }) := rfl
    generalize walk0 g w = x at *
    refine ⟨_, rfl, _, rfl, _, w.length, rfl, ⟨by rw [S_len, sz]; omega, by rw [S_len]⟩, _, _, rfl, rfl, _, rfl, ?_⟩
    by_cases lt : x.pos < w.length
    · rw [if_pos lt] at edef
      refine ifT (decide_eq_true (by omega)) ?_
      have wne : w.drop x.pos ≠ [] := by
        intro z
        have := congrArg List.length z
        rw [List.length_drop, List.length_nil] at this
        omega
      -- label = self.inverse_line(label)
      refine ⟨_, rfl, a.p, _, _, rfl, s1.dx.choose_spec, rfl, _, rfl, a, _, x.lab, rfl, s1.fa, by show x.lines.length ≤ LIM; unfold LIM; omega, fun H3 fa3 kp3 => ?_⟩
      have s3 := s1.go fa3 kp3
      have i3 := inv_few x.lines x.lab
      generalize hx0 : (({ g with lines := (invL x.lines x.lab).1 }, x.node, (invL x.lines x.lab).2) : G × Nat × Lab) = x0 at *
      have e01 : x0.1 = { g with lines := (invL x.lines x.lab).1 } := by rw [← hx0]
      have e02 : x0.2.1 = x.node := by rw [← hx0]
      have e03 : x0.2.2 = (invL x.lines x.lab).2 := by rw [← hx0]
      have rdef : addPre g i w = (let y := (w.drop x.pos).dropLast.foldl midStep x0
          addEdge { y.1 with lines := (prodL (genL y.1.lines i).1 y.2.2 (genL y.1.lines i).2).1 } y.2.1 ((w.drop x.pos).getLastD 0) 0 (prodL (genL y.1.lines i).1 y.2.2 (genL y.1.lines i).2).2) := by
        rw [edef, ← hx0]
        rfl
      have few0 : x0.1.lines.length ≤ g.lines.length + 61 := by rw [e01]; show (invL x.lines x.lab).1.length ≤ _; omega
      have mu0 : mu x0.1 = mu g := by rw [e01]; rfl
      generalize hL : (w.drop x.pos).dropLast = L at *
      have Ll : L.length ≤ 60 := by rw [← hL, List.length_dropLast, List.length_drop]; omega
      have Ls : ∀ c ∈ L, IsStep c := by
        intro c hc
        rw [← hL] at hc
        exact sw c (List.mem_of_mem_drop (List.dropLast_subset _ hc))
      -- for step in path[position:-1]
      refine ⟨_, rfl, _, rfl, _, rfl, _, rfl, _, rfl, _, rfl, by rw [S_len, sz]; omega, ?_⟩
      have sl : Txt.slice (S w) (some (x.pos : Int)) (some (-1)) = S L := by rw [slice_mid lt, hL]
      show ∃ x', (.str (Txt.slice (S w) (some (x.pos : Int)) (some (-1))) : V) = .str x' ∧ _
      rw [sl]
      refine ⟨_, rfl, for_it walk_str (fun j σ H4 => ∃ o6 : Option V, σ = [some (.ref a.p), some (.int (i : Int)), some (vS w), some (.int ((mids x0 L j).2.1 : Int)), some (lab (mids x0 L j).2.2), some (.int (x.pos : Int)), o6] ∧ AtF CF a H H4 (mids x0 L j).1 ∧
          (mids x0 L j).1.lines.length ≤ g.lines.length + 61 + 2 * j ∧ mu (mids x0 L j).1 ≤ mu g + 2 * j)
        ⟨none, ?_, ?_, few0, Nat.le_of_eq mu0⟩ (fun _ _ _ _ _ => trivial) ?_ ?_⟩
      · show _ = [some (.ref a.p), some (.int (i : Int)), some (vS w), some (.int (x0.2.1 : Int)), some (lab x0.2.2), some (.int (x.pos : Int)), none]
        rw [e02, e03]
        rfl
      · show AtF CF a H H3 x0.1
        rw [e01]
        exact s3
      · rintro j v σ H4 H5 hj ⟨o6, rfl, s4, few4, mu4⟩ ⟨rfl, c, hc, rfl⟩
        rw [tl_at] at hc
        have jl : j < L.length := (List.getElem?_eq_some_iff.mp hc).1
        rw [mids_succ hc]
        generalize mids x0 L j = y at *
        obtain ⟨gj, nj, lj⟩ := y
        dsimp only at s4 few4 mu4 ⊢
        have af := addEdge_few gj nj c gj.next lj
        -- self.add_edge(node, step, self.next_node, label)
        refine ⟨_, rfl, a.p, _, _, rfl, s4.dx.choose_spec, rfl, _, rfl, _, rfl, _, rfl, a.p, CF, _, _, _, rfl, s4.dx.choose_spec, T.clF, T.nN, fldF_next _ _, _, rfl, a, gj, nj, c, gj.next, lj, rfl, s4.fa, by unfold LIM; omega, by unfold LIM; omega, Ls c (List.mem_of_getElem? hc), fun H6 fa6 kp6 => ?_⟩
        have s6 := s4.go fa6 kp6
        obtain ⟨dx6, hp6⟩ := s6.dx
        have fa7 := s6.fa.putN hp6 (gj.next + 1)
        rw [af.2.2] at hp6
        -- node, label = self.next_node, None
        refine ⟨_, rfl, a.p, CF, dx6, _, _, rfl, hp6, T.clF, T.nN, fldF_next _ _, _, _, rfl, ?_⟩
        -- self.next_node += 1
        refine ⟨_, rfl, a.p, CF, dx6, _, _, rfl, hp6, T.clF, T.nN, fldF_next _ _, _, _, rfl, rfl, _, _, hp6, by show 5 < 1000; decide, ?_⟩
        have s7 := s6.go fa7 (Kp.upd mem_p)
        refine ⟨_, rfl, ?_, ?_, ?_⟩
        · exact s7
        · show (addEdge gj nj c gj.next lj).lines.length ≤ _
          omega
        · show mu { addEdge gj nj c gj.next lj with next := gj.next + 1 } ≤ _
          have z : mu { addEdge gj nj c gj.next lj with next := gj.next + 1 } = mu (addEdge gj nj c gj.next lj) := rfl
          omega
      · rintro σ H4 ⟨o6, rfl, s4, few4, mu4⟩
        rw [tl_size, mids_end] at s4 few4 mu4 ⊢
        generalize L.foldl midStep x0 = y at *
        obtain ⟨gj, nj, lj⟩ := y
        dsimp only at s4 few4 mu4 rdef ⊢
        obtain ⟨ini, c, ec⟩ : ∃ ini c, w.drop x.pos = ini ++ [c] := ⟨(w.drop x.pos).dropLast, (w.drop x.pos).getLast wne, (List.dropLast_concat_getLast wne).symm⟩
        have ewc : w = (w.take x.pos ++ ini) ++ [c] := by rw [List.append_assoc, ← ec, List.take_append_drop]
        have cs : IsStep c := sw c (by rw [ewc]; exact List.mem_append_right _ List.mem_cons_self)
        have lastc : (w.drop x.pos).getLastD 0 = c := by rw [ec]; simp
        rw [lastc] at rdef
        -- self.add_edge(node, path[-1], 0, self.product_line(label, self.generator_line(index)))
        refine ⟨_, rfl, a.p, _, _, rfl, s4.dx.choose_spec, rfl, _, rfl, _, rfl, _, rfl, _, _, c, rfl, rfl, by rw [S_len, sz]; omega, ?_, _, rfl, a.p, _, _, rfl, s4.dx.choose_spec, rfl, _, rfl, _, rfl, a.p, _, _, rfl, s4.dx.choose_spec, rfl, _, rfl, a, gj, i, rfl, s4.fa, by unfold LIM; omega, fun H5 fa5 kp5 => ?_⟩
        · show atI (S w).cps.toList (-1) = some c
          have z : (S w).cps.toList = (w.take x.pos ++ ini) ++ [c] := by
            rw [← ewc]
          rw [z]
          exact atI_last _ _
        have s5 := s4.go fa5 kp5
        have g5 : (genL gj.lines i).1.length = gj.lines.length + 1 := by
          show (gj.lines ++ [_]).length = _
          rw [List.length_append]
          rfl
        refine ⟨a, _, lj, (genL gj.lines i).2, rfl, s5.fa, by show (genL gj.lines i).1.length ≤ LIM; unfold LIM; omega, fun H6 fa6 kp6 => ?_⟩
        have s6 := s5.go fa6 kp6
        have p6 := prod_few (genL gj.lines i).1 lj (genL gj.lines i).2
        refine ⟨a, _, nj, c, 0, (prodL (genL gj.lines i).1 lj (genL gj.lines i).2).2, rfl, s6.fa, by show (prodL (genL gj.lines i).1 lj (genL gj.lines i).2).1.length + 2 ≤ LIM; unfold LIM; omega, by show mu gj + 2 ≤ LIM; unfold LIM; omega, cs, fun H7 fa7 kp7 => ?_⟩
        refine ⟨_, _, _, _, rfl, ?_⟩
        rw [rdef]
        exact s6.go fa7 kp7
    · rw [if_neg lt] at edef
      refine ifF (decide_eq_false (by omega)) ?_
      -- elif node != 0
      refine ⟨_, rfl, rfl, _, rfl, ?_⟩
      by_cases nz : x.node = 0
      · rw [if_neg (fun z => z nz)] at edef
        refine ifF (by rw [nz]; rfl) ?_
        refine ⟨_, _, _, _, rfl, ?_⟩
        rw [edef]
        exact s1
      · rw [if_pos nz] at edef
        refine ifT (by have z : decide (V.int (x.node : Int) = V.int 0) = false := op_ne_nat (j := 0) nz; rw [z]; rfl) ?_
        -- self.pending.append((0, node, self.product_line(self.inverse_line(label), self.generator_line(index))))
        refine ⟨_, rfl, a.p, CF, _, _, _, rfl, s1.dx.choose_spec, T.clF, T.nP, fldF_pending _ _, .inl ⟨rfl, _, SqL.of s1.fa.pd.choose_spec.1⟩, _, rfl, _, rfl, a.p, _, _, rfl, s1.dx.choose_spec, rfl, _, rfl, a.p, _, _, rfl, s1.dx.choose_spec, rfl, _, rfl, a, _, x.lab, rfl, s1.fa, by show x.lines.length ≤ LIM; unfold LIM; omega, fun H3 fa3 kp3 => ?_⟩
        have s3 := s1.go fa3 kp3
        have i3 := inv_few x.lines x.lab
        refine ⟨_, rfl, a.p, _, _, rfl, s3.dx.choose_spec, rfl, _, rfl, a, _, i, rfl, s3.fa, by show (invL x.lines x.lab).1.length ≤ LIM; unfold LIM; omega, fun H4 fa4 kp4 => ?_⟩
        have s4 := s3.go fa4 kp4
        have g4 : (genL (invL x.lines x.lab).1 i).1.length = (invL x.lines x.lab).1.length + 1 := by
          show ((invL x.lines x.lab).1 ++ [_]).length = _
          rw [List.length_append]
          rfl
        refine ⟨a, _, (invL x.lines x.lab).2, (genL (invL x.lines x.lab).1 i).2, rfl, s4.fa, by show (genL (invL x.lines x.lab).1 i).1.length ≤ LIM; unfold LIM; omega, fun H5 fa5 kp5 => ⟨line3 _ _ _, fun b6 hb6 => ?_⟩⟩
        have s5 := s4.go fa5 kp5
        have s6 := s5.new (o := .tup [.int 0, .int (x.node : Int), lab (prodL (genL (invL x.lines x.lab).1 i).1 (invL x.lines x.lab).2 (genL (invL x.lines x.lab).1 i).2).2]) hb6
        obtain ⟨ts, hl, tl, fa7⟩ := s6.fa.pair (x := (0, x.node, (prodL (genL (invL x.lines x.lab).1 i).1 (invL x.lines x.lab).2 (genL (invL x.lines x.lab).1 i).2).2)) (t := b6) upd_same
        have pm : 2 * g.pend.length ≤ mu g := by
          unfold mu
          omega
        refine ⟨a.q, _, _, rfl, rfl, hl, by rw [List.length_map, tl]; show g.pend.length < sizeLine; omega, ?_⟩
        refine ⟨_, _, _, _, rfl, ?_⟩
        rw [edef]
        exact s6.go fa7 (Kp.upd mem_q)
end
end WK
end Text_WW7
section Text_WW8
set_option Elab.async false
set_option linter.all false
set_option maxRecDepth 100000
set_option maxHeartbeats 4000000
/-! WW8: the lines that one line needs. -/
namespace WK
open PySem PySem.Spec L2 SX
open PyProof.Rows hiding St

/-! ### a dict comprehension over any walk -/
theorem dc_it {J : It} {n : Nat} {G : Hp → Prop} {Y : Nat → Hp → V → Hp → Prop} (wk : L2.Walk J n G Y) {g : TG} {tt : L2.TT} {tk tv : TE} {vs : List Nat} {σ : L2.St} {H1 : Hp} {D : Addr} {Qd : Hp → Prop} (Pv : Nat → Hp → Prop) (h0 : Pv 0 (upd H1 D (.dK []))) (hG : ∀ i H, i ≤ n → Pv i H → G H)
    (hs : ∀ i x H H', i < n → Pv i H → Y i H x H' → g x (wipe σ vs) H' fun σ2 H2 => wipe σ2 vs = wipe σ vs ∧ tt σ2 H2 fun b H3 =>
      if b = true then tk σ2 H3 fun y H4 => tv σ2 H4 fun z H5 => ∃ kvs k, y = kV k ∧ H5 D = some (.dK kvs) ∧ kvs.length < sizeLine ∧ Pv (i + 1) (upd H5 D (.dK (putK kvs k z))) else Pv (i + 1) H3) (hd : ∀ H, Pv n H → Qd H) :
    ∃ W : Nat → Nat → Hp → Prop, (∃ m, W 0 m (upd H1 D (.dK []))) ∧ ∀ i m H, W i m H →
      (J.stop i H ∧ Qd H) ∨ (J.go i H ∧ ∃ Nx : Hp → Prop, (∀ H', Nx H' → ∃ m', m' < m ∧ W (i + 1) m' H') ∧ ∀ x H', J.yld i H x H' → g x (wipe σ vs) H' fun σ2 H2 => wipe σ2 vs = wipe σ vs ∧ tt σ2 H2 fun b H3 =>
        if b = true then tk σ2 H3 fun y H4 => tv σ2 H4 fun z H5 => ∃ kvs k, y = kV k ∧ H5 D = some (.dK kvs) ∧ kvs.length < sizeLine ∧ Nx (upd H5 D (.dK (putK kvs k z))) else Nx H3) := by
  refine ⟨fun i m H => m + i = n ∧ Pv i H, ⟨n, rfl, h0⟩, ?_⟩
  rintro i m H ⟨hm, p⟩
  have st := hG i H (by omega) p
  cases m with
  | zero =>
    obtain rfl : i = n := by omega
    exact .inl ⟨wk.stops H st, hd H p⟩
  | succ m =>
    have lt : i < n := by omega
    exact .inr ⟨wk.goes i H lt st, Pv (i + 1), fun H' q => ⟨m, Nat.lt_succ_self m, by omega, q⟩, fun x H' y => hs i x H H' lt p (wk.yields i H x H' lt st y)⟩

theorem tYes_if {σ : L2.St} {H : Hp} {A B : Hp → Prop} (h : A H) : tYes σ H (fun b H3 => if b = true then A H3 else B H3) := by
  show if true = true then A H else B H
  rw [if_pos rfl]
  exact h
/-! ### sets of numbers as dicts -/
def kB (R : List Nat) : List (L2.Key × V) := R.map fun n : Nat => ((Sum.inl (n : Int) : L2.Key), V.bl true)
theorem kB_len (R : List Nat) : (kB R).length = R.length := List.length_map _
theorem inlN {n m : Nat} : ((Sum.inl (n : Int) : L2.Key) = Sum.inl (m : Int)) ↔ n = m := by
  constructor
  · intro h
    have e : (n : Int) = m := Sum.inl.inj h
    omega
  · intro h
    rw [h]
theorem kB_val (R : List Nat) (n : Nat) : valV (kB R) (Sum.inl (n : Int)) = if n ∈ R then some (.bl true) else none := by
  induction R with
  | nil => rfl
  | cons m R ih =>
    show valV ((Sum.inl (m : Int), V.bl true) :: kB R) _ = _
    by_cases e : m = n
    · rw [valV_pos (inlN.mpr e), if_pos (by rw [e]; exact List.mem_cons_self)]
    · rw [valV_neg (fun z => e (inlN.mp z)), ih]
      by_cases h : n ∈ R
      · rw [if_pos h, if_pos (List.mem_cons_of_mem _ h)]
      · rw [if_neg h, if_neg (fun z => (List.mem_cons.mp z).elim (fun z => e z.symm) h)]
theorem kB_put (R : List Nat) (n : Nat) : putK (kB R) (Sum.inl (n : Int)) (.bl true) = kB (addOne R n) := by
  unfold putK addOne
  rw [valV_any, kB_val]
  by_cases h : n ∈ R
  · have z : ∀ A B : List (L2.Key × V), (if (some (V.bl true)).isSome = true then A else B) = A := fun A B => if_pos rfl
    rw [if_pos h, if_pos h, z]
    unfold kB
    rw [List.map_map]
    apply List.map_congr_left
    intro m _
    show (if (Sum.inl (m : Int) : L2.Key) = Sum.inl (n : Int) then _ else _) = _
    split <;> rfl
  · rw [if_neg h, if_neg h, if_neg (by decide)]
    unfold kB
    rw [List.map_append]
    rfl
theorem kB_merge (ds : List Nat) : ∀ R : List Nat, mergeK (kB R) (kB ds) = kB (addAll R ds) := by
  induction ds with
  | nil => exact fun R => rfl
  | cons d ds ih =>
    intro R
    show mergeK (putK (kB R) (Sum.inl (d : Int)) (.bl true)) (kB ds) = _
    rw [kB_put, ih]
    rfl
/-- .. adding what was gathered first -/
theorem addAll_gather (l : Line) (R : List Nat) : addAll R (addAll [] (depsOf l)) = addAll R (depsOf l) := by
  cases l with
  | gen i => rfl
  | invl j => rfl
  | prod j k =>
    by_cases e : k = j
    · subst e
      have z : addAll [] (depsOf (.prod k k)) = [k] := by simp [depsOf, addAll, addOne]
      rw [z]
      show addOne R k = addOne (addOne R k) k
      have m : k ∈ addOne R k := mem_addOne.mpr (.inr rfl)
      rw [show addOne (addOne R k) k = addOne R k from if_pos m]
    · have z : addAll [] (depsOf (.prod j k)) = [j, k] := by simp [depsOf, addAll, addOne, e]
      rw [z]
      rfl
theorem addAll_len (ds : List Nat) : ∀ R : List Nat, (addAll R ds).length ≤ R.length + ds.length := by
  induction ds with
  | nil => exact fun R => Nat.le_refl _
  | cons d ds ih =>
    intro R
    have z := ih (addOne R d)
    have y : (addOne R d).length ≤ R.length + 1 := by
      unfold addOne
      split
      · omega
      · rw [List.length_append]
        exact Nat.le_refl _
    show (addAll (addOne R d) ds).length ≤ _
    rw [List.length_cons]
    omega
theorem strict_len {a b : Nat} : ∀ {l : List Nat}, l.Pairwise (· < ·) → (∀ x ∈ l, a ≤ x ∧ x ≤ b) → l.length ≤ b + 1 - a := by
  intro l
  induction l generalizing a with
  | nil => exact fun _ _ => Nat.zero_le _
  | cons x r ih =>
    intro h m
    have h1 := List.pairwise_cons.mp h
    have mx := m x List.mem_cons_self
    have z := ih (a := x + 1) h1.2 fun y hy => ⟨h1.1 y hy, (m y (List.mem_cons_of_mem _ hy)).2⟩
    rw [List.length_cons]
    omega
theorem nodup_len {R : List Nat} {b : Nat} (nd : R.Nodup) (h : ∀ n ∈ R, n ≤ b) : R.length ≤ b + 1 := by
  have p := sortS_perm R
  have s := sorted_strict (sortS_sorted R) (p.nodup_iff.mpr nd)
  have z := strict_len (a := 0) (b := b) s fun x hx => ⟨Nat.zero_le _, h x (p.mem_iff.mp hx)⟩
  rw [p.length_eq] at z
  omega
theorem sortedI_unique : ∀ {l l' : List Int}, l.Perm l' → l.Pairwise (· ≤ ·) → l'.Pairwise (· ≤ ·) → l = l' := by
  intro l
  induction l with
  | nil => exact fun p _ _ => List.Perm.nil_eq p
  | cons a r ih =>
    intro l' p h h'
    cases l' with
    | nil => exact (List.Perm.nil_eq p.symm).symm
    | cons b r' =>
      have h1 := List.pairwise_cons.mp h
      have h2 := List.pairwise_cons.mp h'
      have e : a = b := by
        rcases List.mem_cons.mp (p.mem_iff.mp (List.mem_cons_self (a := a))) with z | z
        · exact z
        · rcases List.mem_cons.mp (p.mem_iff.mpr (List.mem_cons_self (a := b))) with y | y
          · exact y.symm
          · exact Int.le_antisymm (h1.1 b y) (h2.1 a z)
      subst e
      rw [ih (List.Perm.cons_inv p) h1.2 h2.2]
theorem sorted_ints {R : List Nat} {ns : List Int} (p : ns.Perm (R.map fun n : Nat => (n : Int))) (s : ns.Pairwise (· ≤ ·)) : ns = (sortS R).map fun n : Nat => (n : Int) := by
  refine sortedI_unique (p.trans ((sortS_perm R).symm.map _)) s ?_
  rw [List.pairwise_map]
  exact (sortS_sorted R).imp fun h => Int.ofNat_le.mpr h
theorem down_get : ∀ (n i : Nat), i ≤ n → (down n)[i]? = some (n - i)
  | 0, i, h => by
    have e : i = 0 := by omega
    rw [e]
    rfl
  | n + 1, 0, _ => rfl
  | n + 1, i + 1, h => by
    show (down n)[i]? = _
    rw [down_get n i (by omega)]
    congr 1
    omega
theorem down_len : ∀ n : Nat, (down n).length = n + 1
  | 0 => rfl
  | n + 1 => by
    show (down n).length + 1 = _
    rw [down_len n]
/-- what is needed after i turns -/
def reqsTo (ls : List Line) (last i : Nat) : List Nat := ((down last).take i).foldl (reqStep ls) [last]
theorem reqsTo_succ {ls : List Line} {last i : Nat} (h : i ≤ last) : reqsTo ls last (i + 1) = reqStep ls (reqsTo ls last i) (last - i) := by
  unfold reqsTo
  rw [List.take_add_one, down_get last i h]
  show ((down last).take i ++ [last - i]).foldl _ _ = _
  rw [List.foldl_append]
  rfl
theorem reqsTo_end {ls : List Line} {last : Nat} : reqsTo ls last (last + 1) = reqs ls last := by
  unfold reqsTo reqs
  rw [List.take_of_length_le (by rw [down_len]; exact Nat.le_refl _)]
theorem reqsTo_at {ls : List Line} {last : Nat} (down_ : ∀ n, n ≤ last → ∀ d ∈ depsOf (ls.getD n (.gen 0)), d < n) : ∀ i, i ≤ last + 1 → ReqAt ls last (last + 1 - i) (reqsTo ls last i) := by
  intro i
  induction i with
  | zero =>
    intro _
    refine ⟨by simp [reqsTo], by simp [reqsTo], fun n hn => ?_, fun n hn le => ?_⟩
    · have z : n ∈ [last] := hn
      rw [List.mem_singleton.mp z]
      exact Nat.le_refl _
    · have z : n ∈ [last] := hn
      rw [List.mem_singleton.mp z] at le
      omega
  | succ i ih =>
    intro h
    have z := ih (by omega)
    rw [reqsTo_succ (by omega)]
    have e : last + 1 - i = (last - i) + 1 := by omega
    rw [e] at z
    have y := z.step down_
    have e2 : last + 1 - (i + 1) = last - i := by omega
    rw [e2]
    exact y
def wordOf : Line → Str
  | .gen _ => "generator"
  | .invl _ => "inverse"
  | .prod _ _ => "product"
def idxsOf : Line → List Nat
  | .gen i => [i]
  | .invl j => [j]
  | .prod j k => [j, k]
theorem lineT_split (l : Line) : lineT l = .str (wordOf l) :: nums (idxsOf l) := by cases l <;> rfl
theorem Kp.mine {A B : Hp} (h : Kp [] A B) {c : Addr} {o : HO} (n : A c = none) : Kp [] A (L2.upd B c o) := fun b u e nb => by
  rw [upd_ne (ne_of_none e n)]
  exact h b u e nb
theorem idxs_few (l : Line) : (nums (idxsOf l)).length ≤ 1000 := by cases l <;> (show _ ≤ 1000) <;> simp [nums, idxsOf]
theorem idxs_ne (l : Line) : nums (idxsOf l) ≠ [] := by cases l <;> simp [nums, idxsOf]
theorem ls_get {ls : List Line} {n : Nat} (h : n < ls.length) : ls[n]? = some (ls.getD n (.gen 0)) := by
  rw [List.getD_eq_getElem?_getD, List.getElem?_eq_getElem h]
  rfl
/-- the places of the numbers so far -/
def NumOk (ns : List Nat) (i : Nat) (kvs : List (L2.Key × V)) : Prop := (∀ d ∈ ns.take i, valV kvs (Sum.inl (d : Int)) = some (.int (ns.idxOf d : Nat))) ∧ kvs.length ≤ i
def spReqLines : Sp := fun vs H Q _ => ∃ (paths : List (List Nat)) (l : Addr) (ls : List Line) (last : Lab), vs = [.ref l, lab last] ∧ LstT lineT H l ls ∧ LG paths ls ∧ (∀ j, last = some j → j < ls.length) ∧ ls.length ≤ LIM ∧
  ∀ H' b, Kp [] H H' → H b = none → LstT lineT H' b (reqLines ls last) → Q (.ref b) H'
section
variable {P : Program} {w : World} {K : PySem.W.Frag} {mg : Str → Option Value} {base : Heap} {f CF CS : Addr} {fd : FuncData}
abbrev N_required_lines : List Str := ["lines", "last", "required", "number", "word", "indexes", "numbers", "result", "index"]
theorem sc_required_lines : FnScope N_required_lines ["lines", "last"] WHead.d_required_lines.scope := ⟨rfl, rfl, rfl, by decide +kernel, rfl, by decide +kernel, by decide +kernel⟩
theorem ok_required_lines (F : FnD K WHead.d_required_lines f fd) (T : Txt K mg CF CS) : FnOk P w K mg base C8.CX0 1 f fd ["lines", "last"] spReqLines := by
  refine F.ok sc_required_lines (fun vs H Q E h => ?_) (fun cdv A outer s H vs Q E hr h => ?_)
  · obtain ⟨paths, l, ls, last, rfl, _⟩ := h
    rfl
  · obtain ⟨paths, l, ls, last, rfl, hl, lg, hlast, lim, k⟩ := h
    have hu := hu_of hr
    have sz : sizeLine = 16777216 := sizeLine_eq
    unfold LIM at lim
    refine ⟨_, PSs.nox ((pss_cons (ps_if (pt_cmpR op_isN (pv 1) pe_non (nomark _)) (pss_one (ps_ret (pe_lst pa_nil))) pss_nil)
      (pss_cons (ps_set (i := 2) sc_required_lines.nd rfl (Or.inl rfl) (pe_disp (pps_cons (pv 1) pe_bl pps_nil) (by rfl) (by rfl) (fun z => by cases z) (by decide)))
      (pss_cons (ps_for PassesOwn.never rfl (pi_range3 (by rfl) T.f_range (pa_cons (pv 1) (pa_cons (pe_un un_neg pe_int) (pa_cons (pe_un un_neg pe_int) pa_nil)))) (pg_name (i := 3) sc_required_lines.nd rfl (Or.inl rfl)) (pss_cons (ps_asg (pe_ix ix_list (pv 0) (pv 3) (fun _ _ => rfl)) (pg_star rfl (pg_name (i := 4) sc_required_lines.nd rfl (Or.inr rfl)) (pg_name (i := 5) sc_required_lines.nd rfl (Or.inl rfl))))
      (pss_one (ps_if (PW.pt (pw_and (pt_cmp (pc_din hu (pv 3) (pv 2))) (pw_and1 (pt_cmpR op_ne (pv 4) pe_str (nomark _))))) (pss_one (ps_expr (pe_bm PySem.F.plainAttrs_dict PySem.F.slot_dict_update PySem.F.type_dict_update mt_updD (pv 2) (pa_cons (pe_dc (own := [("index", 8)]) (g := (gName 8)) (tt := tYes) rfl sc_required_lines.nd (pi_list (pv 5)) (blkOk_by (N := N_required_lines) (sc := WHead.d_required_lines.scope) (by decide +kernel)) (fun _ _ _ _ _ => (pg_name (i := 8) sc_required_lines.nd rfl (Or.inl rfl))) (fun _ _ _ _ _ => pts_nil) (fun _ _ _ _ _ => (pv 8)) (fun _ _ _ _ _ => pe_bl)) pa_nil)))) pss_nil))))
      (pss_cons (ps_set (i := 6) sc_required_lines.nd rfl (Or.inr rfl) pe_dnewK)
      (pss_cons (ps_set (i := 7) sc_required_lines.nd rfl (Or.inl rfl) (pe_lst pa_nil))
      (pss_cons (ps_for PassesOwn.never rfl (pi_list (pe_callB cr_sortedI (by rfl) T.f_sorted (by decide +kernel) (pa_cons (pe_callTy (call_list_dK rfl) (by rfl) T.f_list (by decide +kernel) (pa_cons (pv 2) pa_nil)) pa_nil))) (pg_name (i := 3) sc_required_lines.nd rfl (Or.inl rfl)) (pss_cons (ps_asg (pe_ix ix_list (pv 0) (pv 3) (fun _ _ => rfl)) (pg_star rfl (pg_name (i := 4) sc_required_lines.nd rfl (Or.inr rfl)) (pg_name (i := 5) sc_required_lines.nd rfl (Or.inl rfl))))
      (pss_cons (ps_expr (pe_bm PySem.F.plainAttrs_list PySem.F.slot_list_append PySem.F.type_list_append mt_append (pv 7) (pa_cons (pe_op op_catT (pe_tup (pa_cons (pv 4) pa_nil)) (pe_callTy call_tuple_of (by rfl) T.f_tuple (by decide +kernel) (pa_cons (pe_lc (own := [("index", 8)]) (g := (gName 8)) (tt := tYes) rfl sc_required_lines.nd (pi_list (pv 5)) (blkOk_by (N := N_required_lines) (sc := WHead.d_required_lines.scope) (by decide +kernel)) (fun _ _ _ _ _ => (pg_name (i := 8) sc_required_lines.nd rfl (Or.inl rfl))) (fun _ _ _ _ _ => pts_nil) (fun _ _ _ _ _ => (pe_ifExp (pt_cmpR op_eq (pv 4) pe_str (nomark _)) (pv 8) (pe_dget hu (pv 6) (pv 8) (fun _ _ => rfl))))) pa_nil))) pa_nil)))
      (pss_one (ps_dput hu (pv 6) (pv 3) (pe_op op_sub (pe_callB call_len (by rfl) T.f_len PySem.boot_len (pa_cons (pv 7) pa_nil)) pe_int) rfl)))))
      (pss_one (ps_ret (pv 7)))))))))), ?_⟩
    cases last with
    | none =>
      exact ⟨_, rfl, rfl, _, rfl, ifT rfl ⟨by rw [sz]; exact Nat.zero_le _, fun b hb => k _ b (Kp.new hb) hb ⟨[], upd_same, .nil⟩⟩⟩
    | some last =>
      have lt := hlast last rfl
      have down_ := fun n (_ : n ≤ last) => deps_down lg n
      refine ⟨_, rfl, rfl, _, rfl, ifF rfl ?_⟩
      -- required = {last: True}
      refine fun rq hrq => ⟨_, rfl, upd_same, [((Sum.inl (last : Int) : L2.Key), V.bl true)], rfl, by show 1 ≤ 15; decide, ?_⟩
      have kp1 : Kp [] H (upd (upd H rq (.dK [])) rq (.dK (mergeK [] [((Sum.inl (last : Int) : L2.Key), V.bl true)]))) := (Kp.new hrq).mine hrq
      -- for number in range(last, -1, -1)
      refine ⟨_, rfl, _, rfl, _, rfl, _, _, _, _, rfl, RgC.neg (by omega) (by omega) (by decide) (by decide), for_it walk_rangeC (fun i σ H2 => ∃ o3 o4 o5 : Option V, σ = [some (.ref l), some (.int (last : Int)), some (.ref rq), o3, o4, o5, none, none, none] ∧ H2 rq = some (.dK (kB (reqsTo ls last i))) ∧ Kp [] H H2)
        ⟨none, none, none, rfl, upd_same, kp1⟩ (fun _ _ _ _ _ => trivial) ?_ ?_⟩
      · rintro i v σ H2 H3 hi ⟨o3, o4, o5, rfl, hq2, kp2⟩ ⟨rfl, hv⟩
        have il : i ≤ last := by
          have z : i < ((last : Int) - (-1)).toNat := hi
          omega
        have ev : (V.int ((last : Int) + (i : Nat) * (-1)) : V) = .int ((last - i : Nat) : Int) := by congr 1; omega
        obtain rfl : v = .int ((last - i : Nat) : Int) := hv.trans ev
        rw [reqsTo_succ il]
        have ra := reqsTo_at down_ i (by omega)
        have rlen := nodup_len ra.nd ra.le
        have nl : last - i < ls.length := by omega
        generalize hn : last - i = n at *
        obtain ⟨ts, hl2, tups⟩ := hl.kp kp2 kp2.tp0 (fun z => nomatch z)
        obtain ⟨t, ht, htt⟩ := tups.get (ls_get nl)
        rw [lineT_split] at htt
        generalize hln : ls.getD n (.gen 0) = ln at *
        -- word, *indexes = lines[number]
        refine ⟨_, rfl, _, rfl, l, _, _, .ref t, rfl, rfl, SqL.of hl2, atI_nat (by rw [List.getElem?_map, ht]; rfl), t, _, _, rfl, SqT.of htt, idxs_few ln, fun D hD => ?_⟩
        have kp3 : Kp [] H (upd H3 D (.lst (nums (idxsOf ln)))) := kp2.trans (Kp.new hD)
        have hq3 : (upd H3 D (.lst (nums (idxsOf ln)))) rq = some (.dK (kB (reqsTo ls last i))) := by rw [upd_ne (ne_of_none hq2 hD)]; exact hq2
        have hD3 : (upd H3 D (.lst (nums (idxsOf ln)))) D = some (.lst (nums (idxsOf ln))) := upd_same
        generalize upd H3 D (.lst (nums (idxsOf ln))) = H4 at *
        -- if number in required and word != 'generator'
        refine ⟨_, rfl, _, rfl, rq, _, rfl, DGet.k (k := Sum.inl (n : Int)) hq3, _, rfl, ?_⟩
        unfold reqStep
        rw [kB_val]
        by_cases hm : n ∈ reqsTo ls last i
        · rw [if_pos hm, if_pos hm, hln]
          refine ifT rfl ?_
          refine ⟨_, rfl, rfl, _, rfl, ?_⟩
          by_cases hg : ∃ j, ln = .gen j
          · obtain ⟨j, rfl⟩ := hg
            exact ifF (by show (!decide (V.str ("generator" : Str) = V.str "generator")) = false; decide +kernel) ⟨_, _, _, rfl, hq3, kp3⟩
          · have hw : (!decide (V.str (wordOf ln) = V.str "generator")) = true := by
              cases ln with
              | gen j => exact (hg ⟨j, rfl⟩).elim
              | invl j => show (!decide (V.str ("inverse" : Str) = V.str "generator")) = true; decide +kernel
              | prod j m => show (!decide (V.str ("product" : Str) = V.str "generator")) = true; decide +kernel
            have hdep : idxsOf ln = depsOf ln := by
              cases ln with
              | gen j => exact (hg ⟨j, rfl⟩).elim
              | invl j => rfl
              | prod j m => rfl
            have dfew : ∀ q, (addAll [] ((depsOf ln).take q)).length ≤ 2 := by
              intro q
              refine Nat.le_trans (addAll_len _ _) ?_
              have a : ((depsOf ln).take q).length ≤ (depsOf ln).length := by rw [List.length_take]; omega
              have b : (depsOf ln).length ≤ 2 := by cases ln <;> simp [depsOf]
              simp only [List.length_nil]
              omega
            refine ifT hw ?_
            -- required.update({index: True for index in indexes})
            refine ⟨_, rfl, .inr (.inr (.inl ⟨rfl, .inl ⟨_, hq3⟩⟩)), _, rfl, D, rfl, ⟨_, SqL.of hD3⟩, fun D2 hD2 => dc_it (walk_list (K := K) (a := D) (xs := nums (idxsOf ln))) (fun q H5 => H5 = upd H4 D2 (.dK (kB (addAll [] ((depsOf ln).take q)))))
              rfl (fun q H5 _ e => by rw [e]; exact SqL.of (by rw [upd_ne (ne_of_none hD3 hD2)]; exact hD3)) ?_ ?_⟩
            · rintro q v H5 H6 hq e ⟨e6, hv⟩
              obtain ⟨d, hd, rfl⟩ := nums_get hv
              rw [hdep] at hd
              refine ⟨rfl, ?_⟩
              refine tYes_if ?_
              refine ⟨_, rfl, _, Sum.inl (d : Int), rfl, by rw [e6, e]; exact upd_same, ?_, ?_⟩
              · rw [kB_len, sz]
                have := dfew q
                omega
              · rw [e6, e, upd_upd, kB_put, List.take_add_one, hd]
                show _ = upd H4 D2 (.dK (kB (addAll [] ((depsOf ln).take q ++ [d]))))
                unfold addAll
                rw [List.foldl_append]
                rfl
            · intro H5 e
              have el : (depsOf ln).take (nums (idxsOf ln)).length = depsOf ln := by
                unfold nums
                rw [List.length_map, hdep, List.take_length]
              rw [el] at e
              have neq : rq ≠ D2 := ne_of_none hq3 hD2
              refine ⟨rq, D2, _, _, rfl, rfl, neq, by rw [e, upd_ne neq]; exact hq3, by rw [e]; exact upd_same, ?_, ?_⟩
              · rw [kB_len, kB_len, sz]
                have := dfew (depsOf ln).length
                rw [List.take_length] at this
                omega
              · rw [kB_merge, addAll_gather]
                refine ⟨_, _, _, rfl, upd_same, ?_⟩
                rw [e]
                exact (kp3.trans (Kp.new hD2)).mine (hrq)
        · rw [if_neg hm, if_neg hm]
          exact ifF rfl ⟨_, _, _, rfl, hq3, kp3⟩
      · rintro σ H2 ⟨o3, o4, o5, rfl, hq2, kp2⟩
        have e1 : ((last : Int) - (-1)).toNat = last + 1 := by omega
        rw [e1] at hq2
        have ra := reqsTo_at down_ (last + 1) (Nat.le_refl _)
        rw [reqsTo_end] at hq2 ra
        have rdef : reqLines ls (some last) = renum ls (sortS (reqs ls last)) := rfl
        generalize reqs ls last = R at *
        have nperm := sortS_perm R
        have nsort := sorted_strict (sortS_sorted R) (nperm.nodup_iff.mpr ra.nd)
        have nmem : ∀ d, d ∈ sortS R ↔ d ∈ R := fun d => nperm.mem_iff
        have nnd : (sortS R).Nodup := nperm.nodup_iff.mpr ra.nd
        have nlen : (sortS R).length ≤ last + 1 := by rw [nperm.length_eq]; exact nodup_len ra.nd ra.le
        -- numbers = {}; result = []
        refine fun nb hnb => ⟨by rw [sz]; exact Nat.zero_le _, fun rs hrs => ?_⟩
        have nb0 : H nb = none := kp2.free hnb
        have kp3 : Kp [] H (upd H2 nb (.dK [])) := kp2.trans (Kp.new hnb)
        have rs0 : H rs = none := kp3.free hrs
        have kp4 : Kp [] H (upd (upd H2 nb (.dK [])) rs (.lst [])) := kp3.trans (Kp.new hrs)
        have hnb4 : (upd (upd H2 nb (.dK [])) rs (.lst [])) nb = some (.dK []) := by rw [upd_ne (ne_of_none upd_same hrs)]; exact upd_same
        have hrs4 : (upd (upd H2 nb (.dK [])) rs (.lst [])) rs = some (.lst []) := upd_same
        have hrq4 : (upd (upd H2 nb (.dK [])) rs (.lst [])) rq = some (.dK (kB R)) := by
          have a : (upd H2 nb (.dK [])) rq = some (.dK (kB R)) := by rw [upd_ne (ne_of_none hq2 hnb)]; exact hq2
          rw [upd_ne (ne_of_none a hrs)]
          exact a
        have nbrs : nb ≠ rs := ne_of_none upd_same hrs
        generalize upd (upd H2 nb (.dK [])) rs (.lst []) = H4 at *
        -- for number in sorted(list(required))
        refine ⟨_, rfl, rq, _, rfl, hrq4, fun q5 hq5 => ⟨q5, R.map fun n : Nat => (n : Int), rfl, SqL.of (by rw [upd_same]; unfold kB; rw [List.map_map, List.map_map]; rfl), fun ns' p perm rising hp => ?_⟩⟩
        obtain rfl := sorted_ints perm rising
        have kp5 : Kp [] H4 (upd H4 q5 (.lst ((kB R).map fun kv => kV kv.1))) := Kp.new hq5
        have kp6 : Kp [] H4 (upd (upd H4 q5 (.lst ((kB R).map fun kv => kV kv.1))) p (.lst (((sortS R).map fun n : Nat => (n : Int)).map V.int))) := (Kp.new hq5).trans (Kp.new hp)
        have enum : ((sortS R).map fun n : Nat => (n : Int)).map V.int = nums (sortS R) := by unfold nums; rw [List.map_map]; rfl
        rw [enum] at kp6 ⊢
        generalize hns : sortS R = ns at *
        have hp6 : (upd (upd H4 q5 (.lst ((kB R).map fun kv => kV kv.1))) p (.lst (nums ns))) p = some (.lst (nums ns)) := upd_same
        have hp0 : H p = none := by
          cases z : H p with
          | none => rfl
          | some o =>
            have y := kp5 _ _ (kp4 _ _ z List.not_mem_nil) List.not_mem_nil
            rw [hp] at y
            cases y
        have pnb : p ≠ nb := by
          intro z
          have y := kp5 _ _ hnb4 List.not_mem_nil
          rw [← z, hp] at y
          cases y
        have prs : p ≠ rs := by
          intro z
          have y := kp5 _ _ hrs4 List.not_mem_nil
          rw [← z, hp] at y
          cases y
        have hnb6 := kp6 _ _ hnb4 List.not_mem_nil
        have hrs6 := kp6 _ _ hrs4 List.not_mem_nil
        have kp7 := kp4.trans kp6
        generalize upd (upd H4 q5 (.lst ((kB R).map fun kv => kV kv.1))) p (.lst (nums ns)) = H6 at *
        refine ⟨p, rfl, ⟨_, SqL.of hp6⟩, for_it (walk_list (K := K) (a := p) (xs := nums ns)) (fun i σ H7 => ∃ (o3 o4 o5 : Option V) (kvs : List (L2.Key × V)), σ = [some (.ref l), some (.int (last : Int)), some (.ref rq), o3, o4, o5, some (.ref nb), some (.ref rs), none] ∧ H7 nb = some (.dK kvs) ∧ NumOk ns i kvs ∧
            LstT lineT H7 rs ((renum ls ns).take i) ∧ Kp [] H H7 ∧ H7 p = some (.lst (nums ns)))
          ⟨o3, o4, o5, [], rfl, hnb6, ⟨(fun _ z => by simp at z), Nat.le_refl _⟩, ⟨[], hrs6, .nil⟩, kp7, hp6⟩ (fun i σ H7 _ h => SqL.of h.choose_spec.choose_spec.choose_spec.choose_spec.2.2.2.2.2) ?_ ?_⟩
        · rintro i v σ H7 H8 hi ⟨o3, o4, o5, kvs, rfl, hnb7, nok, hres, kp8, hp7⟩ ⟨rfl, hv⟩
          obtain ⟨n, hn, rfl⟩ := nums_get hv
          have il : i < ns.length := (List.getElem?_eq_some_iff.mp hn).1
          have nR : n ∈ R := (nmem n).mp (List.mem_of_getElem? hn)
          have nl : n < ls.length := by have := ra.le n nR; omega
          obtain ⟨ts, hl8, tups⟩ := hl.kp kp8 kp8.tp0 List.not_mem_nil
          obtain ⟨t, ht, htt⟩ := tups.get (ls_get nl)
          rw [lineT_split] at htt
          have hdeps : ∀ d ∈ depsOf (ls.getD n (.gen 0)), d ∈ ns.take i := by
            intro d hd
            have dm : d ∈ ns := (nmem d).mpr (ra.dep n nR (by omega) d hd)
            have lt2 := idxOf_lt_of_sorted nsort hn dm (deps_down lg n d hd)
            have lt3 : ns.idxOf d < ns.length := List.idxOf_lt_length_of_mem dm
            have e : (ns.take i)[ns.idxOf d]? = some d := by
              rw [List.getElem?_take_of_lt lt2, List.getElem?_eq_getElem lt3, List.getElem_idxOf lt3]
            exact List.mem_of_getElem? e
          have ren : (renum ls ns)[i]? = some (mapLine (fun d => ns.idxOf d) (ls.getD n (.gen 0))) := by
            unfold renum
            rw [List.getElem?_map, hn]
            rfl
          generalize hln : ls.getD n (.gen 0) = ln at *
          -- word, *indexes = lines[number]
          refine ⟨_, rfl, _, rfl, l, _, _, .ref t, rfl, rfl, SqL.of hl8, atI_nat (by rw [List.getElem?_map, ht]; rfl), t, _, _, rfl, SqT.of htt, idxs_few ln, fun D hD => ?_⟩
          have kpD : Kp [] H8 (upd H8 D (.lst (nums (idxsOf ln)))) := Kp.new hD
          have hD9 : (upd H8 D (.lst (nums (idxsOf ln)))) D = some (.lst (nums (idxsOf ln))) := upd_same
          generalize upd H8 D (.lst (nums (idxsOf ln))) = H9 at *
          -- result.append((word,) + tuple([..]))
          obtain ⟨rts, hrs9, rtups⟩ := hres.kp kpD kpD.tp0 List.not_mem_nil
          refine ⟨_, rfl, .inl ⟨rfl, _, SqL.of hrs9⟩, _, rfl, by rw [sz]; exact Nat.le_of_ble_eq_true rfl, fun b1 hb1 => ?_⟩
          have kpb : Kp [] H9 (upd H9 b1 (.tup [.str (wordOf ln)])) := Kp.new hb1
          have hb1' : (upd H9 b1 (.tup [.str (wordOf ln)])) b1 = some (.tup [.str (wordOf ln)]) := upd_same
          have hD10 := kpb _ _ hD9 List.not_mem_nil
          have hnb10 := kpb _ _ (kpD _ _ hnb7 List.not_mem_nil) List.not_mem_nil
          generalize upd H9 b1 (.tup [.str (wordOf ln)]) = H10 at *
          refine ⟨_, rfl, D, rfl, ⟨_, SqL.of hD10⟩, fun D2 hD2 => lc_it (walk_list (K := K) (a := D) (xs := nums (idxsOf ln))) (fun q H5 => H5 = upd H10 D2 (.lst (nums ((idxsOf (mapLine (fun d => ns.idxOf d) ln)).take q))))
            rfl (fun q H5 _ e => by rw [e]; exact SqL.of (by rw [upd_ne (ne_of_none hD10 hD2)]; exact hD10)) ?_ ?_⟩
          · rintro q v H11 H12 hq e11 ⟨rfl, hv⟩
            obtain ⟨d, hd, rfl⟩ := nums_get hv
            have qlen : (nums ((idxsOf (mapLine (fun d => ns.idxOf d) ln)).take q)).length < sizeLine := by
              have a := idxs_few (mapLine (fun d => ns.idxOf d) ln)
              unfold nums at a ⊢
              rw [List.length_map] at a ⊢
              rw [List.length_take, sz]
              omega
            have nbD : nb ≠ D2 := ne_of_none hnb10 hD2
            refine ⟨rfl, ?_⟩
            refine tYes_if ?_
            refine ⟨_, rfl, rfl, _, rfl, ?_⟩
            cases ln with
            | gen j =>
              refine ifT (by show decide (V.str ("generator" : Str) = V.str "generator") = true; decide +kernel) ⟨_, rfl, _, by rw [e11]; exact upd_same, qlen, ?_⟩
              rw [e11, upd_upd, List.take_add_one]
              have e : (idxsOf (mapLine (fun d => ns.idxOf d) (.gen j)))[q]? = some d := hd
              rw [e]
              unfold nums
              rw [List.map_append]
              rfl
            | invl j =>
              have dm : d ∈ depsOf (.invl j) := List.mem_of_getElem? hd
              refine ifF (by show decide (V.str ("inverse" : Str) = V.str "generator") = false; decide +kernel) ⟨_, rfl, _, rfl, nb, _, rfl, by rw [← nok.1 d (hdeps d dm)]; exact DGet.k (k := Sum.inl (d : Int)) (by rw [e11, upd_ne nbD]; exact hnb10), _, by rw [e11]; exact upd_same, qlen, ?_⟩
              rw [e11, upd_upd, List.take_add_one]
              have e : (idxsOf (mapLine (fun d => ns.idxOf d) (.invl j)))[q]? = some (ns.idxOf d) := by
                show [ns.idxOf j][q]? = _
                have z : [j][q]? = some d := hd
                have y : ([j].map fun d => ns.idxOf d)[q]? = some (ns.idxOf d) := by rw [List.getElem?_map, z]; rfl
                exact y
              rw [e]
              unfold nums
              rw [List.map_append]
              rfl
            | prod j m =>
              have dm : d ∈ depsOf (.prod j m) := List.mem_of_getElem? hd
              refine ifF (by show decide (V.str ("product" : Str) = V.str "generator") = false; decide +kernel) ⟨_, rfl, _, rfl, nb, _, rfl, by rw [← nok.1 d (hdeps d dm)]; exact DGet.k (k := Sum.inl (d : Int)) (by rw [e11, upd_ne nbD]; exact hnb10), _, by rw [e11]; exact upd_same, qlen, ?_⟩
              rw [e11, upd_upd, List.take_add_one]
              have e : (idxsOf (mapLine (fun d => ns.idxOf d) (.prod j m)))[q]? = some (ns.idxOf d) := by
                have z : [j, m][q]? = some d := hd
                have y : ([j, m].map fun d => ns.idxOf d)[q]? = some (ns.idxOf d) := by rw [List.getElem?_map, z]; rfl
                exact y
              rw [e]
              unfold nums
              rw [List.map_append]
              rfl
          · intro H11 e11
            have tl : (idxsOf (mapLine (fun d => ns.idxOf d) ln)).take (nums (idxsOf ln)).length = idxsOf (mapLine (fun d => ns.idxOf d) ln) := by
              apply List.take_of_length_le
              unfold nums
              rw [List.length_map]
              cases ln <;> exact Nat.le_refl _
            rw [tl] at e11
            have kp11 : Kp [] H10 H11 := by rw [e11]; exact Kp.new hD2
            have hD11 : H11 D2 = some (.lst (nums (idxsOf (mapLine (fun d => ns.idxOf d) ln)))) := by rw [e11]; exact upd_same
            refine ⟨D2, _, rfl, .inl ⟨SqL.of hD11, fun t2 ht2 => ?_⟩⟩
            have kp12 : Kp [] H11 (upd H11 t2 (.tup (nums (idxsOf (mapLine (fun d => ns.idxOf d) ln))))) := Kp.new ht2
            have ht12 : (upd H11 t2 (.tup (nums (idxsOf (mapLine (fun d => ns.idxOf d) ln))))) t2 = some (.tup (nums (idxsOf (mapLine (fun d => ns.idxOf d) ln)))) := upd_same
            generalize upd H11 t2 (.tup (nums (idxsOf (mapLine (fun d => ns.idxOf d) ln)))) = H12 at *
            have kp13 := (kpD.trans kpb).trans (kp11.trans kp12)
            have hb12 := (kp11.trans kp12) _ _ hb1' List.not_mem_nil
            have few := idxs_few (mapLine (fun d => ns.idxOf d) ln)
            refine ⟨b1, t2, _, _, rfl, rfl, SqT.of hb12, SqT.of ht12, (fun z => by cases z), by rw [sz]; simp only [List.length_cons, List.length_nil]; omega, fun z => (idxs_ne _ z).elim, fun _ t3 ht3 => ?_⟩
            have word : wordOf (mapLine (fun d => ns.idxOf d) ln) = wordOf ln := by cases ln <;> rfl
            have etup : ([.str (wordOf ln)] ++ nums (idxsOf (mapLine (fun d => ns.idxOf d) ln)) : List V) = lineT (mapLine (fun d => ns.idxOf d) ln) := by
              rw [lineT_split, word]
              rfl
            rw [etup]
            have kp14 : Kp [] H12 (upd H12 t3 (.tup (lineT (mapLine (fun d => ns.idxOf d) ln)))) := Kp.new ht3
            have ht14 : (upd H12 t3 (.tup (lineT (mapLine (fun d => ns.idxOf d) ln)))) t3 = some (.tup (lineT (mapLine (fun d => ns.idxOf d) ln))) := upd_same
            generalize upd H12 t3 (.tup (lineT (mapLine (fun d => ns.idxOf d) ln))) = H14 at *
            have kp15 := kp13.trans kp14
            obtain ⟨rts2, hrs14, rlen, res15⟩ := (hres.kp kp15 kp15.tp0 List.not_mem_nil).app ht14
            have rlen2 : rts2.length = i := by
              rw [rlen, List.length_take]
              unfold renum
              rw [List.length_map]
              omega
            refine ⟨rs, _, _, rfl, rfl, hrs14, by rw [List.length_map, rlen2, sz]; omega, ?_⟩
            -- numbers[number] = len(result) - 1
            have nbrs2 : nb ≠ rs := nbrs
            have hnb15 := kp15 _ _ hnb7 List.not_mem_nil
            have hp15 := kp15 _ _ hp7 List.not_mem_nil
            refine ⟨_, rfl, _, _, rfl, .inl ⟨_, SqL.of upd_same, rfl⟩, _, _, rfl, rfl, _, rfl, _, rfl, nb, _, rfl, DPut.k (k := Sum.inl (n : Int)) (by rw [upd_ne nbrs2]; exact hnb15) (by rw [sz]; have := nok.2; omega), ?_⟩
            have vi : V.int (((rts2.map V.ref ++ [V.ref t3]).length : Nat) - 1 : Int) = V.int ((i : Nat) : Int) := by
              rw [List.length_append, List.length_map, rlen2]
              simp
            refine ⟨_, _, _, _, rfl, upd_same, ?_, ?_, ?_, ?_⟩
            · refine ⟨?_, ?_⟩
              · intro d hd
                rw [valV_put]
                rw [List.take_add_one, hn] at hd
                have ndx : ns.idxOf n = i := by
                  obtain ⟨h1, h2⟩ := List.getElem?_eq_some_iff.mp hn
                  rw [← h2]
                  exact List.Nodup.idxOf_getElem nnd i h1
                by_cases e : d = n
                · rw [if_pos (by rw [e]), e, ndx]
                  exact congrArg some vi
                · rw [if_neg (fun z => e (inlN.mp z))]
                  rcases List.mem_append.mp hd with z | z
                  · exact nok.1 d z
                  · exact (e (List.mem_singleton.mp z)).elim
              · exact Nat.le_trans (length_putK _ _ _) (Nat.succ_le_succ nok.2)
            · have e : (renum ls ns).take (i + 1) = (renum ls ns).take i ++ [mapLine (fun d => ns.idxOf d) ln] := by
                rw [List.take_add_one, ren]
                rfl
              rw [e]
              refine res15.keep (Tp.upd (by rw [upd_ne nbrs2]; exact hnb15) (fun _ z => by cases z)) ?_
              rw [upd_ne nbrs2.symm]
            · exact ((kp8.trans kp15).mine rs0).mine nb0
            · rw [upd_ne pnb, upd_ne prs]
              exact hp15
        · rintro σ H7 ⟨o3, o4, o5, kvs, rfl, hnb7, nok, hres, kp8, hp7⟩
          have e : (renum ls ns).take (nums ns).length = renum ls ns := by
            apply List.take_of_length_le
            unfold renum nums
            rw [List.length_map, List.length_map]
            exact Nat.le_refl _
          rw [e] at hres
          exact ⟨_, rfl, k _ rs kp8 rs0 (by rw [rdef]; exact hres)⟩
end
end WK
end Text_WW8
section Text_WW9
set_option Elab.async false
set_option linter.all false
set_option maxRecDepth 100000
set_option maxHeartbeats 4000000
/-! WW9: the whole derivation. -/
namespace WK
open PySem PySem.Spec L2 SX
open PyProof.Rows hiding St

theorem Kp.sql {K : PySem.W.Frag} {F : List Addr} {H H' : Hp} (h : Kp F H H') {L : Addr} {xs : List V} (n : L ∉ F) (s : SqL K H L xs) : SqL K H' L xs := by
  rcases s with (r | ⟨o, r⟩) | r
  · exact .inl (.inl (h _ _ r n))
  · exact .inl (.inr ⟨o, h _ _ r n⟩)
  · exact .inr r
/-- a list's place is no new place -/
theorem sql_old {K : PySem.W.Frag} {F : List Addr} {H H' : Hp} (h : Kp F H H') {L : Addr} {xs : List V} (new : ∀ b ∈ F, H b = none ∨ ∃ o, H b = some o ∧ (∀ ys, o ≠ .lst ys) ∧ (∀ q u, o ≠ .frz q u)) (s : SqL K H L xs) : SqL K H' L xs := by
  rcases s with (r | ⟨o, r⟩) | r
  · refine .inl (.inl (h _ _ r fun z => ?_))
    rcases new _ z with y | ⟨o, y, n, _⟩
    · rw [r] at y; cases y
    · rw [r] at y; exact n _ (Option.some.inj y).symm
  · refine .inl (.inr ⟨o, h _ _ r fun z => ?_⟩)
    rcases new _ z with y | ⟨o2, y, _, n⟩
    · rw [r] at y; cases y
    · rw [r] at y; exact n _ _ (Option.some.inj y).symm
  · exact .inr r
def derivO (g : G) (w : List Nat) : Option (List Line) := if (walk0 g w).node ≠ 0 ∨ (walk0 g w).pos < w.length then none else some (reqLines (walk0 g w).lines (walk0 g w).lab)
theorem derive_eq (paths : List (List Nat)) (goal : List Nat) : derive paths goal = derivO (addGens g0 0 paths) goal := rfl
/-- a derivation as a value -/
def DerV (H0 H' : Hp) : Option (List Line) → V → Prop
  | none, v => v = .non
  | some d, v => ∃ b, v = .ref b ∧ H0 b = none ∧ LstT lineT H' b d
def spDeriv (C : Addr) : Sp := fun vs H Q _ => ∃ (a : Ads) (paths : List (List Nat)) (nm : Nat → List Nat) (g : G) (w : List Nat), vs = [.ref a.p, vS w] ∧ FA C a H g ∧ Good paths nm g ∧ w.length ≤ 60 ∧ g.lines.length ≤ 60000 ∧
  ∀ H' v, Kp a.all H H' → DerV H H' (derivO g w) v → Q v H'
theorem addGens_snoc : ∀ (ps : List (List Nat)) (g : G) (i : Nat) (w : List Nat), addGens g i (ps ++ [w]) = addGen (addGens g i ps) (i + ps.length) w := by
  intro ps
  induction ps with
  | nil => exact fun g i w => rfl
  | cons p ps ih =>
    intro g i w
    show addGens (addGen g i p) (i + 1) (ps ++ [w]) = _
    rw [ih]
    show addGen (addGens (addGen g i p) (i + 1) ps) (i + 1 + ps.length) w = addGen (addGens (addGen g i p) (i + 1) ps) (i + (ps.length + 1)) w
    rw [show i + 1 + ps.length = i + (ps.length + 1) by omega]
theorem total_take (ps : List (List Nat)) : ∀ i, total (ps.take i) ≤ total ps := by
  induction ps with
  | nil => exact fun i => by simp
  | cons p ps ih =>
    intro i
    cases i with
    | zero => exact Nat.zero_le _
    | succ i =>
      have z := ih i
      unfold total at z ⊢
      rw [List.take_succ_cons, List.map_cons, List.map_cons, List.sum_cons, List.sum_cons]
      omega
theorem total_snoc (ps : List (List Nat)) (w : List Nat) : total (ps ++ [w]) = total ps + w.length := by
  unfold total
  rw [List.map_append, List.sum_append]
  simp
structure Fit (paths : List (List Nat)) : Prop where
  each : ∀ p ∈ paths, Steps p ∧ p.length ≤ 60
  tot : total paths ≤ 176
  many : paths.length ≤ 16
def spInitF (K : PySem.W.Frag) (C : Addr) : Sp := fun vs H Q _ => ∃ (p L dx : Addr) (paths : List (List Nat)), vs = [.ref p, .ref L] ∧ H p = some (.ins C dx []) ∧ SqL K H L (paths.map vS) ∧ Fit paths ∧
  ∀ (a : Ads) (H' : Hp), a.p = p → FA C a H' (addGens g0 0 paths) → Kp [p] H H' → (∀ b ∈ a.all, b ≠ p → H b = none) → Q .non H'
def spDeriveAll (K : PySem.W.Frag) : Sp := fun vs H Q _ => ∃ (L M : Addr) (paths : List (List Nat)) (goal : List Nat), vs = [.ref L, .ref M] ∧ SqL K H L (paths.map vS) ∧ SqL K H M [vS goal] ∧ Fit paths ∧ goal.length ≤ 60 ∧
  ∀ H' b v, Kp [] H H' → H b = none → H' b = some (.lst [v]) → DerV H H' (derive paths goal) v → Q (.ref b) H'
section
variable {P : Program} {w : World} {K : PySem.W.Frag} {mg : Str → Option Value} {base : Heap} {f CF CS : Addr} {fd : FuncData}
abbrev N_LabelledFolding_derivation_of : List Str := ["self", "path", "node", "label", "position"]
theorem sc_LabelledFolding_derivation_of : FnScope N_LabelledFolding_derivation_of ["self", "path"] WHead.d_LabelledFolding_derivation_of.scope := ⟨rfl, rfl, rfl, by decide +kernel, rfl, by decide +kernel, by decide +kernel⟩
theorem ok_LabelledFolding_derivation_of (F : FnD K WHead.d_LabelledFolding_derivation_of f fd) (T : Txt K mg CF CS) (m_LabelledFolding_walk : MetE P w K mg base 2 CF "walk" (spWalk CF)) (c_required_lines : CalE P w K mg base 1 "required_lines" spReqLines) : FnOk P w K mg base C8.CX0 3 f fd ["self", "path"] (spDeriv CF) := by
  refine F.ok sc_LabelledFolding_derivation_of (fun vs H Q E h => ?_) (fun cdv A outer s H vs Q E hr h => ?_)
  · obtain ⟨a, paths, nm, g, w, rfl, _⟩ := h
    rfl
  · obtain ⟨a, paths, nm, g, w, rfl, fa, good, wl, few, k⟩ := h
    have hu := hu_of hr
    have sz : sizeLine = 16777216 := sizeLine_eq
    refine ⟨_, PSs.nox ((pss_cons (ps_asg (C8.pe_mt m_LabelledFolding_walk hr (by decide) (pv 0) (pa_cons (pv 1) pa_nil)) (pg_tup rfl (pgs_cons (pg_name (i := 2) sc_LabelledFolding_derivation_of.nd rfl (Or.inl rfl)) (pgs_cons (pg_name (i := 3) sc_LabelledFolding_derivation_of.nd rfl (Or.inl rfl)) (pgs_cons (pg_name (i := 4) sc_LabelledFolding_derivation_of.nd rfl (Or.inl rfl)) pgs_nil)))))
      (pss_cons (ps_if (PW.pt (pw_or (pt_cmpR op_ne (pv 2) pe_int (nomark _)) (pw_or1 (pt_cmpR op_lt (pv 4) (pe_callB call_len (by rfl) T.f_len PySem.boot_len (pa_cons (pv 1) pa_nil)) (nomark _))))) (pss_one (ps_ret pe_non)) pss_nil)
      (pss_one (ps_ret (C8.pe_c c_required_lines hr (by decide) (by rfl) (pa_cons (pe_fld (pv 0) rfl) (pa_cons (pv 3) pa_nil)))))))), ?_⟩
    refine ⟨_, rfl, a.p, _, _, rfl, fa.at0.dx.choose_spec, rfl, _, rfl, a, g, w, rfl, fa, by unfold LIM; omega, fun H1 b1 fa1 kp1 n1 hb1 => ?_⟩
    have s1 := fa.at0.go fa1 kp1
    refine ⟨b1, _, rfl, SqT.of hb1, rfl, _, _, rfl, _, _, rfl, _, _, rfl, rfl, ?_⟩
    obtain ⟨pre, rest, ew, W, _⟩ := walk0_ok good w wl
    have ddef : derivO g w = if (walk0 g w).node ≠ 0 ∨ (walk0 g w).pos < w.length then none else some (reqLines (walk0 g w).lines (walk0 g w).lab) := rfl
    have Wfew := W.few
    have pl : w.length = pre.length + rest.length := by rw [ew, List.length_append]
    generalize walk0 g w = x at *
    -- if node != 0 or position < len(path)
    refine ⟨_, rfl, rfl, _, rfl, ?_⟩
    by_cases nz : x.node = 0
    · refine ifF (by rw [nz]; rfl) ?_
      refine ⟨_, rfl, _, rfl, _, w.length, rfl, ⟨by rw [S_len, sz]; omega, by rw [S_len]⟩, _, _, rfl, rfl, _, rfl, ?_⟩
      by_cases lt : x.pos < w.length
      · refine ifT (decide_eq_true (by omega)) ?_
        rw [if_pos (.inr lt)] at ddef
        exact k _ _ s1.kp (by rw [ddef]; rfl)
      · refine ifF (decide_eq_false (by omega)) ?_
        rw [if_neg (fun z => z.elim (fun y => y nz) lt)] at ddef
        have lok := W.lb.ok
        -- return required_lines(self.lines, label)
        refine ⟨_, rfl, a.p, CF, _, _, _, rfl, s1.dx.choose_spec, T.clF, T.nL, fldF_lines _ _, _, rfl, paths, a.l, x.lines, x.lab, rfl, s1.fa.ln, W.lg, fun j e => by rw [e] at lok; exact lok, by unfold LIM; omega, fun H2 b2 kp2 n2 h2 => ?_⟩
        refine k _ _ (s1.kp.trans kp2.nil) ?_
        rw [ddef]
        exact ⟨b2, rfl, s1.kp.free' n2 (s1.fa.not_new n2), h2⟩
    · refine ifT (by have z : decide (V.int (x.node : Int) = V.int 0) = false := op_ne_nat (j := 0) nz; rw [z]; rfl) ?_
      refine ifT rfl ?_
      rw [if_pos (.inl nz)] at ddef
      exact k _ _ s1.kp (by rw [ddef]; rfl)
abbrev N_LabelledFolding_init : List Str := ["self", "paths", "index", "path"]
theorem sc_LabelledFolding_init : FnScope N_LabelledFolding_init ["self", "paths"] WHead.d_LabelledFolding_init.scope := ⟨rfl, rfl, rfl, by decide +kernel, rfl, by decide +kernel, by decide +kernel⟩
theorem ok_LabelledFolding_init (F : FnD K WHead.d_LabelledFolding_init f fd) (T : Txt K mg CF CS) (m_LabelledFolding_add_generator : MetE P w K mg base 5 CF "add_generator" (spAddGen CF)) : FnOk P w K mg base C8.CX0 6 f fd ["self", "paths"] (spInitF K CF) := by
  refine F.ok sc_LabelledFolding_init (fun vs H Q E h => ?_) (fun cdv A outer s H vs Q E hr h => ?_)
  · obtain ⟨p, L, dx, paths, rfl, _⟩ := h
    rfl
  · obtain ⟨p, L, dx, paths, rfl, hp, hL, fit, k⟩ := h
    have hu := hu_of hr
    have sz : sizeLine = 16777216 := sizeLine_eq
    refine ⟨_, PSs.nox ((pss_cons (ps_fld (pv 0) (pe_lst pa_nil) rfl)
      (pss_cons (ps_fld (pv 0) pe_dnewT rfl)
      (pss_cons (ps_fld (pv 0) pe_dnewK rfl)
      (pss_cons (ps_fld (pv 0) pe_int rfl)
      (pss_cons (ps_fld (pv 0) (pe_lst pa_nil) rfl)
      (pss_one (ps_for PassesOwn.never rfl (pi_enum (by rfl) T.f_enumerate (pa_cons (pv 1) pa_nil)) (pg_tup rfl (pgs_cons (pg_name (i := 2) sc_LabelledFolding_init.nd rfl (Or.inl rfl)) (pgs_cons (pg_name (i := 3) sc_LabelledFolding_init.nd rfl (Or.inl rfl)) pgs_nil))) (pss_one (ps_expr (C8.pe_mt m_LabelledFolding_add_generator hr (by decide) (pv 0) (pa_cons (pv 2) (pa_cons (pv 3) pa_nil))))))))))))), ?_⟩
    -- self.lines = []
    refine ⟨by rw [sz]; exact Nat.zero_le _, fun l hl => ⟨_, rfl, p, CF, dx, _, rfl, by rw [upd_ne (ne_of_none hp hl)]; exact hp, T.clF, T.nL, by show 0 < 1000; decide, ?_⟩⟩
    have pl := ne_of_none hp hl
    have kl : Kp [p] H (upd (upd H l (.lst [])) p (.ins CF dx (putF "lines" (.ref l) []))) := (Kp.new hl).trans (Kp.upd List.mem_cons_self)
    have hp1 : (upd (upd H l (.lst [])) p (.ins CF dx (putF "lines" (.ref l) []))) p = some (.ins CF dx (putF "lines" (.ref l) [])) := upd_same
    have hl1 : (upd (upd H l (.lst [])) p (.ins CF dx (putF "lines" (.ref l) []))) l = some (.lst []) := by rw [upd_ne pl.symm]; exact upd_same
    generalize upd (upd H l (.lst [])) p (.ins CF dx (putF "lines" (.ref l) [])) = H1 at *
    -- self.targets_of = {}
    refine fun d hd => ⟨_, rfl, p, CF, dx, _, rfl, by rw [upd_ne (ne_of_none hp1 hd)]; exact hp1, T.clF, T.nT, by show 1 < 1000; decide, ?_⟩
    have pd := ne_of_none hp1 hd
    have ld := ne_of_none hl1 hd
    have kd : Kp [p] H1 (upd (upd H1 d (.dT [])) p (.ins CF dx (putF "targets_of" (.ref d) (putF "lines" (.ref l) [])))) := (Kp.new hd).trans (Kp.upd List.mem_cons_self)
    have d0 : H d = none := kl.free' hd (by simp [pd.symm])
    have hp2 : (upd (upd H1 d (.dT [])) p (.ins CF dx (putF "targets_of" (.ref d) (putF "lines" (.ref l) [])))) p = some (.ins CF dx (putF "targets_of" (.ref d) (putF "lines" (.ref l) []))) := upd_same
    have hl2 := kd _ _ hl1 (by simp [pl.symm])
    have hd2 : (upd (upd H1 d (.dT [])) p (.ins CF dx (putF "targets_of" (.ref d) (putF "lines" (.ref l) [])))) d = some (.dT []) := by rw [upd_ne pd.symm]; exact upd_same
    have k2 := kl.trans kd
    generalize upd (upd H1 d (.dT [])) p (.ins CF dx (putF "targets_of" (.ref d) (putF "lines" (.ref l) []))) = H2 at *
    -- self.merged = {}
    refine fun m hm => ⟨_, rfl, p, CF, dx, _, rfl, by rw [upd_ne (ne_of_none hp2 hm)]; exact hp2, T.clF, T.nM, by show 2 < 1000; decide, ?_⟩
    have pm := ne_of_none hp2 hm
    have m0 : H m = none := k2.free' hm (by simp [pm.symm])
    have km : Kp [p] H2 (upd (upd H2 m (.dK [])) p (.ins CF dx (putF "merged" (.ref m) (putF "targets_of" (.ref d) (putF "lines" (.ref l) []))))) := (Kp.new hm).trans (Kp.upd List.mem_cons_self)
    have hp3 : (upd (upd H2 m (.dK [])) p (.ins CF dx (putF "merged" (.ref m) (putF "targets_of" (.ref d) (putF "lines" (.ref l) []))))) p = some (.ins CF dx (putF "merged" (.ref m) (putF "targets_of" (.ref d) (putF "lines" (.ref l) [])))) := upd_same
    have hl3 := km _ _ hl2 (by simp [pl.symm])
    have hd3 := km _ _ hd2 (by simp [pd.symm])
    have hm3 : (upd (upd H2 m (.dK [])) p (.ins CF dx (putF "merged" (.ref m) (putF "targets_of" (.ref d) (putF "lines" (.ref l) []))))) m = some (.dK []) := by rw [upd_ne pm.symm]; exact upd_same
    have k3 := k2.trans km
    generalize upd (upd H2 m (.dK [])) p (.ins CF dx (putF "merged" (.ref m) (putF "targets_of" (.ref d) (putF "lines" (.ref l) [])))) = H3 at *
    -- self.next_node = 1
    refine ⟨_, rfl, p, CF, dx, _, rfl, hp3, T.clF, T.nN, by show 3 < 1000; decide, ?_⟩
    have kn : Kp [p] H3 (upd H3 p (.ins CF dx (putF "next_node" (.int 1) (putF "merged" (.ref m) (putF "targets_of" (.ref d) (putF "lines" (.ref l) [])))))) := Kp.upd List.mem_cons_self
    have hp4 : (upd H3 p (.ins CF dx (putF "next_node" (.int 1) (putF "merged" (.ref m) (putF "targets_of" (.ref d) (putF "lines" (.ref l) [])))))) p = some (.ins CF dx (putF "next_node" (.int 1) (putF "merged" (.ref m) (putF "targets_of" (.ref d) (putF "lines" (.ref l) []))))) := upd_same
    have hl4 := kn _ _ hl3 (by simp [pl.symm])
    have hd4 := kn _ _ hd3 (by simp [pd.symm])
    have hm4 := kn _ _ hm3 (by simp [pm.symm])
    have k4 := k3.trans kn
    generalize upd H3 p (.ins CF dx (putF "next_node" (.int 1) (putF "merged" (.ref m) (putF "targets_of" (.ref d) (putF "lines" (.ref l) []))))) = H4 at *
    -- self.pending = []
    refine ⟨by rw [sz]; exact Nat.zero_le _, fun q hq => ⟨_, rfl, p, CF, dx, _, rfl, by rw [upd_ne (ne_of_none hp4 hq)]; exact hp4, T.clF, T.nP, by show 4 < 1000; decide, ?_⟩⟩
    have pq := ne_of_none hp4 hq
    have q0 : H q = none := k4.free' hq (by simp [pq.symm])
    have lq := ne_of_none hl4 hq
    have kq : Kp [p] H4 (upd (upd H4 q (.lst [])) p (.ins CF dx (fldF ⟨p, l, d, m, q⟩ 1))) := (Kp.new hq).trans (Kp.upd List.mem_cons_self)
    have fa5 : FA CF ⟨p, l, d, m, q⟩ (upd (upd H4 q (.lst [])) p (.ins CF dx (fldF ⟨p, l, d, m, q⟩ 1))) g0 := by
      refine ⟨⟨dx, upd_same⟩, ⟨[], kq _ _ hl4 (by simp [pl.symm]), .nil⟩, ⟨[], kq _ _ hd4 (by simp [pd.symm]), .nil⟩, ⟨[], kq _ _ hm4 (by simp [pm.symm]), .nil⟩, ⟨[], ?_, .nil⟩, lq⟩
      show (upd (upd H4 q (.lst [])) p _) q = _
      rw [upd_ne pq.symm]
      exact upd_same
    have k5 := k4.trans kq
    have efld : HO.ins CF dx (putF "pending" (.ref q) (putF "next_node" (.int 1) (putF "merged" (.ref m) (putF "targets_of" (.ref d) (putF "lines" (.ref l) []))))) = HO.ins CF dx (fldF ⟨p, l, d, m, q⟩ 1) := rfl
    rw [efld]
    generalize upd (upd H4 q (.lst [])) p (.ins CF dx (fldF ⟨p, l, d, m, q⟩ 1)) = H5 at *
    generalize ha : (⟨p, l, d, m, q⟩ : Ads) = a at *
    have ap : a.p = p := by rw [← ha]
    have new : ∀ b ∈ a.all, b ≠ p → H b = none := by
      intro b hb ne
      rw [← ha] at hb
      unfold Ads.all at hb
      simp only [List.mem_cons, List.not_mem_nil, or_false] at hb
      rcases hb with rfl | rfl | rfl | rfl | rfl
      · exact (ne rfl).elim
      · exact hl
      · exact d0
      · exact m0
      · exact q0
    have back : ∀ {H6 : Hp}, Kp a.all H5 H6 → Kp [p] H H6 := by
      intro H6 kk b o e nb
      have ne : b ≠ p := fun z => nb (by rw [z]; exact List.mem_cons_self)
      refine kk b o (k5 b o e nb) fun z => ?_
      rw [new b z ne] at e
      cases e
    have oldL : ∀ {H6 : Hp}, Kp [p] H H6 → SqL K H6 L (paths.map vS) := fun kk => sql_old kk (by
      intro b hb
      rw [List.mem_singleton.mp hb]
      exact .inr ⟨_, hp, (fun _ z => by cases z), (fun _ _ z => by cases z)⟩) hL
    rw [← ap]
    -- for index, path in enumerate(paths)
    refine ⟨_, rfl, L, _, rfl, oldL k5, for_it (walk_enum (K := K) (a := L) (xs := paths.map vS)) (fun i σ H6 => ∃ (o2 o3 : Option V) (nm : Nat → List Nat), σ = [some (.ref a.p), some (.ref L), o2, o3] ∧ AtF CF a H5 H6 (addGens g0 0 (paths.take i)) ∧ Done paths nm (total (paths.take i)) (3 * total (paths.take i) + 3 * i) (paths.take i) (addGens g0 0 (paths.take i)) ∧ i ≤ paths.length)
      ⟨none, none, fun _ => [], rfl, fa5.at0, start_ok (fun p q => (fit.each p q).1), Nat.zero_le _⟩ (fun i σ H6 _ h => oldL (back h.choose_spec.choose_spec.choose_spec.2.1.kp)) ?_ ?_⟩
    · rintro i v σ H6 H7 hi ⟨o2, o3, nm, rfl, s6, dn, _⟩ ⟨t, x, y, rfl, ht, rfl, hx, hy⟩
      obtain rfl := Option.some.inj hx
      have hy' : (paths.map vS)[i]? = some y := hy
      rw [List.getElem?_map] at hy'
      obtain ⟨w, hw, rfl⟩ := Option.map_eq_some_iff.mp hy'
      have il : i < paths.length := (List.getElem?_eq_some_iff.mp hw).1
      have wf := fit.each w (List.mem_of_getElem? hw)
      have et : paths.take (i + 1) = paths.take i ++ [w] := by rw [List.take_add_one, hw]; rfl
      have tl : (paths.take i).length = i := by rw [List.length_take]; omega
      have eg : addGens g0 0 (paths.take (i + 1)) = addGen (addGens g0 0 (paths.take i)) i w := by rw [et, addGens_snoc, tl, Nat.zero_add]
      have eT : total (paths.take (i + 1)) = total (paths.take i) + w.length := by rw [et, total_snoc]
      have tt := total_take paths (i + 1)
      have ft := fit.tot
      have fm := fit.many
      obtain ⟨nm2, dn2⟩ := addGen_ok dn hw wf.1 wf.2
      obtain ⟨P0, cnt⟩ := dn.cnt
      have s7 := s6.new (o := .tup [.int (i : Int), vS w]) ht
      refine ⟨t, _, rfl, SqT.of upd_same, rfl, _, _, rfl, _, _, rfl, rfl, ?_⟩
      -- self.add_generator(index, path)
      refine ⟨_, rfl, a.p, _, _, rfl, s7.dx.choose_spec, rfl, _, rfl, _, rfl, a, paths, nm, _, P0, _, _, i, w, rfl, s7.fa, dn.good, dn.live, cnt, by omega, by omega, hw, wf.1, wf.2, fun H8 fa8 kp8 => ?_⟩
      refine ⟨_, _, nm2, rfl, ?_, ?_, il⟩
      · rw [eg]
        exact s7.go fa8 kp8
      · rw [eg, et]
        have e1 : total (paths.take i ++ [w]) = total (paths.take i) + w.length := total_snoc _ _
        rw [e1]
        have e2 : 3 * (total (paths.take i) + w.length) + 3 * (i + 1) = 3 * total (paths.take i) + 3 * i + 3 * w.length + 3 := by omega
        rw [e2]
        exact dn2
    · rintro σ H6 ⟨o2, o3, nm, rfl, s6, dn, _⟩
      have e : paths.take (paths.map vS).length = paths := by rw [List.length_map, List.take_length]
      rw [e] at s6
      exact k a _ ap s6.fa (back s6.kp) new
abbrev N_derive_all : List Str := ["paths", "goals", "folding", "goal"]
theorem sc_derive_all : FnScope N_derive_all ["paths", "goals"] WHead.d_derive_all.scope := ⟨rfl, rfl, rfl, by decide +kernel, rfl, by decide +kernel, by decide +kernel⟩
theorem ok_derive_all (F : FnD K WHead.d_derive_all f fd) (T : Txt K mg CF CS) (k_LabelledFolding : C8.Mak P w K mg base 6 "LabelledFolding" CF (spInitF K CF) []) (m_LabelledFolding_derivation_of : MetE P w K mg base 3 CF "derivation_of" (spDeriv CF)) : FnOk P w K mg base C8.CX0 8 f fd ["paths", "goals"] (spDeriveAll K) := by
  refine F.ok sc_derive_all (fun vs H Q E h => ?_) (fun cdv A outer s H vs Q E hr h => ?_)
  · obtain ⟨L, M, paths, goal, rfl, _⟩ := h
    rfl
  · obtain ⟨L, M, paths, goal, rfl, hL, hM, fit, gl, k⟩ := h
    have hu := hu_of hr
    have sz : sizeLine = 16777216 := sizeLine_eq
    obtain ⟨nm, D⟩ := addGens_ok (i := 0) paths (start_ok fun p q => (fit.each p q).1) rfl rfl fit.each
    simp only [Nat.zero_add] at D
    obtain ⟨P0, cnt⟩ := D.cnt
    have ft := fit.tot
    have fm := fit.many
    have line := cnt.line (by omega) (by omega)
    have good := D.good
    refine ⟨_, PSs.nox ((pss_cons (ps_set (i := 2) sc_derive_all.nd rfl (Or.inr rfl) (C8.pe_mk k_LabelledFolding hr (by decide) (by rfl) (pa_cons (pv 0) pa_nil)))
      (pss_one (ps_ret (pe_lc (own := [("goal", 3)]) (g := (gName 3)) (tt := tYes) rfl sc_derive_all.nd (pi_list (pv 1)) (blkOk_by (N := N_derive_all) (sc := WHead.d_derive_all.scope) (by decide +kernel)) (fun _ _ _ _ _ => (pg_name (i := 3) sc_derive_all.nd rfl (Or.inl rfl))) (fun _ _ _ _ _ => pts_nil) (fun _ _ _ _ _ => (C8.pe_mt m_LabelledFolding_derivation_of hr (by decide) (pv 2) (pa_cons (pv 3) pa_nil)))))))), ?_⟩
    -- folding = LabelledFolding(paths)
    refine ⟨_, rfl, fun x dx hx hdx ne => ?_⟩
    have kn : Kp [] H (upd (upd H dx (.own x)) x (.ins CF dx [])) := (Kp.new hdx).mine hx
    refine ⟨x, L, dx, paths, rfl, upd_same, kn.sql List.not_mem_nil hL, fit, fun a H1 ap fa kp new => ⟨rfl, ?_⟩⟩
    have k1 : Kp [] H H1 := fun b o e nb => kp b o (kn b o e nb) (by rw [List.mem_singleton]; exact ne_of_none e hx)
    have old : ∀ b ∈ a.all, H b = none := by
      intro b hb
      by_cases e : b = x
      · rw [e]
        exact hx
      · exact kn.free (new b hb e)
    have apart : ∀ {A B : Hp}, Kp [] H A → Kp a.all A B → Kp [] H B := fun k1 k2 b o e nb => k2 b o (k1 b o e nb) fun z => by
      rw [old b z] at e
      cases e
    rw [← ap]
    -- [folding.derivation_of(goal) for goal in goals]
    refine ⟨_, rfl, M, rfl, ⟨_, k1.sql List.not_mem_nil hM⟩, fun D2 hD2 => lc_it (walk_list (K := K) (a := M) (xs := [vS goal])) (fun i H5 => (i = 0 → H5 = upd H1 D2 (.lst [])) ∧ Kp [] H H5 ∧ (i = 1 → ∃ v, H5 D2 = some (.lst [v]) ∧ DerV H H5 (derive paths goal) v))
      ⟨fun _ => rfl, k1.trans (Kp.new hD2), fun z => by cases z⟩ (fun i H5 _ h => h.2.1.sql List.not_mem_nil hM) ?_ ?_⟩
    · rintro i v H5 H6 hi ⟨h5, _, _⟩ ⟨rfl, hv⟩
      have i0 : i = 0 := by
        have z : i < 1 := hi
        omega
      subst i0
      obtain rfl := h5 rfl
      have hv' : some (vS goal) = some v := hv
      obtain rfl := Option.some.inj hv'
      have fa2 := fa.new (o := .lst []) hD2
      have D0 : H D2 = none := k1.free hD2
      refine ⟨rfl, ?_⟩
      refine tYes_if ?_
      refine ⟨_, rfl, a.p, _, _, rfl, fa2.at0.dx.choose_spec, rfl, _, rfl, a, paths, nm, _, goal, rfl, fa2, good, gl, by omega, fun H7 v kp7 dv => ?_⟩
      have k7 := apart (k1.trans (Kp.new hD2)) kp7
      have nD : D2 ∉ a.all := fa.not_new hD2
      have hD7 := kp7 _ _ (upd_same : (upd H1 D2 (.lst [])) D2 = some (.lst [])) nD
      refine ⟨_, hD7, by rw [sz]; exact Nat.le_of_ble_eq_true rfl, (fun z => by cases z), k7.mine D0, fun _ => ⟨v, upd_same, ?_⟩⟩
      rw [derive_eq]
      cases hd : derivO (addGens g0 0 paths) goal with
      | none =>
        rw [hd] at dv
        exact dv
      | some d =>
        rw [hd] at dv
        obtain ⟨b, rfl, nb, hb⟩ := dv
        have bD : b ≠ D2 := by
          intro z
          rw [z, upd_same] at nb
          cases nb
        refine ⟨b, rfl, (k1.trans (Kp.new hD2)).free nb, hb.keep (Tp.upd hD7 (fun _ z => by cases z)) (by rw [upd_ne bD])⟩
    · rintro H5 ⟨_, k5, h5⟩
      obtain ⟨v, e, dv⟩ := h5 rfl
      exact k _ _ _ k5 (k1.free hD2) e dv
end
end WK
end Text_WW9
section Text_WW10
set_option Elab.async false
set_option linter.all false
set_option maxRecDepth 100000
set_option maxHeartbeats 4000000
/-! WW10: paths. -/
namespace WK
open PySem PySem.Spec L2 SX
open PyProof.Rows hiding St

def spInt : Sp := fun vs H Q _ => ∃ i : Int, vs = [.int i] ∧ Q (.bl true) H
def spIsPath : Sp := fun vs H Q _ => ∃ w : List Nat, vs = [vS w] ∧ Steps w ∧ w.length ≤ 400 ∧ ∀ H', Kp [] H H' → Q (.bl true) H'
def spReqPath : Sp := fun vs H Q _ => ∃ w : List Nat, vs = [vS w] ∧ Steps w ∧ w.length ≤ 400 ∧ ∀ H', Kp [] H H' → Q .non H'
def spRedAll (K : PySem.W.Frag) : Sp := fun vs H Q _ => ∃ (L : Addr) (w : List Nat), vs = [.ref L] ∧ SqL K H L [vS w] ∧ Steps w ∧ w.length ≤ 10000 ∧ ∀ H', Kp [] H H' → Q (vS (red w)) H'
def spRedGen : Sp := fun vs H Q _ => ∃ w : List Nat, vs = [vS w] ∧ Steps w ∧ w.length ≤ 10000 ∧ (red w).length ≤ 60 ∧ ∀ H', Kp [] H H' → Q (vS (red w)) H'
def spBack : Sp := fun vs H Q _ => ∃ c : Nat, vs = [vS [c]] ∧ IsStep c ∧ Q (vS [bk c]) H
def spRev : Sp := fun vs H Q _ => ∃ w : List Nat, vs = [vS w] ∧ Steps w ∧ w.length ≤ 10000 ∧ ∀ H', Kp [] H H' → Q (vS (inv w)) H'
def spShort : Sp := fun vs H Q _ => ∃ w : List Nat, vs = [vS w] ∧ Steps w ∧ w.length ≤ 10000 ∧ Q (vS (red w)) H
def codes (l : List Nat) : List V := l.map fun c : Nat => vS [c]
theorem codes_snoc (l : List Nat) (c : Nat) : codes (l ++ [c]) = codes l ++ [vS [c]] := by
  unfold codes
  rw [List.map_append]
  rfl
def codesD (l : List Nat) : List PyData := l.map fun c : Nat => .str (S [c])
theorem codes_dp {K : PySem.W.Frag} {H : Hp} : ∀ l : List Nat, DpAll K H (codes l) (codesD l)
  | [] => .nil
  | c :: l => .cons (.str _) (codes_dp l)
theorem step_small {c : Nat} (h : IsStep c) : c < 0x110000 := by
  rcases isStep_cases h with rfl | rfl | rfl | rfl | rfl | rfl | rfl | rfl <;> decide
theorem strOk_steps {w : List Nat} (h : Steps w) : PyData.strOk (S w) = true := by
  unfold PyData.strOk
  rw [Array.all_eq_true']
  intro c hc
  have m : c ∈ w := by simpa using hc
  exact decide_eq_true (step_small (h c m))
theorem codes_lay {l : List Nat} (h : Steps l) : Lay 1 (.list (codesD l)) := by
  refine Lay.lst (n := 0) fun d hd => ?_
  obtain ⟨c, hc, rfl⟩ := List.mem_map.mp hd
  exact Lay.str 0 (strOk_steps fun x hx => by rw [List.mem_singleton.mp hx]; exact h c hc)
theorem codesD_empty (l : List Nat) : (codesD l).isEmpty = l.isEmpty := by cases l <;> rfl
theorem joinL_one : ∀ l : List Nat, TL.joinL [] (l.map fun c => [c]) = l
  | [] => rfl
  | [c] => rfl
  | c :: d :: l => by
    show [c] ++ ([] ++ TL.joinL [] ((d :: l).map fun c => [c])) = _
    rw [joinL_one (d :: l)]
    rfl
theorem join_codes (l : List Nat) : Txt.join (S []) ((l.map fun c => [c]).map S) = S l := by rw [SX.join_S, joinL_one]
theorem codes_map (l : List Nat) : codes l = ((l.map fun c => [c]).map S).map V.str := by
  unfold codes
  rw [List.map_map, List.map_map]
  rfl
theorem codes_sum (l : List Nat) : (((l.map fun c => [c]).map S).map (·.length)).sum = l.length := by
  induction l with
  | nil => rfl
  | cons c l ih =>
    simp only [List.map_cons, List.sum_cons, List.length_cons] at ih ⊢
    rw [ih]
    show 1 + l.length = l.length + 1
    omega
theorem empty_S : ("" : Str) = S [] := by decide +kernel
/-- one step on the reversed stack -/
def lstep (l : List Nat) (c : Nat) : List Nat := if l.getLast? = some (bk c) then l.dropLast else l ++ [c]
theorem lstep_nil (c : Nat) : lstep [] c = [c] := rfl
theorem lstep_pos (m : List Nat) {x c : Nat} (e : x = bk c) : lstep (m ++ [x]) c = m := by
  unfold lstep
  rw [if_pos (by rw [List.getLast?_concat, e]), List.dropLast_concat]
theorem lstep_neg (m : List Nat) {x c : Nat} (e : ¬ x = bk c) : lstep (m ++ [x]) c = m ++ [x] ++ [c] := by
  unfold lstep
  rw [if_neg (by rw [List.getLast?_concat]; exact fun z => e (Option.some.inj z))]
theorem rstep_rev {st : List Nat} {c : Nat} : (rstep st c).reverse = lstep st.reverse c := by
  cases st with
  | nil => rfl
  | cons x r =>
    rw [List.reverse_cons]
    by_cases e : x = bk c
    · rw [rstep_pos e, lstep_pos _ e]
    · rw [rstep_neg e, lstep_neg _ e, List.reverse_cons, List.reverse_cons]
theorem rs_snoc (st u : List Nat) (c : Nat) : rs st (u ++ [c]) = rstep (rs st u) c := by
  rw [rs_append]
  rfl
theorem take_snoc {α : Type} {w : List α} {i : Nat} {c : α} (h : w[i]? = some c) : w.take (i + 1) = w.take i ++ [c] := by
  rw [List.take_add_one, h]
  rfl
theorem steps_rs {w : List Nat} (h : Steps w) : Steps (rs [] w).reverse := fun c hc => by
  rcases mem_rs (List.mem_reverse.mp hc) with z | z
  · cases z
  · exact h c z
theorem rs_len0 (w : List Nat) : (rs [] w).reverse.length ≤ w.length := by
  rw [List.length_reverse]
  have := rs_length [] w
  simpa using this
theorem steps_take {w : List Nat} (h : Steps w) (i : Nat) : Steps (w.take i) := fun c hc => h c (List.mem_of_mem_take hc)
theorem strne_nil (l : List Nat) : (!decide (vS l = .str ("" : Str))) = !l.isEmpty := by
  rw [empty_S]
  cases l with
  | nil => rfl
  | cons c l =>
    have z : decide (vS (c :: l) = .str (S [])) = false := decide_eq_false (fun e => by have := S_inj (V.str.inj e); cases this)
    rw [z]
    rfl
theorem one_eq (a b : Nat) : decide (vS [a] = vS [b]) = decide (a = b) := by
  by_cases e : a = b
  · rw [e, decide_eq_true rfl, decide_eq_true rfl]
  · rw [decide_eq_false e, decide_eq_false (fun z => e (List.cons.inj (S_inj (V.str.inj z))).1)]
section
variable {P : Program} {w : World} {K : PySem.W.Frag} {mg : Str → Option Value} {base : Heap} {f CF CS : Addr} {fd : FuncData}
abbrev N_is_integer : List Str := ["value"]
theorem sc_is_integer : FnScope N_is_integer ["value"] WHead.d_is_integer.scope := ⟨rfl, rfl, rfl, by decide +kernel, rfl, by decide +kernel, by decide +kernel⟩
theorem ok_is_integer (F : FnD K WHead.d_is_integer f fd) (T : Txt K mg CF CS) : FnOk P w K mg base C8.CX0 1 f fd ["value"] spInt := by
  refine F.ok sc_is_integer (fun vs H Q E h => ?_) (fun cdv A outer s H vs Q E hr h => ?_)
  · obtain ⟨i, rfl, _⟩ := h
    rfl
  · obtain ⟨i, rfl, k⟩ := h
    refine ⟨_, PSs.nox ((pss_one (ps_ret (pe_and (pe_callB call_isi (by rfl) T.f_isinstance (by decide +kernel) (pa_cons (pv 0) (pa_cons (pe_bltn (v := .ty "int") rfl T.f_int (by decide +kernel) rfl) pa_nil))) (pe_one (pe_not (pe_callB call_isi (by rfl) T.f_isinstance (by decide +kernel) (pa_cons (pv 0) (pa_cons (pe_bltn (v := .ty "bool") rfl T.f_bool (by decide +kernel) rfl) pa_nil))))))))), ?_⟩
    exact ⟨_, rfl, _, _, _, _, _, rfl, .ty "int", .base (.int i), kit_ty (by decide +kernel), _, rfl, ifT rfl ⟨_, rfl, _, _, _, _, _, rfl, .ty "bool", .base (.int i), kit_ty (r := false) (by decide +kernel), _, rfl, k⟩⟩
abbrev N_law_is_integer : List Str := ["_law_value_here"]
theorem sc_law_is_integer : FnScope N_law_is_integer ["_law_value_here"] WHead.d_law_is_integer.scope := ⟨rfl, rfl, rfl, by decide +kernel, rfl, by decide +kernel, by decide +kernel⟩
theorem ok_law_is_integer (F : FnD K WHead.d_law_is_integer f fd) (T : Txt K mg CF CS) : FnOk P w K mg base C8.CX0 1 f fd ["_law_value_here"] spInt := by
  refine F.ok sc_law_is_integer (fun vs H Q E h => ?_) (fun cdv A outer s H vs Q E hr h => ?_)
  · obtain ⟨i, rfl, _⟩ := h
    rfl
  · obtain ⟨i, rfl, k⟩ := h
    refine ⟨_, PSs.nox ((pss_one (ps_ret (pe_and (pe_callB call_isi (by rfl) T.f_isinstance (by decide +kernel) (pa_cons (pv 0) (pa_cons (pe_bltn (v := .ty "int") rfl T.f_int (by decide +kernel) rfl) pa_nil))) (pe_one (pe_not (pe_callB call_isi (by rfl) T.f_isinstance (by decide +kernel) (pa_cons (pv 0) (pa_cons (pe_bltn (v := .ty "bool") rfl T.f_bool (by decide +kernel) rfl) pa_nil))))))))), ?_⟩
    exact ⟨_, rfl, _, _, _, _, _, rfl, .ty "int", .base (.int i), kit_ty (by decide +kernel), _, rfl, ifT rfl ⟨_, rfl, _, _, _, _, _, rfl, .ty "bool", .base (.int i), kit_ty (r := false) (by decide +kernel), _, rfl, k⟩⟩
abbrev N_is_path : List Str := ["value", "step"]
theorem sc_is_path : FnScope N_is_path ["value"] WHead.d_is_path.scope := ⟨rfl, rfl, rfl, by decide +kernel, rfl, by decide +kernel, by decide +kernel⟩
theorem ok_is_path (F : FnD K WHead.d_is_path f fd) (T : Txt K mg CF CS) : FnOk P w K mg base C8.CX0 1 f fd ["value"] spIsPath := by
  refine F.ok sc_is_path (fun vs H Q E h => ?_) (fun cdv A outer s H vs Q E hr h => ?_)
  · obtain ⟨w, rfl, _⟩ := h
    rfl
  · obtain ⟨w, rfl, sw, wl, k⟩ := h
    have sz : sizeLine = 16777216 := sizeLine_eq
    refine ⟨_, PSs.nox ((pss_one (ps_ret (pe_and (pe_callB call_isi (by rfl) T.f_isinstance (by decide +kernel) (pa_cons (pv 0) (pa_cons (pe_bltn (v := .ty "str") rfl T.f_str (by decide +kernel) rfl) pa_nil))) (pe_and (pe_cmpR op_le (pe_callB call_len (by rfl) T.f_len PySem.boot_len (pa_cons (pv 0) pa_nil)) (C8.pe_gc rfl T.g_MAX_STEPS) (nomark _)) (pe_one (pe_callB (cr_all rfl) (by rfl) T.f_all (by decide +kernel) (pa_cons (pe_lc (own := [("step", 1)]) (g := (gName 1)) (tt := tYes) rfl sc_is_path.nd (pi_str (pv 0)) (blkOk_by (N := N_is_path) (sc := WHead.d_is_path.scope) (by decide +kernel)) (fun _ _ _ _ _ => (pg_name (i := 1) sc_is_path.nd rfl (Or.inl rfl))) (fun _ _ _ _ _ => pts_nil) (fun _ _ _ _ _ => (pe_cmpR op_in_sign (pv 1) (C8.pe_gc rfl T.g_STEPS) rfl))) pa_nil)))))))), ?_⟩
    refine ⟨_, rfl, _, _, _, _, _, rfl, .ty "str", .base (.str _), kit_ty (r := true) (by decide +kernel), _, rfl, ifT rfl ?_⟩
    refine ⟨_, rfl, _, w.length, rfl, ⟨by rw [S_len, sz]; omega, by rw [S_len]⟩, _, _, rfl, rfl, _, rfl, ifT (decide_eq_true (by omega)) ?_⟩
    refine ⟨_, rfl, _, rfl, fun D hD => lc_it walk_str (fun i H5 => H5 = upd H D (.lst ((List.replicate i true).map V.bl))) rfl (fun _ _ _ _ => trivial) ?_ ?_⟩
    · rintro i v H5 H6 hi e ⟨rfl, c, hc, rfl⟩
      rw [tl_at] at hc
      rw [tl_size] at hi
      refine ⟨rfl, tYes_if ⟨_, rfl, c, _, rfl, rfl, ?_⟩⟩
      have cs := sw c (List.mem_of_getElem? hc)
      have m : decide (c ∈ ("aAbBcCdD" : Str).cps.toList) = true := by
        rcases isStep_cases cs with rfl | rfl | rfl | rfl | rfl | rfl | rfl | rfl <;> decide +kernel
      rw [m]
      refine ⟨_, by rw [e]; exact upd_same, by rw [List.length_map, List.length_replicate, sz]; omega, ?_⟩
      rw [e, upd_upd, List.replicate_succ', List.map_append]
      rfl
    · intro H5 e
      refine ⟨D, _, rfl, by rw [e]; exact SqL.of upd_same, ?_⟩
      have al : ((List.replicate (S w).cps.size true).all id) = true := by simp
      rw [al]
      exact k _ (by rw [e]; exact Kp.new hD)
abbrev N_require_path : List Str := ["value"]
theorem sc_require_path : FnScope N_require_path ["value"] WHead.d_require_path.scope := ⟨rfl, rfl, rfl, by decide +kernel, rfl, by decide +kernel, by decide +kernel⟩
theorem ok_require_path (F : FnD K WHead.d_require_path f fd) (T : Txt K mg CF CS) (c_is_path : CalE P w K mg base 1 "is_path" spIsPath) : FnOk P w K mg base C8.CX0 2 f fd ["value"] spReqPath := by
  refine F.ok sc_require_path (fun vs H Q E h => ?_) (fun cdv A outer s H vs Q E hr h => ?_)
  · obtain ⟨w, rfl, _⟩ := h
    rfl
  · obtain ⟨w, rfl, sw, wl, k⟩ := h
    refine ⟨_, PSs.nox ((pss_one (ps_if (pt_not (pt_val (C8.pe_c c_is_path hr (by decide) (by rfl) (pa_cons (pv 0) pa_nil)))) (pss_one ps_never) pss_nil))), ?_⟩
    exact ⟨_, rfl, w, rfl, sw, wl, fun H1 k1 => ⟨_, rfl, ifF rfl (k _ k1)⟩⟩
abbrev N_reduce_all : List Str := ["parts", "kept", "part", "step"]
theorem sc_reduce_all : FnScope N_reduce_all ["parts"] WHead.d_reduce_all.scope := ⟨rfl, rfl, rfl, by decide +kernel, rfl, by decide +kernel, by decide +kernel⟩
theorem ok_reduce_all (F : FnD K WHead.d_reduce_all f fd) (T : Txt K mg CF CS) : FnOk P w K mg base C8.CX0 1 f fd ["parts"] (spRedAll K) := by
  refine F.ok sc_reduce_all (fun vs H Q E h => ?_) (fun cdv A outer s H vs Q E hr h => ?_)
  · obtain ⟨L, w, rfl, _⟩ := h
    rfl
  · obtain ⟨L, w, rfl, hL, sw, wl, k⟩ := h
    have sz : sizeLine = 16777216 := sizeLine_eq
    refine ⟨_, PSs.nox ((pss_cons (ps_set (i := 1) sc_reduce_all.nd rfl (Or.inl rfl) (pe_lst pa_nil))
      (pss_cons (ps_for PassesOwn.never rfl (pi_list (pv 0)) (pg_name (i := 2) sc_reduce_all.nd rfl (Or.inl rfl)) (pss_one (ps_for PassesOwn.never rfl (pi_str (pv 2)) (pg_name (i := 3) sc_reduce_all.nd rfl (Or.inl rfl)) (pss_one (ps_if (PW.pt (pw_and (pt_cmpR (op_neD hr.units) (pv 1) (pe_lst pa_nil) (nomark _)) (pw_and1 (pt_cmpR op_eq (pe_ix ix_list (pv 1) (pe_un un_neg pe_int) (fun _ _ => rfl)) (pe_swap (pv 3)) (nomark _))))) (pss_one (ps_expr (pe_bm0 PySem.F.plainAttrs_list PySem.F.slot_list_pop PySem.F.type_list_pop mt_pop (pv 1)))) (pss_one (ps_expr (pe_bm PySem.F.plainAttrs_list PySem.F.slot_list_append PySem.F.type_list_append mt_append (pv 1) (pa_cons (pv 3) pa_nil)))))))))
      (pss_one (ps_ret (pe_join pe_str (pv 1))))))), ?_⟩
    refine ⟨by rw [sz]; exact Nat.zero_le _, fun D hD => ?_⟩
    have k1 : Kp [] H (upd H D (.lst [])) := Kp.new hD
    refine ⟨_, rfl, L, rfl, ⟨_, k1.sql List.not_mem_nil hL⟩, for_it (walk_list (K := K) (a := L) (xs := [vS w])) (fun i σ H1 => ∃ o2 o3 : Option V, σ = [some (.ref L), some (.ref D), o2, o3] ∧ Kp [] H H1 ∧ (i = 0 → H1 D = some (.lst [])) ∧ (i = 1 → H1 D = some (.lst (codes (rs [] w).reverse))))
      ⟨none, none, rfl, k1, fun _ => upd_same, fun z => by cases z⟩ (fun i σ H1 _ h => h.choose_spec.choose_spec.2.1.sql List.not_mem_nil hL) ?_ ?_⟩
    · rintro i v σ H1 H2 hi ⟨o2, o3, rfl, k2, h0, _⟩ ⟨rfl, hv⟩
      have i0 : i = 0 := by
        have z : i < 1 := hi
        omega
      subst i0
      have hv' : some (vS w) = some v := hv
      obtain rfl := Option.some.inj hv'
      -- for step in part
      refine ⟨_, rfl, _, rfl, for_it walk_str (fun j σ H3 => ∃ o3 : Option V, σ = [some (.ref L), some (.ref D), some (vS w), o3] ∧ Kp [] H H3 ∧ H3 D = some (.lst (codes (rs [] (w.take j)).reverse)) ∧ j ≤ w.length)
        ⟨o3, rfl, k2, h0 rfl, Nat.zero_le _⟩ (fun _ _ _ _ _ => trivial) ?_ ?_⟩
      · rintro j v σ H3 H4 hj ⟨o3, rfl, k3, hD3, jl⟩ ⟨rfl, c, hc, rfl⟩
        rw [tl_at] at hc
        have jl' : j < w.length := (List.getElem?_eq_some_iff.mp hc).1
        have cs := sw c (List.mem_of_getElem? hc)
        rw [take_snoc hc, rs_snoc, rstep_rev]
        have ss := steps_rs (steps_take sw j)
        have ll := rs_len0 (w.take j)
        rw [List.length_take] at ll
        generalize (rs [] (w.take j)).reverse = l at *
        -- kept != [] and kept[-1] == step.swapcase()
        refine ⟨_, rfl, by rw [sz]; exact Nat.zero_le _, fun D2 hD2 => ⟨.list (codesD l), .list [], ?_, .lst (SqL.of upd_same) .nil, (codes_lay ss).shaped (by decide), lay_nil.shaped (by decide), _, rfl, ?_⟩⟩
        · exact .lst (SqL.of (by rw [upd_ne (ne_of_none hD3 hD2)]; exact hD3)) (codes_dp l)
        have k4 : Kp [] H (upd H4 D2 (.lst [])) := k3.trans (Kp.new hD2)
        have hD4 : (upd H4 D2 (.lst [])) D = some (.lst (codes l)) := by rw [upd_ne (ne_of_none hD3 hD2)]; exact hD3
        generalize upd H4 D2 (.lst []) = H5 at *
        rw [eqv_nil, codesD_empty]
        rcases List.eq_nil_or_concat l with rfl | ⟨m, x, e⟩
        · refine ifF rfl ?_
          refine ⟨_, rfl, .inl ⟨rfl, _, SqL.of hD4⟩, _, rfl, D, _, _, rfl, rfl, hD4, by rw [sz]; exact Nat.le_of_ble_eq_true rfl, ?_⟩
          refine ⟨_, rfl, k4.mine hD, ?_, jl'⟩
          rw [upd_same, lstep_nil]
          rfl
        · rw [List.concat_eq_append] at e
          subst e
          refine ifT (by cases m <;> rfl) ?_
          refine ⟨_, rfl, _, rfl, D, _, _, _, rfl, rfl, SqL.of hD4, by rw [codes_snoc]; exact atI_last _ _, _, rfl, ⟨_, rfl⟩, c, rfl, rfl, cs, rfl, _, rfl, ?_⟩
          show if decide (vS [x] = vS [bk c]) = true then _ else _
          rw [one_eq]
          by_cases ex : x = bk c
          · refine ifT (decide_eq_true ex) ?_
            refine ⟨_, rfl, .inl ⟨rfl, _, SqL.of hD4⟩, D, _, vS [x], rfl, rfl, hD4, ?_, ?_⟩
            · rw [codes_snoc]
              simp
            · refine ⟨_, rfl, k4.mine hD, ?_, jl'⟩
              rw [upd_same, lstep_pos m ex, codes_snoc, List.dropLast_concat]
          · refine ifF (decide_eq_false ex) ?_
            refine ⟨_, rfl, .inl ⟨rfl, _, SqL.of hD4⟩, _, rfl, D, _, _, rfl, rfl, hD4, ?_, ?_⟩
            · unfold codes
              rw [List.length_map, sz]
              omega
            · refine ⟨_, rfl, k4.mine hD, ?_, jl'⟩
              rw [upd_same, lstep_neg m ex, codes_snoc (m ++ [x]) c]
      · rintro σ H3 ⟨o3, rfl, k3, hD3, jl⟩
        rw [tl_size, List.take_length] at hD3
        exact ⟨_, _, rfl, k3, (fun z => by cases z), fun _ => hD3⟩
    · rintro σ H1 ⟨o2, o3, rfl, k2, _, h1⟩
      have hD1 := h1 rfl
      have ll := rs_len0 w
      refine ⟨⟨_, rfl⟩, _, rfl, _, D, ((rs [] w).reverse.map fun c => [c]).map S, rfl, rfl, .inl (SqL.of (by rw [← codes_map]; exact hD1)), ?_, ?_⟩
      · rw [codes_sum, List.length_map, List.length_map]
        have e : ("" : Str).length = 0 := by decide +kernel
        rw [e]
        omega
      · rw [empty_S, join_codes]
        exact k _ k2
abbrev N_reduced_generator : List Str := ["path", "result"]
theorem sc_reduced_generator : FnScope N_reduced_generator ["path"] WHead.d_reduced_generator.scope := ⟨rfl, rfl, rfl, by decide +kernel, rfl, by decide +kernel, by decide +kernel⟩
theorem ok_reduced_generator (F : FnD K WHead.d_reduced_generator f fd) (T : Txt K mg CF CS) (c_reduce_all : CalE P w K mg base 1 "reduce_all" (spRedAll K)) : FnOk P w K mg base C8.CX0 2 f fd ["path"] spRedGen := by
  refine F.ok sc_reduced_generator (fun vs H Q E h => ?_) (fun cdv A outer s H vs Q E hr h => ?_)
  · obtain ⟨w, rfl, _⟩ := h
    rfl
  · obtain ⟨w, rfl, sw, wl, rl, k⟩ := h
    have sz : sizeLine = 16777216 := sizeLine_eq
    refine ⟨_, PSs.nox ((pss_cons (ps_set (i := 1) sc_reduced_generator.nd rfl (Or.inl rfl) (C8.pe_c c_reduce_all hr (by decide) (by rfl) (pa_cons (pe_lst (pa_cons (pv 0) pa_nil)) pa_nil)))
      (pss_cons (ps_if (pt_cmpR op_gt (pe_callB call_len (by rfl) T.f_len PySem.boot_len (pa_cons (pv 1) pa_nil)) (C8.pe_gc rfl T.g_MAX_GENERATOR_STEPS) (nomark _)) (pss_one ps_never) pss_nil)
      (pss_one (ps_ret (pv 1)))))), ?_⟩
    refine ⟨_, rfl, by rw [sz]; exact Nat.le_of_ble_eq_true rfl, fun D hD => ⟨D, w, rfl, SqL.of upd_same, sw, wl, fun H1 k1 => ?_⟩⟩
    refine ⟨_, rfl, _, (red w).length, rfl, ⟨by rw [S_len, sz]; omega, by rw [S_len]⟩, _, _, rfl, rfl, _, rfl, ifF (decide_eq_false (by omega)) ?_⟩
    exact ⟨_, rfl, k _ ((Kp.new hD).trans k1)⟩
abbrev N_law_back : List Str := ["_law_step"]
theorem sc_law_back : FnScope N_law_back ["_law_step"] WHead.d_law_back.scope := ⟨rfl, rfl, rfl, by decide +kernel, rfl, by decide +kernel, by decide +kernel⟩
theorem ok_law_back (F : FnD K WHead.d_law_back f fd) (T : Txt K mg CF CS) : FnOk P w K mg base C8.CX0 1 f fd ["_law_step"] spBack := by
  refine F.ok sc_law_back (fun vs H Q E h => ?_) (fun cdv A outer s H vs Q E hr h => ?_)
  · obtain ⟨c, rfl, _⟩ := h
    rfl
  · obtain ⟨c, rfl, hc, k⟩ := h
    refine ⟨_, PSs.nox ((pss_one (ps_ret (pe_ix ix_str pe_str (pe_op op_xor (pe_bm PySem.F.plainAttrs_str PySem.F.slot_str_index PySem.F.type_str_index mt_sindex pe_str (pa_cons (pv 0) pa_nil)) pe_int) (fun _ _ => rfl))))), ?_⟩
    have h8 : ∃ (i j : Nat) (rest : List Nat), Builtin.Str.occurrences ("aAbBcCdD" : Str) (S [c]) 0 ("aAbBcCdD" : Str).length 1 = i :: rest ∧ Builtin.bitXor (i : Int) 1 = (j : Int) ∧ ("aAbBcCdD" : Str).cps.toList[j]? = some (bk c) := by
      rcases isStep_cases hc with rfl | rfl | rfl | rfl | rfl | rfl | rfl | rfl
      · exact ⟨0, 1, [], by decide +kernel, by decide +kernel, by decide +kernel⟩
      · exact ⟨1, 0, [], by decide +kernel, by decide +kernel, by decide +kernel⟩
      · exact ⟨2, 3, [], by decide +kernel, by decide +kernel, by decide +kernel⟩
      · exact ⟨3, 2, [], by decide +kernel, by decide +kernel, by decide +kernel⟩
      · exact ⟨4, 5, [], by decide +kernel, by decide +kernel, by decide +kernel⟩
      · exact ⟨5, 4, [], by decide +kernel, by decide +kernel, by decide +kernel⟩
      · exact ⟨6, 7, [], by decide +kernel, by decide +kernel, by decide +kernel⟩
      · exact ⟨7, 6, [], by decide +kernel, by decide +kernel, by decide +kernel⟩
    obtain ⟨i, j, rest, e1, e2, e3⟩ := h8
    refine ⟨rfl, _, rfl, _, _, i, rest, rfl, rfl, e1, _, _, rfl, rfl, _, _, bk c, rfl, rfl, by decide +kernel, ?_, k⟩
    rw [e2]
    exact atI_nat e3
abbrev N_law_reversed : List Str := ["_law_path_here", "_law_step"]
theorem sc_law_reversed : FnScope N_law_reversed ["_law_path_here"] WHead.d_law_reversed.scope := ⟨rfl, rfl, rfl, by decide +kernel, rfl, by decide +kernel, by decide +kernel⟩
theorem ok_law_reversed (F : FnD K WHead.d_law_reversed f fd) (T : Txt K mg CF CS) (c_law_back : CalE P w K mg base 1 "_law_back" spBack) : FnOk P w K mg base C8.CX0 2 f fd ["_law_path_here"] spRev := by
  refine F.ok sc_law_reversed (fun vs H Q E h => ?_) (fun cdv A outer s H vs Q E hr h => ?_)
  · obtain ⟨w, rfl, _⟩ := h
    rfl
  · obtain ⟨w, rfl, sw, wl, k⟩ := h
    have sz : sizeLine = 16777216 := sizeLine_eq
    refine ⟨_, PSs.nox ((pss_one (ps_ret (pe_join pe_str (pe_lc (own := [("_law_step", 1)]) (g := (gName 1)) (tt := tYes) rfl sc_law_reversed.nd (pi_str (pe_revS (pv 0))) (blkOk_by (N := N_law_reversed) (sc := WHead.d_law_reversed.scope) (by decide +kernel)) (fun _ _ _ _ _ => (pg_name (i := 1) sc_law_reversed.nd rfl (Or.inl rfl))) (fun _ _ _ _ _ => pts_nil) (fun _ _ _ _ _ => (C8.pe_c c_law_back hr (by decide) (by rfl) (pa_cons (pv 1) pa_nil)))))))), ?_⟩
    refine ⟨⟨_, rfl⟩, _, rfl, w, rfl, by omega, _, rfl, fun D hD => lc_it walk_str (fun i H5 => H5 = upd H D (.lst (codes ((w.reverse.map bk).take i)))) rfl (fun _ _ _ _ => trivial) ?_ ?_⟩
    · rintro i v H5 H6 hi e ⟨rfl, c, hc, rfl⟩
      rw [tl_at] at hc
      rw [tl_size, List.length_reverse] at hi
      have cs := sw c (List.mem_reverse.mp (List.mem_of_getElem? hc))
      refine ⟨rfl, tYes_if ⟨_, rfl, c, rfl, cs, ?_⟩⟩
      refine ⟨_, by rw [e]; exact upd_same, ?_, ?_⟩
      · unfold codes
        rw [List.length_map, List.length_take, sz]
        omega
      · have e2 : (w.reverse.map bk)[i]? = some (bk c) := by rw [List.getElem?_map, hc]; rfl
        rw [e, upd_upd, take_snoc e2, codes_snoc]
    · intro H5 e
      have tl : (w.reverse.map bk).take (S w.reverse).cps.size = inv w := by
        rw [tl_size]
        have z : (w.reverse.map bk).take w.reverse.length = w.reverse.map bk := List.take_of_length_le (by rw [List.length_map]; exact Nat.le_refl _)
        rw [z]
        unfold inv
        rw [List.map_reverse]
      rw [tl] at e
      refine ⟨_, D, ((inv w).map fun c => [c]).map S, rfl, rfl, .inl (SqL.of (by rw [← codes_map, e]; exact upd_same)), ?_, ?_⟩
      · rw [codes_sum, List.length_map, List.length_map, inv_length]
        have e : ("" : Str).length = 0 := by decide +kernel
        rw [e]
        omega
      · rw [empty_S, join_codes]
        exact k _ (by rw [e]; exact Kp.new hD)
abbrev N_law_short : List Str := ["_law_path_here", "_law_result", "_law_step"]
theorem sc_law_short : FnScope N_law_short ["_law_path_here"] WHead.d_law_short.scope := ⟨rfl, rfl, rfl, by decide +kernel, rfl, by decide +kernel, by decide +kernel⟩
theorem ok_law_short (F : FnD K WHead.d_law_short f fd) (T : Txt K mg CF CS) (c_law_back : CalE P w K mg base 1 "_law_back" spBack) : FnOk P w K mg base C8.CX0 2 f fd ["_law_path_here"] spShort := by
  refine F.ok sc_law_short (fun vs H Q E h => ?_) (fun cdv A outer s H vs Q E hr h => ?_)
  · obtain ⟨w, rfl, _⟩ := h
    rfl
  · obtain ⟨w, rfl, sw, wl, k⟩ := h
    have sz : sizeLine = 16777216 := sizeLine_eq
    refine ⟨_, PSs.nox ((pss_cons (ps_set (i := 1) sc_law_short.nd rfl (Or.inl rfl) pe_str)
      (pss_cons (ps_for PassesOwn.never rfl (pi_str (pv 0)) (pg_name (i := 2) sc_law_short.nd rfl (Or.inl rfl)) (pss_one (ps_if (PW.pt (pw_and (pt_cmpR op_ne (pv 1) pe_str (nomark _)) (pw_and1 (pt_cmpR op_eq (pe_ix ix_str (pv 1) (pe_un un_neg pe_int) (fun _ _ => rfl)) (C8.pe_c c_law_back hr (by decide) (by rfl) (pa_cons (pv 2) pa_nil)) (nomark _))))) (pss_one (ps_set (i := 1) sc_law_short.nd rfl (Or.inl rfl) (pe_slice C8.sl_txt (pv 1) po_none (po_some (pe_un un_neg pe_int))))) (pss_one (ps_set (i := 1) sc_law_short.nd rfl (Or.inl rfl) (pe_op op_add_str (pv 1) (pv 2)))))))
      (pss_one (ps_ret (pv 1)))))), ?_⟩
    refine ⟨_, rfl, _, rfl, for_it walk_str (fun j σ H3 => ∃ o2 : Option V, σ = [some (vS w), some (vS (rs [] (w.take j)).reverse), o2] ∧ H3 = H ∧ j ≤ w.length)
      ⟨none, by rw [empty_S]; rfl, rfl, Nat.zero_le _⟩ (fun _ _ _ _ _ => trivial) ?_ ?_⟩
    · rintro j v σ H3 H4 hj ⟨o3, rfl, rfl, jl⟩ ⟨rfl, c, hc, rfl⟩
      rw [tl_at] at hc
      have jl' : j < w.length := (List.getElem?_eq_some_iff.mp hc).1
      have cs := sw c (List.mem_of_getElem? hc)
      rw [take_snoc hc, rs_snoc, rstep_rev]
      have ll := rs_len0 (w.take j)
      rw [List.length_take] at ll
      generalize (rs [] (w.take j)).reverse = l at *
      -- result != '' and result[-1] == back(step)
      refine ⟨_, rfl, rfl, _, rfl, ?_⟩
      rw [strne_nil]
      rcases List.eq_nil_or_concat l with rfl | ⟨m, x, e⟩
      · refine ifF rfl ?_
        refine ⟨_, rfl, _, rfl, _, _, rfl, rfl, by rw [S_len, S_len, sz]; simp, ?_⟩
        refine ⟨some (vS [c]), ?_, rfl, jl'⟩
        rw [lstep_nil, S_cat]
        rfl
      · rw [List.concat_eq_append] at e
        subst e
        rw [List.length_append] at ll
        refine ifT (by cases m <;> rfl) ?_
        refine ⟨_, rfl, _, rfl, _, _, x, rfl, rfl, by rw [S_len, List.length_append, sz]; omega, by show atI (m ++ [x]) (-1) = some x; exact atI_last _ _, _, rfl, c, rfl, cs, rfl, _, rfl, ?_⟩
        show if decide (vS [x] = vS [bk c]) = true then _ else _
        rw [one_eq]
        by_cases ex : x = bk c
        · refine ifT (decide_eq_true ex) ?_
          refine ⟨_, rfl, _, rfl, _, rfl, _, rfl, by rw [S_len, List.length_append, sz]; omega, ?_⟩
          refine ⟨some (vS [c]), ?_, rfl, jl'⟩
          rw [lstep_pos m ex, SX.butlast_snoc m x]
          rfl
        · refine ifF (decide_eq_false ex) ?_
          refine ⟨_, rfl, _, rfl, _, _, rfl, rfl, by rw [S_len, S_len, List.length_append, sz]; simp at ll ⊢; omega, ?_⟩
          refine ⟨some (vS [c]), ?_, rfl, jl'⟩
          rw [lstep_neg m ex, S_cat]
          rfl
    · rintro σ H3 ⟨o2, rfl, rfl, _⟩
      rw [tl_size, List.take_length]
      exact ⟨_, rfl, k⟩
end
end WK
end Text_WW10
section Text_WW11
set_option Elab.async false
set_option linter.all false
set_option maxRecDepth 100000
set_option maxHeartbeats 4000000
/-! WW11: the law's graph. -/
namespace WK
open PySem PySem.Spec L2 SX
open PyProof.Rows hiding St

def edT (e : Ed) : List V := [vS [e.1], .int e.2.1, .int e.2.2]
def kvT (T : TTab) : List (List L2.Key × V) := T.map fun p => (keyT p.1, V.int (p.2 : Int))
theorem kvT_len (T : TTab) : (kvT T).length = T.length := List.length_map _
theorem kvT_val (T : TTab) (k : Nat × Nat) : valV (kvT T) (keyT k) = (gt T k).map fun v : Nat => V.int (v : Int) := by
  induction T with
  | nil => rfl
  | cons p r ih =>
    show valV ((keyT p.1, V.int (p.2 : Int)) :: kvT r) _ = _
    by_cases e : p.1 = k
    · rw [valV_pos (by rw [e]), gt_pos e]
      rfl
    · rw [valV_neg (fun z => e (keyT_inj _ _ z)), gt_neg e, ih]
theorem kvT_put (T : TTab) (k : Nat × Nat) (v : Nat) : putK (kvT T) (keyT k) (.int (v : Int)) = kvT (pt T k v) := by
  unfold putK pt
  rw [valV_any, kvT_val, Option.isSome_map]
  by_cases h : (gt T k).isSome = true
  · rw [if_pos h, if_pos h]
    unfold kvT
    rw [List.map_map, List.map_map]
    apply List.map_congr_left
    intro p _
    show (if keyT p.1 = keyT k then (keyT p.1, V.int (v : Int)) else (keyT p.1, V.int (p.2 : Int))) = (keyT (if p.1 = k then (p.1, v) else p).1, V.int ((if p.1 = k then (p.1, v) else p).2 : Int))
    by_cases e : p.1 = k
    · rw [if_pos (by rw [e]), if_pos e]
    · rw [if_neg (fun z => e (keyT_inj _ _ z)), if_neg e]
  · rw [if_neg h, if_neg h]
    unfold kvT
    rw [List.map_append]
    rfl
def optV : Option Nat → V
  | none => .non
  | some n => .int n
theorem kvT_get (T : TTab) (k : Nat × Nat) : (valV (kvT T) (keyT k)).getD .non = optV (gt T k) := by
  rw [kvT_val]
  cases gt T k <;> rfl
theorem kvT_get2 (T : TTab) (k : Nat × Nat) (v : Nat) : (valV (kvT T) (keyT k)).getD (.int (v : Int)) = .int (known T k v : Nat) := by
  rw [kvT_val]
  unfold known
  cases gt T k <;> rfl
theorem min_int (a b : Nat) : (if (b : Int) < (a : Int) then (b : Int) else (a : Int)) = ((min a b : Nat) : Int) := by
  rcases Nat.lt_or_ge b a with h | h
  · rw [if_pos (by omega), Nat.min_eq_right (by omega)]
  · rw [if_neg (by omega), Nat.min_eq_left h]
theorem max_int (a b : Nat) : (if (b : Int) > (a : Int) then (b : Int) else (a : Int)) = ((max a b : Nat) : Int) := by
  rcases Nat.lt_or_ge a b with h | h
  · rw [if_pos (by omega), Nat.max_eq_right (by omega)]
  · rw [if_neg (by omega), Nat.max_eq_left h]
def pairD (H : Hp) : Option (Nat × Nat) → V → Prop
  | none, v => v = .non
  | some pr, v => ∃ q, v = .ref q ∧ H q = some (.lst [.int (pr.1 : Int), .int (pr.2 : Int)])
def spInitial (K : PySem.W.Frag) : Sp := fun vs H Q _ => ∃ (L : Addr) (ps : List (List Nat)), vs = [.ref L] ∧ SqL K H L (ps.map vS) ∧ (∀ p ∈ ps, Steps p) ∧ total ps ≤ 10000 ∧
  ∀ H' b, Kp [] H H' → H b = none → LstT edT H' b (initial (ps.map red) 1) → Q (.ref b) H'
def spConflict : Sp := fun vs H Q _ => ∃ (l : Addr) (es : List Ed), vs = [.ref l] ∧ LstT edT H l es ∧ (∀ e ∈ es, IsStep e.1) ∧ es.length ≤ 10000 ∧
  ∀ H' b d v, Kp [] H H' → H b = none → H d = none → H' b = some (.tup [.ref d, v]) → H' d = some (.dT (kvT (conf [] es).1)) → pairD H' (conf [] es).2 v → Q (.ref b) H'
def spMerged : Sp := fun vs H Q _ => ∃ (t q : Addr) (e : Ed) (pr : Nat × Nat), vs = [.ref t, .ref q] ∧ H t = some (.tup (edT e)) ∧ H q = some (.lst [.int (pr.1 : Int), .int (pr.2 : Int)]) ∧
  ∀ H' b, Kp [] H H' → H b = none → H' b = some (.tup (edT (mergedE pr e))) → Q (.ref b) H'
def spFolded (K : PySem.W.Frag) : Sp := fun vs H Q _ => ∃ (L : Addr) (ps : List (List Nat)), vs = [.ref L] ∧ SqL K H L (ps.map vS) ∧ (∀ p ∈ ps, Steps p) ∧ total ps ≤ 10000 ∧
  ∀ H' d, Kp [] H H' → H d = none → H' d = some (.dT (kvT (lawT (ps.map red)))) → Q (.ref d) H'
def spEnd : Sp := fun vs H Q _ => ∃ (d : Addr) (T : TTab) (w : List Nat) (n : Nat), vs = [.ref d, vS w, .int n] ∧ H d = some (.dT (kvT T)) ∧ ∀ H', Kp [] H H' → Q (optV (run (gT T) n w)) H'
theorem nat_eq (a b : Nat) : decide (V.int (a : Int) = V.int (b : Int)) = decide (a = b) := by
  by_cases e : a = b
  · rw [decide_eq_true e, op_eq_nat e]
  · rw [decide_eq_false e, op_ne_nat e]
theorem total_mem {ps : List (List Nat)} {p : List Nat} (h : p ∈ ps) : p.length ≤ total ps := by
  induction ps with
  | nil => cases h
  | cons q r ih =>
    unfold total at ih ⊢
    rw [List.map_cons, List.sum_cons]
    rcases List.mem_cons.mp h with rfl | h
    · omega
    · have := ih h
      omega
theorem conf_cons (T : TTab) (e : Ed) (r : List Ed) : conf T (e :: r) =
    (if known T (e.2.1, e.1) e.2.2 ≠ e.2.2 then (T, some (min (known T (e.2.1, e.1) e.2.2) e.2.2, max (known T (e.2.1, e.1) e.2.2) e.2.2))
    else if known (pt T (e.2.1, e.1) e.2.2) (e.2.2, bk e.1) e.2.1 ≠ e.2.1 then (pt T (e.2.1, e.1) e.2.2, some (min (known (pt T (e.2.1, e.1) e.2.2) (e.2.2, bk e.1) e.2.1) e.2.1, max (known (pt T (e.2.1, e.1) e.2.2) (e.2.2, bk e.1) e.2.1) e.2.1))
    else conf (pt (pt T (e.2.1, e.1) e.2.2) (e.2.2, bk e.1) e.2.1) r) := rfl
section
variable {P : Program} {w : World} {K : PySem.W.Frag} {mg : Str → Option Value} {base : Heap} {f CF CS : Addr} {fd : FuncData}
abbrev N_law_end : List Str := ["_law_targets", "_law_path_here", "_law_node", "_law_step"]
theorem sc_law_end : FnScope N_law_end ["_law_targets", "_law_path_here", "_law_node"] WHead.d_law_end.scope := ⟨rfl, rfl, rfl, by decide +kernel, rfl, by decide +kernel, by decide +kernel⟩
theorem ok_law_end (F : FnD K WHead.d_law_end f fd) (T : Txt K mg CF CS) : FnOk P w K mg base C8.CX0 1 f fd ["_law_targets", "_law_path_here", "_law_node"] spEnd := by
  refine F.ok sc_law_end (fun vs H Q E h => ?_) (fun cdv A outer s H vs Q E hr h => ?_)
  · obtain ⟨d, T, w, n, rfl, _⟩ := h
    rfl
  · obtain ⟨d, T2, w, n, rfl, hd, k⟩ := h
    have hu := hu_of hr
    refine ⟨_, PSs.nox ((pss_cons (ps_for PassesOwn.never rfl (pi_str (pv 1)) (pg_name (i := 3) sc_law_end.nd rfl (Or.inl rfl)) (pss_one (ps_if (pt_cmpR op_notN (pv 2) pe_non (nomark _)) (pss_one (ps_set (i := 2) sc_law_end.nd rfl (Or.inl rfl) (pe_dget1 hu (pv 0) (pe_tup (pa_cons (pv 2) (pa_cons (pv 3) pa_nil))) ⟨rfl, rfl, rfl, rfl⟩))) pss_nil)))
      (pss_one (ps_ret (pv 2))))), ?_⟩
    refine ⟨_, rfl, _, rfl, for_it walk_str (fun i σ H1 => ∃ o3 : Option V, σ = [some (.ref d), some (vS w), some (optV (run (gT T2) n (w.take i))), o3] ∧ Kp [] H H1) ⟨none, rfl, Kp.refl _ _⟩ (fun _ _ _ _ _ => trivial) ?_ ?_⟩
    · rintro i v σ H1 H2 hi ⟨o3, rfl, k1⟩ ⟨rfl, c, hc, rfl⟩
      rw [tl_at] at hc
      rw [take_snoc hc, run_append]
      refine ⟨_, rfl, rfl, _, rfl, ?_⟩
      cases hn : run (gT T2) n (w.take i) with
      | none => exact ifF rfl ⟨_, rfl, k1⟩
      | some m =>
        refine ifT rfl ?_
        refine ⟨_, rfl, d, rfl, .inr ⟨_, .inl (k1 _ _ hd List.not_mem_nil)⟩, _, rfl, _, rfl, line2 _ _, fun t ht => ?_⟩
        have k2 : Kp [] H2 (upd H2 t (.tup [.int (m : Int), vS [c]])) := Kp.new ht
        refine ⟨_, DGet.t (k := keyT (m, c)) (k2 _ _ (k1 _ _ hd List.not_mem_nil) List.not_mem_nil) upd_same, ?_⟩
        refine ⟨some (vS [c]), ?_, k1.trans k2⟩
        rw [kvT_get]
        have e : (some m).bind (fun x => run (gT T2) x [c]) = gt T2 (m, c) := by
          show run (gT T2) m [c] = _
          show (gT T2 m c).bind (fun x => run (gT T2) x []) = _
          show (gt T2 (m, c)).bind (fun x => some x) = _
          cases gt T2 (m, c) <;> rfl
        rw [e]
        rfl
    · rintro σ H1 ⟨o3, rfl, k1⟩
      rw [tl_size, List.take_length]
      exact ⟨_, rfl, k _ k1⟩
abbrev N_law_merged : List Str := ["_law_edge", "_law_pair", "_law_ends", "_law_node"]
theorem sc_law_merged : FnScope N_law_merged ["_law_edge", "_law_pair"] WHead.d_law_merged.scope := ⟨rfl, rfl, rfl, by decide +kernel, rfl, by decide +kernel, by decide +kernel⟩
theorem ok_law_merged (F : FnD K WHead.d_law_merged f fd) (T : Txt K mg CF CS) : FnOk P w K mg base C8.CX0 1 f fd ["_law_edge", "_law_pair"] spMerged := by
  refine F.ok sc_law_merged (fun vs H Q E h => ?_) (fun cdv A outer s H vs Q E hr h => ?_)
  · obtain ⟨t, q, e, pr, rfl, _⟩ := h
    rfl
  · obtain ⟨t, q, e, pr, rfl, ht, hq, k⟩ := h
    have sz : sizeLine = 16777216 := sizeLine_eq
    refine ⟨_, PSs.nox ((pss_cons (ps_setLc (i := 2) (own := [("_law_node", 3)]) (g := (gName 3)) (tt := tYes) rfl sc_law_merged.nd rfl rfl (sw_true rfl rfl rfl (by decide +kernel)) (pi_tup (pe_slice sl_tup (pv 0) (po_some pe_int) po_none)) (blkOk_by (N := N_law_merged) (sc := WHead.d_law_merged.scope) (by decide +kernel)) (fun _ _ _ _ _ => (pg_name (i := 3) sc_law_merged.nd rfl (Or.inl rfl))) (fun _ _ _ _ _ => pts_nil) (fun _ _ _ _ _ => (pe_ix (show IxR _ (rIxL K) from ix_list) (pe_lst (pa_cons (pv 3) (pa_cons (pe_ix (show IxR _ (rIxL K) from ix_list) (pv 1) pe_int (fun _ _ => rfl)) pa_nil))) (pe_callTy call_int1 (by rfl) T.f_int (by decide +kernel) (pa_cons (pe_cmpR op_eq (pv 3) (pe_ix (show IxR _ (rIxL K) from ix_list) (pv 1) pe_int (fun _ _ => rfl)) (nomark _)) pa_nil)) (fun _ _ => rfl))))
      (pss_one (ps_ret (pe_tup (pa_cons (pe_ix ix_tup (pv 0) pe_int (fun _ _ => rfl)) (pa_cons (pe_ix ix_list (pv 2) pe_int (fun _ _ => rfl)) (pa_cons (pe_ix ix_list (pv 2) pe_int (fun _ _ => rfl)) pa_nil)))))))), ?_⟩
    refine ⟨_, rfl, _, rfl, t, _, rfl, SqT.of ht, (by show ¬ (HT.sIx 3 0 (some 1) = 0 ∧ HT.sIx 3 3 none = 3); decide +kernel), fun t1 ht1 => ?_⟩
    have cut : cutV (edT e) (some 1) none = [.int (e.2.1 : Int), .int (e.2.2 : Int)] := rfl
    rw [cut]
    have k1 : Kp [] H (upd H t1 (.tup [.int (e.2.1 : Int), .int (e.2.2 : Int)])) := Kp.new ht1
    have ht1' : (upd H t1 (.tup [.int (e.2.1 : Int), .int (e.2.2 : Int)])) t1 = some (.tup [.int (e.2.1 : Int), .int (e.2.2 : Int)]) := upd_same
    generalize upd H t1 (.tup [.int (e.2.1 : Int), .int (e.2.2 : Int)]) = H1 at *
    refine ⟨t1, rfl, ⟨_, SqT.of ht1'⟩, fun D hD => lc_it (walk_tup (K := K) (a := t1) (xs := [.int (e.2.1 : Int), .int (e.2.2 : Int)])) (fun i H5 => Kp [] H1 H5 ∧ H5 D = some (.lst ((nums [mapN pr e.2.1, mapN pr e.2.2]).take i)))
      ⟨Kp.new hD, upd_same⟩ (fun i H5 _ h => SqT.of (h.1 _ _ ht1' List.not_mem_nil)) ?_ ?_⟩
    · rintro i v H5 H6 hi ⟨k5, h5⟩ ⟨rfl, hv⟩
      have hv2 : (nums [e.2.1, e.2.2])[i]? = some v := hv
      obtain ⟨n, hn, rfl⟩ := nums_get hv2
      refine ⟨rfl, tYes_if ?_⟩
      have q5 := k5 _ _ (k1 _ _ hq List.not_mem_nil) List.not_mem_nil
      refine ⟨_, rfl, _, rfl, q, _, _, _, rfl, rfl, SqL.of q5, rfl, line2 _ _, fun L hL => ?_⟩
      have k6 : Kp [] H6 (upd H6 L (.lst [.int (n : Int), .int (pr.1 : Int)])) := Kp.new hL
      have q6 := k6 _ _ q5 List.not_mem_nil
      have h6 := k6 _ _ h5 List.not_mem_nil
      have hL6 : (upd H6 L (.lst [.int (n : Int), .int (pr.1 : Int)])) L = some (.lst [.int (n : Int), .int (pr.1 : Int)]) := upd_same
      generalize upd H6 L (.lst [.int (n : Int), .int (pr.1 : Int)]) = H7 at *
      refine ⟨_, rfl, _, rfl, q, _, _, _, rfl, rfl, SqL.of q6, rfl, rfl, .inr ⟨_, rfl, ?_⟩⟩
      have il : i < 2 := hi
      have hm : (nums [mapN pr e.2.1, mapN pr e.2.2])[i]? = some (.int (mapN pr n : Nat)) := by
        unfold nums
        rw [List.getElem?_map]
        have z : ([e.2.1, e.2.2].map (mapN pr))[i]? = some (mapN pr n) := by rw [List.getElem?_map, hn]; rfl
        have y : [mapN pr e.2.1, mapN pr e.2.2][i]? = some (mapN pr n) := z
        rw [y]
        rfl
      refine ⟨L, _, _, .int (mapN pr n : Nat), rfl, rfl, SqL.of hL6, ?_, _, h6, ?_, ?_, ?_⟩
      · rw [nat_eq]
        unfold mapN
        by_cases en : n = pr.2
        · rw [decide_eq_true en, if_pos en]
          rfl
        · rw [decide_eq_false en, if_neg en]
          rfl
      · rw [List.length_take, sz]
        omega
      · exact (k5.trans k6).mine (by
          cases z : H1 D with
          | none => rfl
          | some o => rw [hD] at z; cases z)
      · rw [upd_same, List.take_add_one, hm]
        rfl
    · rintro H5 ⟨k5, h5⟩
      have k6 := k1.trans k5
      have h5' : H5 D = some (.lst [.int (mapN pr e.2.1 : Nat), .int (mapN pr e.2.2 : Nat)]) := h5
      have t5 := k6 _ _ ht List.not_mem_nil
      refine ⟨_, rfl, t, _, _, _, rfl, rfl, SqT.of t5, rfl, _, rfl, D, _, _, _, rfl, rfl, SqL.of h5', rfl, _, rfl, D, _, _, _, rfl, rfl, SqL.of h5', rfl, line3 _ _ _, fun b hb => ?_⟩
      exact k _ b (k6.trans (Kp.new hb)) (k6.free hb) upd_same
abbrev N_law_conflict : List Str := ["_law_edges", "_law_targets", "_law_letter", "_law_source", "_law_node", "_law_key", "_law_value_here", "_law_known"]
theorem sc_law_conflict : FnScope N_law_conflict ["_law_edges"] WHead.d_law_conflict.scope := ⟨rfl, rfl, rfl, by decide +kernel, rfl, by decide +kernel, by decide +kernel⟩
theorem ok_law_conflict (F : FnD K WHead.d_law_conflict f fd) (T : Txt K mg CF CS) (c_law_back : CalE P w K mg base 1 "_law_back" spBack) : FnOk P w K mg base C8.CX0 2 f fd ["_law_edges"] spConflict := by
  refine F.ok sc_law_conflict (fun vs H Q E h => ?_) (fun cdv A outer s H vs Q E hr h => ?_)
  · obtain ⟨l, es, rfl, _⟩ := h
    rfl
  · obtain ⟨l, es, rfl, hl, hs, few, k⟩ := h
    have hu := hu_of hr
    have sz : sizeLine = 16777216 := sizeLine_eq
    refine ⟨_, PSs.nox ((pss_cons (ps_set (i := 1) sc_law_conflict.nd rfl (Or.inl rfl) pe_dnewT)
      (pss_cons (ps_for PassesOwn.never rfl (pi_list (pv 0)) (pg_tup rfl (pgs_cons (pg_name (i := 2) sc_law_conflict.nd rfl (Or.inl rfl)) (pgs_cons (pg_name (i := 3) sc_law_conflict.nd rfl (Or.inl rfl)) (pgs_cons (pg_name (i := 4) sc_law_conflict.nd rfl (Or.inl rfl)) pgs_nil)))) (pss_one (ps_for PassesOwn.never rfl (pi_list (pe_lst (pa_cons (pe_tup (pa_cons (pe_tup (pa_cons (pv 3) (pa_cons (pv 2) pa_nil))) (pa_cons (pv 4) pa_nil))) (pa_cons (pe_tup (pa_cons (pe_tup (pa_cons (pv 4) (pa_cons (C8.pe_c c_law_back hr (by decide) (by rfl) (pa_cons (pv 2) pa_nil)) pa_nil))) (pa_cons (pv 3) pa_nil))) pa_nil)))) (pg_tup rfl (pgs_cons (pg_name (i := 5) sc_law_conflict.nd rfl (Or.inl rfl)) (pgs_cons (pg_name (i := 6) sc_law_conflict.nd rfl (Or.inl rfl)) pgs_nil))) (pss_cons (ps_set (i := 7) sc_law_conflict.nd rfl (Or.inl rfl) (pe_dget2 hu (pv 1) (pv 5) (pv 6) ⟨rfl, rfl, rfl, rfl⟩))
      (pss_cons (ps_if (pt_cmpR op_ne (pv 7) (pv 6) (nomark _)) (pss_one (ps_ret (pe_tup (pa_cons (pv 1) (pa_cons (pe_lst (pa_cons (pe_callB (call_min2 rfl) (by rfl) T.f_min (by decide +kernel) (pa_cons (pv 7) (pa_cons (pv 6) pa_nil))) (pa_cons (pe_callB (call_max2 rfl) (by rfl) T.f_max (by decide +kernel) (pa_cons (pv 7) (pa_cons (pv 6) pa_nil))) pa_nil))) pa_nil))))) pss_nil)
      (pss_one (ps_dput hu (pv 1) (pv 5) (pv 6) rfl)))))))
      (pss_one (ps_ret (pe_tup (pa_cons (pv 1) (pa_cons pe_non pa_nil)))))))), ?_⟩
    refine fun d hd => ?_
    have kd : Kp [] H (upd H d (.dT [])) := Kp.new hd
    obtain ⟨ts, hl0, tups⟩ := hl
    have len := tups.len
    refine ⟨_, rfl, l, rfl, ⟨_, SqL.of (kd _ _ hl0 List.not_mem_nil)⟩, for_it (walk_list (K := K) (a := l) (xs := ts.map V.ref)) (fun i σ H1 => ∃ (T1 : TTab) (o2 o3 o4 o5 o6 o7 : Option V), σ = [some (.ref l), some (.ref d), o2, o3, o4, o5, o6, o7] ∧ Kp [] H H1 ∧ H1 d = some (.dT (kvT T1)) ∧ conf T1 (es.drop i) = conf [] es ∧ T1.length ≤ 2 * i)
      ⟨[], none, none, none, none, none, none, rfl, kd, upd_same, rfl, Nat.le_refl _⟩ (fun i σ H1 _ h => by obtain ⟨_, _, _, _, _, _, _, _, k1, _⟩ := h; exact SqL.of (k1 _ _ hl0 List.not_mem_nil)) ?_ ?_⟩
    · rintro i v σ H1 H2 hi ⟨T1, o2, o3, o4, o5, o6, o7, rfl, k1, hd1, hc, tl⟩ ⟨rfl, hv⟩
      rw [List.length_map] at hi
      have ie : i < es.length := by omega
      obtain ⟨t, ht, htt⟩ := tups.get (List.getElem?_eq_getElem ie)
      rw [List.getElem?_map, ht] at hv
      have hv' : some (V.ref t) = some v := hv
      obtain rfl := Option.some.inj hv'
      rw [drop_at (List.getElem?_eq_getElem ie)] at hc
      have ces := hs _ (List.getElem_mem ie)
      generalize es[i] = e at *
      obtain ⟨c, a, b⟩ := e
      have ces' : IsStep c := ces
      refine ⟨t, _, rfl, SqT.of (k1 _ _ htt List.not_mem_nil), rfl, _, _, rfl, _, _, rfl, _, _, rfl, rfl, ?_⟩
      rw [conf_cons] at hc
      simp only at hc
      -- the two items
      refine ⟨_, rfl, _, rfl, line2 _ _, fun t1 ht1 => ⟨_, rfl, line2 _ _, fun t2 ht2 => ?_⟩⟩
      have ka : Kp [] H2 (upd H2 t1 (.tup [.int (a : Int), vS [c]])) := Kp.new ht1
      have h1a : (upd H2 t1 (.tup [.int (a : Int), vS [c]])) t1 = some (.tup [.int (a : Int), vS [c]]) := upd_same
      generalize upd H2 t1 (.tup [.int (a : Int), vS [c]]) = H3 at *
      have kb : Kp [] H3 (upd H3 t2 (.tup [.ref t1, .int (b : Int)])) := Kp.new ht2
      have h2b : (upd H3 t2 (.tup [.ref t1, .int (b : Int)])) t2 = some (.tup [.ref t1, .int (b : Int)]) := upd_same
      have h1b := kb _ _ h1a List.not_mem_nil
      generalize upd H3 t2 (.tup [.ref t1, .int (b : Int)]) = H4 at *
      refine ⟨_, rfl, _, rfl, c, rfl, ces', line2 _ _, fun t3 ht3 => ⟨_, rfl, line2 _ _, fun t4 ht4 => ⟨line2 _ _, fun L hL => ?_⟩⟩⟩
      have kc : Kp [] H4 (upd H4 t3 (.tup [.int (b : Int), vS [bk c]])) := Kp.new ht3
      have h3c : (upd H4 t3 (.tup [.int (b : Int), vS [bk c]])) t3 = some (.tup [.int (b : Int), vS [bk c]]) := upd_same
      have h1c := kc _ _ h1b List.not_mem_nil
      have h2c := kc _ _ h2b List.not_mem_nil
      generalize upd H4 t3 (.tup [.int (b : Int), vS [bk c]]) = H5 at *
      have kdd : Kp [] H5 (upd H5 t4 (.tup [.ref t3, .int (a : Int)])) := Kp.new ht4
      have h4d : (upd H5 t4 (.tup [.ref t3, .int (a : Int)])) t4 = some (.tup [.ref t3, .int (a : Int)]) := upd_same
      have h1d := kdd _ _ h1c List.not_mem_nil
      have h2d := kdd _ _ h2c List.not_mem_nil
      have h3d := kdd _ _ h3c List.not_mem_nil
      generalize upd H5 t4 (.tup [.ref t3, .int (a : Int)]) = H6 at *
      have ke : Kp [] H6 (upd H6 L (.lst [.ref t2, .ref t4])) := Kp.new hL
      have hLe : (upd H6 L (.lst [.ref t2, .ref t4])) L = some (.lst [.ref t2, .ref t4]) := upd_same
      have h1e := ke _ _ h1d List.not_mem_nil
      have h2e := ke _ _ h2d List.not_mem_nil
      have h3e := ke _ _ h3d List.not_mem_nil
      have h4e := ke _ _ h4d List.not_mem_nil
      have kall : Kp [] H2 (upd H6 L (.lst [.ref t2, .ref t4])) := ((ka.trans kb).trans (kc.trans kdd)).trans ke
      have hde := kall _ _ hd1 List.not_mem_nil
      have k7 := k1.trans kall
      have dL : d ≠ L := by
        intro z
        have y := (((ka.trans kb).trans (kc.trans kdd))) _ _ hd1 List.not_mem_nil
        rw [z, hL] at y
        cases y
      have dt : ∀ {x : Addr} {xs : List V} {HH : Hp}, HH d = some (.dT (kvT T1)) → HH x = some (.tup xs) → x ≠ d := fun e1 e2 => ne_of e2 e1 (fun z => nomatch z)
      generalize upd H6 L (.lst [.ref t2, .ref t4]) = H7 at *
      have d1 := dt hde h1e
      have d2 := dt hde h2e
      have d3 := dt hde h3e
      have d4 := dt hde h4e
      let Ta := pt T1 (a, c) b
      refine ⟨L, rfl, ⟨_, SqL.of hLe⟩, for_it (walk_list (K := K) (a := L) (xs := [.ref t2, .ref t4])) (fun j σ H8 => ∃ (T2 : TTab) (o5 o6 o7 : Option V), σ = [some (.ref l), some (.ref d), some (vS [c]), some (.int (a : Int)), some (.int (b : Int)), o5, o6, o7] ∧ Kp [] H H8 ∧ H8 d = some (.dT (kvT T2)) ∧
          H8 L = some (.lst [.ref t2, .ref t4]) ∧ H8 t1 = some (.tup [.int (a : Int), vS [c]]) ∧ H8 t2 = some (.tup [.ref t1, .int (b : Int)]) ∧ H8 t3 = some (.tup [.int (b : Int), vS [bk c]]) ∧ H8 t4 = some (.tup [.ref t3, .int (a : Int)]) ∧
          (j = 0 → T2 = T1) ∧ (j = 1 → T2 = Ta ∧ ¬ known T1 (a, c) b ≠ b) ∧ (j = 2 → T2 = pt Ta (b, bk c) a ∧ ¬ known T1 (a, c) b ≠ b ∧ ¬ known Ta (b, bk c) a ≠ a))
        ⟨T1, o5, o6, o7, rfl, k7, hde, hLe, h1e, h2e, h3e, h4e, (fun _ => rfl), (fun z => by cases z), (fun z => by cases z)⟩ (fun j σ H8 _ h => by obtain ⟨_, _, _, _, _, _, _, h, _⟩ := h; exact SqL.of h) ?_ ?_⟩
      · rintro j v σ H8 H9 hj ⟨T2, p5, p6, p7, rfl, k8, d8, L8, x1, x2, x3, x4, j0, j1, _⟩ ⟨rfl, hv⟩
        have jl : j < 2 := hj
        -- one look, one store
        have one : ∀ (tk tt : Addr) (key : Nat × Nat) (val : Nat), v = .ref tt → H9 tt = some (.tup [.ref tk, .int (val : Int)]) → H9 tk = some (.tup ((keyT key).map kV)) → T2.length ≤ 2 * i + 1 →
            ∃ go : TS → Prop, True := fun _ _ _ _ _ _ _ _ => ⟨fun _ => True, trivial⟩
        clear one
        have look : ∃ (tk tt : Addr) (key : Nat × Nat) (val : Nat), v = .ref tt ∧ H9 tt = some (.tup [.ref tk, .int (val : Int)]) ∧ H9 tk = some (.tup ((keyT key).map kV)) ∧ tk ≠ d ∧ T2.length ≤ 2 * i + j ∧
            (known T2 key val ≠ val → conf [] es = (T2, some (min (known T2 key val) val, max (known T2 key val) val))) ∧
            (¬ known T2 key val ≠ val → (j + 1 = 1 → pt T2 key val = Ta ∧ ¬ known T1 (a, c) b ≠ b) ∧ (j + 1 = 2 → pt T2 key val = pt Ta (b, bk c) a ∧ ¬ known T1 (a, c) b ≠ b ∧ ¬ known Ta (b, bk c) a ≠ a)) := by
          rcases Nat.lt_or_ge j 1 with h | h
          · have e0 : j = 0 := by omega
            subst e0
            obtain rfl := j0 rfl
            have hv' : some (V.ref t2) = some v := hv
            refine ⟨t1, t2, (a, c), b, (Option.some.inj hv').symm, x2, x1, d1, by omega, fun ne => ?_, fun ne => ⟨fun _ => ⟨rfl, ne⟩, (fun z => by cases z)⟩⟩
            rw [← hc, if_pos ne]
          · have e1 : j = 1 := by omega
            subst e1
            obtain ⟨rfl, n1⟩ := j1 rfl
            have hv' : some (V.ref t4) = some v := hv
            refine ⟨t3, t4, (b, bk c), a, (Option.some.inj hv').symm, x4, x3, d3, ?_, fun ne => ?_, fun ne => ⟨(fun z => by cases z), fun _ => ⟨rfl, n1, ne⟩⟩⟩
            · have := length_pt_le T1 (a, c) b
              show (pt T1 (a, c) b).length ≤ _
              omega
            · rw [← hc, if_neg n1, if_pos ne]
        obtain ⟨tk, tt, key, val, rfl, y1, y2, y3, y4, y5, y6⟩ := look
        refine ⟨tt, _, rfl, SqT.of y1, rfl, _, _, rfl, _, _, rfl, rfl, ?_⟩
        -- known = targets.get(key, value)
        refine ⟨_, rfl, d, rfl, .inr ⟨_, .inl d8⟩, _, rfl, _, rfl, _, DGet.t (k := key |> keyT) d8 y2, ?_⟩
        rw [kvT_get2]
        -- if known != value
        refine ⟨_, rfl, _, rfl, rfl, _, rfl, ?_⟩
        rw [nat_eq]
        by_cases ne : known T2 key val ≠ val
        · refine ifT (by rw [decide_eq_false ne]; rfl) ?_
          have y5' := y5 ne
          refine ⟨_, rfl, _, rfl, _, rfl, _, _, rfl, _, rfl, _, rfl, _, _, rfl, line2 _ _, fun q hq => ⟨line2 _ _, fun b2 hb2 => ?_⟩⟩
          rw [min_int, max_int] at hb2 ⊢
          have kq : Kp [] H9 (upd H9 q (.lst [.int ((min (known T2 key val) val : Nat) : Int), .int ((max (known T2 key val) val : Nat) : Int)])) := Kp.new hq
          refine k _ b2 d _ (k8.trans (kq.trans (Kp.new hb2))) ((k8.trans kq).free hb2) hd upd_same ?_ ?_
          · rw [y5']
            exact (Kp.new hb2) _ _ (kq _ _ d8 List.not_mem_nil) List.not_mem_nil
          · rw [y5']
            exact ⟨q, rfl, (Kp.new hb2) _ _ upd_same List.not_mem_nil⟩
        · refine ifF (by rw [decide_eq_true (Classical.not_not.mp ne)]; rfl) ?_
          have y6' := y6 ne
          -- targets[key] = value
          refine ⟨_, rfl, _, rfl, _, rfl, d, _, rfl, DPut.t (k := key |> keyT) d8 y2 (by rw [kvT_len, sz]; omega), ?_⟩
          rw [kvT_put]
          have nd : ∀ {x : Addr}, x ≠ d → (upd H9 d (.dT (kvT (pt T2 key val)))) x = H9 x := fun z => upd_ne z
          exact ⟨_, _, _, _, rfl, k8.mine hd, upd_same, by rw [nd dL.symm]; exact L8, by rw [nd d1]; exact x1, by rw [nd d2]; exact x2, by rw [nd d3]; exact x3, by rw [nd d4]; exact x4, (fun z => by cases z), y6'.1, y6'.2⟩
      · rintro σ H8 ⟨T2, p5, p6, p7, rfl, k8, d8, L8, x1, x2, x3, x4, _, _, j2⟩
        obtain ⟨rfl, n1, n2⟩ := j2 rfl
        rw [if_neg n1, if_neg n2] at hc
        refine ⟨_, _, _, _, _, _, _, rfl, k8, d8, hc, ?_⟩
        have a1 := length_pt_le T1 (a, c) b
        have a2 := length_pt_le Ta (b, bk c) a
        show (pt (pt T1 (a, c) b) (b, bk c) a).length ≤ _
        have a3 : (pt Ta (b, bk c) a).length ≤ (pt T1 (a, c) b).length + 1 := a2
        have a4 : (pt (pt T1 (a, c) b) (b, bk c) a).length = (pt Ta (b, bk c) a).length := rfl
        omega
    · rintro σ H1 ⟨T1, o2, o3, o4, o5, o6, o7, rfl, k1, hd1, hc, tl⟩
      have e : es.drop (ts.map V.ref).length = [] := by
        apply List.drop_eq_nil_of_le
        rw [List.length_map]
        omega
      rw [e] at hc
      have hc' : conf [] es = (T1, none) := hc.symm
      refine ⟨_, rfl, line2 _ _, fun b hb => ?_⟩
      refine k _ b d _ (k1.trans (Kp.new hb)) (k1.free hb) hd upd_same ?_ ?_
      · rw [hc']
        exact (Kp.new hb) _ _ hd1 List.not_mem_nil
      · rw [hc']
        rfl
end
end WK
end Text_WW11
section Text_WW12
set_option Elab.async false
set_option linter.all false
set_option maxRecDepth 100000
set_option maxHeartbeats 4000000
/-! WW12: the law's folding. -/
namespace WK
open PySem PySem.Spec L2 SX
open PyProof.Rows hiding St

theorem foldT_none {k : Nat} {es : List Ed} (e : (conf [] es).2 = none) : foldT k es = (conf [] es).1 := by
  cases k with
  | zero => rfl
  | succ k =>
    show (match (conf [] es).2 with | none => (conf [] es).1 | some pr => foldT k (es.map (mergedE pr))) = _
    rw [e]
theorem foldT_some {k : Nat} {es : List Ed} {pr : Nat × Nat} (e : (conf [] es).2 = some pr) : foldT (k + 1) es = foldT k (es.map (mergedE pr)) := by
  show (match (conf [] es).2 with | none => (conf [] es).1 | some pr => foldT k (es.map (mergedE pr))) = _
  rw [e]
/-- a smaller weight, a merge that makes it so -/
theorem conf_weight {es : List Ed} {pr : Nat × Nat} (e : (conf [] es).2 = some pr) : weight (es.map (mergedE pr)) < weight es := by
  have c := conf_ok (es := es) es [] (fun _ z => z) (fun _ _ _ q => by cases q)
  obtain ⟨lt, u, d, f1, f2⟩ := c.clash pr e
  exact weight_lt lt es (from_node f2)
theorem foldT_fuel : ∀ (k j : Nat) (es : List Ed), weight es ≤ k → weight es ≤ j → foldT k es = foldT j es := by
  intro k
  induction k with
  | zero =>
    intro j es hk hj
    cases e : (conf [] es).2 with
    | none => rw [foldT_none e, foldT_none e]
    | some pr =>
      have := conf_weight e
      omega
  | succ k ih =>
    intro j es hk hj
    cases e : (conf [] es).2 with
    | none => rw [foldT_none e, foldT_none e]
    | some pr =>
      have w := conf_weight e
      cases j with
      | zero => omega
      | succ j =>
        rw [foldT_some e, foldT_some e]
        exact ih j _ (by omega) (by omega)
theorem initSteps_one (c s free : Nat) : initSteps [c] s free = ([mkE c s 0], free) := rfl
theorem initSteps_two (c d : Nat) (w : List Nat) (s free : Nat) : initSteps (c :: d :: w) s free = (mkE c s free :: (initSteps (d :: w) free (free + 1)).1, (initSteps (d :: w) free (free + 1)).2) := rfl
theorem initSteps_len : ∀ (w : List Nat) (s free : Nat), (initSteps w s free).1.length = w.length
  | [], _, _ => rfl
  | [c], _, _ => rfl
  | c :: d :: w, s, free => by
    rw [initSteps_two, List.length_cons, initSteps_len (d :: w)]
    rfl
theorem initial_len : ∀ (ps : List (List Nat)) (free : Nat), (initial ps free).length = total ps := by
  intro ps
  induction ps with
  | nil => exact fun _ => rfl
  | cons p r ih =>
    intro free
    show ((initSteps p 0 free).1 ++ initial r (initSteps p 0 free).2).length = _
    rw [List.length_append, initSteps_len, ih]
    unfold total
    rw [List.map_cons, List.sum_cons]
theorem total_red (ps : List (List Nat)) : total (ps.map red) ≤ total ps := by
  induction ps with
  | nil => exact Nat.le_refl _
  | cons p r ih =>
    have := red_length p
    unfold total at ih ⊢
    rw [List.map_cons, List.map_cons, List.map_cons, List.sum_cons, List.sum_cons]
    omega
theorem mem_up (c : Nat) : decide (c ∈ ("ABCD" : Str).cps.toList) = isUp c := by
  have e : ("ABCD" : Str).cps.toList = [65, 66, 67, 68] := by decide +kernel
  rw [e]
  unfold isUp
  simp only [List.mem_cons, List.not_mem_nil, or_false, Bool.decide_or]
  rw [Bool.or_assoc, Bool.or_assoc]
  rfl
theorem edT_mk {c s t : Nat} : (if isUp c = true then edT (bk c, t, s) else edT (c, s, t)) = edT (mkE c s t) := by
  unfold mkE
  split <;> rfl
section
variable {P : Program} {w : World} {K : PySem.W.Frag} {mg : Str → Option Value} {base : Heap} {f CF CS : Addr} {fd : FuncData}
abbrev N_law_initial : List Str := ["_law_paths", "_law_edges", "_law_free", "_law_path_here", "_law_steps", "_law_source", "_law_number", "_law_step", "_law_node"]
theorem sc_law_initial : FnScope N_law_initial ["_law_paths"] WHead.d_law_initial.scope := ⟨rfl, rfl, rfl, by decide +kernel, rfl, by decide +kernel, by decide +kernel⟩
theorem ok_law_initial (F : FnD K WHead.d_law_initial f fd) (T : Txt K mg CF CS) (c_law_back : CalE P w K mg base 1 "_law_back" spBack) (c_law_short : CalE P w K mg base 2 "_law_short" spShort) : FnOk P w K mg base C8.CX0 3 f fd ["_law_paths"] (spInitial K) := by
  refine F.ok sc_law_initial (fun vs H Q E h => ?_) (fun cdv A outer s H vs Q E hr h => ?_)
  · obtain ⟨L, ps, rfl, _⟩ := h
    rfl
  · obtain ⟨L, ps, rfl, hL, sp, tot, k⟩ := h
    have sz : sizeLine = 16777216 := sizeLine_eq
    refine ⟨_, PSs.nox ((pss_cons (ps_set (i := 1) sc_law_initial.nd rfl (Or.inl rfl) (pe_lst pa_nil))
      (pss_cons (ps_set (i := 2) sc_law_initial.nd rfl (Or.inl rfl) pe_int)
      (pss_cons (ps_for PassesOwn.never rfl (pi_list (pv 0)) (pg_name (i := 3) sc_law_initial.nd rfl (Or.inl rfl)) (pss_cons (ps_set (i := 4) sc_law_initial.nd rfl (Or.inl rfl) (C8.pe_c c_law_short hr (by decide) (by rfl) (pa_cons (pv 3) pa_nil)))
      (pss_cons (ps_set (i := 5) sc_law_initial.nd rfl (Or.inl rfl) pe_int)
      (pss_one (ps_for PassesOwn.never rfl (pi_enumS (by rfl) T.f_enumerate (pa_cons (pv 4) pa_nil)) (pg_tup rfl (pgs_cons (pg_name (i := 6) sc_law_initial.nd rfl (Or.inl rfl)) (pgs_cons (pg_name (i := 7) sc_law_initial.nd rfl (Or.inl rfl)) pgs_nil))) (pss_cons (ps_set (i := 8) sc_law_initial.nd rfl (Or.inl rfl) (pe_ix ix_list (pe_lst (pa_cons (pv 2) (pa_cons pe_int pa_nil))) (pe_callTy call_int1 (by rfl) T.f_int (by decide +kernel) (pa_cons (pe_cmpR op_eq (pv 6) (pe_op op_sub (pe_callB call_len (by rfl) T.f_len PySem.boot_len (pa_cons (pv 4) pa_nil)) pe_int) (nomark _)) pa_nil)) (fun _ _ => rfl)))
      (pss_cons (ps_set (i := 2) sc_law_initial.nd rfl (Or.inl rfl) (pe_op op_add (pv 2) (pe_callTy call_int1 (by rfl) T.f_int (by decide +kernel) (pa_cons (pe_cmpR op_gt (pv 8) pe_int (nomark _)) pa_nil))))
      (pss_cons (ps_expr (pe_bm PySem.F.plainAttrs_list PySem.F.slot_list_append PySem.F.type_list_append mt_append (pv 1) (pa_cons (pe_ix ix_list (pe_lst (pa_cons (pe_tup (pa_cons (pv 7) (pa_cons (pv 5) (pa_cons (pv 8) pa_nil)))) (pa_cons (pe_tup (pa_cons (C8.pe_c c_law_back hr (by decide) (by rfl) (pa_cons (pv 7) pa_nil)) (pa_cons (pv 8) (pa_cons (pv 5) pa_nil)))) pa_nil))) (pe_callTy call_int1 (by rfl) T.f_int (by decide +kernel) (pa_cons (pe_cmpR op_in_sign (pv 7) pe_str rfl) pa_nil)) (fun _ _ => rfl)) pa_nil)))
      (pss_one (ps_set (i := 5) sc_law_initial.nd rfl (Or.inl rfl) (pv 8)))))))))))
      (pss_one (ps_ret (pv 1))))))), ?_⟩
    refine ⟨by rw [sz]; exact Nat.zero_le _, fun D hD => ?_⟩
    have k1 : Kp [] H (upd H D (.lst [])) := Kp.new hD
    refine ⟨_, rfl, L, rfl, ⟨_, k1.sql List.not_mem_nil hL⟩, for_it (walk_list (K := K) (a := L) (xs := ps.map vS)) (fun i σ H1 => ∃ (free : Nat) (es : List Ed) (o3 o4 o5 o6 o7 o8 : Option V), σ = [some (.ref L), some (.ref D), some (.int (free : Int)), o3, o4, o5, o6, o7, o8] ∧ Kp [] H H1 ∧ LstT edT H1 D es ∧ 0 < free ∧
        es ++ initial ((ps.map red).drop i) free = initial (ps.map red) 1)
      ⟨1, [], none, none, none, none, none, none, rfl, k1, ⟨[], upd_same, .nil⟩, Nat.one_pos, rfl⟩ (fun i σ H1 _ h => by obtain ⟨_, _, _, _, _, _, _, _, _, k1, _⟩ := h; exact k1.sql List.not_mem_nil hL) ?_ ?_⟩
    · rintro i v σ H1 H2 hi ⟨free, es, o3, o4, o5, o6, o7, o8, rfl, k2, hes, fpos, heq⟩ ⟨rfl, hv⟩
      rw [List.getElem?_map] at hv
      obtain ⟨p, hp, rfl⟩ := Option.map_eq_some_iff.mp hv
      have pm := List.mem_of_getElem? hp
      have pl := total_mem pm
      have hr' : (ps.map red)[i]? = some (red p) := by rw [List.getElem?_map, hp]; rfl
      rw [drop_at hr'] at heq
      have heq' : es ++ ((initSteps (red p) 0 free).1 ++ initial ((ps.map red).drop (i + 1)) (initSteps (red p) 0 free).2) = initial (ps.map red) 1 := heq
      have elen : es.length + (initSteps (red p) 0 free).1.length ≤ 10000 := by
        have z := congrArg List.length heq'
        simp only [List.length_append, initial_len] at z
        have := total_red ps
        omega
      have rst := (sp p pm).red
      -- steps = short(path); source = 0
      refine ⟨_, rfl, p, rfl, sp p pm, by omega, ?_⟩
      have rl := red_length p
      have wl : (red p).length ≤ 10000 := by omega
      rw [initSteps_len] at elen
      generalize red p = w at *
      -- for number, step in enumerate(steps)
      refine ⟨_, rfl, _, rfl, for_it walk_enumS (fun j σ H3 => ∃ (fr src : Nat) (E1 : List Ed) (o6 o7 o8 : Option V), σ = [some (.ref L), some (.ref D), some (.int (fr : Int)), some (vS p), some (vS w), some (.int (src : Int)), o6, o7, o8] ∧ Kp [] H H3 ∧ LstT edT H3 D E1 ∧ 0 < fr ∧
          E1 ++ (initSteps (w.drop j) src fr).1 = es ++ (initSteps w 0 free).1 ∧ (initSteps (w.drop j) src fr).2 = (initSteps w 0 free).2)
        ⟨free, 0, es, o6, o7, o8, rfl, k2, hes, fpos, rfl, rfl⟩ (fun _ _ _ _ _ => trivial) ?_ ?_⟩
      · rintro j v σ H3 H4 hj ⟨fr, src, E1, o6, o7, o8, rfl, k3, hE1, frpos, e1, e2⟩ ⟨t0, c, rfl, ht0, rfl, hc⟩
        rw [tl_at] at hc
        have jl : j < w.length := (List.getElem?_eq_some_iff.mp hc).1
        have cs := rst c (List.mem_of_getElem? hc)
        have kt : Kp [] H3 (upd H3 t0 (.tup [.int (j : Int), vS [c]])) := Kp.new ht0
        have ht0' : (upd H3 t0 (.tup [.int (j : Int), vS [c]])) t0 = some (.tup [.int (j : Int), vS [c]]) := upd_same
        generalize upd H3 t0 (.tup [.int (j : Int), vS [c]]) = H5 at *
        refine ⟨t0, _, rfl, SqT.of ht0', rfl, _, _, rfl, _, _, rfl, rfl, ?_⟩
        have E1len : E1.length ≤ 10000 := by
          have z := congrArg List.length e1
          rw [List.length_append, List.length_append, initSteps_len, initSteps_len] at z
          omega
        -- the step's end: 0 behind the last one
        have cut : ∃ node fr' : Nat, node = (if j = w.length - 1 then 0 else fr) ∧ fr' = fr + (if 0 < node then 1 else 0) ∧ 0 < fr' ∧ E1 ++ [mkE c src node] ++ (initSteps (w.drop (j + 1)) node fr').1 = es ++ (initSteps w 0 free).1 ∧ (initSteps (w.drop (j + 1)) node fr').2 = (initSteps w 0 free).2 := by
          rw [drop_at hc] at e1 e2
          by_cases last : j = w.length - 1
          · have dn : w.drop (j + 1) = [] := List.drop_eq_nil_of_le (by omega)
            rw [dn, initSteps_one] at e1 e2
            refine ⟨0, fr, by rw [if_pos last], by simp, frpos, ?_, ?_⟩
            · rw [dn]
              show E1 ++ [mkE c src 0] ++ [] = _
              rw [List.append_nil]
              exact e1
            · rw [dn]
              exact e2
          · obtain ⟨d, hd⟩ : ∃ d, w[j + 1]? = some d := ⟨w[j + 1]'(by omega), List.getElem?_eq_getElem (by omega)⟩
            rw [drop_at hd, initSteps_two, ← drop_at hd] at e1 e2
            refine ⟨fr, fr + 1, by rw [if_neg last], by rw [if_pos frpos], Nat.succ_pos _, ?_, e2⟩
            rw [List.append_assoc]
            exact e1
        obtain ⟨node, fr', en, ef, fpos', c1, c2⟩ := cut
        -- node = [free, 0][int(number == len(steps) - 1)]
        refine ⟨_, rfl, line2 _ _, fun L1 hL1 => ?_⟩
        have ka : Kp [] H5 (upd H5 L1 (.lst [.int (fr : Int), .int 0])) := Kp.new hL1
        have hL1' : (upd H5 L1 (.lst [.int (fr : Int), .int 0])) L1 = some (.lst [.int (fr : Int), .int 0]) := upd_same
        generalize upd H5 L1 (.lst [.int (fr : Int), .int 0]) = H6 at *
        refine ⟨_, rfl, _, rfl, _, w.length, rfl, ⟨by rw [S_len, sz]; omega, by rw [S_len]⟩, _, _, rfl, rfl, rfl, .inr ⟨_, rfl, L1, _, _, .int (node : Int), rfl, rfl, SqL.of hL1', ?_, ?_⟩⟩
        · have z : decide (V.int (j : Int) = V.int ((w.length : Int) - 1)) = decide (j = w.length - 1) := by
            have y : ((w.length : Int) - 1) = ((w.length - 1 : Nat) : Int) := by omega
            rw [y, nat_eq]
          rw [z, en]
          by_cases last : j = w.length - 1
          · rw [decide_eq_true last, if_pos last]
            rfl
          · rw [decide_eq_false last, if_neg last]
            rfl
        -- free = free + int(node > 0)
        refine ⟨_, rfl, _, rfl, _, _, rfl, rfl, .inr ⟨_, rfl, _, _, rfl, rfl, ?_⟩⟩
        have ev : V.int ((fr : Int) + (if decide ((node : Int) > 0) = true then 1 else 0)) = V.int (fr' : Int) := by
          rw [ef]
          by_cases z : 0 < node
          · rw [if_pos z, decide_eq_true (by omega), if_pos rfl]
            congr 1
          · rw [if_neg z, decide_eq_false (by omega), if_neg (by decide)]
            congr 1
        -- edges.append([(step, source, node), (back(step), node, source)][int(step in 'ABCD')])
        obtain ⟨ets, hD6, _⟩ := (hE1.kp (kt.trans ka) (kt.trans ka).tp0 List.not_mem_nil)
        refine ⟨_, rfl, .inl ⟨rfl, _, SqL.of hD6⟩, _, rfl, _, rfl, _, rfl, line3 _ _ _, fun t1 ht1 => ?_⟩
        have kb : Kp [] H6 (upd H6 t1 (.tup (edT (c, src, node)))) := Kp.new ht1
        have ht1' : (upd H6 t1 (.tup (edT (c, src, node)))) t1 = some (.tup (edT (c, src, node))) := upd_same
        have es1 : ([V.str ⟨#[c]⟩, .int (src : Int), .int (node : Int)] : List V) = edT (c, src, node) := rfl
        rw [es1]
        generalize upd H6 t1 (.tup (edT (c, src, node))) = H7 at *
        refine ⟨_, rfl, c, rfl, cs, _, rfl, _, rfl, line3 _ _ _, fun t2 ht2 => ?_⟩
        have kc : Kp [] H7 (upd H7 t2 (.tup (edT (bk c, node, src)))) := Kp.new ht2
        have ht2' : (upd H7 t2 (.tup (edT (bk c, node, src)))) t2 = some (.tup (edT (bk c, node, src))) := upd_same
        have es2 : ([vS [bk c], .int (node : Int), .int (src : Int)] : List V) = edT (bk c, node, src) := rfl
        rw [es2]
        have ht1'' := kc _ _ ht1' List.not_mem_nil
        generalize upd H7 t2 (.tup (edT (bk c, node, src))) = H8 at *
        refine ⟨line2 _ _, fun Lq hLq => ?_⟩
        have kd : Kp [] H8 (upd H8 Lq (.lst [.ref t1, .ref t2])) := Kp.new hLq
        have hLq' : (upd H8 Lq (.lst [.ref t1, .ref t2])) Lq = some (.lst [.ref t1, .ref t2]) := upd_same
        have a1 := kd _ _ ht1'' List.not_mem_nil
        have a2 := kd _ _ ht2' List.not_mem_nil
        generalize upd H8 Lq (.lst [.ref t1, .ref t2]) = H9 at *
        have k9 : Kp [] H3 H9 := ((kt.trans ka).trans (kb.trans kc)).trans kd
        have pick : ∃ tt : Addr, atI ([.ref t1, .ref t2] : List V) (if isUp c = true then 1 else 0) = some (.ref tt) ∧ H9 tt = some (.tup (edT (mkE c src node))) := by
          rw [← edT_mk]
          cases hu : isUp c with
          | true => exact ⟨t2, rfl, a2⟩
          | false => exact ⟨t1, rfl, a1⟩
        obtain ⟨tt, pk, htt⟩ := pick
        refine ⟨_, rfl, c, _, rfl, rfl, .inr ⟨_, rfl, Lq, _, _, .ref tt, rfl, rfl, SqL.of hLq', by rw [mem_up]; exact pk, ?_⟩⟩
        obtain ⟨ets2, hD9, elen2, res⟩ := (hE1.kp k9 k9.tp0 List.not_mem_nil).app htt
        refine ⟨D, _, _, rfl, rfl, hD9, by rw [List.length_map, elen2, sz]; omega, ?_⟩
        refine ⟨_, rfl, fr', node, _, some (.int (j : Int)), some (vS [c]), some (.int (node : Int)), ?_, (k3.trans k9).mine hD, res, fpos', c1, c2⟩
        show ([some (.ref L), some (.ref D), some (V.int ((fr : Int) + (if decide ((node : Int) > 0) = true then 1 else 0))), some (vS p), some (vS w), some (.int (node : Int)), some (.int (j : Int)), some (vS [c]), some (.int (node : Int))] : L2.St) = _
        rw [ev]
      · rintro σ H3 ⟨fr, src, E1, o6, o7, o8, rfl, k3, hE1, frpos, e1, e2⟩
        rw [tl_size] at e1 e2
        have dn : w.drop w.length = [] := by simp
        rw [dn] at e1 e2
        have e1' : E1 ++ [] = es ++ (initSteps w 0 free).1 := e1
        rw [List.append_nil] at e1'
        have e2' : fr = (initSteps w 0 free).2 := e2
        refine ⟨fr, E1, _, _, _, _, _, _, rfl, k3, hE1, frpos, ?_⟩
        rw [e1', e2', List.append_assoc]
        exact heq'
    · rintro σ H1 ⟨free, es, o3, o4, o5, o6, o7, o8, rfl, k2, hes, fpos, heq⟩
      have e : (ps.map red).drop (ps.map vS).length = [] := List.drop_eq_nil_of_le (by rw [List.length_map, List.length_map]; exact Nat.le_refl _)
      rw [e] at heq
      have heq' : es ++ [] = initial (ps.map red) 1 := heq
      rw [List.append_nil] at heq'
      exact ⟨_, rfl, k _ D k2 hD (by rw [← heq']; exact hes)⟩
abbrev N_law_folded : List Str := ["_law_paths", "_law_edges", "_law_targets", "_law_pair", "_law_edge"]
theorem sc_law_folded : FnScope N_law_folded ["_law_paths"] WHead.d_law_folded.scope := ⟨rfl, rfl, rfl, by decide +kernel, rfl, by decide +kernel, by decide +kernel⟩
theorem ok_law_folded (F : FnD K WHead.d_law_folded f fd) (T : Txt K mg CF CS) (c_law_initial : CalE P w K mg base 3 "_law_initial" (spInitial K)) (c_law_conflict : CalE P w K mg base 2 "_law_conflict" spConflict) (c_law_merged : CalE P w K mg base 1 "_law_merged" spMerged) : FnOk P w K mg base C8.CX0 4 f fd ["_law_paths"] (spFolded K) := by
  refine F.ok sc_law_folded (fun vs H Q E h => ?_) (fun cdv A outer s H vs Q E hr h => ?_)
  · obtain ⟨L, ps, rfl, _⟩ := h
    rfl
  · obtain ⟨L, ps, rfl, hL, sp, tot, k⟩ := h
    have sz : sizeLine = 16777216 := sizeLine_eq
    refine ⟨_, PSs.nox ((pss_cons (ps_set (i := 1) sc_law_folded.nd rfl (Or.inl rfl) (C8.pe_c c_law_initial hr (by decide) (by rfl) (pa_cons (pv 0) pa_nil)))
      (pss_cons (ps_asg (C8.pe_c c_law_conflict hr (by decide) (by rfl) (pa_cons (pv 1) pa_nil)) (pg_tup rfl (pgs_cons (pg_name (i := 2) sc_law_folded.nd rfl (Or.inl rfl)) (pgs_cons (pg_name (i := 3) sc_law_folded.nd rfl (Or.inr rfl)) pgs_nil))))
      (pss_cons (ps_while PassesOwn.never (pt_cmpR op_notN (pv 3) pe_non (nomark _)) (pss_cons (ps_setLc (i := 1) (own := [("_law_edge", 4)]) (g := (gName 4)) (tt := tYes) rfl sc_law_folded.nd rfl rfl (sw_true rfl rfl rfl (by decide +kernel)) (pi_list (pv 1)) (blkOk_by (N := N_law_folded) (sc := WHead.d_law_folded.scope) (by decide +kernel)) (fun _ _ _ _ _ => (pg_name (i := 4) sc_law_folded.nd rfl (Or.inl rfl))) (fun _ _ _ _ _ => pts_nil) (fun _ _ _ _ _ => (C8.pe_c c_law_merged hr (by decide) (by rfl) (pa_cons (pv 4) (pa_cons (pv 3) pa_nil)))))
      (pss_one (ps_asg (C8.pe_c c_law_conflict hr (by decide) (by rfl) (pa_cons (pv 1) pa_nil)) (pg_tup rfl (pgs_cons (pg_name (i := 2) sc_law_folded.nd rfl (Or.inl rfl)) (pgs_cons (pg_name (i := 3) sc_law_folded.nd rfl (Or.inr rfl)) pgs_nil)))))))
      (pss_one (ps_ret (pv 2))))))), ?_⟩
    have tr := total_red ps
    have ldef : lawT (ps.map red) = foldT (weight (initial (ps.map red) 1)) (initial (ps.map red) 1) := rfl
    have let_ := initial_letters (ps.map red) 1 (fun q hq => by obtain ⟨p, hp, rfl⟩ := List.mem_map.mp hq; exact (sp p hp).red)
    have il := initial_len (ps.map red) 1
    refine ⟨_, rfl, L, ps, rfl, hL, sp, tot, fun H1 l k1 nl hl => ?_⟩
    generalize initial (ps.map red) 1 = es at *
    -- targets, pair = conflict(edges)
    refine ⟨_, rfl, l, es, rfl, hl, let_, by omega, fun H2 b d v k2 nb nd hb hd hv => ?_⟩
    refine ⟨b, _, rfl, SqT.of hb, rfl, _, _, rfl, _, _, rfl, rfl, ?_⟩
    -- while pair is not None
    refine ⟨fun m σ H3 => ∃ (l d : Addr) (v : V) (es1 : List Ed) (o4 : Option V), σ = [some (.ref L), some (.ref l), some (.ref d), some v, none] ∧ weight es1 = m ∧ foldT m es1 = lawT (ps.map red) ∧ (∀ e ∈ es1, IsStep e.1) ∧ es1.length ≤ 10000 ∧ Kp [] H H3 ∧ LstT edT H3 l es1 ∧
        H d = none ∧ H3 d = some (.dT (kvT (conf [] es1).1)) ∧ pairD H3 (conf [] es1).2 v,
      ⟨_, l, d, v, es, none, rfl, rfl, ldef.symm, let_, by omega, k1.trans k2, hl.kp k2 k2.tp0 List.not_mem_nil, k1.free nd, hd, hv⟩, ?_⟩
    rintro m σ H3 ⟨l3, d3, v3, es3, o4, rfl, hm, hf, lt3, few3, k3, hl3, nd3, hd3, hv3⟩
    refine ⟨_, rfl, rfl, _, rfl, ?_⟩
    cases hc : (conf [] es3).2 with
    | none =>
      rw [hc] at hv3
      obtain rfl : v3 = .non := hv3
      refine ifF rfl ?_
      rw [foldT_none hc] at hf
      rw [hf] at hd3
      exact ⟨_, rfl, k _ _ k3 nd3 hd3⟩
    | some pr =>
      rw [hc] at hv3
      obtain ⟨q, rfl, hq⟩ := hv3
      refine ifT rfl ?_
      have wt := conf_weight hc
      refine ⟨fun σ' H4 => ∃ (l d : Addr) (v : V) (o4 : Option V), σ' = [some (.ref L), some (.ref l), some (.ref d), some v, none] ∧ Kp [] H H4 ∧ LstT edT H4 l (es3.map (mergedE pr)) ∧ H d = none ∧ H4 d = some (.dT (kvT (conf [] (es3.map (mergedE pr))).1)) ∧ pairD H4 (conf [] (es3.map (mergedE pr))).2 v, ?_, ?_⟩
      · rintro σ' H4 ⟨l4, d4, v4, p4, rfl, k4, hl4, nd4, hd4, hv4⟩
        refine ⟨weight (es3.map (mergedE pr)), by omega, l4, d4, v4, _, p4, rfl, rfl, ?_, ?_, by rw [List.length_map]; exact few3, k4, hl4, nd4, hd4, hv4⟩
        · rw [← hf]
          obtain ⟨m', rfl⟩ : ∃ m', m = m' + 1 := ⟨m - 1, by omega⟩
          rw [foldT_some hc]
          exact foldT_fuel _ _ _ (Nat.le_refl _) (by omega)
        · intro e he
          obtain ⟨e0, he0, rfl⟩ := List.mem_map.mp he
          exact lt3 e0 he0
      -- edges = [merged(edge, pair) for edge in edges]
      obtain ⟨ts, hl3', tups⟩ := hl3
      have len := tups.len
      refine ⟨_, rfl, l3, rfl, ⟨_, SqL.of hl3'⟩, fun D hD => lc_it (walk_list (K := K) (a := l3) (xs := ts.map V.ref)) (fun i H5 => Kp [] H3 H5 ∧ LstT edT H5 D ((es3.map (mergedE pr)).take i))
        ⟨Kp.new hD, ⟨[], upd_same, .nil⟩⟩ (fun i H5 _ h => SqL.of (h.1 _ _ hl3' List.not_mem_nil)) ?_ ?_⟩
      · rintro i v H5 H6 hi ⟨k5, h5⟩ ⟨rfl, hv⟩
        rw [List.length_map] at hi
        have ie : i < es3.length := by omega
        obtain ⟨t, ht, htt⟩ := tups.get (List.getElem?_eq_getElem ie)
        rw [List.getElem?_map, ht] at hv
        have hv' : some (V.ref t) = some v := hv
        obtain rfl := Option.some.inj hv'
        refine ⟨rfl, tYes_if ?_⟩
        refine ⟨_, rfl, _, rfl, t, q, es3[i], pr, rfl, k5 _ _ htt List.not_mem_nil, k5 _ _ hq List.not_mem_nil, fun H7 b7 k7 n7 h7 => ?_⟩
        obtain ⟨ets, hD7, elen, res⟩ := (h5.kp k7 k7.tp0 List.not_mem_nil).app h7
        refine ⟨_, hD7, ?_, ?_, ?_⟩
        · rw [List.length_map, elen, List.length_take, sz]
          omega
        · exact (k5.trans k7).mine (by
            cases z : H3 D with
            | none => rfl
            | some o => rw [hD] at z; cases z)
        · have e : (es3.map (mergedE pr)).take (i + 1) = (es3.map (mergedE pr)).take i ++ [mergedE pr es3[i]] := take_snoc (by rw [List.getElem?_map, List.getElem?_eq_getElem ie]; rfl)
          rw [e]
          exact res
      · rintro H5 ⟨k5, h5⟩
        have e : (es3.map (mergedE pr)).take (ts.map V.ref).length = es3.map (mergedE pr) := List.take_of_length_le (by rw [List.length_map, List.length_map]; omega)
        rw [e] at h5
        -- targets, pair = conflict(edges)
        refine ⟨_, rfl, D, _, rfl, h5, ?_, by rw [List.length_map]; exact few3, fun H6 b6 d6 v6 k6 nb6 nd6 hb6 hd6 hv6 => ?_⟩
        · intro e he
          obtain ⟨e0, he0, rfl⟩ := List.mem_map.mp he
          exact lt3 e0 he0
        · have k56 := k3.trans (k5.trans k6)
          refine ⟨b6, _, rfl, SqT.of hb6, rfl, _, _, rfl, _, _, rfl, rfl, ?_⟩
          exact ⟨D, d6, v6, none, rfl, k56, h5.kp k6 k6.tp0 List.not_mem_nil, (k3.trans k5).free nd6, hd6, hv6⟩
end
end WK
end Text_WW12
section Text_WW13
set_option Elab.async false
set_option linter.all false
set_option maxRecDepth 100000
set_option maxHeartbeats 4000000
/-! WW13: the session's reading methods. -/
namespace WK
open PySem PySem.Spec L2 SX
open PyProof.Rows hiding St

def wordA (b : Bool) : Str := if b = true then "add" else "remove"
def chT (x : Chg) : List V := [.int x.who, .str (wordA x.add), .int x.entry]
/-- a session's places -/
structure Sd where
  p : Addr
  a : Addr
  c : Addr
def Sd.all (s : Sd) : List Addr := [s.p, s.a, s.c]
def fldS (s : Sd) (n : Nat) : List (Str × V) := [("added", .ref s.a), ("changes", .ref s.c), ("change_count", .int n)]
structure SA (C : Addr) (s : Sd) (H : Hp) (st : SS) : Prop where
  ob : ∃ dx, H s.p = some (.ins C dx (fldS s st.count))
  ad : H s.a = some (.lst (st.added.map vS))
  ch : LstT chT H s.c st.changes
  ac : s.a ≠ s.c
theorem fldS_added (s : Sd) (n : Nat) : (fldS s n).lookup ("added" : Str) = some (.ref s.a) := by rfl
theorem fldS_changes (s : Sd) (n : Nat) : (fldS s n).lookup ("changes" : Str) = some (.ref s.c) := by rfl
theorem fldS_count (s : Sd) (n : Nat) : (fldS s n).lookup ("change_count" : Str) = some (.int n) := by rfl
section
variable {C : Addr} {s : Sd} {H H' : Hp} {st : SS}
theorem SA.noTup (h : SA C s H st) : ∀ b ∈ s.all, ∀ xs, H b ≠ some (.tup xs) := by
  obtain ⟨dx, h1⟩ := h.ob
  obtain ⟨ts, h2, _⟩ := h.ch
  have h3 := h.ad
  intro b hb xs e
  unfold Sd.all at hb
  simp only [List.mem_cons, List.not_mem_nil, or_false] at hb
  rcases hb with rfl | rfl | rfl
  · rw [h1] at e; cases e
  · rw [h3] at e; cases e
  · rw [h2] at e; cases e
theorem SA.not_new (h : SA C s H st) {b : Addr} (e : H b = none) : b ∉ s.all := by
  obtain ⟨dx, h1⟩ := h.ob
  obtain ⟨ts, h2, _⟩ := h.ch
  have h3 := h.ad
  intro hb
  unfold Sd.all at hb
  simp only [List.mem_cons, List.not_mem_nil, or_false] at hb
  rcases hb with rfl | rfl | rfl
  · rw [h1] at e; cases e
  · rw [h3] at e; cases e
  · rw [h2] at e; cases e
theorem SA.kp (h : SA C s H st) {F : List Addr} (k : Kp F H H') (tp : Tp H H') (n : ∀ b ∈ s.all, b ∉ F) : SA C s H' st := by
  obtain ⟨dx, h1⟩ := h.ob
  exact ⟨⟨dx, k _ _ h1 (n _ (by simp [Sd.all]))⟩, k _ _ h.ad (n _ (by simp [Sd.all])), h.ch.kp k tp (n _ (by simp [Sd.all])), h.ac⟩
theorem SA.kp0 (h : SA C s H st) (k : Kp [] H H') : SA C s H' st := h.kp k k.tp0 fun _ _ z => nomatch z
theorem SA.ne (h : SA C s H st) : s.p ≠ s.a ∧ s.p ≠ s.c := by
  obtain ⟨dx, h1⟩ := h.ob
  obtain ⟨ts, h2, _⟩ := h.ch
  exact ⟨ne_of h1 h.ad (fun z => nomatch z), ne_of h1 h2 (fun z => nomatch z)⟩
end
/-! ### what the comprehensions make -/
def wordsOf (ch : List Chg) (e : Nat) : List V := (ch.filter fun x => x.entry == e).map fun x => V.str (wordA x.add)
theorem add_eq (b : Bool) : eqV (V.str (wordA b)) (V.str "add") = b := by cases b <;> decide +kernel
theorem rem_eq (b : Bool) : eqV (V.str (wordA b)) (V.str "remove") = !b := by cases b <;> decide +kernel
theorem any_add (ch : List Chg) (e : Nat) : inV (.str "add") (wordsOf ch e) = ch.any fun x => x.entry == e && x.add := by
  unfold inV wordsOf
  rw [List.any_map, List.any_filter]
  congr 1
  funext x
  show ((x.entry == e) && eqV (V.str (wordA x.add)) (V.str "add")) = _
  rw [add_eq]
theorem any_rem (ch : List Chg) (e : Nat) : inV (.str "remove") (wordsOf ch e) = ch.any fun x => x.entry == e && !x.add := by
  unfold inV wordsOf
  rw [List.any_map, List.any_filter]
  congr 1
  funext x
  show ((x.entry == e) && eqV (V.str (wordA x.add)) (V.str "remove")) = _
  rw [rem_eq]
theorem words_flat (ch : List Chg) (e : Nat) : (wordsOf ch e).all flatV = true := by
  unfold wordsOf
  rw [List.all_map]
  simp [flatV]
def ent (st : SS) (e : Nat) : L2.Key × V := (Sum.inl (e : Int), vS (st.added.getD e []))
def entK (st : SS) : List (L2.Key × V) := (current st).map (ent st)
def entTo (st : SS) (i : Nat) : List (L2.Key × V) := ((List.range i).filter (isCur st.changes)).map (ent st)
theorem entTo_none (st : SS) (i : Nat) : valV (entTo st i) (Sum.inl (i : Int)) = none := by
  cases h : valV (entTo st i) (Sum.inl (i : Int)) with
  | none => rfl
  | some v =>
    have m : (Sum.inl (i : Int) : L2.Key) ∈ (entTo st i).map (·.1) := valV_in h
    obtain ⟨pr, hpr, q⟩ := List.mem_map.mp m
    obtain ⟨e, he, rfl⟩ := List.mem_map.mp hpr
    have lt := List.mem_range.mp (List.mem_filter.mp he).1
    have z : (Sum.inl (e : Int) : L2.Key) = Sum.inl (i : Int) := q
    have := inlN.mp z
    omega
theorem entTo_put {st : SS} {i : Nat} {w : List Nat} (hw : st.added[i]? = some w) (c : isCur st.changes i = true) : putK (entTo st i) (Sum.inl (i : Int)) (vS w) = entTo st (i + 1) := by
  rw [putK_new _ (entTo_none st i)]
  unfold entTo
  rw [List.range_succ, List.filter_append, List.map_append]
  have e : (List.filter (isCur st.changes) [i]).map (ent st) = [(Sum.inl (i : Int), vS w)] := by
    rw [List.filter_cons, if_pos c]
    show [ent st i] = _
    unfold ent
    rw [List.getD_eq_getElem?_getD, hw]
    rfl
  rw [e]
theorem entTo_skip {st : SS} {i : Nat} (c : isCur st.changes i = false) : entTo st (i + 1) = entTo st i := by
  unfold entTo
  rw [List.range_succ, List.filter_append, List.filter_cons, if_neg (by rw [c]; decide)]
  simp
theorem entTo_end (st : SS) : entTo st st.added.length = entK st := rfl
theorem entTo_len (st : SS) (i : Nat) : (entTo st i).length ≤ i := by
  unfold entTo
  rw [List.length_map]
  refine Nat.le_trans (List.length_filter_le _ _) ?_
  rw [List.length_range]
  exact Nat.le_refl _
theorem entK_vals (st : SS) : (entK st).map (·.2) = (listed st).map vS := by
  unfold entK listed
  rw [List.map_map, List.map_map]
  rfl
def spCur (C : Addr) : Sp := fun vs H Q _ => ∃ (s : Sd) (st : SS) (e : Nat), vs = [.ref s.p, .int e] ∧ SA C s H st ∧ st.changes.length ≤ 100 ∧ ∀ H', Kp [] H H' → Q (.bl (isCur st.changes e)) H'
def spEntries (C : Addr) : Sp := fun vs H Q _ => ∃ (s : Sd) (st : SS), vs = [.ref s.p] ∧ SA C s H st ∧ st.changes.length ≤ 100 ∧ st.added.length ≤ 100 ∧ ∀ H' b, Kp [] H H' → H b = none → H' b = some (.dK (entK st)) → Q (.ref b) H'
def spPaths (C : Addr) : Sp := fun vs H Q _ => ∃ (s : Sd) (st : SS), vs = [.ref s.p] ∧ SA C s H st ∧ st.changes.length ≤ 100 ∧ st.added.length ≤ 100 ∧ (∀ p ∈ st.added, Steps p ∧ p.length ≤ 10000) ∧
  ∀ H' b, Kp [] H H' → H b = none → H' b = some (.lst (((listed st).map red).map vS)) → Q (.ref b) H'
def spUser (C : Addr) : Sp := fun vs H Q _ => ∃ (p : Addr) (u : Nat), vs = [.ref p, .int u] ∧ u < 4 ∧ Q .non H
def spRecord (C : Addr) : Sp := fun vs H Q _ => ∃ (s : Sd) (st : SS) (x : Chg), vs = [.ref s.p, .int x.who, .str (wordA x.add), .int x.entry] ∧ SA C s H st ∧ st.changes.length ≤ 100 ∧
  ∀ H', SA C s H' { st with changes := st.changes ++ [x], count := st.count + 1 } → Kp [s.p, s.c] H H' → Q .non H'
def spHist (C : Addr) : Sp := fun vs H Q _ => ∃ (s : Sd) (st : SS), vs = [.ref s.p] ∧ SA C s H st ∧ ∀ H' b, Kp [] H H' → H b = none → LstT chT H' b st.changes → Q (.ref b) H'
def spLenS (C : Addr) : Sp := fun vs H Q _ => ∃ (s : Sd) (st : SS), vs = [.ref s.p] ∧ SA C s H st ∧ st.changes.length ≤ 100 ∧ st.added.length ≤ 100 ∧ ∀ H', Kp [] H H' → Q (.int ((current st).length : Nat)) H'
def spInitS (C : Addr) : Sp := fun vs H Q _ => ∃ (p dx : Addr), vs = [.ref p] ∧ H p = some (.ins C dx []) ∧ ∀ (s : Sd) (H' : Hp), s.p = p → SA C s H' ⟨[], [], 0⟩ → Kp [p] H H' → (∀ b ∈ s.all, b ≠ p → H b = none) → Q .non H'
section
variable {P : Program} {w : World} {K : PySem.W.Frag} {mg : Str → Option Value} {base : Heap} {f CF CS : Addr} {fd : FuncData}
abbrev N_Session_init : List Str := ["self"]
theorem sc_Session_init : FnScope N_Session_init ["self"] WHead.d_Session_init.scope := ⟨rfl, rfl, rfl, by decide +kernel, rfl, by decide +kernel, by decide +kernel⟩
theorem ok_Session_init (F : FnD K WHead.d_Session_init f fd) (T : Txt K mg CF CS) : FnOk P w K mg base C8.CX0 1 f fd ["self"] (spInitS CS) := by
  refine F.ok sc_Session_init (fun vs H Q E h => ?_) (fun cdv A outer s H vs Q E hr h => ?_)
  · obtain ⟨p, dx, rfl, _⟩ := h
    rfl
  · obtain ⟨p, dx, rfl, hp, k⟩ := h
    have sz : sizeLine = 16777216 := sizeLine_eq
    refine ⟨_, PSs.nox ((pss_cons (ps_fld (pv 0) (pe_lst pa_nil) rfl)
      (pss_cons (ps_fld (pv 0) (pe_lst pa_nil) rfl)
      (pss_one (ps_fld (pv 0) pe_int rfl))))), ?_⟩
    refine ⟨by rw [sz]; exact Nat.zero_le _, fun a ha => ⟨_, rfl, p, CS, dx, _, rfl, by rw [upd_ne (ne_of_none hp ha)]; exact hp, T.clS, T.nA, by show 0 < 1000; decide, ?_⟩⟩
    have pa := ne_of_none hp ha
    have k1 : Kp [p] H (upd (upd H a (.lst [])) p (.ins CS dx (putF "added" (.ref a) []))) := (Kp.new ha).trans (Kp.upd List.mem_cons_self)
    have hp1 : (upd (upd H a (.lst [])) p (.ins CS dx (putF "added" (.ref a) []))) p = some (.ins CS dx (putF "added" (.ref a) [])) := upd_same
    have ha1 : (upd (upd H a (.lst [])) p (.ins CS dx (putF "added" (.ref a) []))) a = some (.lst []) := by rw [upd_ne pa.symm]; exact upd_same
    generalize upd (upd H a (.lst [])) p (.ins CS dx (putF "added" (.ref a) [])) = H1 at *
    refine ⟨by rw [sz]; exact Nat.zero_le _, fun c hc => ⟨_, rfl, p, CS, dx, _, rfl, by rw [upd_ne (ne_of_none hp1 hc)]; exact hp1, T.clS, T.nC, by show 1 < 1000; decide, ?_⟩⟩
    have pc := ne_of_none hp1 hc
    have ac := ne_of_none ha1 hc
    have c0 : H c = none := k1.free' hc (by simp [pc.symm])
    have k2 : Kp [p] H1 (upd (upd H1 c (.lst [])) p (.ins CS dx (putF "changes" (.ref c) (putF "added" (.ref a) [])))) := (Kp.new hc).trans (Kp.upd List.mem_cons_self)
    have hp2 : (upd (upd H1 c (.lst [])) p (.ins CS dx (putF "changes" (.ref c) (putF "added" (.ref a) [])))) p = some (.ins CS dx (putF "changes" (.ref c) (putF "added" (.ref a) []))) := upd_same
    have ha2 := k2 _ _ ha1 (by simp [pa.symm])
    have hc2 : (upd (upd H1 c (.lst [])) p (.ins CS dx (putF "changes" (.ref c) (putF "added" (.ref a) [])))) c = some (.lst []) := by rw [upd_ne pc.symm]; exact upd_same
    generalize upd (upd H1 c (.lst [])) p (.ins CS dx (putF "changes" (.ref c) (putF "added" (.ref a) []))) = H2 at *
    refine ⟨_, rfl, p, CS, dx, _, rfl, hp2, T.clS, T.nK, by show 2 < 1000; decide, ?_⟩
    refine k ⟨p, a, c⟩ _ rfl ⟨⟨dx, upd_same⟩, by rw [upd_ne pa.symm]; exact ha2, ⟨[], by rw [upd_ne pc.symm]; exact hc2, .nil⟩, ac⟩ ((k1.trans k2).trans (Kp.upd List.mem_cons_self)) ?_
    intro b hb ne
    unfold Sd.all at hb
    simp only [List.mem_cons, List.not_mem_nil, or_false] at hb
    rcases hb with rfl | rfl | rfl
    · exact (ne rfl).elim
    · exact ha
    · exact c0
abbrev N_Session_is_current : List Str := ["self", "entry", "words", "user", "word", "number"]
theorem sc_Session_is_current : FnScope N_Session_is_current ["self", "entry"] WHead.d_Session_is_current.scope := ⟨rfl, rfl, rfl, by decide +kernel, rfl, by decide +kernel, by decide +kernel⟩
theorem ok_Session_is_current (F : FnD K WHead.d_Session_is_current f fd) (T : Txt K mg CF CS) : FnOk P w K mg base C8.CX0 1 f fd ["self", "entry"] (spCur CS) := by
  refine F.ok sc_Session_is_current (fun vs H Q E h => ?_) (fun cdv A outer s H vs Q E hr h => ?_)
  · obtain ⟨s, st, e, rfl, _⟩ := h
    rfl
  · obtain ⟨s, st, e, rfl, sa, few, k⟩ := h
    have sz : sizeLine = 16777216 := sizeLine_eq
    refine ⟨_, PSs.nox ((pss_cons (ps_setLc (i := 2) (own := [("user", 3), ("word", 4), ("number", 5)]) (g := (gTup K 3 (gCons (gName 3) (gCons (gName 4) (gCons (gName 5) gNil))))) rfl sc_Session_is_current.nd rfl rfl (sw_true rfl rfl rfl (by decide +kernel)) (pi_list (pe_fld (pv 0) rfl)) (blkOk_by (N := N_Session_is_current) (sc := WHead.d_Session_is_current.scope) (by decide +kernel)) (fun _ _ _ _ _ => (pg_tup rfl (pgs_cons (pg_name (i := 3) sc_Session_is_current.nd rfl (Or.inl rfl)) (pgs_cons (pg_name (i := 4) sc_Session_is_current.nd rfl (Or.inl rfl)) (pgs_cons (pg_name (i := 5) sc_Session_is_current.nd rfl (Or.inl rfl)) pgs_nil))))) (fun _ _ _ _ _ => (pts_one (pt_cmpR op_eq (pv 5) (pv 1) (nomark _)))) (fun _ _ _ _ _ => (pv 4)))
      (pss_one (ps_ret (pe_and (pe_cmpR op_in_seq pe_str (pv 2) rfl) (pe_one (pe_cmpR op_notIn_seq pe_str (pv 2) rfl))))))), ?_⟩
    obtain ⟨ts, hc, tups⟩ := sa.ch
    have len := tups.len
    refine ⟨_, rfl, s.p, CS, _, _, _, rfl, sa.ob.choose_spec, T.clS, T.nC, fldS_changes _ _, s.c, rfl, ⟨_, SqL.of hc⟩, fun D hD => lc_it (walk_list (K := K) (a := s.c) (xs := ts.map V.ref)) (fun i H5 => H5 = upd H D (.lst (wordsOf (st.changes.take i) e)))
      rfl (fun i H5 _ h => by rw [h]; exact SqL.of (by rw [upd_ne (ne_of_none hc hD)]; exact hc)) ?_ ?_⟩
    · rintro i v H5 H6 hi e5 ⟨rfl, hv⟩
      rw [List.length_map] at hi
      have ie : i < st.changes.length := by omega
      obtain ⟨t, ht, htt⟩ := tups.get (List.getElem?_eq_getElem ie)
      rw [List.getElem?_map, ht] at hv
      have hv' : some (V.ref t) = some v := hv
      obtain rfl := Option.some.inj hv'
      have tt : H6 t = some (.tup (chT st.changes[i])) := by rw [e5, upd_ne (ne_of_none htt hD)]; exact htt
      have et := take_snoc (List.getElem?_eq_getElem ie)
      generalize st.changes[i] = x at *
      refine ⟨t, _, rfl, SqT.of tt, rfl, _, _, rfl, _, _, rfl, _, _, rfl, rfl, rfl, ?_⟩
      refine ⟨_, rfl, _, rfl, rfl, _, rfl, ?_⟩
      rw [nat_eq, et]
      unfold wordsOf at *
      rw [List.filter_append, List.map_append, List.filter_cons]
      by_cases q : x.entry = e
      · refine ifT (decide_eq_true q) ⟨_, rfl, _, by rw [e5]; exact upd_same, ?_, ?_⟩
        · have a1 := List.length_filter_le (fun y : Chg => y.entry == e) (st.changes.take i)
          have a2 : (st.changes.take i).length ≤ st.changes.length := by rw [List.length_take]; omega
          rw [List.length_map, sz]
          omega
        · rw [e5, upd_upd, if_pos (by rw [q]; exact beq_self_eq_true e)]
          rfl
      · refine ifF (decide_eq_false q) ?_
        rw [e5, if_neg (by simpa using q)]
        simp
    · intro H5 e5
      have tl : st.changes.take (ts.map V.ref).length = st.changes := List.take_of_length_le (by rw [List.length_map]; omega)
      rw [tl] at e5
      have hD5 : H5 D = some (.lst (wordsOf st.changes e)) := by rw [e5]; exact upd_same
      have k5 : Kp [] H H5 := by rw [e5]; exact Kp.new hD
      refine ⟨_, rfl, D, _, rfl, .inl (SqL.of hD5), rfl, words_flat _ _, _, rfl, ?_⟩
      have cd : isCur st.changes e = ((st.changes.any fun x => x.entry == e && x.add) && !(st.changes.any fun x => x.entry == e && !x.add)) := rfl
      show if (inV (.str "add") (wordsOf st.changes e)) = true then _ else _
      rw [any_add]
      cases ha : st.changes.any fun x => x.entry == e && x.add with
      | false =>
        rw [ha] at cd
        refine ifF rfl ?_
        have z := k _ k5
        rw [cd] at z
        exact z
      | true =>
        rw [ha] at cd
        refine ifT rfl ?_
        refine ⟨_, rfl, D, _, rfl, .inl (SqL.of hD5), rfl, words_flat _ _, ?_⟩
        show Q (.bl (!inV (.str "remove") (wordsOf st.changes e))) H5
        rw [any_rem]
        have z := k _ k5
        rw [cd] at z
        exact z
abbrev N_Session_entries : List Str := ["self", "entry", "path"]
theorem sc_Session_entries : FnScope N_Session_entries ["self"] WHead.d_Session_entries.scope := ⟨rfl, rfl, rfl, by decide +kernel, rfl, by decide +kernel, by decide +kernel⟩
theorem ok_Session_entries (F : FnD K WHead.d_Session_entries f fd) (T : Txt K mg CF CS) (m_Session_is_current : MetE P w K mg base 1 CS "is_current" (spCur CS)) : FnOk P w K mg base C8.CX0 2 f fd ["self"] (spEntries CS) := by
  refine F.ok sc_Session_entries (fun vs H Q E h => ?_) (fun cdv A outer s H vs Q E hr h => ?_)
  · obtain ⟨s, st, rfl, _⟩ := h
    rfl
  · obtain ⟨s, st, rfl, sa, few, few2, k⟩ := h
    have sz : sizeLine = 16777216 := sizeLine_eq
    refine ⟨_, PSs.nox ((pss_one (ps_ret (pe_dc (own := [("entry", 1), ("path", 2)]) (g := (gTup K 2 (gCons (gName 1) (gCons (gName 2) gNil)))) rfl sc_Session_entries.nd (pi_enum (by rfl) T.f_enumerate (pa_cons (pe_fld (pv 0) rfl) pa_nil)) (blkOk_by (N := N_Session_entries) (sc := WHead.d_Session_entries.scope) (by decide +kernel)) (fun _ _ _ _ _ => (pg_tup rfl (pgs_cons (pg_name (i := 1) sc_Session_entries.nd rfl (Or.inl rfl)) (pgs_cons (pg_name (i := 2) sc_Session_entries.nd rfl (Or.inl rfl)) pgs_nil)))) (fun _ _ _ _ _ => (pts_one (pt_val (C8.pe_mt m_Session_is_current hr (by decide) (pv 0) (pa_cons (pv 1) pa_nil))))) (fun _ _ _ _ _ => (pv 1)) (fun _ _ _ _ _ => (pv 2)))))), ?_⟩
    refine ⟨_, rfl, s.p, CS, _, _, _, rfl, sa.ob.choose_spec, T.clS, T.nA, fldS_added _ _, s.a, _, rfl, SqL.of sa.ad, fun D hD => dc_it (walk_enum (K := K) (a := s.a) (xs := st.added.map vS)) (fun i H5 => Kp [] H H5 ∧ H5 D = some (.dK (entTo st i)))
      ⟨Kp.new hD, upd_same⟩ (fun i H5 _ h => SqL.of (h.1 _ _ sa.ad List.not_mem_nil)) ?_ ?_⟩
    · rintro i v H5 H6 hi ⟨k5, h5⟩ ⟨t, x, y, rfl, ht, rfl, hx, hy⟩
      obtain rfl := Option.some.inj hx
      have hy' : (st.added.map vS)[i]? = some y := hy
      rw [List.getElem?_map] at hy'
      obtain ⟨p, hp, rfl⟩ := Option.map_eq_some_iff.mp hy'
      have k6 : Kp [] H5 (upd H5 t (.tup [.int (i : Int), vS p])) := Kp.new ht
      have ht6 : (upd H5 t (.tup [.int (i : Int), vS p])) t = some (.tup [.int (i : Int), vS p]) := upd_same
      generalize upd H5 t (.tup [.int (i : Int), vS p]) = H6 at *
      refine ⟨t, _, rfl, SqT.of ht6, rfl, _, _, rfl, _, _, rfl, rfl, rfl, ?_⟩
      have sa6 := sa.kp0 (k5.trans k6)
      refine ⟨_, rfl, s.p, _, _, rfl, sa6.ob.choose_spec, rfl, _, rfl, s, st, i, rfl, sa6, few, fun H7 k7 => ⟨_, rfl, ?_⟩⟩
      have h7 := k7 _ _ (k6 _ _ h5 List.not_mem_nil) List.not_mem_nil
      have k8 := (k5.trans k6).trans k7
      cases hc : isCur st.changes i with
      | true =>
        refine ifT rfl ⟨_, rfl, _, rfl, _, Sum.inl (i : Int), rfl, h7, ?_, k8.mine hD, ?_⟩
        · have a1 := entTo_len st i
          have a2 : i < (st.added.map vS).length := hi
          rw [List.length_map] at a2
          rw [sz]
          omega
        · rw [upd_same, entTo_put hp hc]
      | false =>
        refine ifF rfl ⟨k8, ?_⟩
        rw [entTo_skip hc]
        exact h7
    · rintro H5 ⟨k5, h5⟩
      rw [List.length_map, entTo_end] at h5
      exact k _ D k5 hD h5
abbrev N_Session_paths : List Str := ["self", "path"]
theorem sc_Session_paths : FnScope N_Session_paths ["self"] WHead.d_Session_paths.scope := ⟨rfl, rfl, rfl, by decide +kernel, rfl, by decide +kernel, by decide +kernel⟩
theorem ok_Session_paths (F : FnD K WHead.d_Session_paths f fd) (T : Txt K mg CF CS) (m_Session_entries : MetE P w K mg base 2 CS "entries" (spEntries CS)) (c_reduce_all : CalE P w K mg base 1 "reduce_all" (spRedAll K)) : FnOk P w K mg base C8.CX0 3 f fd ["self"] (spPaths CS) := by
  refine F.ok sc_Session_paths (fun vs H Q E h => ?_) (fun cdv A outer s H vs Q E hr h => ?_)
  · obtain ⟨s, st, rfl, _⟩ := h
    rfl
  · obtain ⟨s, st, rfl, sa, few, few2, ws, k⟩ := h
    have sz : sizeLine = 16777216 := sizeLine_eq
    refine ⟨_, PSs.nox ((pss_one (ps_ret (pe_lc (own := [("path", 1)]) (g := (gName 1)) (tt := tYes) rfl sc_Session_paths.nd (pi_values (pe_frz (C8.pe_mt0 m_Session_entries hr (by decide) (pv 0)))) (blkOk_by (N := N_Session_paths) (sc := WHead.d_Session_paths.scope) (by decide +kernel)) (fun _ _ _ _ _ => (pg_name (i := 1) sc_Session_paths.nd rfl (Or.inl rfl))) (fun _ _ _ _ _ => pts_nil) (fun _ _ _ _ _ => (C8.pe_c c_reduce_all hr (by decide) (by rfl) (pa_cons (pe_lst (pa_cons (pv 1) pa_nil)) pa_nil))))))), ?_⟩
    refine ⟨_, rfl, s.p, _, _, rfl, sa.ob.choose_spec, rfl, s, st, rfl, sa, few, few2, fun H1 b k1 nb hb => ⟨b, _, rfl, hb, trivial, fun od => ?_⟩⟩
    have k2 : Kp [] H (upd H1 b (.frz od (.dK (entK st)))) := k1.mine nb
    have hb2 : (upd H1 b (.frz od (.dK (entK st)))) b = some (.frz od (.dK (entK st))) := upd_same
    generalize upd H1 b (.frz od (.dK (entK st))) = H2 at *
    have ll := listed_len st
    refine ⟨b, od, _, rfl, hb2, fun D hD => lc_it walk_values (fun i H5 => Kp [] H2 H5 ∧ H5 D = some (.lst ((((listed st).map red).take i).map vS)))
      ⟨Kp.new hD, upd_same⟩ (fun i H5 _ h => h.1 _ _ hb2 List.not_mem_nil) ?_ ?_⟩
    · rintro i v H5 H6 hi ⟨k5, h5⟩ ⟨rfl, kk, hv⟩
      have hv2 : ((entK st).map (·.2))[i]? = some v := by rw [List.getElem?_map, hv]; rfl
      rw [entK_vals, List.getElem?_map] at hv2
      obtain ⟨p, hp, rfl⟩ := Option.map_eq_some_iff.mp hv2
      have pm := ws p (listed_mem (List.mem_of_getElem? hp))
      refine ⟨rfl, tYes_if ?_⟩
      refine ⟨_, rfl, by rw [sz]; exact Nat.le_of_ble_eq_true rfl, fun L hL => ⟨L, p, rfl, SqL.of upd_same, pm.1, pm.2, fun H7 k7 => ?_⟩⟩
      have k8 : Kp [] H6 H7 := (Kp.new hL).trans k7
      have er := take_snoc (w := (listed st).map red) (i := i) (c := red p) (by rw [List.getElem?_map, hp]; rfl)
      refine ⟨_, k8 _ _ h5 List.not_mem_nil, ?_, ?_, ?_⟩
      · rw [List.length_map, List.length_take, List.length_map, sz]
        omega
      · exact (k5.trans k8).mine (by
          cases z : H2 D with
          | none => rfl
          | some o => rw [hD] at z; cases z)
      · rw [upd_same, er, List.map_append]
        rfl
    · rintro H5 ⟨k5, h5⟩
      have el : ((listed st).map red).take (entK st).length = (listed st).map red := by
        apply List.take_of_length_le
        have z := congrArg List.length (entK_vals st)
        rw [List.length_map, List.length_map] at z
        rw [List.length_map]
        omega
      rw [el] at h5
      exact k _ D (k2.trans k5) (k2.free hD) h5
abbrev N_Session_require_user : List Str := ["self", "user"]
theorem sc_Session_require_user : FnScope N_Session_require_user ["self", "user"] WHead.d_Session_require_user.scope := ⟨rfl, rfl, rfl, by decide +kernel, rfl, by decide +kernel, by decide +kernel⟩
theorem ok_Session_require_user (F : FnD K WHead.d_Session_require_user f fd) (T : Txt K mg CF CS) (c_is_integer : CalE P w K mg base 1 "is_integer" spInt) : FnOk P w K mg base C8.CX0 2 f fd ["self", "user"] (spUser CS) := by
  refine F.ok sc_Session_require_user (fun vs H Q E h => ?_) (fun cdv A outer s H vs Q E hr h => ?_)
  · obtain ⟨p, u, rfl, _⟩ := h
    rfl
  · obtain ⟨p, u, rfl, lt, k⟩ := h
    refine ⟨_, PSs.nox ((pss_one (ps_if (PW.pt (pw_or (pt_not (pt_val (C8.pe_c c_is_integer hr (by decide) (by rfl) (pa_cons (pv 1) pa_nil)))) (pw_or1 (pt_not (pt_chain op_le op_lt pe_int (pv 1) (C8.pe_gc rfl T.g_USER_COUNT)))))) (pss_one ps_never) pss_nil))), ?_⟩
    refine ⟨_, rfl, _, rfl, _, rfl, ifF rfl ?_⟩
    refine ⟨_, rfl, _, _, rfl, rfl, _, rfl, ifT (decide_eq_true (by omega)) ⟨_, _, rfl, rfl, _, rfl, ?_⟩⟩
    exact ifF (by rw [decide_eq_true (show (u : Int) < 4 by omega)]; rfl) k
abbrev N_Session_record : List Str := ["self", "user", "word", "entry"]
theorem sc_Session_record : FnScope N_Session_record ["self", "user", "word", "entry"] WHead.d_Session_record.scope := ⟨rfl, rfl, rfl, by decide +kernel, rfl, by decide +kernel, by decide +kernel⟩
theorem ok_Session_record (F : FnD K WHead.d_Session_record f fd) (T : Txt K mg CF CS) : FnOk P w K mg base C8.CX0 1 f fd ["self", "user", "word", "entry"] (spRecord CS) := by
  refine F.ok sc_Session_record (fun vs H Q E h => ?_) (fun cdv A outer s H vs Q E hr h => ?_)
  · obtain ⟨s, st, x, rfl, _⟩ := h
    rfl
  · obtain ⟨s, st, x, rfl, sa, few, k⟩ := h
    have sz : sizeLine = 16777216 := sizeLine_eq
    refine ⟨_, PSs.nox ((pss_cons (ps_expr (pe_bm PySem.F.plainAttrs_list PySem.F.slot_list_append PySem.F.type_list_append mt_append (pe_fld (pv 0) rfl) (pa_cons (pe_tup (pa_cons (pv 1) (pa_cons (pv 2) (pa_cons (pv 3) pa_nil)))) pa_nil)))
      (pss_one (ps_fldaug (pv 0) pe_int in_add)))), ?_⟩
    refine ⟨_, rfl, s.p, CS, _, _, _, rfl, sa.ob.choose_spec, T.clS, T.nC, fldS_changes _ _, .inl ⟨rfl, _, SqL.of sa.ch.choose_spec.1⟩, _, rfl, _, rfl, _, rfl, line3 _ _ _, fun t ht => ?_⟩
    have k1 : Kp [] H (upd H t (.tup (chT x))) := Kp.new ht
    have ht1 : (upd H t (.tup (chT x))) t = some (.tup (chT x)) := upd_same
    have e1 : ([.int (x.who : Int), .str (wordA x.add), .int (x.entry : Int)] : List V) = chT x := rfl
    rw [e1]
    generalize upd H t (.tup (chT x)) = H1 at *
    have sa1 := sa.kp0 k1
    obtain ⟨ts, hc, tl, res⟩ := sa1.ch.app ht1
    obtain ⟨dx, hp⟩ := sa1.ob
    have ne := sa1.ne
    refine ⟨s.c, _, _, rfl, rfl, hc, by rw [List.length_map, tl, sz]; omega, ?_⟩
    have hp2 : (upd H1 s.c (.lst (ts.map V.ref ++ [.ref t]))) s.p = some (.ins CS dx (fldS s st.count)) := by rw [upd_ne ne.2]; exact hp
    refine ⟨_, rfl, s.p, CS, dx, _, _, rfl, hp2, T.clS, T.nK, fldS_count _ _, _, _, rfl, rfl, _, _, hp2, by show 3 < 1000; decide, ?_⟩
    have tp2 : Tp (upd H1 s.c (.lst (ts.map V.ref ++ [.ref t]))) (upd (upd H1 s.c (.lst (ts.map V.ref ++ [.ref t]))) s.p (.ins CS dx (fldS s (st.count + 1)))) := Tp.upd hp2 (fun _ z => nomatch z)
    refine k _ ⟨⟨dx, upd_same⟩, ?_, ?_, sa.ac⟩ ((k1.nil.trans (Kp.upd (by simp))).trans (Kp.upd (by simp)))
    · rw [upd_ne ne.1.symm, upd_ne sa.ac]
      exact sa1.ad
    · exact res.keep tp2 (upd_ne ne.2.symm)
abbrev N_Session_history : List Str := ["self"]
theorem sc_Session_history : FnScope N_Session_history ["self"] WHead.d_Session_history.scope := ⟨rfl, rfl, rfl, by decide +kernel, rfl, by decide +kernel, by decide +kernel⟩
theorem ok_Session_history (F : FnD K WHead.d_Session_history f fd) (T : Txt K mg CF CS) : FnOk P w K mg base C8.CX0 1 f fd ["self"] (spHist CS) := by
  refine F.ok sc_Session_history (fun vs H Q E h => ?_) (fun cdv A outer s H vs Q E hr h => ?_)
  · obtain ⟨s, st, rfl, _⟩ := h
    rfl
  · obtain ⟨s, st, rfl, sa, k⟩ := h
    refine ⟨_, PSs.nox ((pss_one (ps_ret (pe_callTy call_list_of (by rfl) T.f_list (by decide +kernel) (pa_cons (pe_fld (pv 0) rfl) pa_nil))))), ?_⟩
    obtain ⟨ts, hc, tups⟩ := sa.ch
    refine ⟨_, rfl, s.p, CS, _, _, _, rfl, sa.ob.choose_spec, T.clS, T.nC, fldS_changes _ _, s.c, _, rfl, .inl (SqL.of hc), fun l hl => ?_⟩
    exact k _ l (Kp.new hl) hl ⟨ts, upd_same, tups.tp (Kp.new hl : Kp [] H _).tp0⟩
abbrev N_Session_len : List Str := ["self"]
theorem sc_Session_len : FnScope N_Session_len ["self"] WHead.d_Session_len.scope := ⟨rfl, rfl, rfl, by decide +kernel, rfl, by decide +kernel, by decide +kernel⟩
theorem ok_Session_len (F : FnD K WHead.d_Session_len f fd) (T : Txt K mg CF CS) (m_Session_entries : MetE P w K mg base 2 CS "entries" (spEntries CS)) : FnOk P w K mg base C8.CX0 3 f fd ["self"] (spLenS CS) := by
  refine F.ok sc_Session_len (fun vs H Q E h => ?_) (fun cdv A outer s H vs Q E hr h => ?_)
  · obtain ⟨s, st, rfl, _⟩ := h
    rfl
  · obtain ⟨s, st, rfl, sa, few, few2, k⟩ := h
    refine ⟨_, PSs.nox ((pss_one (ps_ret (pe_callB call_lenD (by rfl) T.f_len PySem.boot_len (pa_cons (C8.pe_mt0 m_Session_entries hr (by decide) (pv 0)) pa_nil))))), ?_⟩
    refine ⟨_, rfl, s.p, _, _, rfl, sa.ob.choose_spec, rfl, s, st, rfl, sa, few, few2, fun H1 b k1 nb hb => ⟨b, _, rfl, hb, ?_⟩⟩
    have e : (entK st).length = (current st).length := List.length_map _
    rw [e]
    exact k _ k1
end
end WK
end Text_WW13
section Text_WW14
set_option Elab.async false
set_option linter.all false
set_option maxRecDepth 100000
set_option maxHeartbeats 4000000
/-! WW14: the session's changes. -/
namespace WK
open PySem PySem.Spec L2 SX
open PyProof.Rows hiding St

theorem vI {K : PySem.W.Frag} : PySem.W.findCls K (.type "IndexError") (.type "type") "__init__" = some (.val (.builtin "IndexError.__init__")) := by kernel_rfl
theorem vR {K : PySem.W.Frag} : PySem.W.findCls K (.type "RuntimeError") (.type "type") "__init__" = some (.val (.builtin "RuntimeError.__init__")) := by kernel_rfl
abbrev bmI : List Value := [.type "IndexError", .type "LookupError", .type "Exception", .type "BaseException", .type "object"]
abbrev bmR : List Value := [.type "RuntimeError", .type "Exception", .type "BaseException", .type "object"]
/-- the exception classes -/
structure TxtX (K : PySem.W.Frag) (mg : Str → Option Value) (CU CN fU fN : Addr) : Prop where
  f_IndexError : mg "IndexError" = none
  f_RuntimeError : mg "RuntimeError" = none
  oU : OwnX K CU "IndexError.__new__" bmI
  oN : OwnX K CN "RuntimeError.__new__" bmR
  nU : PySem.W.findIn K (.ref CU) "value" = some none
  nN : PySem.W.findIn K (.ref CN) "user" = some none
  gU : mg "UnknownEntry" = some (.ref CU)
  gN : mg "NothingToUndo" = some (.ref CN)
  iU : PySem.W.findIn K (.ref CU) "__init__" = some (some (.ref fU))
  iN : PySem.W.findIn K (.ref CN) "__init__" = some (some (.ref fN))
  tU : PySem.W.typeIn K (.ref fU) = some (.type "function")
  tN : PySem.W.typeIn K (.ref fN) = some (.type "function")
def spXInit (C : Addr) (f : Str) : Sp := fun vs H Q _ => ∃ (a : Addr) (v : V), vs = [.ref a, v] ∧ H a = some (exo a C none) ∧ ∀ d, H d = none → d ≠ a → Q .non (upd (upd H d (exd d [(f, v)])) a (exo a C (some d)))
structure Small (st : SS) : Prop where
  al : st.added.length ≤ 12
  cl : st.changes.length ≤ 12
  ct : st.count ≤ 12
  ws : ∀ p ∈ st.added, Steps p ∧ p.length ≤ 18 ∧ (red p).length ≤ 16
theorem Small.fit {st : SS} (h : Small st) (lt : st.added.length ≤ 11) : Fit ((listed st).map red) := by
  have ll := listed_len st
  refine ⟨?_, ?_, ?_⟩
  · intro q hq
    obtain ⟨p, hp, rfl⟩ := List.mem_map.mp hq
    have z := h.ws p (listed_mem hp)
    exact ⟨z.1.red, by omega⟩
  · have z := total_le (ps := (listed st).map red) (b := 16) (fun q hq => by
      obtain ⟨p, hp, rfl⟩ := List.mem_map.mp hq
      exact (h.ws p (listed_mem hp)).2.2)
    rw [List.length_map] at z
    omega
  · rw [List.length_map]
    omega
def spAddPath (C : Addr) : Sp := fun vs H Q _ => ∃ (s : Sd) (st : SS) (w : List Nat) (u : Nat), vs = [.ref s.p, vS w, .int u] ∧ SA C s H st ∧ Small st ∧ st.added.length ≤ 11 ∧ Steps w ∧ w.length ≤ 400 ∧ (red w).length ≤ 60 ∧ u < 4 ∧
  ∀ H' b v, SA C s H' ⟨st.added ++ [w], st.changes ++ [⟨u, true, st.added.length⟩], st.count + 1⟩ → Kp s.all H H' → H b = none → H' b = some (.tup [.int (st.added.length : Nat), v]) → DerV H H' (derive ((listed st).map red) (red w)) v → Q (.ref b) H'
def spRemove (C CU : Addr) : Sp := fun vs H Q E => ∃ (s : Sd) (st : SS) (e u : Nat), vs = [.ref s.p, .int e, .int u] ∧ SA C s H st ∧ Small st ∧ u < 4 ∧
  (isCur st.changes e = false → ∀ d H', Kp [] H H' → H d = none → H' d = some (.xd [("value", .int e)]) → E (.ref CU) (some d) H') ∧
  (isCur st.changes e = true → ∀ H', SA C s H' { st with changes := st.changes ++ [⟨u, false, e⟩], count := st.count + 1 } → Kp s.all H H' → Q .non H')
def undoS (st : SS) (u : Nat) : Option (Chg × SS) := match (ownIdx st.changes u).getLast? with
  | none => none
  | some k => some (st.changes.getD k ⟨0, true, 0⟩, { st with changes := st.changes.eraseIdx k })
def spUndo (C CN : Addr) : Sp := fun vs H Q E => ∃ (s : Sd) (st : SS) (u : Nat), vs = [.ref s.p, .int u] ∧ SA C s H st ∧ Small st ∧ u < 4 ∧
  (undoS st u = none → ∀ d H', Kp [] H H' → H d = none → H' d = some (.xd [("user", .int u)]) → E (.ref CN) (some d) H') ∧
  (∀ x st', undoS st u = some (x, st') → ∀ H' b, SA C s H' st' → Kp s.all H H' → H b = none → H' b = some (.tup [.str (wordA x.add), .int x.entry]) → Q (.ref b) H')
def reprOf (st : SS) : Str := ("Session(" : Str) ++ (PyData.dict (datD (entK st))).shown ++ ")"
def spReprS (C : Addr) : Sp := fun vs H Q _ => ∃ (s : Sd) (st : SS), vs = [.ref s.p] ∧ SA C s H st ∧ Small st ∧ ∀ H', Kp [] H H' → Q (.str (reprOf st)) H'
theorem entK_scalar (st : SS) : ∀ p ∈ entK st, isScalar p.2 = true := by
  intro p hp
  obtain ⟨e, _, rfl⟩ := List.mem_map.mp hp
  rfl
theorem steps_lt {w : List Nat} (h : Steps w) : ∀ c ∈ (S w).cps.toList, c < 16 ^ 8 := by
  intro c hc
  have m : c ∈ w := by simpa using hc
  exact Nat.lt_of_lt_of_le (step_small (h c m)) (by decide)
theorem Small.dict {st : SS} (h : Small st) : (PyData.dict (datD (entK st))).showable = true ∧ (PyData.dict (datD (entK st))).depth ≤ 1 ∧ (PyData.dict (datD (entK st))).shown.length ≤ 10000 := by
  have al := h.al
  have z := dict_fine (n := 0) (m := 182) (kvs := datD (entK st)) (by
    intro p hp
    unfold datD at hp
    obtain ⟨q, hq, rfl⟩ := List.mem_map.mp hp
    obtain ⟨e, he, rfl⟩ := List.mem_map.mp hq
    have lt := current_lt he
    refine ⟨(Fine.int (n := e) (by omega)).mono (Nat.le_refl _) (by decide), ?_⟩
    have y := h.ws (st.added.getD e []) (getD_mem lt)
    refine (Fine.str (steps_lt y.1)).mono (Nat.le_refl _) ?_
    rw [S_len]
    omega)
  refine ⟨z.1, z.2.1, ?_⟩
  have l : (datD (entK st)).length ≤ 12 := by
    unfold datD entK
    rw [List.length_map, List.length_map]
    have := current_len st
    omega
  have := z.2.2
  omega
theorem Tups.erase {α : Type} {f : α → List V} {H : Hp} : ∀ {xs : List α} {ts : List Addr} (i : Nat), Tups f H xs ts → Tups f H (xs.eraseIdx i) (ts.eraseIdx i)
  | _, _, _, .nil => .nil
  | _, _, 0, .cons _ r => r
  | _, _, i + 1, .cons h r => .cons h (Tups.erase i r)
theorem map_erase {α β : Type} (g : α → β) : ∀ (l : List α) (i : Nat), (l.map g).eraseIdx i = (l.eraseIdx i).map g
  | [], _ => rfl
  | _ :: _, 0 => rfl
  | a :: l, i + 1 => congrArg (g a :: ·) (map_erase g l i)
def ownTo (ch : List Chg) (u i : Nat) : List Nat := (List.range i).filter fun j => (ch.getD j ⟨0, true, 0⟩).who == u
theorem ownTo_len (ch : List Chg) (u i : Nat) : (ownTo ch u i).length ≤ i := by
  unfold ownTo
  refine Nat.le_trans (List.length_filter_le _ _) ?_
  rw [List.length_range]
  exact Nat.le_refl _
theorem ownTo_step {ch : List Chg} {u i : Nat} {x : Chg} (h : ch[i]? = some x) : ownTo ch u (i + 1) = if x.who = u then ownTo ch u i ++ [i] else ownTo ch u i := by
  unfold ownTo
  rw [List.range_succ, List.filter_append, List.filter_cons, List.getD_eq_getElem?_getD, h]
  show _ ++ (if (x.who == u) = true then [i] else []) = _
  by_cases e : x.who = u
  · rw [if_pos (by rw [e]; exact beq_self_eq_true u), if_pos e]
  · rw [if_neg (by simpa using e), if_neg e, List.append_nil]
theorem own_lt {ch : List Chg} {u k : Nat} (h : k ∈ ownIdx ch u) : k < ch.length := List.mem_range.mp (List.mem_filter.mp h).1
theorem numsD_dp {K : PySem.W.Frag} {H : Hp} : ∀ l : List Nat, DpAll K H (nums l) (l.map fun n : Nat => PyData.int (n : Int))
  | [] => .nil
  | c :: l => .cons (.int _) (numsD_dp l)
theorem numsD_lay (l : List Nat) : Lay 1 (.list (l.map fun n : Nat => PyData.int (n : Int))) := by
  refine Lay.lst (n := 0) fun d hd => ?_
  obtain ⟨c, hc, rfl⟩ := List.mem_map.mp hd
  exact Lay.int 0 _
section
variable {P : Program} {w : World} {K : PySem.W.Frag} {mg : Str → Option Value} {base : Heap} {f CF CS CU CN fU fN : Addr} {fd fdU fdN : FuncData}
abbrev N_UnknownEntry_init : List Str := ["self", "value"]
theorem sc_UnknownEntry_init : FnScope N_UnknownEntry_init ["self", "value"] WHead.d_UnknownEntry_init.scope := ⟨rfl, rfl, rfl, by decide +kernel, rfl, by decide +kernel, by decide +kernel⟩
theorem ok_UnknownEntry_init (F : FnD K WHead.d_UnknownEntry_init f fd) (TX : TxtX K mg CU CN fU fN) : FnOk P w K mg base C8.CX0 1 f fd ["self", "value"] (spXInit CU "value") := by
  refine F.ok sc_UnknownEntry_init (fun vs H Q E h => ?_) (fun cdv A outer s H vs Q E hr h => ?_)
  · obtain ⟨a, v, rfl, _⟩ := h
    rfl
  · obtain ⟨a, v, rfl, ha, k⟩ := h
    refine ⟨_, PSs.nox ((pss_cons (ps_expr (pe_initX base_index (by decide +kernel) (by rfl) TX.f_IndexError vI (pa_cons (pv 0) (pa_cons pe_str pa_nil))))
      (pss_one (ps_setX base_index (pv 0) (pv 1))))), ?_⟩
    exact ⟨_, rfl, a, CU, _, rfl, by decide, TX.oU, ha, _, rfl, _, rfl, a, CU, rfl, TX.oU, TX.nU, ha, fun d hd ne => k d hd ne⟩
abbrev N_NothingToUndo_init : List Str := ["self", "user"]
theorem sc_NothingToUndo_init : FnScope N_NothingToUndo_init ["self", "user"] WHead.d_NothingToUndo_init.scope := ⟨rfl, rfl, rfl, by decide +kernel, rfl, by decide +kernel, by decide +kernel⟩
theorem ok_NothingToUndo_init (F : FnD K WHead.d_NothingToUndo_init f fd) (TX : TxtX K mg CU CN fU fN) : FnOk P w K mg base C8.CX0 1 f fd ["self", "user"] (spXInit CN "user") := by
  refine F.ok sc_NothingToUndo_init (fun vs H Q E h => ?_) (fun cdv A outer s H vs Q E hr h => ?_)
  · obtain ⟨a, v, rfl, _⟩ := h
    rfl
  · obtain ⟨a, v, rfl, ha, k⟩ := h
    refine ⟨_, PSs.nox ((pss_cons (ps_expr (pe_initX base_runtime (by decide +kernel) (by rfl) TX.f_RuntimeError vR (pa_cons (pv 0) (pa_cons pe_str pa_nil))))
      (pss_one (ps_setX base_runtime (pv 0) (pv 1))))), ?_⟩
    exact ⟨_, rfl, a, CN, _, rfl, by decide, TX.oN, ha, _, rfl, _, rfl, a, CN, rfl, TX.oN, TX.nN, ha, fun d hd ne => k d hd ne⟩
abbrev N_Session_repr : List Str := ["self"]
theorem sc_Session_repr : FnScope N_Session_repr ["self"] WHead.d_Session_repr.scope := ⟨rfl, rfl, rfl, by decide +kernel, rfl, by decide +kernel, by decide +kernel⟩
theorem ok_Session_repr (F : FnD K WHead.d_Session_repr f fd) (T : Txt K mg CF CS) (m_Session_entries : MetE P w K mg base 2 CS "entries" (spEntries CS)) : FnG P w K mg base C8.CX0 3 f fd ["self"] (spReprS CS) := by
  refine okG F sc_Session_repr (fun vs H Q E h => ?_) (fun cdv A outer s H vs Q E hG hr h => ?_)
  · obtain ⟨s, st, rfl, _⟩ := h
    rfl
  · obtain ⟨s, st, rfl, sa, sm, k⟩ := h
    have sz : sizeLine = 16777216 := sizeLine_eq
    have al := sm.al
    have cl := sm.cl
    have d := sm.dict
    refine ⟨_, PSs.nox ((pss_one (ps_ret (pe_joined (.cons pe_str (.cons (pe_fmtD hG hr.units (C8.pe_mt0 m_Session_entries hr (by decide) (pv 0))) (.cons pe_str .nil))))))), ?_⟩
    have e0 : (Str.empty ++ ("Session(" : Str) : Str) = ("Session(" : Str) := by decide +kernel
    have e1 : ("Session(" : Str).length = 8 := by decide +kernel
    have e2 : (")" : Str).length = 1 := by decide +kernel
    refine ⟨_, rfl, by rw [e0, e1, sz]; omega, ?_⟩
    refine ⟨_, rfl, s.p, _, _, rfl, sa.ob.choose_spec, rfl, s, st, rfl, sa, by omega, by omega, fun H1 b k1 nb hb => ⟨b, _, rfl, hb, entK_scalar st, d.1, by omega, by rw [sz]; omega, ?_⟩⟩
    refine ⟨_, rfl, by rw [e0, strLen_append, e1, sz]; omega, ?_⟩
    refine ⟨_, rfl, by rw [e0, strLen_append, strLen_append, e1, e2, sz]; omega, ?_⟩
    show Q (.str (Str.empty ++ ("Session(" : Str) ++ (PyData.dict (datD (entK st))).shown ++ (")" : Str))) H1
    rw [e0]
    exact k _ k1
abbrev N_Session_add_path : List Str := ["self", "path", "user", "goal", "derivation", "entry"]
theorem sc_Session_add_path : FnScope N_Session_add_path ["self", "path", "user"] WHead.d_Session_add_path.scope := ⟨rfl, rfl, rfl, by decide +kernel, rfl, by decide +kernel, by decide +kernel⟩
theorem ok_Session_add_path (F : FnD K WHead.d_Session_add_path f fd) (T : Txt K mg CF CS) (c_require_path : CalE P w K mg base 2 "require_path" spReqPath) (c_reduced_generator : CalE P w K mg base 2 "reduced_generator" spRedGen) (c_derive_all : CalE P w K mg base 8 "derive_all" (spDeriveAll K))
    (m_Session_require_user : MetE P w K mg base 2 CS "require_user" (spUser CS)) (m_Session_entries : MetE P w K mg base 2 CS "entries" (spEntries CS)) (m_Session_paths : MetE P w K mg base 3 CS "paths" (spPaths CS)) (m_Session_record : MetE P w K mg base 1 CS "record" (spRecord CS)) : FnOk P w K mg base C8.CX0 9 f fd ["self", "path", "user"] (spAddPath CS) := by
  refine F.ok sc_Session_add_path (fun vs H Q E h => ?_) (fun cdv A outer s H vs Q E hr h => ?_)
  · obtain ⟨s, st, w, u, rfl, _⟩ := h
    rfl
  · obtain ⟨s, st, w, u, rfl, sa, sm, a11, sw, wl, rl, lu, k⟩ := h
    have sz : sizeLine = 16777216 := sizeLine_eq
    have al := sm.al
    have cl := sm.cl
    have ct := sm.ct
    refine ⟨_, PSs.nox ((pss_cons (ps_expr (C8.pe_c c_require_path hr (by decide) (by rfl) (pa_cons (pv 1) pa_nil)))
      (pss_cons (ps_expr (C8.pe_mt m_Session_require_user hr (by decide) (pv 0) (pa_cons (pv 2) pa_nil)))
      (pss_cons (ps_set (i := 3) sc_Session_add_path.nd rfl (Or.inl rfl) (C8.pe_c c_reduced_generator hr (by decide) (by rfl) (pa_cons (pv 1) pa_nil)))
      (pss_cons (ps_if (pt_cmpR op_ge (pe_callB call_lenD (by rfl) T.f_len PySem.boot_len (pa_cons (C8.pe_mt0 m_Session_entries hr (by decide) (pv 0)) pa_nil)) (C8.pe_gc rfl T.g_MAX_GENERATORS) (nomark _)) (pss_one ps_never) pss_nil)
      (pss_cons (ps_if (pt_cmpR op_ge (pe_fld (pv 0) rfl) (C8.pe_gc rfl T.g_MAX_CHANGES) (nomark _)) (pss_one ps_never) pss_nil)
      (pss_cons (ps_set (i := 4) sc_Session_add_path.nd rfl (Or.inl rfl) (pe_ix ix_list (C8.pe_c c_derive_all hr (by decide) (by rfl) (pa_cons (C8.pe_mt0 m_Session_paths hr (by decide) (pv 0)) (pa_cons (pe_lst (pa_cons (pv 3) pa_nil)) pa_nil))) pe_int (fun _ _ => rfl)))
      (pss_cons (ps_set (i := 5) sc_Session_add_path.nd rfl (Or.inl rfl) (pe_callB call_len (by rfl) T.f_len PySem.boot_len (pa_cons (pe_fld (pv 0) rfl) pa_nil)))
      (pss_cons (ps_expr (pe_bm PySem.F.plainAttrs_list PySem.F.slot_list_append PySem.F.type_list_append mt_append (pe_fld (pv 0) rfl) (pa_cons (pv 1) pa_nil)))
      (pss_cons (ps_expr (C8.pe_mt m_Session_record hr (by decide) (pv 0) (pa_cons (pv 2) (pa_cons pe_str (pa_cons (pv 5) pa_nil)))))
      (pss_one (ps_ret (pe_tup (pa_cons (pv 5) (pa_cons (pv 4) pa_nil))))))))))))))), ?_⟩
    refine ⟨_, rfl, w, rfl, sw, wl, fun H1 k1 => ?_⟩
    have sa1 := sa.kp0 k1
    refine ⟨_, rfl, s.p, _, _, rfl, sa1.ob.choose_spec, rfl, _, rfl, s.p, u, rfl, lu, ?_⟩
    refine ⟨_, rfl, w, rfl, sw, by omega, rl, fun H2 k2 => ?_⟩
    have k02 := k1.trans k2
    have sa2 := sa.kp0 k02
    -- len(self.entries()) >= MAX_GENERATORS
    refine ⟨_, rfl, s.p, _, _, rfl, sa2.ob.choose_spec, rfl, s, st, rfl, sa2, by omega, by omega, fun H3 b k3 nb hb => ⟨b, _, rfl, hb, _, _, rfl, rfl, _, rfl, ifF (decide_eq_false ?_) ?_⟩⟩
    · have e : (entK st).length = (current st).length := List.length_map _
      have := current_len st
      rw [e]
      omega
    have k03 := k02.trans k3
    have sa3 := sa.kp0 k03
    -- self.change_count >= MAX_CHANGES
    refine ⟨_, rfl, s.p, CS, _, _, _, rfl, sa3.ob.choose_spec, T.clS, T.nK, fldS_count _ _, _, _, rfl, rfl, _, rfl, ifF (decide_eq_false (by omega)) ?_⟩
    -- derivation = derive_all(self.paths(), [goal])[0]
    refine ⟨_, rfl, s.p, _, _, rfl, sa3.ob.choose_spec, rfl, s, st, rfl, sa3, by omega, by omega, fun p hp => ⟨(sm.ws p hp).1, by have := (sm.ws p hp).2.1; omega⟩, fun H4 b4 k4 nb4 hb4 => ⟨_, rfl, by rw [sz]; exact Nat.le_of_ble_eq_true rfl, fun L hL => ?_⟩⟩
    have k5 : Kp [] H4 (upd H4 L (.lst [vS (red w)])) := Kp.new hL
    refine ⟨b4, L, _, red w, rfl, SqL.of (k5 _ _ hb4 List.not_mem_nil), SqL.of upd_same, sm.fit a11, rl, fun H6 b6 v k6 nb6 hb6 dv => ?_⟩
    have k06 := ((k03.trans k4).trans k5).trans k6
    have k46 := (k4.trans k5).trans k6
    have k05 := (k03.trans k4).trans k5
    have sa6 := sa.kp0 k06
    refine ⟨b6, _, _, v, rfl, rfl, SqL.of hb6, rfl, ?_⟩
    -- entry = len(self.added)
    refine ⟨_, rfl, s.p, CS, _, _, _, rfl, sa6.ob.choose_spec, T.clS, T.nA, fldS_added _ _, _, _, rfl, .inl ⟨_, SqL.of sa6.ad, rfl⟩, ?_⟩
    rw [List.length_map]
    -- self.added.append(path)
    refine ⟨_, rfl, s.p, CS, _, _, _, rfl, sa6.ob.choose_spec, T.clS, T.nA, fldS_added _ _, .inl ⟨rfl, _, SqL.of sa6.ad⟩, _, rfl, s.a, _, _, rfl, rfl, sa6.ad, by rw [List.length_map, sz]; omega, ?_⟩
    have sa7 : SA CS s (upd H6 s.a (.lst (st.added.map vS ++ [vS w]))) ⟨st.added ++ [w], st.changes, st.count⟩ := by
      obtain ⟨dx, h1⟩ := sa6.ob
      have ne := sa6.ne
      exact ⟨⟨dx, by rw [upd_ne ne.1]; exact h1⟩, by rw [upd_same, List.map_append]; rfl, sa6.ch.keep (Tp.upd sa6.ad (fun _ z => nomatch z)) (upd_ne sa6.ac.symm), sa6.ac⟩
    -- self.record(user, 'add', entry)
    refine ⟨_, rfl, s.p, _, _, rfl, sa7.ob.choose_spec, rfl, _, rfl, _, rfl, s, _, ⟨u, true, st.added.length⟩, rfl, sa7, by show st.changes.length ≤ 100; omega, fun H8 sa8 k8 => ?_⟩
    refine ⟨_, rfl, _, rfl, line2 _ _, fun b9 hb9 => ?_⟩
    have kk : Kp s.all H (upd H8 b9 (.tup [.int (st.added.length : Nat), v])) := (((k06.nil).trans (Kp.upd (by simp [Sd.all]))).trans (k8.mono (by intro a ha; simp only [Sd.all, List.mem_cons, List.not_mem_nil, or_false] at ha ⊢; rcases ha with h | h <;> simp [h]))).trans (Kp.new hb9)
    have b9n : H b9 = none := by
      have z : H8 b9 = none := hb9
      have y : b9 ∉ s.all := sa8.not_new z
      exact (((k06.nil).trans (Kp.upd (by simp [Sd.all]))).trans (k8.mono (by intro a ha; simp only [Sd.all, List.mem_cons, List.not_mem_nil, or_false] at ha ⊢; rcases ha with h | h <;> simp [h]))).free' z y
    refine k _ b9 v (sa8.kp0 (Kp.new hb9)) kk b9n upd_same ?_
    cases hd : derive ((listed st).map red) (red w) with
    | none =>
      rw [hd] at dv
      exact dv
    | some d =>
      rw [hd] at dv
      obtain ⟨q, rfl, nq, hq⟩ := dv
      have q0 : H q = none := k05.free nq
      have qn : q ∉ s.all := by
        intro z
        exact sa.not_new q0 z
      have tp1 : Tp H6 (upd H6 s.a (.lst (st.added.map vS ++ [vS w]))) := Tp.upd sa6.ad (fun _ z => nomatch z)
      have nt := sa7.noTup
      have tp2 : Tp (upd H6 s.a (.lst (st.added.map vS ++ [vS w]))) H8 := k8.tp fun a ha xs => nt a (by simp only [Sd.all, List.mem_cons, List.not_mem_nil, or_false] at ha ⊢; rcases ha with h | h <;> simp [h]) xs
      have q1 := hq.kp (F := [s.a]) (Kp.upd List.mem_cons_self) tp1 (fun z => qn (by rw [List.mem_singleton.mp z]; simp [Sd.all]))
      have q2 := q1.kp k8 tp2 (fun z => qn (by simp only [Sd.all, List.mem_cons, List.not_mem_nil, or_false] at z ⊢; rcases z with h | h <;> simp [h]))
      exact ⟨q, rfl, q0, q2.kp (Kp.new hb9 : Kp [] H8 _) (Tp.new hb9) List.not_mem_nil⟩
abbrev N_Session_remove_entry : List Str := ["self", "entry", "user"]
theorem sc_Session_remove_entry : FnScope N_Session_remove_entry ["self", "entry", "user"] WHead.d_Session_remove_entry.scope := ⟨rfl, rfl, rfl, by decide +kernel, rfl, by decide +kernel, by decide +kernel⟩
theorem ok_Session_remove_entry (F : FnD K WHead.d_Session_remove_entry f fd) (T : Txt K mg CF CS) (TX : TxtX K mg CU CN fU fN) (xU : FnOk P w K mg base C8.CX0 1 fU fdU ["self", "value"] (spXInit CU "value")) (bU : Binds K fdU ["self", "value"] []) (c_is_integer : CalE P w K mg base 1 "is_integer" spInt)
    (m_Session_is_current : MetE P w K mg base 1 CS "is_current" (spCur CS)) (m_Session_require_user : MetE P w K mg base 2 CS "require_user" (spUser CS)) (m_Session_record : MetE P w K mg base 1 CS "record" (spRecord CS)) : FnOk P w K mg base (L2.CX P w) 3 f fd ["self", "entry", "user"] (spRemove CS CU) := by
  refine F.ok sc_Session_remove_entry (fun vs H Q E h => ?_) (fun cdv A outer s H vs Q E hr h => ?_)
  · obtain ⟨s, st, e, u, rfl, _⟩ := h
    rfl
  · obtain ⟨s, st, e, u, rfl, sa, sm, lu, kx, k⟩ := h
    have al := sm.al
    have cl := sm.cl
    have ct := sm.ct
    refine ⟨_, (pss_cons (ps_if (PW.pt (pw_or (pt_not (pt_val (C8.pe_c c_is_integer hr (by decide) (by rfl) (pa_cons (pv 1) pa_nil)))) (pw_or1 (pt_not (pt_val (C8.pe_mt m_Session_is_current hr (by decide) (pv 0) (pa_cons (pv 1) pa_nil))))))) (pss_one (ps_raise rfl (takes_of rfl rfl rfl rfl) (pmk_X base_index TX.oU TX.iU TX.tU xU (hr.mono (by decide)) bU C8.pass0 (by rfl) TX.gU (pa_cons (pv 1) pa_nil)))) pss_nil)
      (pss_cons (ps_expr (C8.pe_mt m_Session_require_user hr (by decide) (pv 0) (pa_cons (pv 2) pa_nil)))
      (pss_cons (ps_if (pt_cmpR op_ge (pe_fld (pv 0) rfl) (C8.pe_gc rfl T.g_MAX_CHANGES) (nomark _)) (pss_one ps_never) pss_nil)
      (pss_one (ps_expr (C8.pe_mt m_Session_record hr (by decide) (pv 0) (pa_cons (pv 2) (pa_cons pe_str (pa_cons (pv 1) pa_nil))))))))), ?_⟩
    refine ⟨_, rfl, _, rfl, _, rfl, ifF rfl ?_⟩
    refine ⟨_, rfl, s.p, _, _, rfl, sa.ob.choose_spec, rfl, _, rfl, s, st, e, rfl, sa, by omega, fun H1 k1 => ⟨_, rfl, ?_⟩⟩
    cases hc : isCur st.changes e with
    | false =>
      refine ifT rfl ?_
      refine ⟨_, rfl, by show 1 ≤ 1000; decide, fun a ha => ⟨a, _, rfl, upd_same, fun d hd ne => ⟨rfl, d, [("value", .int e)], upd_same, ?_, ?_, ?_⟩⟩⟩
      · rw [upd_ne ne]
        exact upd_same
      · have z : (upd H1 a (exo a CU none)) d = none := hd
        rw [upd_ne ne] at z
        exact z
      · have nd : H1 d = none := by
          have z : (upd H1 a (exo a CU none)) d = none := hd
          rw [upd_ne ne] at z
          exact z
        refine kx hc d _ ?_ (k1.free nd) upd_same
        intro b o hb nb
        have h1 := k1 b o hb nb
        have n1 : b ≠ d := ne_of_none h1 nd
        have n2 : b ≠ a := ne_of_none h1 ha
        rw [upd_ne n1, del_ne n2, upd_ne n2, upd_ne n1, upd_ne n2]
        exact h1
    | true =>
      refine ifF rfl ?_
      have sa1 := sa.kp0 k1
      refine ⟨_, rfl, s.p, _, _, rfl, sa1.ob.choose_spec, rfl, _, rfl, s.p, u, rfl, lu, ?_⟩
      refine ⟨_, rfl, s.p, CS, _, _, _, rfl, sa1.ob.choose_spec, T.clS, T.nK, fldS_count _ _, _, _, rfl, rfl, _, rfl, ifF (decide_eq_false (by omega)) ?_⟩
      refine ⟨_, rfl, s.p, _, _, rfl, sa1.ob.choose_spec, rfl, _, rfl, _, rfl, s, st, ⟨u, false, e⟩, rfl, sa1, by omega, fun H2 sa2 k2 => ?_⟩
      exact k hc _ sa2 ((k1.nil).trans (k2.mono (by intro a ha; simp only [Sd.all, List.mem_cons, List.not_mem_nil, or_false] at ha ⊢; rcases ha with h | h <;> simp [h])))
abbrev N_Session_undo : List Str := ["self", "user", "own", "change", "position"]
theorem sc_Session_undo : FnScope N_Session_undo ["self", "user"] WHead.d_Session_undo.scope := ⟨rfl, rfl, rfl, by decide +kernel, rfl, by decide +kernel, by decide +kernel⟩
theorem ok_Session_undo (F : FnD K WHead.d_Session_undo f fd) (T : Txt K mg CF CS) (TX : TxtX K mg CU CN fU fN) (xN : FnOk P w K mg base C8.CX0 1 fN fdN ["self", "user"] (spXInit CN "user")) (bN : Binds K fdN ["self", "user"] [])
    (m_Session_require_user : MetE P w K mg base 2 CS "require_user" (spUser CS)) (m_Session_entries : MetE P w K mg base 2 CS "entries" (spEntries CS)) : FnOk P w K mg base (L2.CX P w) 3 f fd ["self", "user"] (spUndo CS CN) := by
  refine F.ok sc_Session_undo (fun vs H Q E h => ?_) (fun cdv A outer s H vs Q E hr h => ?_)
  · obtain ⟨s, st, u, rfl, _⟩ := h
    rfl
  · obtain ⟨s, st, u, rfl, sa, sm, lu, kx, k⟩ := h
    have sz : sizeLine = 16777216 := sizeLine_eq
    have al := sm.al
    have cl := sm.cl
    have ct := sm.ct
    refine ⟨_, (pss_cons (ps_expr (C8.pe_mt m_Session_require_user hr (by decide) (pv 0) (pa_cons (pv 1) pa_nil)))
      (pss_cons (ps_setLc (i := 2) (own := [("position", 4), ("change", 3)]) (g := (gTup K 2 (gCons (gName 4) (gCons (gName 3) gNil)))) rfl sc_Session_undo.nd rfl rfl (sw_true rfl rfl rfl (by decide +kernel)) (pi_enum (by rfl) T.f_enumerate (pa_cons (pe_fld (pv 0) rfl) pa_nil)) (blkOk_by (N := N_Session_undo) (sc := WHead.d_Session_undo.scope) (by decide +kernel)) (fun _ _ _ _ _ => (pg_tup rfl (pgs_cons (pg_name (i := 4) sc_Session_undo.nd rfl (Or.inl rfl)) (pgs_cons (pg_name (i := 3) sc_Session_undo.nd rfl (Or.inl rfl)) pgs_nil)))) (fun _ _ _ _ _ => (pts_one (pt_cmpR op_eq (pe_ix (show IxR _ (rIxT K) from ix_tup) (pv 3) pe_int (fun _ _ => rfl)) (pv 1) (nomark _)))) (fun _ _ _ _ _ => (pv 4)))
      (pss_cons (ps_if (pt_cmpR (op_eqD hr.units) (pv 2) (pe_lst pa_nil) (nomark _)) (pss_one (ps_raise rfl (takes_of rfl rfl rfl rfl) (pmk_X base_runtime TX.oN TX.iN TX.tN xN (hr.mono (by decide)) bN C8.pass0 (by rfl) TX.gN (pa_cons (pv 1) pa_nil)))) pss_nil)
      (pss_cons (ps_set (i := 3) sc_Session_undo.nd rfl (Or.inl rfl) (pe_bm PySem.F.plainAttrs_list PySem.F.slot_list_pop PySem.F.type_list_pop mt_popAt (pe_fld (pv 0) rfl) (pa_cons (pe_ix ix_list (pv 2) (pe_un un_neg pe_int) (fun _ _ => rfl)) pa_nil)))
      (pss_cons (ps_if (pt_cmpR op_gt (pe_callB call_lenD (by rfl) T.f_len PySem.boot_len (pa_cons (C8.pe_mt0 m_Session_entries hr (by decide) (pv 0)) pa_nil)) (C8.pe_gc rfl T.g_MAX_GENERATORS) (nomark _)) (pss_cons ps_never
      (pss_one ps_never)) pss_nil)
      (pss_one (ps_ret (pe_slice sl_tup (pv 3) (po_some pe_int) po_none)))))))), ?_⟩
    refine ⟨_, rfl, s.p, _, _, rfl, sa.ob.choose_spec, rfl, _, rfl, s.p, u, rfl, lu, ?_⟩
    obtain ⟨ts, hc, tups⟩ := sa.ch
    have len := tups.len
    -- own
    refine ⟨_, rfl, s.p, CS, _, _, _, rfl, sa.ob.choose_spec, T.clS, T.nC, fldS_changes _ _, s.c, _, rfl, SqL.of hc, fun D hD => lc_it (walk_enum (K := K) (a := s.c) (xs := ts.map V.ref)) (fun i H5 => Kp [] H H5 ∧ H5 D = some (.lst (nums (ownTo st.changes u i))))
      ⟨Kp.new hD, upd_same⟩ (fun i H5 _ h => SqL.of (h.1 _ _ hc List.not_mem_nil)) ?_ ?_⟩
    · rintro i v H5 H6 hi ⟨k5, h5⟩ ⟨t, x, y, rfl, ht, rfl, hx, hy⟩
      obtain rfl := Option.some.inj hx
      have hi' : i < (ts.map V.ref).length := hi
      rw [List.length_map] at hi'
      have ie : i < st.changes.length := by omega
      obtain ⟨t2, ht2, htt⟩ := tups.get (List.getElem?_eq_getElem ie)
      have hy' : (ts.map V.ref)[i]? = some y := hy
      rw [List.getElem?_map, ht2] at hy'
      have hy2 : some (V.ref t2) = some y := hy'
      obtain rfl := Option.some.inj hy2
      have k6 : Kp [] H5 (upd H5 t (.tup [.int (i : Int), .ref t2])) := Kp.new ht
      have ht6 : (upd H5 t (.tup [.int (i : Int), .ref t2])) t = some (.tup [.int (i : Int), .ref t2]) := upd_same
      generalize upd H5 t (.tup [.int (i : Int), .ref t2]) = H6 at *
      have tt := k6 _ _ (k5 _ _ htt List.not_mem_nil) List.not_mem_nil
      have et := ownTo_step (u := u) (List.getElem?_eq_getElem ie)
      generalize st.changes[i] = x at *
      refine ⟨t, _, rfl, SqT.of ht6, rfl, _, _, rfl, _, _, rfl, rfl, ?_⟩
      refine ⟨rfl, _, rfl, t2, _, _, _, rfl, rfl, SqT.of tt, rfl, _, rfl, rfl, _, rfl, ?_⟩
      show if decide (V.int (x.who : Int) = V.int (u : Int)) = true then _ else _
      rw [nat_eq, et]
      have h6 := k6 _ _ h5 List.not_mem_nil
      have lo := ownTo_len st.changes u i
      have k7 := k5.trans k6
      by_cases q : x.who = u
      · refine ifT (decide_eq_true q) ⟨_, rfl, _, h6, ?_, k7.mine hD, ?_⟩
        · unfold nums
          rw [List.length_map, sz]
          omega
        · rw [upd_same, if_pos q]
          unfold nums
          rw [List.map_append]
          rfl
      · refine ifF (decide_eq_false q) ⟨k7, ?_⟩
        rw [if_neg q]
        exact h6
    · rintro H1 ⟨k1, hD1⟩
      have eo : ownTo st.changes u (ts.map V.ref).length = ownIdx st.changes u := by rw [List.length_map, ← len]; rfl
      rw [eo] at hD1
      refine ⟨_, rfl, by rw [sz]; exact Nat.zero_le _, fun D2 hD2 => ⟨.list ((ownIdx st.changes u).map fun n : Nat => PyData.int (n : Int)), .list [], ?_, .lst (SqL.of upd_same) .nil, (numsD_lay _).shaped (by decide), lay_nil.shaped (by decide), _, rfl, ?_⟩⟩
      · exact .lst (SqL.of (by rw [upd_ne (ne_of_none hD1 hD2)]; exact hD1)) (numsD_dp _)
      rw [eqv_nil]
      have k2 : Kp [] H (upd H1 D2 (.lst [])) := k1.trans (Kp.new hD2)
      have hD3 : (upd H1 D2 (.lst [])) D = some (.lst (nums (ownIdx st.changes u))) := by rw [upd_ne (ne_of_none hD1 hD2)]; exact hD1
      generalize upd H1 D2 (.lst []) = H2 at *
      have lt : ∀ k ∈ ownIdx st.changes u, k < st.changes.length := fun k hk => own_lt hk
      generalize ho : ownIdx st.changes u = own at *
      have ud : undoS st u = match own.getLast? with
        | none => none
        | some k => some (st.changes.getD k ⟨0, true, 0⟩, { st with changes := st.changes.eraseIdx k }) := by
        unfold undoS
        rw [ho]
      rcases List.eq_nil_or_concat own with rfl | ⟨m, i, e⟩
      · refine ifT rfl ?_
        refine ⟨_, rfl, by show 1 ≤ 1000; decide, fun a ha => ⟨a, _, rfl, upd_same, fun d hd ne => ⟨rfl, d, [("user", .int u)], upd_same, ?_, ?_, ?_⟩⟩⟩
        · rw [upd_ne ne]
          exact upd_same
        · have z : (upd H2 a (exo a CN none)) d = none := hd
          rw [upd_ne ne] at z
          exact z
        · have nd : H2 d = none := by
            have z : (upd H2 a (exo a CN none)) d = none := hd
            rw [upd_ne ne] at z
            exact z
          refine kx ud d _ ?_ (k2.free nd) upd_same
          intro b o hb nb
          have h1 := k2 b o hb nb
          have n1 : b ≠ d := ne_of_none h1 nd
          have n2 : b ≠ a := ne_of_none h1 ha
          rw [upd_ne n1, del_ne n2, upd_ne n2, upd_ne n1, upd_ne n2]
          exact h1
      · rw [List.concat_eq_append] at e
        subst e
        rw [List.getLast?_concat] at ud
        have ud : undoS st u = some (st.changes.getD i ⟨0, true, 0⟩, { st with changes := st.changes.eraseIdx i }) := ud
        have il := lt i (by simp)
        refine ifF (by cases m <;> rfl) ?_
        have sa2 := sa.kp0 k2
        have hc2 := k2 _ _ hc List.not_mem_nil
        have tups2 := tups.tp k2.tp0
        obtain ⟨t, ht, htt⟩ := tups2.get (List.getElem?_eq_getElem il)
        have gd : st.changes.getD i ⟨0, true, 0⟩ = st.changes[i] := by rw [List.getD_eq_getElem?_getD, List.getElem?_eq_getElem il]; rfl
        rw [gd] at ud
        generalize st.changes[i] = x at *
        -- change = self.changes.pop(own[-1])
        have nl : nums (m ++ [i]) = nums m ++ [.int (i : Int)] := by
          unfold nums
          rw [List.map_append]
          rfl
        refine ⟨_, rfl, s.p, CS, _, _, _, rfl, sa2.ob.choose_spec, T.clS, T.nC, fldS_changes _ _, .inl ⟨rfl, _, SqL.of hc2⟩, _, rfl, _, rfl, D, _, _, _, rfl, rfl, SqL.of hD3, by rw [nl]; exact atI_last _ _, s.c, _, (i : Int), i, .ref t, rfl, rfl, hc2, by omega, by omega, ?_, ?_, ?_⟩
        · rw [List.length_map, ← len]
          have nn : ¬ ((i : Int) < 0) := by omega
          have z : (decide (0 ≤ (i : Int)) && decide ((i : Int) < (st.changes.length : Nat))) = true := by
            rw [decide_eq_true (by omega), decide_eq_true (by omega)]
            rfl
          unfold seqIndex?
          dsimp only
          rw [if_neg nn, if_pos z, Int.toNat_natCast]
        · rw [List.getElem?_map, ht]
          rfl
        have e3 : upd H2 s.c (.lst ((ts.map V.ref).eraseIdx i)) = upd H2 s.c (.lst ((ts.eraseIdx i).map V.ref)) := by rw [map_erase]
        rw [e3]
        have tp3 : Tp H2 (upd H2 s.c (.lst ((ts.eraseIdx i).map V.ref))) := Tp.upd hc2 (fun _ z => nomatch z)
        have k3 : Kp [s.c] H2 (upd H2 s.c (.lst ((ts.eraseIdx i).map V.ref))) := Kp.upd List.mem_cons_self
        have sa3 : SA CS s (upd H2 s.c (.lst ((ts.eraseIdx i).map V.ref))) { st with changes := st.changes.eraseIdx i } := by
          obtain ⟨dx, hp⟩ := sa2.ob
          have ne := sa2.ne
          exact ⟨⟨dx, by rw [upd_ne ne.2]; exact hp⟩, by rw [upd_ne sa2.ac]; exact sa2.ad, ⟨_, upd_same, (tups2.erase i).tp tp3⟩, sa2.ac⟩
        have htt3 := tp3 _ _ htt
        have tnc : t ≠ s.c := ne_of htt hc2 (fun z => nomatch z)
        generalize upd H2 s.c (.lst ((ts.eraseIdx i).map V.ref)) = H3 at *
        have le := len_erase st.changes i
        refine ⟨_, rfl, s.p, _, _, rfl, sa3.ob.choose_spec, rfl, s, _, rfl, sa3, by show (st.changes.eraseIdx i).length ≤ 100; omega, by show st.added.length ≤ 100; omega, fun H4 b k4 nb hb => ⟨b, _, rfl, hb, _, _, rfl, rfl, _, rfl, ifF (decide_eq_false ?_) ?_⟩⟩
        · have e : (entK { st with changes := st.changes.eraseIdx i }).length = (current { st with changes := st.changes.eraseIdx i }).length := List.length_map _
          have := current_len { st with changes := st.changes.eraseIdx i }
          have y : ({ st with changes := st.changes.eraseIdx i } : SS).added.length = st.added.length := rfl
          rw [e]
          omega
        have sa4 := sa3.kp0 k4
        refine ⟨_, rfl, _, rfl, t, _, rfl, SqT.of (k4 _ _ htt3 List.not_mem_nil), (by show ¬ (HT.sIx 3 0 (some 1) = 0 ∧ HT.sIx 3 3 none = 3); decide +kernel), fun t1 ht1 => ?_⟩
        refine k x _ ud _ t1 (sa4.kp0 (Kp.new ht1)) ?_ ?_ upd_same
        · exact (((k2.nil).trans (k3.mono (by simp [Sd.all]))).trans k4.nil).trans (Kp.new ht1)
        · have n3 : H3 t1 = none := k4.free ht1
          refine k2.free (k3.free' n3 ?_)
          intro z
          have := sa4.not_new ht1
          exact this (by rw [List.mem_singleton.mp z]; simp [Sd.all])
end
end WK
end Text_WW14
section Text_WW15
set_option Elab.async false
set_option linter.all false
set_option maxRecDepth 100000
set_option maxHeartbeats 4000000
/-! WW15: the law's draws. -/
namespace WK
open PySem PySem.Spec L2 SX
open PyProof.Rows hiding St

def PoolOk (H : Hp) (g : Addr) : Prop := ∃ a b : Int, H g = some (.lst [.int a, .int b])
def spPool (K : PySem.W.Frag) : Sp := fun vs H Q _ => ∃ (l : Addr) (ns : List Int) (i : Nat), vs = [.ref l, .int i] ∧ SqL K H l (ns.map V.int) ∧ ns.length ≤ 10000 ∧ i ≤ 3 ∧ ∀ H' b, Kp [] H H' → H b = none → PoolOk H' b → Q (.ref b) H'
def spDraw : Sp := fun vs H Q _ => ∃ (g : Addr) (n : Nat), vs = [.ref g, .int n] ∧ 0 < n ∧ n < 1000000 ∧ PoolOk H g ∧ ∀ H' (r : Nat), r < n → Kp [g] H H' → PoolOk H' g → Q (.int r) H'
def spPathL : Sp := fun vs H Q _ => ∃ (g : Addr) (a b : Nat), vs = [.ref g, .int a, .int b] ∧ a ≤ 100 ∧ 0 < b ∧ b ≤ 4 ∧ PoolOk H g ∧ ∀ H' w, Steps w → w.length ≤ a → Kp [g] H H' → PoolOk H' g → Q (vS w) H'
def spPadded : Sp := fun vs H Q _ => ∃ (g : Addr) (w : List Nat), vs = [.ref g, vS w] ∧ Steps w ∧ w.length ≤ 100 ∧ PoolOk H g ∧ ∀ H' u v c, w = u ++ v → IsStep c → Kp [g] H H' → PoolOk H' g → Q (vS (u ++ [c] ++ [bk c] ++ v)) H'
/-- a product of the paths and their inverses -/
def Made (ps : List (List Nat)) (w : List Nat) : Prop := ∃ u, ClosedAll (ps.map red) u ∧ Eqv w u
theorem Made.nil (ps : List (List Nat)) : Made ps [] := ⟨[], fun _ _ _ => rfl, Eqv.refl _⟩
theorem Made.app {ps : List (List Nat)} {u v : List Nat} : Made ps u → Made ps v → Made ps (u ++ v) := fun ⟨x, h, e⟩ ⟨y, h', e'⟩ => ⟨x ++ y, fun δ s c => (h δ s c).app (h' δ s c), e.app e'⟩
theorem Made.one {ps : List (List Nat)} {p : List Nat} (h : p ∈ ps) : Made ps p := ⟨red p, fun δ s c => c _ (List.mem_map.mpr ⟨p, h, rfl⟩), (eqv_red p).symm⟩
theorem Made.inv {ps : List (List Nat)} {p : List Nat} (h : p ∈ ps) : Made ps (WK.inv p) := ⟨WK.inv (red p), fun δ s c => (c _ (List.mem_map.mpr ⟨p, h, rfl⟩)).inv s, (eqv_red p).symm.inv⟩
theorem Made.eqv {ps : List (List Nat)} {u v : List Nat} (h : Made ps v) (e : Eqv u v) : Made ps u := h.elim fun x h => ⟨x, h.1, e.trans h.2⟩
theorem Made.closed {ps : List (List Nat)} {w : List Nat} (h : Made ps w) : ClosedAll (ps.map red) (red w) := by
  obtain ⟨u, h, e⟩ := h
  rw [red_eq e]
  exact fun δ s c => (h δ s c).red s
theorem padded_eqv (u v : List Nat) (c : Nat) : Eqv (u ++ [c] ++ [bk c] ++ v) (u ++ v) := by
  have e : Eqv (u ++ ([c] ++ WK.inv [c]) ++ v) (u ++ [] ++ v) := ((Eqv.refl u).app (eqv_inv_right [c])).app (Eqv.refl v)
  have e1 : u ++ ([c] ++ WK.inv [c]) ++ v = u ++ [c] ++ [bk c] ++ v := by simp [WK.inv]
  rw [e1, List.append_nil] at e
  exact e
def spProduct : Sp := fun vs H Q _ => ∃ (g L : Addr) (ps : List (List Nat)) (m : Nat), vs = [.ref g, .ref L, .int m] ∧ H L = some (.lst (ps.map vS)) ∧ (∀ p ∈ ps, Steps p ∧ p.length ≤ 18) ∧ ps.length ≤ 100 ∧ m ≤ 5 ∧ PoolOk H g ∧
  ∀ H' w, Steps w → w.length ≤ 18 * m → Made ps w → (ps = [] → w = []) → Kp [g] H H' → PoolOk H' g → Q (vS w) H'
theorem Kp.mineF {F : List Addr} {A B : Hp} (h : Kp F A B) {c : Addr} {o : HO} (n : A c = none) : Kp F A (L2.upd B c o) := fun b u e nb => by
  rw [upd_ne (ne_of_none e n)]
  exact h b u e nb
theorem PoolOk.kp {g : Addr} {H H' : Hp} {F : List Addr} (h : PoolOk H g) (k : Kp F H H') (n : g ∉ F) : PoolOk H' g := by
  obtain ⟨a, b, e⟩ := h
  exact ⟨a, b, k _ _ e n⟩
theorem PoolOk.ne {g : Addr} {H : Hp} (h : PoolOk H g) {D : Addr} (n : H D = none) : D ≠ g := by
  obtain ⟨a, b, e⟩ := h
  rintro rfl
  rw [n] at e
  cases e
theorem letter_at {r : Nat} (h : r < 8) : ∃ c, ("aAbBcCdD" : Str).cps.toList[r]? = some c ∧ IsStep c := by
  rcases r with _ | _ | _ | _ | _ | _ | _ | _ | r
  · exact ⟨97, by decide +kernel, rfl⟩
  · exact ⟨65, by decide +kernel, rfl⟩
  · exact ⟨98, by decide +kernel, rfl⟩
  · exact ⟨66, by decide +kernel, rfl⟩
  · exact ⟨99, by decide +kernel, rfl⟩
  · exact ⟨67, by decide +kernel, rfl⟩
  · exact ⟨100, by decide +kernel, rfl⟩
  · exact ⟨68, by decide +kernel, rfl⟩
  · omega
theorem Steps.snoc {l : List Nat} {c : Nat} (h : Steps l) (hc : IsStep c) : Steps (l ++ [c]) := fun x hx => (List.mem_append.mp hx).elim (h x) fun z => by rw [List.mem_singleton.mp z]; exact hc
def wordsD (ps : List (List Nat)) : List PyData := ps.map fun p => .str (S p)
theorem wordsD_dp {K : PySem.W.Frag} {H : Hp} : ∀ ps : List (List Nat), DpAll K H (ps.map vS) (wordsD ps)
  | [] => .nil
  | p :: ps => .cons (.str _) (wordsD_dp ps)
theorem wordsD_lay {ps : List (List Nat)} (h : ∀ p ∈ ps, Steps p) : Lay 1 (.list (wordsD ps)) := by
  refine Lay.lst (n := 0) fun d hd => ?_
  obtain ⟨p, hp, rfl⟩ := List.mem_map.mp hd
  exact Lay.str 0 (strOk_steps (h p hp))
section
variable {P : Program} {wd : World} {K : PySem.W.Frag} {mg : Str → Option Value} {base : Heap} {f CF CS : Addr} {fd : FuncData}
abbrev N_law_pool : List Str := ["_law_script", "_law_index", "_law_cell", "_law_number", "_law_seed"]
theorem sc_law_pool : FnScope N_law_pool ["_law_script", "_law_index"] WHead.d_law_pool.scope := ⟨rfl, rfl, rfl, by decide +kernel, rfl, by decide +kernel, by decide +kernel⟩
theorem ok_law_pool (F : FnD K WHead.d_law_pool f fd) (T : Txt K mg CF CS) : FnOk P wd K mg base C8.CX0 1 f fd ["_law_script", "_law_index"] (spPool K) := by
  refine F.ok sc_law_pool (fun vs H Q E h => ?_) (fun cdv A outer s H vs Q E hr h => ?_)
  · obtain ⟨l, ns, i, rfl, _⟩ := h
    rfl
  · obtain ⟨l, ns, i, rfl, hl, few, i3, k⟩ := h
    have sz : sizeLine = 16777216 := sizeLine_eq
    refine ⟨_, PSs.nox ((pss_cons (ps_set (i := 2) sc_law_pool.nd rfl (Or.inl rfl) (pe_ix ix_list (pe_op op_cat (pe_slice sl_list (pv 0) (po_some (pv 1)) (po_some (pe_op op_add (pv 1) pe_int))) (pe_lst (pa_cons pe_int pa_nil))) pe_int (fun _ _ => rfl)))
      (pss_cons (ps_set (i := 3) sc_law_pool.nd rfl (Or.inl rfl) (pe_callB (call_max2 rfl) (by rfl) T.f_max (by decide +kernel) (pa_cons (pv 2) (pa_cons (pe_op op_sub (pe_un un_neg pe_int) (pv 2)) pa_nil))))
      (pss_cons (ps_set (i := 4) sc_law_pool.nd rfl (Or.inl rfl) (pe_op op_mod (pe_op op_mul (pe_op op_add (pe_op op_add (pe_op op_add (pe_op op_mod (pv 3) pe_int) (pe_op op_mul (pe_op op_mul pe_int (pv 1)) (pv 1))) (pe_op op_mul pe_int (pv 1))) pe_int) pe_int) pe_int))
      (pss_one (ps_ret (pe_lst (pa_cons (pe_op op_mul (pv 3) (pe_callTy call_int1 (by rfl) T.f_int (by decide +kernel) (pa_cons (pe_cmpR op_ge (pv 3) (pe_op op_pow pe_int pe_int) (nomark _)) pa_nil))) (pa_cons (pe_op op_mod (pe_op op_mul (pv 4) (pv 4)) pe_int) pa_nil))))))))), ?_⟩
    refine ⟨_, rfl, _, rfl, _, rfl, _, rfl, _, _, rfl, rfl, _, rfl, l, _, rfl, hl, fun t1 ht1 => ⟨by rw [sz]; exact Nat.le_of_ble_eq_true rfl, fun t2 ht2 => ?_⟩⟩
    obtain ⟨zs, hz, zl⟩ : ∃ zs : List Int, cutV (ns.map V.int) (some (i : Int)) (some ((i : Int) + 1)) = zs.map V.int ∧ zs.length ≤ 10000 := by
      refine ⟨(ns.drop (HT.sIx (ns.map V.int).length 0 (some (i : Int)))).take (HT.sIx (ns.map V.int).length (ns.map V.int).length (some ((i : Int) + 1)) - HT.sIx (ns.map V.int).length 0 (some (i : Int))), ?_, ?_⟩
      · unfold cutV
        rw [List.map_take, List.map_drop]
      · rw [List.length_take, List.length_drop]
        omega
    rw [hz] at ht2 ⊢
    have k1 : Kp [] H (upd H t1 (.lst (zs.map V.int))) := Kp.new ht1
    have h1 : (upd H t1 (.lst (zs.map V.int))) t1 = some (.lst (zs.map V.int)) := upd_same
    generalize upd H t1 (.lst (zs.map V.int)) = H1 at *
    have k2 : Kp [] H1 (upd H1 t2 (.lst [V.int 0])) := Kp.new ht2
    have h2 : (upd H1 t2 (.lst [V.int 0])) t2 = some (.lst [V.int 0]) := upd_same
    have h12 := k2 _ _ h1 List.not_mem_nil
    generalize upd H1 t2 (.lst [V.int 0]) = H2 at *
    refine ⟨t1, t2, _, _, rfl, rfl, h12, h2, by rw [List.length_map, sz]; show zs.length + 1 ≤ _; omega, fun t3 ht3 => ?_⟩
    have k3 : Kp [] H2 (upd H2 t3 (.lst (zs.map V.int ++ [V.int 0]))) := Kp.new ht3
    have h3 : (upd H2 t3 (.lst (zs.map V.int ++ [V.int 0]))) t3 = some (.lst (zs.map V.int ++ [V.int 0])) := upd_same
    generalize upd H2 t3 (.lst (zs.map V.int ++ [V.int 0])) = H3 at *
    obtain ⟨c, hc⟩ : ∃ c : Int, atI (zs.map V.int ++ [V.int 0]) 0 = some (.int c) := by
      cases zs with
      | nil => exact ⟨0, rfl⟩
      | cons z r => exact ⟨z, atI_nat (j := 0) rfl⟩
    refine ⟨t3, _, _, _, rfl, rfl, SqL.of h3, hc, ?_⟩
    have kk : Kp [] H H3 := (k1.trans k2).trans k3
    refine ⟨_, rfl, _, rfl, _, rfl, _, _, rfl, rfl, _, _, rfl, ?_⟩
    generalize (if -1 - c > c then -1 - c else c) = m
    have ii : (i : Int) ≤ 3 := by omega
    have p0 := Int.emod_nonneg m (show (2147483629 : Int) ≠ 0 by decide)
    have p1 := Int.emod_lt_of_pos m (show (0 : Int) < 2147483629 by decide)
    refine ⟨_, rfl, _, _, rfl, rfl, (by show (0 : Int) < 2147483629; decide), ?_⟩
    refine ⟨_, rfl, _, _, rfl, rfl, .inl ⟨by decide, by decide⟩, ?_⟩
    refine ⟨_, rfl, _, _, rfl, rfl, .inr ⟨by omega, by omega⟩, _, _, rfl, rfl, ?_⟩
    refine ⟨_, rfl, _, _, rfl, rfl, .inl ⟨by decide, by decide⟩, _, _, rfl, rfl, _, _, rfl, rfl, _, _, rfl, rfl, .inr ⟨by decide, by decide⟩, _, _, rfl, rfl, (by show (0 : Int) < 2147483647; decide), ?_⟩
    have q0 := Int.emod_nonneg ((m % 2147483629 + 7919 * (i : Int) * (i : Int) + 31 * (i : Int) + 17) * 48271) (show (2147483647 : Int) ≠ 0 by decide)
    have q1 := Int.emod_lt_of_pos ((m % 2147483629 + 7919 * (i : Int) * (i : Int) + 31 * (i : Int) + 17) * 48271) (show (0 : Int) < 2147483647 by decide)
    refine ⟨_, rfl, _, rfl, _, _, rfl, rfl, ⟨by decide, by decide, by decide⟩, _, _, rfl, rfl, .inr ⟨_, rfl, _, _, rfl, rfl, .inr ?_, ?_⟩⟩
    · split <;> exact ⟨by decide, by decide⟩
    refine ⟨_, rfl, _, rfl, _, _, rfl, rfl, .inr ⟨by omega, by omega⟩, _, _, rfl, rfl, (by show (0 : Int) < 2147483629; decide), line2 _ _, fun b hb => ?_⟩
    exact k _ b (kk.trans (Kp.new hb)) (kk.free hb) ⟨_, _, upd_same⟩
abbrev N_law_draw : List Str := ["_law_pool_here", "_law_bound", "_law_digit"]
theorem sc_law_draw : FnScope N_law_draw ["_law_pool_here", "_law_bound"] WHead.d_law_draw.scope := ⟨rfl, rfl, rfl, by decide +kernel, rfl, by decide +kernel, by decide +kernel⟩
theorem ok_law_draw (F : FnD K WHead.d_law_draw f fd) (T : Txt K mg CF CS) : FnOk P wd K mg base C8.CX0 1 f fd ["_law_pool_here", "_law_bound"] spDraw := by
  refine F.ok sc_law_draw (fun vs H Q E h => ?_) (fun cdv A outer s H vs Q E hr h => ?_)
  · obtain ⟨g, n, rfl, _⟩ := h
    rfl
  · obtain ⟨g, n, rfl, n0, n1, ⟨a, b, hg⟩, k⟩ := h
    have sz : sizeLine = 16777216 := sizeLine_eq
    refine ⟨_, PSs.nox ((pss_cons (ps_if (pt_cmpR op_gt (pe_ix ix_list (pv 0) pe_int (fun _ _ => rfl)) pe_int (nomark _)) (pss_cons (ps_set (i := 2) sc_law_draw.nd rfl (Or.inl rfl) (pe_op op_mod (pe_ix ix_list (pv 0) pe_int (fun _ _ => rfl)) (pv 1)))
      (pss_cons (ps_asg (pe_op op_fdiv (pe_ix ix_list (pv 0) pe_int (fun _ _ => rfl)) (pv 1)) (pg_sub (pv 0) pe_int set_list))
      (pss_one (ps_ret (pv 2))))) pss_nil)
      (pss_cons (ps_asg (pe_op op_mod (pe_op op_add (pe_op op_mul (pe_ix ix_list (pv 0) pe_int (fun _ _ => rfl)) pe_int) pe_int) pe_int) (pg_sub (pv 0) pe_int set_list))
      (pss_one (ps_ret (pe_op op_mod (pe_op op_fdiv (pe_op op_mod (pe_op op_mul (pe_ix ix_list (pv 0) pe_int (fun _ _ => rfl)) (pe_ix ix_list (pv 0) pe_int (fun _ _ => rfl))) pe_int) pe_int) (pv 1))))))), ?_⟩
    have md : ∀ x : Int, x % (n : Int) = ((x % (n : Int)).toNat : Nat) := fun x => (Int.toNat_of_nonneg (Int.emod_nonneg _ (by omega))).symm
    have lt : ∀ x : Int, (x % (n : Int)).toNat < n := fun x => by
      have := Int.emod_lt_of_pos x (show (0 : Int) < (n : Int) by omega)
      have := md x
      omega
    refine ⟨_, rfl, g, _, _, _, rfl, rfl, SqL.of hg, rfl, _, _, rfl, rfl, _, rfl, ?_⟩
    by_cases a0 : (0 : Int) < a
    · refine ifT (decide_eq_true a0) ?_
      refine ⟨_, rfl, g, _, _, _, rfl, rfl, SqL.of hg, rfl, _, rfl, _, _, rfl, rfl, (by show (0 : Int) < (n : Int); omega), ?_⟩
      refine ⟨_, rfl, g, _, _, _, rfl, rfl, SqL.of hg, rfl, _, rfl, _, _, rfl, rfl, ⟨by omega, by omega⟩, ?_⟩
      refine ⟨_, rfl, g, _, _, 0, rfl, rfl, hg, rfl, _, rfl, ?_⟩
      show Q (.int (a % (n : Int))) _
      rw [md a]
      exact k _ _ (lt a) (Kp.upd List.mem_cons_self) ⟨_, _, upd_same⟩
    · refine ifF (decide_eq_false a0) ?_
      refine ⟨_, rfl, g, _, _, _, rfl, rfl, SqL.of hg, rfl, _, _, rfl, rfl, .inr ⟨by decide, by decide⟩, _, _, rfl, rfl, _, _, rfl, rfl, (by show (0 : Int) < 2147483647; decide), ?_⟩
      refine ⟨_, rfl, g, _, _, 1, rfl, rfl, hg, rfl, ?_⟩
      have p0 := Int.emod_nonneg (b * 48271 + 12345) (show (2147483647 : Int) ≠ 0 by decide)
      have p1 := Int.emod_lt_of_pos (b * 48271 + 12345) (show (0 : Int) < 2147483647 by decide)
      obtain ⟨c, hc⟩ : ∃ c, c = (b * 48271 + 12345) % 2147483647 := ⟨_, rfl⟩
      rw [← hc] at p0 p1
      have h1 : (upd H g (.lst ([V.int a, V.int b].set 1 ((fun i j => V.int (i % j)) (b * 48271 + 12345) 2147483647)))) g = some (.lst [.int a, .int c]) := by
        rw [hc]
        exact upd_same
      have kk : Kp [g] H (upd H g (.lst ([V.int a, V.int b].set 1 ((fun i j => V.int (i % j)) (b * 48271 + 12345) 2147483647)))) := Kp.upd List.mem_cons_self
      generalize upd H g (.lst ([V.int a, V.int b].set 1 ((fun i j => V.int (i % j)) (b * 48271 + 12345) 2147483647))) = H1 at *
      refine ⟨_, rfl, g, _, _, _, rfl, rfl, SqL.of h1, rfl, _, rfl, g, _, _, _, rfl, rfl, SqL.of h1, rfl, _, _, rfl, rfl, .inr ⟨by omega, by omega⟩, _, _, rfl, rfl, (by show (0 : Int) < 2147483629; decide), _, _, rfl, rfl, ⟨by decide, by decide⟩, _, rfl, _, _, rfl, rfl, (by show (0 : Int) < (n : Int); omega), ?_⟩
      show Q (.int (c * c % 2147483629 / 64 % (n : Int))) H1
      rw [md]
      exact k _ _ (lt _) kk ⟨_, _, h1⟩
abbrev N_law_path : List Str := ["_law_pool_here", "_law_longest", "_law_letters", "_law_number"]
theorem sc_law_path : FnScope N_law_path ["_law_pool_here", "_law_longest", "_law_letters"] WHead.d_law_path.scope := ⟨rfl, rfl, rfl, by decide +kernel, rfl, by decide +kernel, by decide +kernel⟩
theorem ok_law_path (F : FnD K WHead.d_law_path f fd) (T : Txt K mg CF CS) (c_law_draw : CalE P wd K mg base 1 "_law_draw" spDraw) : FnOk P wd K mg base C8.CX0 2 f fd ["_law_pool_here", "_law_longest", "_law_letters"] spPathL := by
  refine F.ok sc_law_path (fun vs H Q E h => ?_) (fun cdv A outer s H vs Q E hr h => ?_)
  · obtain ⟨g, a, b, rfl, _⟩ := h
    rfl
  · obtain ⟨g, a, b, rfl, a1, b0, b1, pk, k⟩ := h
    have sz : sizeLine = 16777216 := sizeLine_eq
    refine ⟨_, PSs.nox ((pss_one (ps_ret (pe_join pe_str (pe_lc (own := [("_law_number", 3)]) (g := (gName 3)) (tt := tYes) rfl sc_law_path.nd (pi_range1 (by rfl) T.f_range (pa_cons (C8.pe_c c_law_draw hr (by decide) (by rfl) (pa_cons (pv 0) (pa_cons (pe_op op_add (pv 1) pe_int) pa_nil))) pa_nil)) (blkOk_by (N := N_law_path) (sc := WHead.d_law_path.scope) (by decide +kernel)) (fun _ _ _ _ _ => (pg_name (i := 3) sc_law_path.nd rfl (Or.inl rfl))) (fun _ _ _ _ _ => pts_nil) (fun _ _ _ _ _ => (pe_ix ix_str pe_str (C8.pe_c c_law_draw hr (by decide) (by rfl) (pa_cons (pv 0) (pa_cons (pe_op op_mul pe_int (pv 2)) pa_nil))) (fun _ _ => rfl)))))))), ?_⟩
    refine ⟨⟨_, rfl⟩, _, rfl, _, rfl, _, _, rfl, rfl, g, a + 1, rfl, Nat.succ_pos _, by omega, pk, fun H1 r rl k1 pk1 => ⟨_, rfl, by omega, by omega, fun D hD => lc_it (walk_range (lo := 0) (n := r)) (fun i H5 => ∃ l, Steps l ∧ l.length = i ∧ Kp [g] H1 H5 ∧ PoolOk H5 g ∧ H5 D = some (.lst (codes l)))
      ⟨[], Steps.nil, rfl, Kp.new hD, pk1.kp (F := []) (Kp.new hD) List.not_mem_nil, upd_same⟩ (fun _ _ _ _ => trivial) ?_ ?_⟩⟩
    · rintro i v H5 H6 hi ⟨l, sl, ll, k5, pk5, h5⟩ ⟨rfl, hv⟩
      refine ⟨rfl, tYes_if ?_⟩
      refine ⟨_, rfl, _, rfl, _, _, rfl, rfl, .inl ⟨by decide, by decide⟩, g, 2 * b, by congr 3, by omega, by omega, pk5, fun H7 q ql k7 pk7 => ?_⟩
      obtain ⟨c, hc, cs⟩ := letter_at (show q < 8 by omega)
      have Dg := pk1.ne hD
      have h7 := k7 _ _ h5 (by simp [Dg])
      refine ⟨_, _, c, rfl, rfl, by decide +kernel, atI_nat hc, _, h7, ?_, l ++ [c], sl.snoc cs, by rw [List.length_append, ll]; rfl, (k5.trans k7).mineF hD, pk7.kp (F := [D]) (Kp.upd List.mem_cons_self) (by simp [Dg.symm]), ?_⟩
      · unfold codes
        rw [List.length_map, sz]
        omega
      · rw [upd_same, codes_snoc]
    · rintro H5 ⟨l, sl, ll, k5, pk5, h5⟩
      refine ⟨_, D, (l.map fun c => [c]).map S, rfl, rfl, .inl (SqL.of (by rw [← codes_map]; exact h5)), ?_, ?_⟩
      · rw [codes_sum, List.length_map, List.length_map]
        have e : ("" : Str).length = 0 := by decide +kernel
        rw [e]
        omega
      · rw [empty_S, join_codes]
        exact k _ l sl (by omega) (k1.trans k5) pk5
abbrev N_law_padded : List Str := ["_law_pool_here", "_law_path_here", "_law_place", "_law_step"]
theorem sc_law_padded : FnScope N_law_padded ["_law_pool_here", "_law_path_here"] WHead.d_law_padded.scope := ⟨rfl, rfl, rfl, by decide +kernel, rfl, by decide +kernel, by decide +kernel⟩
theorem ok_law_padded (F : FnD K WHead.d_law_padded f fd) (T : Txt K mg CF CS) (c_law_draw : CalE P wd K mg base 1 "_law_draw" spDraw) (c_law_back : CalE P wd K mg base 1 "_law_back" spBack) : FnOk P wd K mg base C8.CX0 2 f fd ["_law_pool_here", "_law_path_here"] spPadded := by
  refine F.ok sc_law_padded (fun vs H Q E h => ?_) (fun cdv A outer s H vs Q E hr h => ?_)
  · obtain ⟨g, w, rfl, _⟩ := h
    rfl
  · obtain ⟨g, w, rfl, sw, wl, pk, k⟩ := h
    have sz : sizeLine = 16777216 := sizeLine_eq
    refine ⟨_, PSs.nox ((pss_cons (ps_set (i := 2) sc_law_padded.nd rfl (Or.inl rfl) (C8.pe_c c_law_draw hr (by decide) (by rfl) (pa_cons (pv 0) (pa_cons (pe_op op_add (pe_callB call_len (by rfl) T.f_len PySem.boot_len (pa_cons (pv 1) pa_nil)) pe_int) pa_nil))))
      (pss_cons (ps_set (i := 3) sc_law_padded.nd rfl (Or.inl rfl) (pe_ix ix_str pe_str (C8.pe_c c_law_draw hr (by decide) (by rfl) (pa_cons (pv 0) (pa_cons pe_int pa_nil))) (fun _ _ => rfl)))
      (pss_one (ps_ret (pe_op op_add_str (pe_op op_add_str (pe_op op_add_str (pe_slice C8.sl_txt (pv 1) po_none (po_some (pv 2))) (pv 3)) (C8.pe_c c_law_back hr (by decide) (by rfl) (pa_cons (pv 3) pa_nil))) (pe_slice C8.sl_txt (pv 1) (po_some (pv 2)) po_none))))))), ?_⟩
    refine ⟨_, rfl, _, rfl, _, _, rfl, ⟨by rw [S_len, sz]; omega, rfl⟩, _, _, rfl, rfl, g, w.length + 1, by rw [S_len]; rfl, Nat.succ_pos _, by omega, pk, fun H1 r rl k1 pk1 => ?_⟩
    obtain ⟨u, v, hw, hu⟩ : ∃ u v, w = u ++ v ∧ u.length = r := ⟨w.take r, w.drop r, (List.take_append_drop r w).symm, by rw [List.length_take]; omega⟩
    refine ⟨_, rfl, g, 8, rfl, by omega, by omega, pk1, fun H2 q ql k2 pk2 => ?_⟩
    obtain ⟨c, hc, cs⟩ := letter_at ql
    refine ⟨_, _, c, rfl, rfl, by decide +kernel, atI_nat hc, ?_⟩
    have wlen : w.length = u.length + v.length := by rw [hw, List.length_append]
    refine ⟨_, rfl, _, rfl, _, rfl, _, rfl, by rw [S_len, sz]; omega, ?_⟩
    rw [show Txt.slice (S w) none (some (r : Int)) = S u by rw [hw]; exact SX.to_app u v (by omega)]
    refine ⟨_, rfl, _, _, rfl, rfl, by show (S u).length + (S [c]).length ≤ _; rw [S_len, S_len, sz]; simp; omega, ?_⟩
    rw [show S u ++ (⟨#[c]⟩ : Str) = S (u ++ [c]) from S_cat _ _]
    refine ⟨_, rfl, c, rfl, cs, _, _, rfl, rfl, by rw [S_len, S_len, sz]; simp; omega, ?_⟩
    rw [S_cat]
    refine ⟨_, rfl, _, rfl, _, rfl, _, rfl, by rw [S_len, sz]; omega, ?_⟩
    rw [show Txt.slice (S w) (some (r : Int)) none = S v by rw [hw]; exact SX.from_app u v (by omega)]
    refine ⟨_, _, rfl, rfl, by rw [S_len, S_len, sz]; simp; omega, ?_⟩
    rw [S_cat]
    exact k _ u v c hw cs (k1.trans k2) pk2
abbrev N_law_product : List Str := ["_law_pool_here", "_law_paths", "_law_most", "_law_result", "_law_number", "_law_one"]
theorem sc_law_product : FnScope N_law_product ["_law_pool_here", "_law_paths", "_law_most"] WHead.d_law_product.scope := ⟨rfl, rfl, rfl, by decide +kernel, rfl, by decide +kernel, by decide +kernel⟩
theorem ok_law_product (F : FnD K WHead.d_law_product f fd) (T : Txt K mg CF CS) (c_law_draw : CalE P wd K mg base 1 "_law_draw" spDraw) (c_law_reversed : CalE P wd K mg base 2 "_law_reversed" spRev) : FnOk P wd K mg base C8.CX0 3 f fd ["_law_pool_here", "_law_paths", "_law_most"] spProduct := by
  refine F.ok sc_law_product (fun vs H Q E h => ?_) (fun cdv A outer s H vs Q E hr h => ?_)
  · obtain ⟨g, L, ps, m, rfl, _⟩ := h
    rfl
  · obtain ⟨g, L, ps, m, rfl, hL, sp, pl, m5, pk, k⟩ := h
    have sz : sizeLine = 16777216 := sizeLine_eq
    refine ⟨_, PSs.nox ((pss_cons (ps_set (i := 3) sc_law_product.nd rfl (Or.inl rfl) pe_str)
      (pss_cons (ps_for PassesOwn.never rfl (pi_range1 (by rfl) T.f_range (pa_cons (C8.pe_c c_law_draw hr (by decide) (by rfl) (pa_cons (pv 0) (pa_cons (pe_op op_add (pv 2) pe_int) pa_nil))) pa_nil)) (pg_name (i := 4) sc_law_product.nd rfl (Or.inl rfl)) (pss_one (ps_if (pt_cmpR (op_neD hr.units) (pv 1) (pe_lst pa_nil) (nomark _)) (pss_cons (ps_set (i := 5) sc_law_product.nd rfl (Or.inl rfl) (pe_ix ix_list (pv 1) (C8.pe_c c_law_draw hr (by decide) (by rfl) (pa_cons (pv 0) (pa_cons (pe_callB call_len (by rfl) T.f_len PySem.boot_len (pa_cons (pv 1) pa_nil)) pa_nil))) (fun _ _ => rfl)))
      (pss_one (ps_set (i := 3) sc_law_product.nd rfl (Or.inl rfl) (pe_op op_add_str (pv 3) (pe_ix ix_list (pe_lst (pa_cons (pv 5) (pa_cons (C8.pe_c c_law_reversed hr (by decide) (by rfl) (pa_cons (pv 5) pa_nil)) pa_nil))) (C8.pe_c c_law_draw hr (by decide) (by rfl) (pa_cons (pv 0) (pa_cons pe_int pa_nil))) (fun _ _ => rfl)))))) pss_nil)))
      (pss_one (ps_ret (pv 3)))))), ?_⟩
    have Lg : L ≠ g := by
      rintro rfl
      obtain ⟨a, b, e⟩ := pk
      rw [hL] at e
      have e2 := HO.lst.inj (Option.some.inj e)
      cases ps with
      | nil => cases e2
      | cons p r =>
        have e3 := (List.cons.inj e2).1
        cases e3
    refine ⟨_, rfl, _, rfl, _, _, rfl, rfl, g, m + 1, rfl, Nat.succ_pos _, by omega, pk, fun H1 n nl k1 pk1 => ⟨_, rfl, by omega, by omega, for_it (walk_range (lo := 0) (n := n)) (fun i σ H3 => ∃ (o4 o5 : Option V) (w : List Nat), σ = [some (.ref g), some (.ref L), some (.int (m : Int)), some (vS w), o4, o5] ∧ Steps w ∧ w.length ≤ 18 * i ∧ Made ps w ∧ (ps = [] → w = []) ∧ Kp [g] H H3 ∧ PoolOk H3 g)
      ⟨none, none, [], by rw [empty_S]; rfl, Steps.nil, Nat.zero_le _, Made.nil _, fun _ => rfl, k1, pk1⟩ (fun _ _ _ _ _ => trivial) ?_ ?_⟩⟩
    · rintro i v σ H3 H4 hi ⟨o4, o5, w, rfl, sw, wl, mw, wn, k3, pk3⟩ ⟨rfl, hv⟩
      have hL3 := k3 _ _ hL (by simp [Lg])
      refine ⟨_, rfl, by rw [sz]; exact Nat.zero_le _, fun D2 hD2 => ⟨.list (wordsD ps), .list [], .lst (SqL.of (by rw [upd_ne (ne_of_none hL3 hD2)]; exact hL3)) (wordsD_dp ps), .lst (SqL.of upd_same) .nil, (wordsD_lay fun p hp => (sp p hp).1).shaped (by decide), lay_nil.shaped (by decide), _, rfl, ?_⟩⟩
      rw [eqv_nil]
      have k4 : Kp [g] H (upd H4 D2 (.lst [])) := k3.trans (Kp.new hD2)
      have pk4 : PoolOk (upd H4 D2 (.lst [])) g := pk3.kp (F := []) (Kp.new hD2) List.not_mem_nil
      generalize upd H4 D2 (.lst []) = H5 at *
      have hL5 := k4 _ _ hL (by simp [Lg])
      rcases List.eq_nil_or_concat ps with e | ⟨_, _, e⟩
      · refine ifF (by rw [e]; rfl) ?_
        exact ⟨_, _, w, rfl, sw, by omega, mw, wn, k4, pk4⟩
      · have pos : 0 < ps.length := by rw [e]; simp
        have ne : ps ≠ [] := by rintro rfl; cases pos
        refine ifT (by cases ps with | nil => exact absurd rfl ne | cons p r => rfl) ?_
        refine ⟨_, rfl, _, rfl, _, rfl, _, _, rfl, .inl ⟨_, SqL.of hL5, rfl⟩, g, ps.length, by rw [List.length_map]; rfl, pos, by omega, pk4, fun H6 q ql k6 pk6 => ?_⟩
        have hL6 := k6 _ _ hL5 (by simp [Lg])
        refine ⟨L, _, _, vS ps[q], rfl, rfl, SqL.of hL6, atI_nat (by rw [List.getElem?_map, List.getElem?_eq_getElem ql]; rfl), ?_⟩
        have pm : ps[q] ∈ ps := List.getElem_mem ql
        have pp := sp _ pm
        generalize ps[q] = p at *
        refine ⟨_, rfl, _, rfl, _, rfl, p, rfl, pp.1, by omega, fun H7 k7 => ⟨line2 _ _, fun M hM => ?_⟩⟩
        have k8 : Kp [] H7 (upd H7 M (.lst [vS p, vS (inv p)])) := Kp.new hM
        have h8 : (upd H7 M (.lst [vS p, vS (inv p)])) M = some (.lst [vS p, vS (inv p)]) := upd_same
        have pk8 := (pk6.kp k7 List.not_mem_nil).kp k8 List.not_mem_nil
        have Mg := (pk6.kp k7 List.not_mem_nil).ne hM
        generalize upd H7 M (.lst [vS p, vS (inv p)]) = H8 at *
        refine ⟨_, rfl, g, 2, rfl, by omega, by omega, pk8, fun H9 z zl k9 pk9 => ?_⟩
        obtain ⟨x, hx, sx, lx, mx⟩ : ∃ x, ([vS p, vS (inv p)] : List V)[z]? = some (vS x) ∧ Steps x ∧ x.length ≤ 18 ∧ Made ps x := by
          rcases z with _ | _ | z
          · exact ⟨p, rfl, pp.1, pp.2, Made.one pm⟩
          · exact ⟨inv p, rfl, pp.1.inv, by rw [inv_length]; exact pp.2, Made.inv pm⟩
          · omega
        have h9 := k9 _ _ h8 (by simp [Mg])
        have il : i ≤ 5 := by omega
        refine ⟨M, _, _, vS x, rfl, rfl, SqL.of h9, atI_nat hx, _, _, rfl, rfl, by rw [S_len, S_len, sz]; omega, ?_⟩
        refine ⟨some v, some (vS p), w ++ x, ?_, sw.app sx, by rw [List.length_append]; omega, mw.app mx, fun z => absurd z ne, (((k4.trans k6).trans k7.nil).trans k8.nil).trans k9, pk9⟩
        rw [S_cat]
        rfl
    · rintro σ H3 ⟨o4, o5, w, rfl, sw, wl, mw, wn, k3, pk3⟩
      have nm : n ≤ m := by omega
      exact ⟨_, rfl, k _ w sw (Nat.le_trans wl (Nat.mul_le_mul_left 18 nm)) mw wn k3 pk3⟩
end
end WK
end Text_WW15
section Text_WW16
set_option Elab.async false
set_option linter.all false
set_option maxRecDepth 100000
set_option maxHeartbeats 4000000
/-! WW16: the law reads a derivation. -/
namespace WK
open PySem PySem.Spec L2 SX
open PyProof.Rows hiding St

def spLine : Sp := fun vs H Q _ => ∃ (L M t : Addr) (ps vals : List (List Nat)) (l : Line), vs = [.ref L, .ref M, .ref t] ∧ H L = some (.lst (ps.map vS)) ∧ H M = some (.lst (vals.map vS)) ∧ H t = some (.tup (lineT l)) ∧ (∀ p ∈ ps, Steps p ∧ p.length ≤ 18) ∧ (∀ v ∈ vals, Steps v ∧ v.length ≤ 600) ∧ LineOk ps.length vals.length l ∧
  ∀ H', Kp [] H H' → Q (vS (lineVal (ps.map red) vals l)) H'
def spValue : Sp := fun vs H Q _ => ∃ (L D : Addr) (ps : List (List Nat)) (d : List Line), vs = [.ref L, .ref D, .int 600] ∧ H L = some (.lst (ps.map vS)) ∧ LstT lineT H D d ∧ (∀ p ∈ ps, Steps p ∧ p.length ≤ 18) ∧ LG (ps.map red) d ∧ d.length ≤ 60000 ∧
  ∀ H', Kp [] H H' → Q (vS (([] :: evalL (ps.map red) d).getLastD [])) H'
def cntL (m n : Nat) : Line → Nat
  | .gen _ => m
  | _ => n
theorem LineOk.cnt {m n : Nat} {l : Line} (h : LineOk m n l) : ∀ i ∈ idxsOf l, i < cntL m n l := by
  intro i hi
  cases l with
  | gen j =>
    rw [List.mem_singleton.mp (show i ∈ [j] from hi)]
    exact h
  | invl j =>
    rw [List.mem_singleton.mp (show i ∈ [j] from hi)]
    exact h
  | prod j k =>
    rcases List.mem_cons.mp (show i ∈ [j, k] from hi) with rfl | z
    · exact h.1
    · rw [List.mem_singleton.mp z]
      exact h.2
theorem cut_tail (x : V) (xs : List V) : cutV (x :: xs) (some 1) none = xs := by
  have e1 : HT.sIx (x :: xs).length 0 (some 1) = 1 := by
    rw [List.length_cons]
    unfold HT.sIx
    simp
  have e2 : HT.sIx (x :: xs).length (x :: xs).length none = xs.length + 1 := rfl
  unfold cutV
  rw [e1, e2]
  simp
section
variable {P : Program} {wd : World} {K : PySem.W.Frag} {mg : Str → Option Value} {base : Heap} {f CF CS : Addr} {fd : FuncData}
abbrev N_law_line : List Str := ["_law_paths", "_law_values", "_law_line_here", "_law_count", "_law_one"]
theorem sc_law_line : FnScope N_law_line ["_law_paths", "_law_values", "_law_line_here"] WHead.d_law_line.scope := ⟨rfl, rfl, rfl, by decide +kernel, rfl, by decide +kernel, by decide +kernel⟩
theorem ok_law_line (F : FnD K WHead.d_law_line f fd) (T : Txt K mg CF CS) (c_law_is_integer : CalE P wd K mg base 1 "_law_is_integer" spInt) (c_law_short : CalE P wd K mg base 2 "_law_short" spShort) (c_law_reversed : CalE P wd K mg base 2 "_law_reversed" spRev) : FnOk P wd K mg base C8.CX0 3 f fd ["_law_paths", "_law_values", "_law_line_here"] spLine := by
  refine F.ok sc_law_line (fun vs H Q E h => ?_) (fun cdv A outer s H vs Q E hr h => ?_)
  · obtain ⟨L, M, t, ps, vals, l, rfl, _⟩ := h
    rfl
  · obtain ⟨L, M, t, ps, vals, l, rfl, hL, hM, ht, sp, sv, ok, k⟩ := h
    have sz : sizeLine = 16777216 := sizeLine_eq
    refine ⟨_, PSs.nox ((pss_cons (ps_if (PW.pt (pw_or (pt_not (pt_val (pe_callB call_isi (by rfl) T.f_isinstance (by decide +kernel) (pa_cons (pv 2) (pa_cons (pe_bltn (v := .ty "tuple") rfl T.f_tuple (by decide +kernel) rfl) pa_nil))))) (pw_or1 (pt_not (pt_chain op_le op_le pe_int (pe_callB call_len (by rfl) T.f_len PySem.boot_len (pa_cons (pv 2) pa_nil)) pe_int))))) (pss_one (ps_ret pe_non)) pss_nil)
      (pss_cons (ps_set (i := 3) sc_law_line.nd rfl (Or.inr rfl) (pe_callB call_len (by rfl) T.f_len PySem.boot_len (pa_cons (pv 1) pa_nil)))
      (C8.pss_cut (ps_if (pt_cmpR op_eq (pe_ix ix_tup (pv 2) pe_int (fun _ _ => rfl)) pe_str (nomark _)) (pss_one (ps_set (i := 3) sc_law_line.nd rfl (Or.inr rfl) (pe_callB call_len (by rfl) T.f_len PySem.boot_len (pa_cons (pv 0) pa_nil)))) pss_nil)
      (pss_cons (ps_if (pt_cmpR (op_neD hr.units) (pe_lc (own := [("_law_one", 4)]) (g := (gName 4)) rfl sc_law_line.nd (pi_tup (pe_slice sl_tup (pv 2) (po_some pe_int) po_none)) (blkOk_by (N := N_law_line) (sc := WHead.d_law_line.scope) (by decide +kernel)) (fun _ _ _ _ _ => (pg_name (i := 4) sc_law_line.nd rfl (Or.inl rfl))) (fun _ _ _ _ _ => (pts_one (PW.pt (pw_or (pt_not (pt_val (C8.pe_c c_law_is_integer hr (by decide) (by rfl) (pa_cons (pv 4) pa_nil)))) (pw_or1 (pt_not (pt_chain op_le op_lt pe_int (pv 4) (pv 3)))))))) (fun _ _ _ _ _ => (pv 4))) (pe_lst pa_nil) (nomark _)) (pss_one (ps_ret pe_non)) pss_nil)
      (pss_cons (ps_if (PW.pt (pw_and (pt_cmpR op_eq (pe_ix ix_tup (pv 2) pe_int (fun _ _ => rfl)) pe_str (nomark _)) (pw_and1 (pt_cmpR op_eq (pe_callB call_len (by rfl) T.f_len PySem.boot_len (pa_cons (pv 2) pa_nil)) pe_int (nomark _))))) (pss_one (ps_ret (C8.pe_c c_law_short hr (by decide) (by rfl) (pa_cons (pe_ix ix_list (pv 0) (pe_ix ix_tup (pv 2) pe_int (fun _ _ => rfl)) (fun _ _ => rfl)) pa_nil)))) pss_nil)
      (pss_cons (ps_if (PW.pt (pw_and (pt_cmpR op_eq (pe_ix ix_tup (pv 2) pe_int (fun _ _ => rfl)) pe_str (nomark _)) (pw_and1 (pt_cmpR op_eq (pe_callB call_len (by rfl) T.f_len PySem.boot_len (pa_cons (pv 2) pa_nil)) pe_int (nomark _))))) (pss_one (ps_ret (C8.pe_c c_law_reversed hr (by decide) (by rfl) (pa_cons (pe_ix ix_list (pv 1) (pe_ix ix_tup (pv 2) pe_int (fun _ _ => rfl)) (fun _ _ => rfl)) pa_nil)))) pss_nil)
      (pss_cons (ps_if (PW.pt (pw_and (pt_cmpR op_eq (pe_ix ix_tup (pv 2) pe_int (fun _ _ => rfl)) pe_str (nomark _)) (pw_and1 (pt_cmpR op_eq (pe_callB call_len (by rfl) T.f_len PySem.boot_len (pa_cons (pv 2) pa_nil)) pe_int (nomark _))))) (pss_one (ps_ret (C8.pe_c c_law_short hr (by decide) (by rfl) (pa_cons (pe_op op_add_str (pe_ix ix_list (pv 1) (pe_ix ix_tup (pv 2) pe_int (fun _ _ => rfl)) (fun _ _ => rfl)) (pe_ix ix_list (pv 1) (pe_ix ix_tup (pv 2) pe_int (fun _ _ => rfl)) (fun _ _ => rfl))) pa_nil)))) pss_nil)
      (pss_one (ps_ret pe_non)))))))))), ?_⟩
    have lt3 : (lineT l).length = 2 ∨ (lineT l).length = 3 := by cases l <;> simp [lineT]
    refine ⟨_, rfl, _, _, _, _, _, rfl, .ty "tuple", .base (.tup ht), kit_ty (r := true) (by decide +kernel), _, rfl, ifF rfl ?_⟩
    refine ⟨_, rfl, _, _, rfl, .inr ⟨_, SqT.of ht, rfl⟩, _, _, rfl, rfl, _, rfl, ifT (decide_eq_true (by omega)) ⟨_, _, rfl, rfl, _, rfl, ifF (by rw [decide_eq_true (by omega)]; rfl) ?_⟩⟩
    refine ⟨_, rfl, _, _, rfl, .inl ⟨_, SqL.of hM, rfl⟩, ?_⟩
    rw [List.length_map]
    refine ⟨fun σ' H' => H' = H ∧ σ' = [some (.ref L), some (.ref M), some (.ref t), some (.int (cntL ps.length vals.length l : Nat)), none], ?_, ?_⟩
    rotate_left
    · rintro σ' H' ⟨rfl, rfl⟩
      refine ⟨_, rfl, _, rfl, t, _, rfl, SqT.of ht, (by rcases lt3 with e | e <;> rw [e] <;> decide +kernel), fun t1 ht1 => ?_⟩
      have cut : cutV (lineT l) (some 1) none = nums (idxsOf l) := by cases l <;> rfl
      rw [cut]
      have k1 : Kp [] H' (upd H' t1 (.tup (nums (idxsOf l)))) := Kp.new ht1
      have h1 : (upd H' t1 (.tup (nums (idxsOf l)))) t1 = some (.tup (nums (idxsOf l))) := upd_same
      generalize upd H' t1 (.tup (nums (idxsOf l))) = H1 at *
      have lc := ok.cnt
      generalize hc : cntL ps.length vals.length l = c at *
      refine ⟨t1, rfl, ⟨_, SqT.of h1⟩, fun D hD => lc_it (walk_tup (K := K) (a := t1) (xs := nums (idxsOf l))) (fun i H5 => Kp [] H1 H5 ∧ H5 D = some (.lst []))
        ⟨Kp.new hD, upd_same⟩ (fun i H5 _ h => SqT.of (h.1 _ _ h1 List.not_mem_nil)) ?_ ?_⟩
      · rintro i v H5 H6 hi ⟨k5, h5⟩ ⟨rfl, hv⟩
        obtain ⟨n, hn, rfl⟩ := nums_get hv
        have nc := lc n (List.mem_of_getElem? hn)
        refine ⟨rfl, _, rfl, _, rfl, _, rfl, ifF rfl ?_⟩
        refine ⟨_, rfl, _, _, rfl, rfl, _, rfl, ifT (decide_eq_true (by omega)) ⟨_, rfl, _, _, rfl, rfl, _, rfl, ?_⟩⟩
        exact ifF (by rw [decide_eq_true (show (n : Int) < (c : Int) by omega)]; rfl) ⟨k5, h5⟩
      · rintro H5 ⟨k5, h5⟩
        refine ⟨by rw [sz]; exact Nat.zero_le _, fun D2 hD2 => ⟨.list [], .list [], .lst (SqL.of (by rw [upd_ne (ne_of_none h5 hD2)]; exact h5)) .nil, .lst (SqL.of upd_same) .nil, lay_nil.shaped (by decide), lay_nil.shaped (by decide), _, rfl, ?_⟩⟩
        rw [eqv_nil]
        have k6 : Kp [] H' (upd H5 D2 (.lst [])) := (k1.trans k5).trans (Kp.new hD2)
        generalize upd H5 D2 (.lst []) = H6 at *
        have hL6 := k6 _ _ hL List.not_mem_nil
        have hM6 := k6 _ _ hM List.not_mem_nil
        have ht6 := k6 _ _ ht List.not_mem_nil
        refine ifF rfl ?_
        cases l with
        | gen i =>
          have ok' : i < ps.length := ok
          have pp := sp _ (List.getElem_mem ok')
          have e : lineVal (ps.map red) vals (.gen i) = red ps[i] := by
            show red ((ps.map red).getD i []) = _
            rw [List.getD_eq_getElem?_getD, List.getElem?_map, List.getElem?_eq_getElem ok']
            exact red_red _
          rw [e] at k
          refine ⟨_, rfl, t, _, _, _, rfl, rfl, SqT.of ht6, rfl, rfl, _, rfl, ifT (by decide +kernel) ⟨_, rfl, _, _, rfl, .inr ⟨_, SqT.of ht6, rfl⟩, rfl, _, rfl, ifT (by show decide (V.int ((2 : Nat) : Int) = V.int 2) = true; decide +kernel) ?_⟩⟩
          exact ⟨_, rfl, _, rfl, t, _, _, _, rfl, rfl, SqT.of ht6, rfl, L, _, _, vS ps[i], rfl, rfl, SqL.of hL6, atI_nat (by rw [List.getElem?_map, List.getElem?_eq_getElem ok']; rfl), _, rfl, pp.1, by omega, k _ k6⟩
        | invl i =>
          have ok' : i < vals.length := ok
          have pp := sv _ (List.getElem_mem ok')
          have e : lineVal (ps.map red) vals (.invl i) = inv vals[i] := by
            show inv (vals.getD i []) = _
            rw [List.getD_eq_getElem?_getD, List.getElem?_eq_getElem ok']
            rfl
          rw [e] at k
          refine ⟨_, rfl, t, _, _, _, rfl, rfl, SqT.of ht6, rfl, rfl, _, rfl, ifF (by decide +kernel) ?_⟩
          refine ⟨_, rfl, t, _, _, _, rfl, rfl, SqT.of ht6, rfl, rfl, _, rfl, ifT (by decide +kernel) ⟨_, rfl, _, _, rfl, .inr ⟨_, SqT.of ht6, rfl⟩, rfl, _, rfl, ifT (by show decide (V.int ((2 : Nat) : Int) = V.int 2) = true; decide +kernel) ?_⟩⟩
          exact ⟨_, rfl, _, rfl, t, _, _, _, rfl, rfl, SqT.of ht6, rfl, M, _, _, vS vals[i], rfl, rfl, SqL.of hM6, atI_nat (by rw [List.getElem?_map, List.getElem?_eq_getElem ok']; rfl), _, rfl, pp.1, by omega, fun H7 k7 => k _ (k6.trans k7)⟩
        | prod i j =>
          have ok1 : i < vals.length := ok.1
          have ok2 : j < vals.length := ok.2
          have pp := sv _ (List.getElem_mem ok1)
          have qq := sv _ (List.getElem_mem ok2)
          have e : lineVal (ps.map red) vals (.prod i j) = red (vals[i] ++ vals[j]) := by
            show red (vals.getD i [] ++ vals.getD j []) = _
            rw [List.getD_eq_getElem?_getD, List.getD_eq_getElem?_getD, List.getElem?_eq_getElem ok1, List.getElem?_eq_getElem ok2]
            rfl
          rw [e] at k
          refine ⟨_, rfl, t, _, _, _, rfl, rfl, SqT.of ht6, rfl, rfl, _, rfl, ifF (by decide +kernel) ?_⟩
          refine ⟨_, rfl, t, _, _, _, rfl, rfl, SqT.of ht6, rfl, rfl, _, rfl, ifF (by decide +kernel) ?_⟩
          refine ⟨_, rfl, t, _, _, _, rfl, rfl, SqT.of ht6, rfl, rfl, _, rfl, ifT (by decide +kernel) ⟨_, rfl, _, _, rfl, .inr ⟨_, SqT.of ht6, rfl⟩, rfl, _, rfl, ifT (by show decide (V.int ((3 : Nat) : Int) = V.int 3) = true; decide +kernel) ?_⟩⟩
          refine ⟨_, rfl, _, rfl, t, _, _, _, rfl, rfl, SqT.of ht6, rfl, M, _, _, vS vals[i], rfl, rfl, SqL.of hM6, atI_nat (by rw [List.getElem?_map, List.getElem?_eq_getElem ok1]; rfl), ?_⟩
          refine ⟨_, rfl, _, rfl, t, _, _, _, rfl, rfl, SqT.of ht6, rfl, M, _, _, vS vals[j], rfl, rfl, SqL.of hM6, atI_nat (by rw [List.getElem?_map, List.getElem?_eq_getElem ok2]; rfl), ?_⟩
          refine ⟨_, _, rfl, rfl, by rw [S_len, S_len, sz]; omega, vals[i] ++ vals[j], by rw [S_cat]; rfl, pp.1.app qq.1, by rw [List.length_append]; omega, k _ k6⟩
    · cases l with
      | gen i =>
        refine ⟨_, rfl, t, _, _, _, rfl, rfl, SqT.of ht, rfl, rfl, _, rfl, ifT (by decide +kernel) ?_⟩
        refine ⟨_, rfl, _, _, rfl, .inl ⟨_, SqL.of hL, rfl⟩, rfl, ?_⟩
        rw [List.length_map]
        rfl
      | invl i => exact ⟨_, rfl, t, _, _, _, rfl, rfl, SqT.of ht, rfl, rfl, _, rfl, ifF (by decide +kernel) ⟨rfl, rfl⟩⟩
      | prod i j => exact ⟨_, rfl, t, _, _, _, rfl, rfl, SqT.of ht, rfl, rfl, _, rfl, ifF (by decide +kernel) ⟨rfl, rfl⟩⟩
abbrev N_law_value : List Str := ["_law_paths", "_law_lines", "_law_longest", "_law_values", "_law_line_here", "_law_value_here"]
theorem sc_law_value : FnScope N_law_value ["_law_paths", "_law_lines", "_law_longest"] WHead.d_law_value.scope := ⟨rfl, rfl, rfl, by decide +kernel, rfl, by decide +kernel, by decide +kernel⟩
theorem ok_law_value (F : FnD K WHead.d_law_value f fd) (T : Txt K mg CF CS) (c_law_line : CalE P wd K mg base 3 "_law_line" spLine) : FnOk P wd K mg base C8.CX0 4 f fd ["_law_paths", "_law_lines", "_law_longest"] spValue := by
  refine F.ok sc_law_value (fun vs H Q E h => ?_) (fun cdv A outer s H vs Q E hr h => ?_)
  · obtain ⟨L, D, ps, d, rfl, _⟩ := h
    rfl
  · obtain ⟨L, D, ps, d, rfl, hL, hD, sp, lg, dl, k⟩ := h
    have sz : sizeLine = 16777216 := sizeLine_eq
    refine ⟨_, PSs.nox ((pss_cons (ps_set (i := 3) sc_law_value.nd rfl (Or.inl rfl) (pe_lst (pa_cons pe_str pa_nil)))
      (pss_cons (ps_if (PW.pt (pw_or (pt_not (pt_val (pe_callB call_isi (by rfl) T.f_isinstance (by decide +kernel) (pa_cons (pv 1) (pa_cons (pe_bltn (v := .ty "list") rfl T.f_list (by decide +kernel) rfl) pa_nil))))) (pw_or1 (pt_cmpR op_gt (pe_callB call_len (by rfl) T.f_len PySem.boot_len (pa_cons (pv 1) pa_nil)) pe_int (nomark _))))) (pss_one (ps_ret pe_non)) pss_nil)
      (pss_cons (ps_for PassesOwn.never rfl (pi_list (pv 1)) (pg_name (i := 4) sc_law_value.nd rfl (Or.inl rfl)) (pss_cons (ps_set (i := 5) sc_law_value.nd rfl (Or.inl rfl) (C8.pe_c c_law_line hr (by decide) (by rfl) (pa_cons (pv 0) (pa_cons (pe_slice sl_list (pv 3) (po_some pe_int) po_none) (pa_cons (pv 4) pa_nil)))))
      (pss_cons (ps_if (PW.pt (pw_or (pt_cmpR op_isN (pv 5) pe_non (nomark _)) (pw_or1 (pt_cmpR op_gt (pe_callB call_len (by rfl) T.f_len PySem.boot_len (pa_cons (pv 5) pa_nil)) (pv 2) (nomark _))))) (pss_one (ps_ret pe_non)) pss_nil)
      (pss_one (ps_expr (pe_bm PySem.F.plainAttrs_list PySem.F.slot_list_append PySem.F.type_list_append mt_append (pv 3) (pa_cons (pv 5) pa_nil)))))))
      (pss_one (ps_ret (pe_ix ix_list (pv 3) (pe_un un_neg pe_int) (fun _ _ => rfl)))))))), ?_⟩
    obtain ⟨ts, hD', tups⟩ := hD
    have len := tups.len
    refine ⟨by rw [sz]; exact Nat.le_of_ble_eq_true rfl, fun N hN => ?_⟩
    have k1 : Kp [] H (upd H N (.lst [.str ("" : Str)])) := Kp.new hN
    have h1 : (upd H N (.lst [.str ("" : Str)])) N = some (.lst (([] :: evalL (ps.map red) (d.take 0)).map vS)) := by
      rw [upd_same, empty_S]
      rfl
    generalize upd H N (.lst [.str ("" : Str)]) = H1 at *
    have hD1 := k1 _ _ hD' List.not_mem_nil
    refine ⟨_, rfl, _, _, _, _, _, rfl, .ty "list", .base (.lst hD1), kit_ty (r := true) (by decide +kernel), _, rfl, ifF rfl ⟨_, rfl, _, _, rfl, .inl ⟨_, SqL.of hD1, rfl⟩, _, _, rfl, rfl, _, rfl, ifF (decide_eq_false (by rw [List.length_map]; omega)) ?_⟩⟩
    refine ⟨_, rfl, D, rfl, ⟨_, SqL.of hD1⟩, for_it (walk_list (K := K) (a := D) (xs := ts.map V.ref)) (fun i σ H3 => ∃ o4 o5 : Option V, σ = [some (.ref L), some (.ref D), some (.int 600), some (.ref N), o4, o5] ∧ Kp [] H H3 ∧ H3 N = some (.lst (([] :: evalL (ps.map red) (d.take i)).map vS)))
      ⟨none, none, rfl, k1, h1⟩ (fun i σ H3 _ h => by obtain ⟨_, _, _, k3, _⟩ := h; exact SqL.of (k3 _ _ hD' List.not_mem_nil)) ?_ ?_⟩
    · rintro i v σ H3 H4 hi ⟨o4, o5, rfl, k3, h3⟩ ⟨rfl, hv⟩
      rw [List.length_map] at hi
      have ie : i < d.length := by omega
      obtain ⟨t, ht, htt⟩ := tups.get (List.getElem?_eq_getElem ie)
      rw [List.getElem?_map, ht] at hv
      have hv' : some (V.ref t) = some v := hv
      obtain rfl := Option.some.inj hv'
      have tk := take_snoc (List.getElem?_eq_getElem ie)
      have lok := lg.ok i _ (List.getElem?_eq_getElem ie)
      generalize d[i] = l at *
      have el := evalL_length (ps.map red) (d.take i)
      rw [List.length_take] at el
      have el : (evalL (ps.map red) (d.take i)).length = i := by omega
      have vin : ∀ v ∈ evalL (ps.map red) (d.take (i + 1)), v.length ≤ 600 ∧ red v = v ∧ Steps v := fun v hv => lg.vals v (by
        obtain ⟨more, e⟩ := evalL_prefix (ps.map red) (d.take (i + 1)) (d.drop (i + 1))
        rw [List.take_append_drop] at e
        rw [e]
        exact List.mem_append_left _ hv)
      rw [tk] at vin
      rw [tk]
      have es := evalL_snoc (ps.map red) (d.take i) l
      rw [es] at vin ⊢
      rw [List.length_map, ← el] at lok
      generalize evalL (ps.map red) (d.take i) = vals at *
      have vl := vin (lineVal (ps.map red) vals l) (by simp)
      refine ⟨_, rfl, _, rfl, _, rfl, N, _, rfl, SqL.of h3, fun M hM => ?_⟩
      have ct : cutV (([] :: vals).map vS) (some 1) none = vals.map vS := cut_tail _ _
      rw [ct]
      have k4 : Kp [] H4 (upd H4 M (.lst (vals.map vS))) := Kp.new hM
      have h4 : (upd H4 M (.lst (vals.map vS))) M = some (.lst (vals.map vS)) := upd_same
      generalize upd H4 M (.lst (vals.map vS)) = H5 at *
      have k5 := k3.trans k4
      refine ⟨_, rfl, L, M, t, ps, vals, l, rfl, k5 _ _ hL List.not_mem_nil, h4, k5 _ _ htt List.not_mem_nil, sp, fun v hv => ?_, lok, fun H7 k7 => ?_⟩
      · have z := vin v (List.mem_append_left _ hv)
        exact ⟨z.2.2, z.1⟩
      have h7 := k7 _ _ (k4 _ _ h3 List.not_mem_nil) List.not_mem_nil
      refine ⟨_, rfl, rfl, _, rfl, ifF rfl ⟨_, rfl, _, _, rfl, ⟨by rw [S_len, sz]; omega, rfl⟩, _, rfl, _, _, rfl, rfl, _, rfl, ifF (decide_eq_false (by rw [S_len]; omega)) ?_⟩⟩
      refine ⟨_, rfl, .inl ⟨rfl, _, SqL.of h7⟩, _, rfl, N, _, _, rfl, rfl, h7, by rw [List.length_map, List.length_cons, el, sz]; omega, ?_⟩
      refine ⟨_, _, rfl, (k5.trans k7).mine hN, ?_⟩
      rw [upd_same, ← List.cons_append, List.map_append]
      rfl
    · rintro σ H3 ⟨o4, o5, rfl, k3, h3⟩
      rw [List.length_map, ← len, List.take_length] at h3
      have lst : ∃ xs : List V, (([] :: evalL (ps.map red) d).map vS) = xs ++ [vS (([] :: evalL (ps.map red) d).getLastD [])] := by
        have ne : ([] :: evalL (ps.map red) d) ≠ [] := fun z => nomatch z
        generalize ([] :: evalL (ps.map red) d) = vals at ne
        rcases List.eq_nil_or_concat vals with e | ⟨m, x, e⟩
        · exact absurd e ne
        · rw [e, List.concat_eq_append, List.getLastD_concat, List.map_append]
          exact ⟨_, rfl⟩
      obtain ⟨xs, hx⟩ := lst
      rw [hx] at h3
      exact ⟨_, rfl, _, rfl, N, _, _, _, rfl, rfl, SqL.of h3, atI_last _ _, k _ k3⟩
end
end WK
end Text_WW16
section Text_WW17
set_option Elab.async false
set_option linter.all false
set_option maxRecDepth 100000
set_option maxHeartbeats 4000000
/-! WW17: the law's model. -/
namespace WK
open PySem PySem.Spec L2 SX
open PyProof.Rows hiding St

/-- the model's places -/
structure Md where
  p : Addr
  a : Addr
  c : Addr
  k : Addr
def Md.all (m : Md) : List Addr := [m.p, m.a, m.c, m.k]
structure MA (m : Md) (H : Hp) (st : SS) : Prop where
  ob : H m.p = some (.lst [.ref m.a, .ref m.c, .ref m.k])
  ad : H m.a = some (.lst (st.added.map vS))
  ch : LstT chT H m.c st.changes
  ct : H m.k = some (.lst [.int (st.count : Nat)])
  pa : m.p ≠ m.a
  pc : m.p ≠ m.c
  pk : m.p ≠ m.k
  ac : m.a ≠ m.c
  ak : m.a ≠ m.k
  ck : m.c ≠ m.k
section
variable {m : Md} {H H' : Hp} {st : SS}
theorem MA.lists (h : MA m H st) : ∀ b ∈ m.all, ∃ xs, H b = some (.lst xs) := by
  intro b hb
  unfold Md.all at hb
  simp only [List.mem_cons, List.not_mem_nil, or_false] at hb
  rcases hb with rfl | rfl | rfl | rfl
  · exact ⟨_, h.ob⟩
  · exact ⟨_, h.ad⟩
  · exact ⟨_, h.ch.choose_spec.1⟩
  · exact ⟨_, h.ct⟩
theorem MA.noTup (h : MA m H st) : ∀ b ∈ m.all, ∀ xs, H b ≠ some (.tup xs) := by
  intro b hb xs e
  obtain ⟨ys, z⟩ := h.lists b hb
  rw [z] at e
  cases e
theorem MA.not_new (h : MA m H st) {b : Addr} (e : H b = none) : b ∉ m.all := by
  intro hb
  obtain ⟨ys, z⟩ := h.lists b hb
  rw [z] at e
  cases e
theorem MA.kp (h : MA m H st) {F : List Addr} (k : Kp F H H') (tp : Tp H H') (n : ∀ b ∈ m.all, b ∉ F) : MA m H' st :=
  ⟨k _ _ h.ob (n _ (by simp [Md.all])), k _ _ h.ad (n _ (by simp [Md.all])), h.ch.kp k tp (n _ (by simp [Md.all])), k _ _ h.ct (n _ (by simp [Md.all])), h.pa, h.pc, h.pk, h.ac, h.ak, h.ck⟩
theorem MA.kp0 (h : MA m H st) (k : Kp [] H H') : MA m H' st := h.kp k k.tp0 fun _ _ z => nomatch z
end
def spCurL : Sp := fun vs H Q _ => ∃ (m : Md) (st : SS), vs = [.ref m.p] ∧ MA m H st ∧ st.changes.length ≤ 100 ∧ st.added.length ≤ 100 ∧ ∀ H' b, Kp [] H H' → H b = none → H' b = some (.lst (nums (current st))) → Q (.ref b) H'
def spListed : Sp := fun vs H Q _ => ∃ (m : Md) (st : SS), vs = [.ref m.p] ∧ MA m H st ∧ st.changes.length ≤ 100 ∧ st.added.length ≤ 100 ∧ ∀ H' b, Kp [] H H' → H b = none → H' b = some (.lst ((listed st).map vS)) → Q (.ref b) H'
def curTo (st : SS) (i : Nat) : List Nat := (List.range i).filter (isCur st.changes)
theorem curTo_step (st : SS) (i : Nat) : curTo st (i + 1) = if isCur st.changes i = true then curTo st i ++ [i] else curTo st i := by
  unfold curTo
  rw [List.range_succ, List.filter_append, List.filter_cons]
  by_cases e : isCur st.changes i = true
  · rw [if_pos e, if_pos e]
    rfl
  · rw [if_neg e, if_neg e, List.filter_nil, List.append_nil]
theorem curTo_len (st : SS) (i : Nat) : (curTo st i).length ≤ i := by
  unfold curTo
  refine Nat.le_trans (List.length_filter_le _ _) ?_
  rw [List.length_range]
  exact Nat.le_refl _
theorem nums_snoc (l : List Nat) (n : Nat) : nums (l ++ [n]) = nums l ++ [.int (n : Int)] := by
  unfold nums
  rw [List.map_append]
  rfl
theorem nums_len (l : List Nat) : (nums l).length = l.length := List.length_map _
def undV (st : SS) (u : Nat) : SS × List V := match undoS st u with
  | none => (st, [.str "nothing", .int u])
  | some (x, st') => (st', [.str "undo", .str (wordA x.add), .int x.entry])
def spUndone : Sp := fun vs H Q _ => ∃ (m : Md) (st : SS) (u : Nat), vs = [.ref m.p, .int u] ∧ MA m H st ∧ Small st ∧ ∀ H' b, MA m H' (undV st u).1 → Kp m.all H H' → H b = none → H' b = some (.lst (undV st u).2) → Q (.ref b) H'
section
variable {P : Program} {wd : World} {K : PySem.W.Frag} {mg : Str → Option Value} {base : Heap} {f CF CS : Addr} {fd : FuncData}
abbrev N_law_current : List Str := ["_law_model", "_law_numbers", "_law_entry", "_law_words", "_law_change_here"]
theorem sc_law_current : FnScope N_law_current ["_law_model"] WHead.d_law_current.scope := ⟨rfl, rfl, rfl, by decide +kernel, rfl, by decide +kernel, by decide +kernel⟩
theorem ok_law_current (F : FnD K WHead.d_law_current f fd) (T : Txt K mg CF CS) : FnOk P wd K mg base C8.CX0 1 f fd ["_law_model"] spCurL := by
  refine F.ok sc_law_current (fun vs H Q E h => ?_) (fun cdv A outer s H vs Q E hr h => ?_)
  · obtain ⟨m, st, rfl, _⟩ := h
    rfl
  · obtain ⟨m, st, rfl, ma, cl, al, k⟩ := h
    have sz : sizeLine = 16777216 := sizeLine_eq
    refine ⟨_, PSs.nox ((pss_cons (ps_set (i := 1) sc_law_current.nd rfl (Or.inl rfl) (pe_lst pa_nil))
      (pss_cons (ps_for PassesOwn.never rfl (pi_range1 (by rfl) T.f_range (pa_cons (pe_callB call_len (by rfl) T.f_len PySem.boot_len (pa_cons (pe_ix ix_list (pv 0) pe_int (fun _ _ => rfl)) pa_nil)) pa_nil)) (pg_name (i := 2) sc_law_current.nd rfl (Or.inr rfl)) (pss_cons (ps_setLc (i := 3) (own := [("_law_change_here", 4)]) (g := (gName 4)) rfl sc_law_current.nd rfl rfl (sw_true rfl rfl rfl (by decide +kernel)) (pi_list (pe_ix ix_list (pv 0) pe_int (fun _ _ => rfl))) (blkOk_by (N := N_law_current) (sc := WHead.d_law_current.scope) (by decide +kernel)) (fun _ _ _ _ _ => (pg_name (i := 4) sc_law_current.nd rfl (Or.inl rfl))) (fun _ _ _ _ _ => (pts_one (pt_cmpR op_eq (pe_ix (show IxR _ (rIxT K) from ix_tup) (pv 4) pe_int (fun _ _ => rfl)) (pv 2) (nomark _)))) (fun _ _ _ _ _ => (pe_ix (show IxR _ (rIxT K) from ix_tup) (pv 4) pe_int (fun _ _ => rfl))))
      (pss_one (ps_if (PW.pt (pw_and (pt_cmpR op_in_seq pe_str (pv 3) rfl) (pw_and1 (pt_cmpR op_notIn_seq pe_str (pv 3) rfl)))) (pss_one (ps_expr (pe_bm PySem.F.plainAttrs_list PySem.F.slot_list_append PySem.F.type_list_append mt_append (pv 1) (pa_cons (pv 2) pa_nil)))) pss_nil))))
      (pss_one (ps_ret (pv 1)))))), ?_⟩
    refine ⟨by rw [sz]; exact Nat.zero_le _, fun N hN => ?_⟩
    have k1 : Kp [] H (upd H N (.lst [])) := Kp.new hN
    have h1 : (upd H N (.lst [])) N = some (.lst (nums (curTo st 0))) := upd_same
    generalize upd H N (.lst []) = H1 at *
    have ma1 := ma.kp0 k1
    refine ⟨_, rfl, m.p, _, _, _, rfl, rfl, SqL.of ma1.ob, rfl, _, _, rfl, .inl ⟨_, SqL.of ma1.ad, rfl⟩, ?_⟩
    rw [List.length_map]
    refine ⟨_, rfl, by omega, by omega, for_it (walk_range (lo := 0) (n := st.added.length)) (fun i σ H3 => ∃ o2 o3 : Option V, σ = [some (.ref m.p), some (.ref N), o2, o3, none] ∧ Kp [] H H3 ∧ H3 N = some (.lst (nums (curTo st i))))
      ⟨none, none, rfl, k1, h1⟩ (fun _ _ _ _ _ => trivial) ?_ ?_⟩
    · rintro i v σ H3 H4 hi ⟨o2, o3, rfl, k3, h3⟩ ⟨rfl, hv⟩
      obtain rfl : v = .int (i : Nat) := hv.trans (by show V.int (0 + (i : Int)) = _; rw [Int.zero_add])
      have ma4 := ma.kp0 k3
      obtain ⟨ts, hc, tups⟩ := ma4.ch
      have len := tups.len
      refine ⟨_, rfl, m.p, _, _, _, rfl, rfl, SqL.of ma4.ob, rfl, m.c, rfl, ⟨_, SqL.of hc⟩, fun D hD => lc_it (walk_list (K := K) (a := m.c) (xs := ts.map V.ref)) (fun j H5 => Kp [] H4 H5 ∧ H5 D = some (.lst (wordsOf (st.changes.take j) i)))
        ⟨Kp.new hD, upd_same⟩ (fun j H5 _ h => SqL.of (h.1 _ _ hc List.not_mem_nil)) ?_ ?_⟩
      · rintro j v H5 H6 hj ⟨k5, h5⟩ ⟨rfl, hv⟩
        rw [List.length_map] at hj
        have ie : j < st.changes.length := by omega
        obtain ⟨t, ht, htt⟩ := tups.get (List.getElem?_eq_getElem ie)
        rw [List.getElem?_map, ht] at hv
        have hv' : some (V.ref t) = some v := hv
        obtain rfl := Option.some.inj hv'
        have tt := k5 _ _ htt List.not_mem_nil
        have et := take_snoc (List.getElem?_eq_getElem ie)
        generalize st.changes[j] = x at *
        refine ⟨rfl, _, rfl, t, _, _, _, rfl, rfl, SqT.of tt, rfl, _, rfl, rfl, _, rfl, ?_⟩
        show if decide (V.int (x.entry : Int) = V.int (i : Int)) = true then _ else _
        rw [nat_eq, et]
        have wl := List.length_filter_le (fun y : Chg => y.entry == i) (st.changes.take j)
        have wl2 : (st.changes.take j).length ≤ st.changes.length := by rw [List.length_take]; omega
        unfold wordsOf at *
        rw [List.filter_append, List.map_append, List.filter_cons]
        by_cases q : x.entry = i
        · refine ifT (decide_eq_true q) ⟨_, rfl, t, _, _, _, rfl, rfl, SqT.of tt, rfl, _, h5, ?_, k5.mine hD, ?_⟩
          · rw [List.length_map, sz]
            omega
          · rw [upd_same, if_pos (by rw [q]; exact beq_self_eq_true i)]
            rfl
        · refine ifF (decide_eq_false q) ⟨k5, ?_⟩
          rw [h5, if_neg (by simpa using q)]
          simp
      · rintro H5 ⟨k5, h5⟩
        have tl : st.changes.take (ts.map V.ref).length = st.changes := List.take_of_length_le (by rw [List.length_map]; omega)
        rw [tl] at h5
        have h35 := k5 _ _ h3 List.not_mem_nil
        have lc := curTo_len st i
        refine ⟨_, rfl, D, _, rfl, .inl (SqL.of h5), rfl, words_flat _ _, _, rfl, ?_⟩
        show if inV (.str "add") (wordsOf st.changes i) = true then _ else _
        rw [any_add, curTo_step]
        have cd : isCur st.changes i = ((st.changes.any fun x => x.entry == i && x.add) && !(st.changes.any fun x => x.entry == i && !x.add)) := rfl
        cases ha : st.changes.any fun x => x.entry == i && x.add with
        | false =>
          rw [ha] at cd
          refine ifF rfl ⟨_, _, rfl, k3.trans k5, ?_⟩
          rw [h35, if_neg (by rw [cd, Bool.false_and]; decide)]
        | true =>
          rw [ha] at cd
          refine ifT rfl ⟨_, rfl, D, _, rfl, .inl (SqL.of h5), rfl, words_flat _ _, _, rfl, ?_⟩
          show if (!inV (.str "remove") (wordsOf st.changes i)) = true then _ else _
          rw [any_rem]
          cases hb : st.changes.any fun x => x.entry == i && !x.add with
          | true =>
            rw [hb] at cd
            refine ifF rfl ⟨_, _, rfl, k3.trans k5, ?_⟩
            rw [h35, if_neg (by rw [cd]; decide)]
          | false =>
            rw [hb] at cd
            refine ifT rfl ⟨_, rfl, .inl ⟨rfl, _, SqL.of h35⟩, _, rfl, N, _, _, rfl, rfl, h35, by rw [nums_len, sz]; omega, _, _, rfl, (k3.trans k5).mine hN, ?_⟩
            rw [upd_same, if_pos (by rw [cd]; rfl), nums_snoc]
    · rintro σ H3 ⟨o2, o3, rfl, k3, h3⟩
      exact ⟨_, rfl, k _ N k3 hN h3⟩
abbrev N_law_listed : List Str := ["_law_model", "_law_entry"]
theorem sc_law_listed : FnScope N_law_listed ["_law_model"] WHead.d_law_listed.scope := ⟨rfl, rfl, rfl, by decide +kernel, rfl, by decide +kernel, by decide +kernel⟩
theorem ok_law_listed (F : FnD K WHead.d_law_listed f fd) (T : Txt K mg CF CS) (c_law_current : CalE P wd K mg base 1 "_law_current" spCurL) : FnOk P wd K mg base C8.CX0 2 f fd ["_law_model"] spListed := by
  refine F.ok sc_law_listed (fun vs H Q E h => ?_) (fun cdv A outer s H vs Q E hr h => ?_)
  · obtain ⟨m, st, rfl, _⟩ := h
    rfl
  · obtain ⟨m, st, rfl, ma, cl, al, k⟩ := h
    have sz : sizeLine = 16777216 := sizeLine_eq
    refine ⟨_, PSs.nox ((pss_one (ps_ret (pe_lc (own := [("_law_entry", 1)]) (g := (gName 1)) (tt := tYes) rfl sc_law_listed.nd (pi_list (C8.pe_c c_law_current hr (by decide) (by rfl) (pa_cons (pv 0) pa_nil))) (blkOk_by (N := N_law_listed) (sc := WHead.d_law_listed.scope) (by decide +kernel)) (fun _ _ _ _ _ => (pg_name (i := 1) sc_law_listed.nd rfl (Or.inl rfl))) (fun _ _ _ _ _ => pts_nil) (fun _ _ _ _ _ => (pe_ix (show IxR _ (rIxL K) from ix_list) (pe_ix (show IxR _ (rIxL K) from ix_list) (pv 0) pe_int (fun _ _ => rfl)) (pv 1) (fun _ _ => rfl))))))), ?_⟩
    have cll := current_len st
    refine ⟨_, rfl, m, st, rfl, ma, cl, al, fun H1 b k1 nb hb => ⟨b, rfl, ⟨_, SqL.of hb⟩, fun D hD => lc_it (walk_list (K := K) (a := b) (xs := nums (current st))) (fun i H5 => Kp [] H1 H5 ∧ H5 D = some (.lst (((listed st).take i).map vS)))
      ⟨Kp.new hD, upd_same⟩ (fun i H5 _ h => SqL.of (h.1 _ _ hb List.not_mem_nil)) ?_ ?_⟩⟩
    · rintro i v H5 H6 hi ⟨k5, h5⟩ ⟨rfl, hv⟩
      obtain ⟨n, hn, rfl⟩ := nums_get hv
      have nlt := current_lt (List.mem_of_getElem? hn)
      have ma6 := ma.kp0 (k1.trans k5)
      have ll := listed_len st
      have ln : (listed st)[i]? = some st.added[n] := by
        unfold listed
        rw [List.getElem?_map, hn]
        show some (st.added.getD n []) = _
        rw [List.getD_eq_getElem?_getD, List.getElem?_eq_getElem nlt]
        rfl
      refine ⟨rfl, tYes_if ⟨_, rfl, m.p, _, _, _, rfl, rfl, SqL.of ma6.ob, rfl, _, rfl, m.a, _, _, vS st.added[n], rfl, rfl, SqL.of ma6.ad, atI_nat (by rw [List.getElem?_map, List.getElem?_eq_getElem nlt]; rfl), _, h5, ?_, k5.mine hD, ?_⟩⟩
      · rw [List.length_map, List.length_take, sz]
        omega
      · rw [upd_same, take_snoc ln, List.map_append]
        rfl
    · rintro H5 ⟨k5, h5⟩
      have e : (listed st).take (nums (current st)).length = listed st := List.take_of_length_le (by rw [nums_len]; unfold listed; rw [List.length_map]; exact Nat.le_refl _)
      rw [e] at h5
      exact k _ D (k1.trans k5) (k1.free hD) h5
abbrev N_law_undone : List Str := ["_law_model", "_law_who", "_law_own", "_law_change_here", "_law_number"]
theorem sc_law_undone : FnScope N_law_undone ["_law_model", "_law_who"] WHead.d_law_undone.scope := ⟨rfl, rfl, rfl, by decide +kernel, rfl, by decide +kernel, by decide +kernel⟩
theorem ok_law_undone (F : FnD K WHead.d_law_undone f fd) (T : Txt K mg CF CS) (c_law_current : CalE P wd K mg base 1 "_law_current" spCurL) : FnOk P wd K mg base C8.CX0 2 f fd ["_law_model", "_law_who"] spUndone := by
  refine F.ok sc_law_undone (fun vs H Q E h => ?_) (fun cdv A outer s H vs Q E hr h => ?_)
  · obtain ⟨m, st, u, rfl, _⟩ := h
    rfl
  · obtain ⟨m, st, u, rfl, ma, sm, k⟩ := h
    have sz : sizeLine = 16777216 := sizeLine_eq
    have al := sm.al
    have cl := sm.cl
    refine ⟨_, PSs.nox ((pss_cons (ps_setLc (i := 2) (own := [("_law_number", 4), ("_law_change_here", 3)]) (g := (gTup K 2 (gCons (gName 4) (gCons (gName 3) gNil)))) rfl sc_law_undone.nd rfl rfl (sw_true rfl rfl rfl (by decide +kernel)) (pi_enum (by rfl) T.f_enumerate (pa_cons (pe_ix ix_list (pv 0) pe_int (fun _ _ => rfl)) pa_nil)) (blkOk_by (N := N_law_undone) (sc := WHead.d_law_undone.scope) (by decide +kernel)) (fun _ _ _ _ _ => (pg_tup rfl (pgs_cons (pg_name (i := 4) sc_law_undone.nd rfl (Or.inl rfl)) (pgs_cons (pg_name (i := 3) sc_law_undone.nd rfl (Or.inl rfl)) pgs_nil)))) (fun _ _ _ _ _ => (pts_one (pt_cmpR op_eq (pe_ix (show IxR _ (rIxT K) from ix_tup) (pv 3) pe_int (fun _ _ => rfl)) (pv 1) (nomark _)))) (fun _ _ _ _ _ => (pv 4)))
      (pss_cons (ps_if (pt_cmpR (op_eqD hr.units) (pv 2) (pe_lst pa_nil) (nomark _)) (pss_one (ps_ret (pe_lst (pa_cons pe_str (pa_cons (pv 1) pa_nil))))) pss_nil)
      (pss_cons (ps_set (i := 3) sc_law_undone.nd rfl (Or.inl rfl) (pe_bm PySem.F.plainAttrs_list PySem.F.slot_list_pop PySem.F.type_list_pop mt_popAt (pe_ix ix_list (pv 0) pe_int (fun _ _ => rfl)) (pa_cons (pe_ix ix_list (pv 2) (pe_un un_neg pe_int) (fun _ _ => rfl)) pa_nil)))
      (pss_cons (ps_if (pt_cmpR op_gt (pe_callB call_len (by rfl) T.f_len PySem.boot_len (pa_cons (C8.pe_c c_law_current hr (by decide) (by rfl) (pa_cons (pv 0) pa_nil)) pa_nil)) pe_int (nomark _)) (pss_cons ps_never
      (pss_one (ps_ret (pe_lst (pa_cons pe_str (pa_cons pe_int pa_nil)))))) pss_nil)
      (pss_one (ps_ret (pe_lst (pa_cons pe_str (pa_cons (pe_ix ix_tup (pv 3) pe_int (fun _ _ => rfl)) (pa_cons (pe_ix ix_tup (pv 3) pe_int (fun _ _ => rfl)) pa_nil))))))))))), ?_⟩
    obtain ⟨ts, hc, tups⟩ := ma.ch
    have len := tups.len
    refine ⟨_, rfl, m.p, _, _, _, rfl, rfl, SqL.of ma.ob, rfl, m.c, _, rfl, SqL.of hc, fun D hD => lc_it (walk_enum (K := K) (a := m.c) (xs := ts.map V.ref)) (fun i H5 => Kp [] H H5 ∧ H5 D = some (.lst (nums (ownTo st.changes u i))))
      ⟨Kp.new hD, upd_same⟩ (fun i H5 _ h => SqL.of (h.1 _ _ hc List.not_mem_nil)) ?_ ?_⟩
    · rintro i v H5 H6 hi ⟨k5, h5⟩ ⟨t, x, y, rfl, ht, rfl, hx, hy⟩
      obtain rfl := Option.some.inj hx
      have hi' : i < (ts.map V.ref).length := hi
      rw [List.length_map] at hi'
      have ie : i < st.changes.length := by omega
      obtain ⟨t2, ht2, htt⟩ := tups.get (List.getElem?_eq_getElem ie)
      have hy' : (ts.map V.ref)[i]? = some y := hy
      rw [List.getElem?_map, ht2] at hy'
      have hy2 : some (V.ref t2) = some y := hy'
      obtain rfl := Option.some.inj hy2
      have k6 : Kp [] H5 (upd H5 t (.tup [.int (i : Int), .ref t2])) := Kp.new ht
      have ht6 : (upd H5 t (.tup [.int (i : Int), .ref t2])) t = some (.tup [.int (i : Int), .ref t2]) := upd_same
      generalize upd H5 t (.tup [.int (i : Int), .ref t2]) = H6 at *
      have tt := k6 _ _ (k5 _ _ htt List.not_mem_nil) List.not_mem_nil
      have et := ownTo_step (u := u) (List.getElem?_eq_getElem ie)
      generalize st.changes[i] = x at *
      refine ⟨t, _, rfl, SqT.of ht6, rfl, _, _, rfl, _, _, rfl, rfl, ?_⟩
      refine ⟨rfl, _, rfl, t2, _, _, _, rfl, rfl, SqT.of tt, rfl, _, rfl, rfl, _, rfl, ?_⟩
      show if decide (V.int (x.who : Int) = V.int (u : Int)) = true then _ else _
      rw [nat_eq, et]
      have h6 := k6 _ _ h5 List.not_mem_nil
      have lo := ownTo_len st.changes u i
      have k7 := k5.trans k6
      by_cases q : x.who = u
      · refine ifT (decide_eq_true q) ⟨_, rfl, _, h6, ?_, k7.mine hD, ?_⟩
        · rw [nums_len, sz]
          omega
        · rw [upd_same, if_pos q, nums_snoc]
      · refine ifF (decide_eq_false q) ⟨k7, ?_⟩
        rw [if_neg q]
        exact h6
    · rintro H1 ⟨k1, hD1⟩
      have eo : ownTo st.changes u (ts.map V.ref).length = ownIdx st.changes u := by rw [List.length_map, ← len]; rfl
      rw [eo] at hD1
      refine ⟨_, rfl, by rw [sz]; exact Nat.zero_le _, fun D2 hD2 => ⟨.list ((ownIdx st.changes u).map fun n : Nat => PyData.int (n : Int)), .list [], ?_, .lst (SqL.of upd_same) .nil, (numsD_lay _).shaped (by decide), lay_nil.shaped (by decide), _, rfl, ?_⟩⟩
      · exact .lst (SqL.of (by rw [upd_ne (ne_of_none hD1 hD2)]; exact hD1)) (numsD_dp _)
      rw [eqv_nil]
      have k2 : Kp [] H (upd H1 D2 (.lst [])) := k1.trans (Kp.new hD2)
      have hD3 : (upd H1 D2 (.lst [])) D = some (.lst (nums (ownIdx st.changes u))) := by rw [upd_ne (ne_of_none hD1 hD2)]; exact hD1
      generalize upd H1 D2 (.lst []) = H2 at *
      have lt : ∀ k ∈ ownIdx st.changes u, k < st.changes.length := fun k hk => own_lt hk
      generalize ho : ownIdx st.changes u = own at *
      have ud : undoS st u = match own.getLast? with
        | none => none
        | some k => some (st.changes.getD k ⟨0, true, 0⟩, { st with changes := st.changes.eraseIdx k }) := by
        unfold undoS
        rw [ho] <;> rfl
      have ma2 := ma.kp0 k2
      unfold undV at k
      rcases List.eq_nil_or_concat own with rfl | ⟨ns, i, e⟩
      · have ud : undoS st u = none := ud
        rw [ud] at k
        refine ifT rfl ⟨_, rfl, line2 _ _, fun b hb => ?_⟩
        exact k _ b (ma2.kp0 (Kp.new hb)) ((k2.trans (Kp.new hb)).nil) (k2.free hb) upd_same
      · rw [List.concat_eq_append] at e
        subst e
        rw [List.getLast?_concat] at ud
        have ud : undoS st u = some (st.changes.getD i ⟨0, true, 0⟩, { st with changes := st.changes.eraseIdx i }) := ud
        have il := lt i (by simp)
        refine ifF (by cases ns <;> rfl) ?_
        have hc2 := k2 _ _ hc List.not_mem_nil
        have tups2 := tups.tp k2.tp0
        obtain ⟨t, ht, htt⟩ := tups2.get (List.getElem?_eq_getElem il)
        have gd : st.changes.getD i ⟨0, true, 0⟩ = st.changes[i] := by rw [List.getD_eq_getElem?_getD, List.getElem?_eq_getElem il]; rfl
        rw [gd] at ud
        generalize st.changes[i] = x at *
        rw [ud] at k
        rw [nums_snoc] at hD3
        refine ⟨_, rfl, m.p, _, _, _, rfl, rfl, SqL.of ma2.ob, rfl, .inl ⟨rfl, _, SqL.of hc2⟩, _, rfl, _, rfl, D, _, _, _, rfl, rfl, SqL.of hD3, atI_last _ _, m.c, _, (i : Int), i, .ref t, rfl, rfl, hc2, by omega, by omega, ?_, ?_, ?_⟩
        · rw [List.length_map, ← len]
          have nn : ¬ ((i : Int) < 0) := by omega
          have z : (decide (0 ≤ (i : Int)) && decide ((i : Int) < (st.changes.length : Nat))) = true := by
            rw [decide_eq_true (by omega), decide_eq_true (by omega)]
            rfl
          unfold seqIndex?
          dsimp only
          rw [if_neg nn, if_pos z, Int.toNat_natCast]
        · rw [List.getElem?_map, ht]
          rfl
        have e3 : upd H2 m.c (.lst ((ts.map V.ref).eraseIdx i)) = upd H2 m.c (.lst ((ts.eraseIdx i).map V.ref)) := by rw [map_erase]
        rw [e3]
        have tp3 : Tp H2 (upd H2 m.c (.lst ((ts.eraseIdx i).map V.ref))) := Tp.upd hc2 (fun _ z => nomatch z)
        have k3 : Kp [m.c] H2 (upd H2 m.c (.lst ((ts.eraseIdx i).map V.ref))) := Kp.upd List.mem_cons_self
        have ma3 : MA m (upd H2 m.c (.lst ((ts.eraseIdx i).map V.ref))) { st with changes := st.changes.eraseIdx i } :=
          ⟨by rw [upd_ne ma2.pc]; exact ma2.ob, by rw [upd_ne ma2.ac]; exact ma2.ad, ⟨_, upd_same, (tups2.erase i).tp tp3⟩, by rw [upd_ne ma2.ck.symm]; exact ma2.ct, ma2.pa, ma2.pc, ma2.pk, ma2.ac, ma2.ak, ma2.ck⟩
        have htt3 := tp3 _ _ htt
        generalize upd H2 m.c (.lst ((ts.eraseIdx i).map V.ref)) = H3 at *
        have le := len_erase st.changes i
        refine ⟨_, rfl, m, _, rfl, ma3, by show (st.changes.eraseIdx i).length ≤ 100; omega, by show st.added.length ≤ 100; omega, fun H4 b k4 nb hb => ⟨_, _, rfl, .inl ⟨_, SqL.of hb, rfl⟩, _, _, rfl, rfl, _, rfl, ifF (decide_eq_false ?_) ?_⟩⟩
        · have := current_len { st with changes := st.changes.eraseIdx i }
          have y : ({ st with changes := st.changes.eraseIdx i } : SS).added.length = st.added.length := rfl
          rw [nums_len]
          omega
        have tt4 := k4 _ _ htt3 List.not_mem_nil
        refine ⟨_, rfl, t, _, _, _, rfl, rfl, SqT.of tt4, rfl, _, rfl, t, _, _, _, rfl, rfl, SqT.of tt4, rfl, line3 _ _ _, fun b2 hb2 => ?_⟩
        have k5 : Kp [] H3 (upd H4 b2 (.lst [.str "undo", .str (wordA x.add), .int x.entry])) := k4.trans (Kp.new hb2)
        refine k _ b2 (ma3.kp0 k5) (((k2.nil).trans (k3.mono (by simp [Md.all]))).trans k5.nil) ?_ upd_same
        have n3 : H3 b2 = none := k4.free hb2
        refine k2.free (k3.free' n3 ?_)
        intro z
        exact ma3.not_new n3 (by rw [List.mem_singleton.mp z]; simp [Md.all])
end
end WK
end Text_WW17
section Text_WW18
set_option Elab.async false
set_option linter.all false
set_option maxRecDepth 100000
set_option maxHeartbeats 4000000
/-! WW18: one change, in the model and in the session. -/
namespace WK
open PySem PySem.Spec L2 SX
open PyProof.Rows hiding St

/-! ### methods with keywords -/
def g2 {α : Type} : List α → List α → List α
  | [a, b], [c] => [a, b, c]
  | _, _ => []
def g1 {α : Type} : List α → List α → List α
  | [a], [c] => [a, c]
  | _, _ => []
theorem g2_rel : ∀ {vs : List V} {us : List Value} {zs : List V} {ws : List Value}, Vals vs us → Vals zs ws → Vals (g2 vs zs) (g2 us ws)
  | _, _, _, _, .nil, _ => .nil
  | _, _, _, _, .cons _ .nil, _ => .nil
  | _, _, _, _, .cons _ (.cons _ .nil), .nil => .nil
  | _, _, _, _, .cons a (.cons b .nil), .cons c .nil => .cons a (.cons b (.cons c .nil))
  | _, _, _, _, .cons _ (.cons _ .nil), .cons _ (.cons _ _) => .nil
  | _, _, _, _, .cons _ (.cons _ (.cons _ _)), _ => .nil
theorem g1_rel : ∀ {vs : List V} {us : List Value} {zs : List V} {ws : List Value}, Vals vs us → Vals zs ws → Vals (g1 vs zs) (g1 us ws)
  | _, _, _, _, .nil, _ => .nil
  | _, _, _, _, .cons _ .nil, .nil => .nil
  | _, _, _, _, .cons a .nil, .cons c .nil => .cons a (.cons c .nil)
  | _, _, _, _, .cons _ .nil, .cons _ (.cons _ _) => .nil
  | _, _, _, _, .cons _ (.cons _ _), _ => .nil
theorem g2_shape {us ws : List Value} (h : (g2 us ws).length = 3) : ∃ a b c, us = [a, b] ∧ ws = [c] := by
  match us, ws with
  | [a, b], [c] => exact ⟨a, b, c, rfl, rfl⟩
  | [], _ => cases h
  | [_], _ => cases h
  | [_, _], [] => cases h
  | [_, _], _ :: _ :: _ => cases h
  | _ :: _ :: _ :: _, _ => cases h
theorem g1_shape {us ws : List Value} (h : (g1 us ws).length = 2) : ∃ a c, us = [a] ∧ ws = [c] := by
  match us, ws with
  | [a], [c] => exact ⟨a, c, rfl, rfl⟩
  | [], _ => cases h
  | [_], [] => cases h
  | [_], _ :: _ :: _ => cases h
  | _ :: _ :: _, _ => cases h
section
variable {K : PySem.W.Frag} {f : Addr} {fd : FuncData}
theorem kb_add_path (F : FnD K WHead.d_Session_add_path f fd) : KBinds K fd ["self", "path", "user"] ["user"] g2 g2 := by
  obtain ⟨oc, od, dV, kV, doc, pm, an, cdv, ct, osl, rfl, lk, hcd, hD, hK⟩ := F.ex
  rcases hD with ⟨_, rfl⟩ | ⟨e, _⟩
  · refine ⟨fun s us ws _ hl => ?_, g2_rel⟩
    obtain ⟨a, b, c, rfl, rfl⟩ := g2_shape hl
    exact .of_eq rfl
  · exact absurd rfl e
theorem kb_remove_entry (F : FnD K WHead.d_Session_remove_entry f fd) : KBinds K fd ["self", "entry", "user"] ["user"] g2 g2 := by
  obtain ⟨oc, od, dV, kV, doc, pm, an, cdv, ct, osl, rfl, lk, hcd, hD, hK⟩ := F.ex
  rcases hD with ⟨_, rfl⟩ | ⟨e, _⟩
  · refine ⟨fun s us ws _ hl => ?_, g2_rel⟩
    obtain ⟨a, b, c, rfl, rfl⟩ := g2_shape hl
    exact .of_eq rfl
  · exact absurd rfl e
theorem kb_undo (F : FnD K WHead.d_Session_undo f fd) : KBinds K fd ["self", "user"] ["user"] g1 g1 := by
  obtain ⟨oc, od, dV, kV, doc, pm, an, cdv, ct, osl, rfl, lk, hcd, hD, hK⟩ := F.ex
  rcases hD with ⟨_, rfl⟩ | ⟨e, _⟩
  · refine ⟨fun s us ws _ hl => ?_, g1_rel⟩
    obtain ⟨a, c, rfl, rfl⟩ := g1_shape hl
    exact .of_eq rfl
  · exact absurd rfl e
end
def MetK (P : Program) (w : World) (K : PySem.W.Frag) (mg : Str → Option Value) (base : Heap) (CX : CXT) (k : Nat) (C : Addr) (m : Str) (sp : Sp) (ps ks : List Str) (g : List Value → List Value → List Value) (gV : List V → List V → List V) : Prop :=
  ∃ (f : Addr) (fd : FuncData), Cls K C ∧ Meth K C m f ∧ FnOk P w K mg base CX k f fd ps sp ∧ KBinds K fd ps ks g gV
section
variable {X : Cx} {CX : CXT} {k n : Nat} {C : Addr} {ps ks : List Str} {sp : Sp} {E : L2.St → XK} {m : Str} {pos apos : Pos} {e o : Expr} {es : List Expr} {kws : List Keyword} {ta : TE} {t tk : TA} {g : List Value → List Value → List Value} {gV : List V → List V → List V}
theorem passAt0 : ∀ σ, PassesAt C8.CX0 X σ C8.E0 := fun _ _ _ _ _ _ _ h => h.elim
theorem pe_mtK {pl : Sem Bool} (M : MetK X.prog X.w X.K X.mg X.base CX k C m sp ps ks g gV) (hr : Room n X.A) (hk : k ≤ n) (hx : ∀ σ, PassesAt CX X σ (E σ)) (he : PE X o ta)
    (ha : PA X (e :: es) t) (hkw : PK X kws tk) (hall : (backToKw pos (keywordEach kws X.env)).all (·.1.isSome) = true := by rfl) (hks : (backToKw pos (keywordEach kws X.env)).filterMap (·.1) = ks := by rfl)
    (hst : starEach (e :: es) X.env = (false, eval e X.env) :: starEach es X.env := by rfl) (hpl : ((backTo pos (starEach (e :: es) X.env)).any (·.1) || (backToKw pos (keywordEach kws X.env)).any (·.1.isNone)) = false := by rfl)
    (ht : eval (.Call (.Attribute o m apos) (e :: es) kws pos) X.env = (do
      let ov ← eval o X.env
      standAt apos.atName
      let (f, first) ← holding [ov] (getMethod ov m pl)
      callWith pos f first (backTo pos (starEach (e :: es) X.env)) (backToKw pos (keywordEach kws X.env))) := by rfl) :
    PE X (.Call (.Attribute o m apos) (e :: es) kws pos) (tMethK C m sp gV E ta t tk) := by
  obtain ⟨f, fd, c, hm, F, hb⟩ := M
  exact pe_methK he c hm F (hr.mono hk) hb hx ha hkw hall hks hst hpl ht
theorem pe_mtK0 {pl : Sem Bool} (M : MetK X.prog X.w X.K X.mg X.base CX k C m sp ps ks g gV) (hr : Room n X.A) (hk : k ≤ n) (hx : ∀ σ, PassesAt CX X σ (E σ)) (he : PE X o ta)
    (hkw : PK X kws tk) (hall : (backToKw pos (keywordEach kws X.env)).all (·.1.isSome) = true := by rfl) (hks : (backToKw pos (keywordEach kws X.env)).filterMap (·.1) = ks := by rfl)
    (hpl : ((backTo pos (starEach [] X.env)).any (·.1) || (backToKw pos (keywordEach kws X.env)).any (·.1.isNone)) = false := by rfl)
    (ht : eval (.Call (.Attribute o m apos) [] kws pos) X.env = (do
      let ov ← eval o X.env
      standAt apos.atName
      let (f, first) ← holding [ov] (getMethod ov m pl)
      callWith pos f first (backTo pos (starEach [] X.env)) (backToKw pos (keywordEach kws X.env))) := by rfl) :
    PE X (.Call (.Attribute o m apos) [] kws pos) (tMethK C m sp gV E ta tNil tk) := by
  obtain ⟨f, fd, c, hm, F, hb⟩ := M
  exact pe_methK0 he c hm F (hr.mono hk) hb hx hkw hall hks hpl ht
end

/-! ### one change -/
inductive Op where
  | add (w : List Nat) (u : Nat)
  | rem (e u : Nat)
  | und (u : Nat)
def Op.vals : Op → List V
  | .add w u => [.str "add", vS w, .int u]
  | .rem e u => [.str "remove", .int e, .int u]
  | .und u => [.str "undo", .non, .int u]
def OpOk : Op → Prop
  | .add w u => Steps w ∧ w.length ≤ 18 ∧ (red w).length ≤ 16 ∧ u < 4
  | .rem e u => e ≤ 1000 ∧ u < 4
  | .und u => u < 4
def numT (e : Nat) : Str := Str.ofString (toString (e : Int))
def knownB (st : SS) (w : List Nat) : Bool := (derive ((listed st).map red) (red w)).isSome
def after (st : SS) : Op → SS × List V
  | .add w u => (⟨st.added ++ [w], st.changes ++ [⟨u, true, st.added.length⟩], st.count + 1⟩, [.str "add", .int (st.added.length : Nat), .bl (knownB st w)])
  | .rem e u => if isCur st.changes e = true then ({ st with changes := st.changes ++ [⟨u, false, e⟩], count := st.count + 1 }, [.str "remove"]) else (st, [.str "entry", .str (numT e)])
  | .und u => undV st u
def InvE (st : SS) : Prop := ∀ x ∈ st.changes, x.entry < st.added.length
structure Sm1 (st : SS) : Prop where
  sm : Small st
  al : st.added.length ≤ 11
  inv : InvE st
theorem inV_nums (e : Nat) (l : List Nat) : inV (.int (e : Int)) (nums l) = decide (e ∈ l) := by
  unfold inV nums
  rw [List.any_map]
  induction l with
  | nil => rfl
  | cons a l ih =>
    rw [List.any_cons, ih]
    have h : ((fun y => eqV y (V.int (e : Int))) ∘ fun n : Nat => V.int (n : Int)) a = decide (a = e) := by
      show ((a : Int) == (e : Int)) = _
      by_cases z : a = e
      · rw [z, decide_eq_true rfl]
        exact beq_self_eq_true _
      · rw [decide_eq_false z]
        exact beq_eq_false_iff_ne.mpr (by omega)
    rw [h]
    by_cases z : a = e
    · have y : e ∈ a :: l := by rw [z]; exact List.mem_cons_self
      rw [decide_eq_true z, decide_eq_true y]
      rfl
    · rw [decide_eq_false z, Bool.false_or]
      congr 1
      rw [List.mem_cons]
      exact propext ⟨Or.inr, fun h => h.elim (fun h => absurd h.symm z) id⟩
theorem isCur_lt {st : SS} (iv : InvE st) {e : Nat} (h : isCur st.changes e = true) : e < st.added.length := by
  unfold isCur at h
  have h1 := (Bool.and_eq_true_iff.mp h).1
  obtain ⟨x, hx, z⟩ := List.any_eq_true.mp h1
  have y := (Bool.and_eq_true_iff.mp z).1
  have q : x.entry = e := by simpa using y
  rw [← q]
  exact iv x hx
theorem cur_in {st : SS} (iv : InvE st) (e : Nat) : inV (.int (e : Int)) (nums (current st)) = isCur st.changes e := by
  rw [inV_nums]
  unfold current
  cases h : isCur st.changes e with
  | true => exact decide_eq_true (List.mem_filter.mpr ⟨List.mem_range.mpr (isCur_lt iv h), h⟩)
  | false => exact decide_eq_false (fun z => by rw [(List.mem_filter.mp z).2] at h; cases h)
theorem nums_flat (l : List Nat) : (nums l).all flatV = true := by
  unfold nums
  rw [List.all_map]
  simp [flatV]
theorem law_known {st : SS} (sm : Small st) (al : st.added.length ≤ 11) {w : List Nat} (sw : Steps w) (rl : (red w).length ≤ 60) : decide (optV (run (gT (lawT ((listed st).map red))) 0 (red w)) = V.int 0) = knownB st w := by
  have ft := sm.fit al
  have d := derive_ok (paths := (listed st).map red) (goal := red w) ft.each ft.tot ft.many (red_red w) rl
  have l := lawT_ok (ps := (listed st).map red) (fun p hp => (ft.each p hp).1) (red w)
  have o : optV (run (gT (lawT ((listed st).map red))) 0 (red w)) = V.int 0 ↔ Closed (gT (lawT ((listed st).map red))) (red w) := by
    unfold Closed
    cases run (gT (lawT ((listed st).map red))) 0 (red w) with
    | none => exact ⟨fun z => (nomatch z), fun z => (nomatch z)⟩
    | some n =>
      constructor
      · intro z
        have e : V.int (n : Int) = V.int 0 := z
        have e2 := V.int.inj e
        have e3 : n = 0 := by omega
        rw [e3]
      · intro z
        rw [Option.some.inj z]
        rfl
  unfold knownB
  cases hd : derive ((listed st).map red) (red w) with
  | none =>
    rw [hd] at d
    exact decide_eq_false fun z => d (l.mp (o.mp z))
  | some x =>
    rw [hd] at d
    exact decide_eq_true (o.mpr (l.mpr d.1))
section
variable {m : Md} {H : Hp} {st : SS}
theorem MA.cnt (h : MA m H st) (n : Nat) : MA m (upd H m.k (.lst [.int (n : Int)])) { st with count := n } :=
  ⟨by rw [upd_ne h.pk]; exact h.ob, by rw [upd_ne h.ak]; exact h.ad, h.ch.keep (Tp.upd h.ct (fun _ z => nomatch z)) (upd_ne h.ck), upd_same, h.pa, h.pc, h.pk, h.ac, h.ak, h.ck⟩
theorem MA.add (h : MA m H st) (w : List Nat) : MA m (upd H m.a (.lst (st.added.map vS ++ [vS w]))) { st with added := st.added ++ [w] } :=
  ⟨by rw [upd_ne h.pa]; exact h.ob, by rw [upd_same, List.map_append]; rfl, h.ch.keep (Tp.upd h.ad (fun _ z => nomatch z)) (upd_ne h.ac.symm), by rw [upd_ne h.ak.symm]; exact h.ct, h.pa, h.pc, h.pk, h.ac, h.ak, h.ck⟩
theorem MA.chg (h : MA m H st) {x : Chg} {t : Addr} (e : H t = some (.tup (chT x))) : ∃ ts : List Addr, H m.c = some (.lst (ts.map V.ref)) ∧ ts.length = st.changes.length ∧ MA m (upd H m.c (.lst (ts.map V.ref ++ [.ref t]))) { st with changes := st.changes ++ [x] } := by
  obtain ⟨ts, h1, h2, h3⟩ := h.ch.app e
  exact ⟨ts, h1, h2, by rw [upd_ne h.pc]; exact h.ob, by rw [upd_ne h.ac]; exact h.ad, h3, by rw [upd_ne h.ck.symm]; exact h.ct, h.pa, h.pc, h.pk, h.ac, h.ak, h.ck⟩
end
theorem scal_opt (x : Option Nat) : scal (optV x) (.int 0) = true := by cases x <;> rfl
theorem after_no {st : SS} {e u : Nat} (h : isCur st.changes e = false) : after st (.rem e u) = (st, [.str "entry", .str (numT e)]) := if_neg (by rw [h]; decide)
theorem after_yes {st : SS} {e u : Nat} (h : isCur st.changes e = true) : after st (.rem e u) = ({ st with changes := st.changes ++ [⟨u, false, e⟩], count := st.count + 1 }, [.str "remove"]) := if_pos h
theorem after_und {st : SS} {u : Nat} : after st (.und u) = undV st u := rfl
theorem undV_none {st : SS} {u : Nat} (h : undoS st u = none) : undV st u = (st, [.str "nothing", .int u]) := by
  unfold undV
  rw [h]
theorem undV_some {st : SS} {u : Nat} {x : Chg} {st' : SS} (h : undoS st u = some (x, st')) : undV st u = (st', [.str "undo", .str (wordA x.add), .int x.entry]) := by
  unfold undV
  rw [h]
def spExpected : Sp := fun vs H Q _ => ∃ (m : Md) (t : Addr) (st : SS) (op : Op), vs = [.ref m.p, .ref t] ∧ MA m H st ∧ Sm1 st ∧ H t = some (.tup op.vals) ∧ OpOk op ∧
  ∀ H' b, MA m H' (after st op).1 → Kp m.all H H' → H b = none → H' b = some (.lst (after st op).2) → Q (.ref b) H'
def spActual (C : Addr) : Sp := fun vs H Q _ => ∃ (s : Sd) (t : Addr) (st : SS) (op : Op), vs = [.ref s.p, .ref t] ∧ SA C s H st ∧ Sm1 st ∧ H t = some (.tup op.vals) ∧ OpOk op ∧
  ∀ H' b, SA C s H' (after st op).1 → Kp s.all H H' → H b = none → H' b = some (.lst (after st op).2) → Q (.ref b) H'
structure TxtE (K : PySem.W.Frag) (mg : Str → Option Value) (CU CN CI CL : Addr) : Prop where
  gI : mg "InvalidUser" = some (.ref CI)
  gL : mg "LimitExceeded" = some (.ref CL)
  xU : XfC K CU
  xN : XfC K CN
  uu : PySem.W.exmOne K (.ref CU) (.ref CU) = some true
  nu : PySem.W.exmOne K (.ref CN) (.ref CU) = some false
  ni : PySem.W.exmOne K (.ref CN) (.ref CI) = some false
  nn : PySem.W.exmOne K (.ref CN) (.ref CN) = some true
section
variable {P : Program} {wd : World} {K : PySem.W.Frag} {mg : Str → Option Value} {base : Heap} {f CF CS CU CN CI CL fU fN : Addr} {fd : FuncData}
abbrev N_law_expected : List Str := ["_law_model", "_law_change_here", "_law_word", "_law_value_here", "_law_who", "_law_known"]
theorem sc_law_expected : FnScope N_law_expected ["_law_model", "_law_change_here"] WHead.d_law_expected.scope := ⟨rfl, rfl, rfl, by decide +kernel, rfl, by decide +kernel, by decide +kernel⟩
theorem ok_law_expected (F : FnD K WHead.d_law_expected f fd) (T : Txt K mg CF CS) (c_law_is_integer : CalE P wd K mg base 1 "_law_is_integer" spInt) (c_law_current : CalE P wd K mg base 1 "_law_current" spCurL) (c_law_listed : CalE P wd K mg base 2 "_law_listed" spListed)
    (c_law_undone : CalE P wd K mg base 2 "_law_undone" spUndone) (c_law_short : CalE P wd K mg base 2 "_law_short" spShort) (c_law_folded : CalE P wd K mg base 4 "_law_folded" (spFolded K)) (c_law_end : CalE P wd K mg base 1 "_law_end" spEnd) : FnOk P wd K mg base C8.CX0 5 f fd ["_law_model", "_law_change_here"] spExpected := by
  refine F.ok sc_law_expected (fun vs H Q E h => ?_) (fun cdv A outer s H vs Q E hr h => ?_)
  · obtain ⟨m, t, st, op, rfl, _⟩ := h
    rfl
  · obtain ⟨m, t, st, op, rfl, ma, sm1, ht, ok, k⟩ := h
    have sz : sizeLine = 16777216 := sizeLine_eq
    have sm := sm1.sm
    have al := sm1.al
    have cl := sm.cl
    have ct := sm.ct
    refine ⟨_, PSs.nox ((pss_cons (ps_asg (pv 1) (pg_tup rfl (pgs_cons (pg_name (i := 2) sc_law_expected.nd rfl (Or.inl rfl)) (pgs_cons (pg_name (i := 3) sc_law_expected.nd rfl (Or.inl rfl)) (pgs_cons (pg_name (i := 4) sc_law_expected.nd rfl (Or.inl rfl)) pgs_nil)))))
      (pss_cons (ps_if (PW.pt (pw_and (pt_cmpR op_eq (pv 2) pe_str (nomark _)) (pw_and1 (PW.pt (pw_or (pt_not (pt_val (C8.pe_c c_law_is_integer hr (by decide) (by rfl) (pa_cons (pv 3) pa_nil)))) (pw_or1 (pt_cmpR op_notIn_seq (pv 3) (C8.pe_c c_law_current hr (by decide) (by rfl) (pa_cons (pv 0) pa_nil)) rfl))))))) (pss_one (ps_ret (pe_lst (pa_cons pe_str (pa_cons (pe_callB SkE.call_repr_int (by rfl) T.f_repr (by decide +kernel) (pa_cons (pv 3) pa_nil)) pa_nil))))) pss_nil)
      (pss_cons (ps_if (PW.pt (pw_or (pt_not (pt_val (C8.pe_c c_law_is_integer hr (by decide) (by rfl) (pa_cons (pv 4) pa_nil)))) (pw_or1 (pt_not (pt_chain op_le op_lt pe_int (pv 4) pe_int))))) (pss_one (ps_ret (pe_lst (pa_cons pe_str (pa_cons (pe_callB SkE.call_repr_int (by rfl) T.f_repr (by decide +kernel) (pa_cons (pv 4) pa_nil)) pa_nil))))) pss_nil)
      (pss_cons (ps_if (pt_cmpR op_eq (pv 2) pe_str (nomark _)) (pss_one (ps_ret (C8.pe_c c_law_undone hr (by decide) (by rfl) (pa_cons (pv 0) (pa_cons (pv 4) pa_nil))))) pss_nil)
      (pss_cons (ps_if (PW.pt (pw_and (pt_cmpR op_eq (pv 2) pe_str (nomark _)) (pw_and1 (pt_cmpR op_gt (pe_callB call_len (by rfl) T.f_len PySem.boot_len (pa_cons (C8.pe_c c_law_short hr (by decide) (by rfl) (pa_cons (pv 3) pa_nil)) pa_nil)) pe_int (nomark _))))) (pss_one (ps_ret (pe_lst (pa_cons pe_str (pa_cons pe_int pa_nil))))) pss_nil)
      (pss_cons (ps_if (PW.pt (pw_and (pt_cmpR op_eq (pv 2) pe_str (nomark _)) (pw_and1 (pt_cmpR op_ge (pe_callB call_len (by rfl) T.f_len PySem.boot_len (pa_cons (C8.pe_c c_law_current hr (by decide) (by rfl) (pa_cons (pv 0) pa_nil)) pa_nil)) pe_int (nomark _))))) (pss_one (ps_ret (pe_lst (pa_cons pe_str (pa_cons pe_int pa_nil))))) pss_nil)
      (pss_cons (ps_if (pt_cmpR op_ge (pe_ix ix_list (pe_ix ix_list (pv 0) pe_int (fun _ _ => rfl)) pe_int (fun _ _ => rfl)) pe_int (nomark _)) (pss_one (ps_ret (pe_lst (pa_cons pe_str (pa_cons pe_int pa_nil))))) pss_nil)
      (pss_cons (ps_asg (pe_op op_add (pe_ix ix_list (pe_ix ix_list (pv 0) pe_int (fun _ _ => rfl)) pe_int (fun _ _ => rfl)) pe_int) (pg_sub (pe_ix ix_list (pv 0) pe_int (fun _ _ => rfl)) pe_int set_list))
      (pss_cons (ps_if (pt_cmpR op_eq (pv 2) pe_str (nomark _)) (pss_cons (ps_expr (pe_bm PySem.F.plainAttrs_list PySem.F.slot_list_append PySem.F.type_list_append mt_append (pe_ix ix_list (pv 0) pe_int (fun _ _ => rfl)) (pa_cons (pe_tup (pa_cons (pv 4) (pa_cons (pv 2) (pa_cons (pv 3) pa_nil)))) pa_nil)))
      (pss_one (ps_ret (pe_lst (pa_cons pe_str pa_nil))))) pss_nil)
      (pss_cons (ps_set (i := 5) sc_law_expected.nd rfl (Or.inl rfl) (pe_cmpR op_eq (C8.pe_c c_law_end hr (by decide) (by rfl) (pa_cons (C8.pe_c c_law_folded hr (by decide) (by rfl) (pa_cons (C8.pe_c c_law_listed hr (by decide) (by rfl) (pa_cons (pv 0) pa_nil)) pa_nil)) (pa_cons (C8.pe_c c_law_short hr (by decide) (by rfl) (pa_cons (pv 3) pa_nil)) (pa_cons pe_int pa_nil)))) pe_int (nomark _)))
      (pss_cons (ps_expr (pe_bm PySem.F.plainAttrs_list PySem.F.slot_list_append PySem.F.type_list_append mt_append (pe_ix ix_list (pv 0) pe_int (fun _ _ => rfl)) (pa_cons (pv 3) pa_nil)))
      (pss_cons (ps_expr (pe_bm PySem.F.plainAttrs_list PySem.F.slot_list_append PySem.F.type_list_append mt_append (pe_ix ix_list (pv 0) pe_int (fun _ _ => rfl)) (pa_cons (pe_tup (pa_cons (pv 4) (pa_cons (pv 2) (pa_cons (pe_op op_sub (pe_callB call_len (by rfl) T.f_len PySem.boot_len (pa_cons (pe_ix ix_list (pv 0) pe_int (fun _ _ => rfl)) pa_nil)) pe_int) pa_nil)))) pa_nil)))
      (pss_one (ps_ret (pe_lst (pa_cons pe_str (pa_cons (pe_op op_sub (pe_callB call_len (by rfl) T.f_len PySem.boot_len (pa_cons (pe_ix ix_list (pv 0) pe_int (fun _ _ => rfl)) pa_nil)) pe_int) (pa_cons (pv 5) pa_nil))))))))))))))))))), ?_⟩
    cases op with
    | add w u =>
      obtain ⟨sw, wl, rl, lu⟩ := ok
      have lk := law_known sm al sw (by omega)
      refine ⟨_, rfl, t, _, rfl, SqT.of ht, rfl, _, _, rfl, _, _, rfl, _, _, rfl, rfl, ?_⟩
      refine ⟨_, rfl, rfl, _, rfl, ifF (by decide +kernel) ?_⟩
      refine ⟨_, rfl, _, rfl, _, rfl, ifF rfl ⟨_, rfl, _, _, rfl, rfl, _, rfl, ifT (decide_eq_true (by omega)) ⟨_, _, rfl, rfl, _, rfl, ifF (by rw [decide_eq_true (show (u : Int) < 4 by omega)]; rfl) ?_⟩⟩⟩
      refine ⟨_, rfl, rfl, _, rfl, ifF (by decide +kernel) ?_⟩
      refine ⟨_, rfl, rfl, _, rfl, ifT (by decide +kernel) ⟨_, rfl, w, rfl, sw, by omega, _, _, rfl, ⟨by rw [S_len, sz]; omega, rfl⟩, _, _, rfl, rfl, _, rfl, ifF (decide_eq_false (by rw [S_len]; omega)) ?_⟩⟩
      refine ⟨_, rfl, rfl, _, rfl, ifT (by decide +kernel) ⟨_, rfl, m, st, rfl, ma, by omega, by omega, fun H1 b k1 nb hb => ⟨_, _, rfl, .inl ⟨_, SqL.of hb, rfl⟩, _, _, rfl, rfl, _, rfl, ifF (decide_eq_false ?_) ?_⟩⟩⟩
      · have := current_len st
        rw [nums_len]
        omega
      have ma1 := ma.kp0 k1
      refine ⟨_, rfl, m.p, _, _, _, rfl, rfl, SqL.of ma1.ob, rfl, m.k, _, _, _, rfl, rfl, SqL.of ma1.ct, rfl, _, _, rfl, rfl, _, rfl, ifF (decide_eq_false (by omega)) ?_⟩
      refine ⟨_, rfl, m.p, _, _, _, rfl, rfl, SqL.of ma1.ob, rfl, m.k, _, _, _, rfl, rfl, SqL.of ma1.ct, rfl, _, _, rfl, rfl, _, rfl, m.p, _, _, _, rfl, rfl, SqL.of ma1.ob, rfl, m.k, _, _, 0, rfl, rfl, ma1.ct, rfl, ?_⟩
      have ma2 : MA m (upd H1 m.k (.lst ([V.int (st.count : Nat)].set 0 (V.int ((st.count : Nat) + 1))))) { st with count := st.count + 1 } := ma1.cnt (st.count + 1)
      have k2 : Kp m.all H (upd H1 m.k (.lst ([V.int (st.count : Nat)].set 0 (V.int ((st.count : Nat) + 1))))) := (k1.nil).trans (Kp.upd (by simp [Md.all]))
      generalize upd H1 m.k (.lst ([V.int (st.count : Nat)].set 0 (V.int ((st.count : Nat) + 1)))) = H2 at *
      refine ⟨_, rfl, rfl, _, rfl, ifF (by decide +kernel) ?_⟩
      have ll := listed_len st
      have tl : total (listed st) ≤ 18 * (listed st).length := total_le (b := 18) fun p hp => (sm.ws p (listed_mem hp)).2.1
      -- known
      refine ⟨_, rfl, m, _, rfl, ma2, by show st.changes.length ≤ 100; omega, by show st.added.length ≤ 100; omega, fun H3 L k3 nL hL => ⟨L, listed st, rfl, SqL.of hL, fun p hp => (sm.ws p (listed_mem hp)).1, by omega, fun H4 d k4 nd hd => ⟨_, rfl, w, rfl, sw, by omega, d, _, red w, 0, rfl, hd, fun H5 k5 => ⟨scal_opt _, ?_⟩⟩⟩⟩
      rw [lk]
      have k25 := (k3.trans k4).trans k5
      have ma5 := ma2.kp0 k25
      have kk5 := k2.trans k25.nil
      -- model[0].append(value)
      refine ⟨_, rfl, m.p, _, _, _, rfl, rfl, SqL.of ma5.ob, rfl, .inl ⟨rfl, _, SqL.of ma5.ad⟩, _, rfl, m.a, _, _, rfl, rfl, ma5.ad, by rw [List.length_map, sz]; show st.added.length < _; omega, ?_⟩
      have ma6 := ma5.add w
      have kk6 : Kp m.all H (upd H5 m.a (.lst (({ st with count := st.count + 1 } : SS).added.map vS ++ [vS w]))) := kk5.trans (Kp.upd (by simp [Md.all]))
      generalize upd H5 m.a (.lst (({ st with count := st.count + 1 } : SS).added.map vS ++ [vS w])) = H6 at *
      -- model[1].append((who, word, len(model[0]) - 1))
      have e1 : (((({ st with count := st.count + 1, added := st.added ++ [w] } : SS).added.map vS).length : Nat) : Int) - 1 = (st.added.length : Nat) := by
        rw [List.length_map]
        show (((st.added ++ [w]).length : Nat) : Int) - 1 = _
        rw [List.length_append]
        simp
      refine ⟨_, rfl, m.p, _, _, _, rfl, rfl, SqL.of ma6.ob, rfl, .inl ⟨rfl, _, SqL.of ma6.ch.choose_spec.1⟩, _, rfl, _, rfl, _, rfl, m.p, _, _, _, rfl, rfl, SqL.of ma6.ob, rfl, _, _, rfl, .inl ⟨_, SqL.of ma6.ad, rfl⟩, _, _, rfl, rfl, line3 _ _ _, fun q hq => ?_⟩
      have e2 : ([V.int (u : Int), V.str "add", V.int ((((({ st with count := st.count + 1, added := st.added ++ [w] } : SS).added.map vS).length : Nat) : Int) - 1)] : List V) = chT ⟨u, true, st.added.length⟩ := by
        rw [e1]
        rfl
      rw [e2]
      have k7 : Kp [] H6 (upd H6 q (.tup (chT ⟨u, true, st.added.length⟩))) := Kp.new hq
      have h7 : (upd H6 q (.tup (chT ⟨u, true, st.added.length⟩))) q = some (.tup (chT ⟨u, true, st.added.length⟩)) := upd_same
      generalize upd H6 q (.tup (chT ⟨u, true, st.added.length⟩)) = H7 at *
      obtain ⟨ts, hc, tl2, ma8⟩ := (ma6.kp0 k7).chg h7
      have tl3 : ts.length = st.changes.length := tl2
      refine ⟨m.c, _, _, rfl, rfl, hc, by rw [List.length_map, sz]; omega, ?_⟩
      have kk8 : Kp m.all H (upd H7 m.c (.lst (ts.map V.ref ++ [.ref q]))) := (kk6.trans k7.nil).trans (Kp.upd (by simp [Md.all]))
      generalize upd H7 m.c (.lst (ts.map V.ref ++ [.ref q])) = H8 at *
      refine ⟨_, rfl, m.p, _, _, _, rfl, rfl, SqL.of ma8.ob, rfl, _, _, rfl, .inl ⟨_, SqL.of ma8.ad, rfl⟩, _, _, rfl, rfl, _, rfl, line3 _ _ _, fun b hb2 => ?_⟩
      have bn : H b = none := kk8.free' hb2 (ma8.not_new hb2)
      refine k _ b (ma8.kp0 (Kp.new hb2)) (kk8.trans (Kp.new hb2)) bn ?_
      rw [upd_same]
      show some (HO.lst [V.str "add", V.int ((((({ st with count := st.count + 1, added := st.added ++ [w] } : SS).added.map vS).length : Nat) : Int) - 1), V.bl (knownB st w)]) = _
      rw [e1]
      rfl
    | rem e u =>
      obtain ⟨el, lu⟩ := ok
      refine ⟨_, rfl, t, _, rfl, SqT.of ht, rfl, _, _, rfl, _, _, rfl, _, _, rfl, rfl, ?_⟩
      refine ⟨_, rfl, rfl, _, rfl, ifT (by decide +kernel) ⟨_, rfl, _, rfl, _, rfl, ifF rfl ⟨_, rfl, _, rfl, m, st, rfl, ma, by omega, by omega, fun H1 b k1 nb hb => ⟨b, _, rfl, .inl (SqL.of hb), rfl, nums_flat _, _, rfl, ?_⟩⟩⟩⟩
      show if (!inV (.int (e : Int)) (nums (current st))) = true then _ else _
      rw [cur_in sm1.inv]
      have ma1 := ma.kp0 k1
      cases hc : isCur st.changes e with
      | false =>
        rw [after_no hc] at k
        refine ifT rfl ⟨_, rfl, _, rfl, log_small (by omega), line2 _ _, fun b2 hb2 => ?_⟩
        exact k _ b2 (ma1.kp0 (Kp.new hb2)) ((k1.trans (Kp.new hb2)).nil) (k1.free hb2) upd_same
      | true =>
        rw [after_yes hc] at k
        refine ifF rfl ?_
        refine ⟨_, rfl, _, rfl, _, rfl, ifF rfl ⟨_, rfl, _, _, rfl, rfl, _, rfl, ifT (decide_eq_true (by omega)) ⟨_, _, rfl, rfl, _, rfl, ifF (by rw [decide_eq_true (show (u : Int) < 4 by omega)]; rfl) ?_⟩⟩⟩
        refine ⟨_, rfl, rfl, _, rfl, ifF (by decide +kernel) ?_⟩
        refine ⟨_, rfl, rfl, _, rfl, ifF (by decide +kernel) ?_⟩
        refine ⟨_, rfl, rfl, _, rfl, ifF (by decide +kernel) ?_⟩
        refine ⟨_, rfl, m.p, _, _, _, rfl, rfl, SqL.of ma1.ob, rfl, m.k, _, _, _, rfl, rfl, SqL.of ma1.ct, rfl, _, _, rfl, rfl, _, rfl, ifF (decide_eq_false (by omega)) ?_⟩
        refine ⟨_, rfl, m.p, _, _, _, rfl, rfl, SqL.of ma1.ob, rfl, m.k, _, _, _, rfl, rfl, SqL.of ma1.ct, rfl, _, _, rfl, rfl, _, rfl, m.p, _, _, _, rfl, rfl, SqL.of ma1.ob, rfl, m.k, _, _, 0, rfl, rfl, ma1.ct, rfl, ?_⟩
        have ma2 : MA m (upd H1 m.k (.lst ([V.int (st.count : Nat)].set 0 (V.int ((st.count : Nat) + 1))))) { st with count := st.count + 1 } := ma1.cnt (st.count + 1)
        have k2 : Kp m.all H (upd H1 m.k (.lst ([V.int (st.count : Nat)].set 0 (V.int ((st.count : Nat) + 1))))) := (k1.nil).trans (Kp.upd (by simp [Md.all]))
        generalize upd H1 m.k (.lst ([V.int (st.count : Nat)].set 0 (V.int ((st.count : Nat) + 1)))) = H2 at *
        refine ⟨_, rfl, rfl, _, rfl, ifT (by decide +kernel) ?_⟩
        refine ⟨_, rfl, m.p, _, _, _, rfl, rfl, SqL.of ma2.ob, rfl, .inl ⟨rfl, _, SqL.of ma2.ch.choose_spec.1⟩, _, rfl, _, rfl, _, rfl, line3 _ _ _, fun q hq => ?_⟩
        have e2 : ([V.int (u : Int), V.str "remove", V.int (e : Int)] : List V) = chT ⟨u, false, e⟩ := rfl
        rw [e2]
        have k7 : Kp [] H2 (upd H2 q (.tup (chT ⟨u, false, e⟩))) := Kp.new hq
        have h7 : (upd H2 q (.tup (chT ⟨u, false, e⟩))) q = some (.tup (chT ⟨u, false, e⟩)) := upd_same
        generalize upd H2 q (.tup (chT ⟨u, false, e⟩)) = H7 at *
        obtain ⟨ts, hc, tl2, ma8⟩ := (ma2.kp0 k7).chg h7
        have tl3 : ts.length = st.changes.length := tl2
        refine ⟨m.c, _, _, rfl, rfl, hc, by rw [List.length_map, sz]; omega, ?_⟩
        have kk8 : Kp m.all H (upd H7 m.c (.lst (ts.map V.ref ++ [.ref q]))) := (k2.trans k7.nil).trans (Kp.upd (by simp [Md.all]))
        generalize upd H7 m.c (.lst (ts.map V.ref ++ [.ref q])) = H8 at *
        refine ⟨by rw [sz]; exact Nat.le_of_ble_eq_true rfl, fun b hb2 => ?_⟩
        have bn : H b = none := kk8.free' hb2 (ma8.not_new hb2)
        exact k _ b (ma8.kp0 (Kp.new hb2)) (kk8.trans (Kp.new hb2)) bn upd_same
    | und u =>
      have lu : u < 4 := ok
      refine ⟨_, rfl, t, _, rfl, SqT.of ht, rfl, _, _, rfl, _, _, rfl, _, _, rfl, rfl, ?_⟩
      refine ⟨_, rfl, rfl, _, rfl, ifF (by decide +kernel) ?_⟩
      refine ⟨_, rfl, _, rfl, _, rfl, ifF rfl ⟨_, rfl, _, _, rfl, rfl, _, rfl, ifT (decide_eq_true (by omega)) ⟨_, _, rfl, rfl, _, rfl, ifF (by rw [decide_eq_true (show (u : Int) < 4 by omega)]; rfl) ?_⟩⟩⟩
      refine ⟨_, rfl, rfl, _, rfl, ifT (by decide +kernel) ?_⟩
      exact ⟨_, rfl, _, rfl, m, st, u, rfl, ma, sm, k⟩
abbrev N_law_actual : List Str := ["_law_session", "_law_change_here", "_law_word", "_law_value_here", "_law_who", "_law_result", "e"]
theorem sc_law_actual : FnScope N_law_actual ["_law_session", "_law_change_here"] WHead.d_law_actual.scope := ⟨rfl, rfl, rfl, by decide +kernel, rfl, by decide +kernel, by decide +kernel⟩
theorem ok_law_actual (F : FnD K WHead.d_law_actual f fd) (T : Txt K mg CF CS) (TX : TxtX K mg CU CN fU fN) (TE : TxtE K mg CU CN CI CL) (m_Session_add_path : MetK P wd K mg base C8.CX0 9 CS "add_path" (spAddPath CS) ["self", "path", "user"] ["user"] g2 g2)
    (m_Session_remove_entry : MetK P wd K mg base (L2.CX P wd) 3 CS "remove_entry" (spRemove CS CU) ["self", "entry", "user"] ["user"] g2 g2) (m_Session_undo : MetK P wd K mg base (L2.CX P wd) 3 CS "undo" (spUndo CS CN) ["self", "user"] ["user"] g1 g1) : FnOk P wd K mg base C8.CX0 10 f fd ["_law_session", "_law_change_here"] (spActual CS) := by
  refine F.ok sc_law_actual (fun vs H Q E h => ?_) (fun cdv A outer s H vs Q E hr h => ?_)
  · obtain ⟨s, t, st, op, rfl, _⟩ := h
    rfl
  · obtain ⟨s, t, st, op, rfl, sa, sm1, ht, ok, k⟩ := h
    have sz : sizeLine = 16777216 := sizeLine_eq
    have sm := sm1.sm
    have al := sm1.al
    refine ⟨_, PSs.nox ((pss_cons (ps_asg (pv 1) (pg_tup rfl (pgs_cons (pg_name (i := 2) sc_law_actual.nd rfl (Or.inl rfl)) (pgs_cons (pg_name (i := 3) sc_law_actual.nd rfl (Or.inl rfl)) (pgs_cons (pg_name (i := 4) sc_law_actual.nd rfl (Or.inl rfl)) pgs_nil)))))
      (pss_one (ps_tryAs (i := 6) rfl rfl sc_law_actual.nd rfl rfl (fun W pn xe tk hx => (pss_cons (ps_if (pt_cmpR op_eq (pv 2) pe_str (nomark _)) (pss_cons (ps_set (i := 5) sc_law_actual.nd rfl (Or.inl rfl) (pe_mtK m_Session_add_path hr (by decide) passAt0 (pv 0) (pa_cons (pv 3) pa_nil) (pk_cons (pv 4) pk_nil)))
      (pss_one (ps_ret (pe_lst (pa_cons pe_str (pa_cons (pe_ix (show IxR _ (rIxT K) from ix_tup) (pv 5) pe_int (fun _ _ => rfl)) (pa_cons (pe_cmpR op_notN (pe_ix (show IxR _ (rIxT K) from ix_tup) (pv 5) pe_int (fun _ _ => rfl)) pe_non (nomark _)) pa_nil))))))) pss_nil)
      (pss_cons (ps_if (pt_cmpR op_eq (pv 2) pe_str (nomark _)) (pss_one (ps_ret (pe_ix (show IxR _ (rIxL K) from ix_list) (pe_lst (pa_cons (pe_lst (pa_cons pe_str pa_nil)) (pa_cons (pe_lst (pa_cons pe_str pa_nil)) pa_nil))) (pe_callTy call_int1 (by rfl) T.f_int (by decide +kernel) (pa_cons (pe_cmpR op_isN (pe_mtK m_Session_remove_entry hr (by decide) (passAt tk) (pv 0) (pa_cons (pv 3) pa_nil) (pk_cons (pv 4) pk_nil)) pe_non (nomark _)) pa_nil)) (fun _ _ => rfl)))) pss_nil)
      (pss_cons (ps_set (i := 5) sc_law_actual.nd rfl (Or.inl rfl) (pe_mtK0 m_Session_undo hr (by decide) (passAt tk) (pv 0) (pk_cons (pv 4) pk_nil)))
      (pss_one (ps_ret (pe_lst (pa_cons pe_str (pa_cons (pe_ix (show IxR _ (rIxT K) from ix_tup) (pv 5) pe_int (fun _ _ => rfl)) (pa_cons (pe_ix (show IxR _ (rIxT K) from ix_tup) (pv 5) pe_int (fun _ _ => rfl)) pa_nil)))))))))) (.cons ⟨by rfl, by decide, .inl TX.gU⟩ (fun a oe cls d pn hz hv => (pss_one (ps_ret (pe_lst (pa_cons pe_str (pa_cons (pe_callB SkE.call_repr_int (by rfl) T.f_repr (by decide +kernel) (pa_cons (pe_xf TE.xU TX.nU hz hv (pv 6)) pa_nil)) pa_nil)))))) (.cons ⟨by rfl, by decide, .inl TE.gI⟩ (fun _ _ _ _ _ _ _ => pss_never) (.cons ⟨by rfl, by decide, .inl TX.gN⟩ (fun a oe cls d pn hz hv => (pss_one (ps_ret (pe_lst (pa_cons pe_str (pa_cons (pe_xf TE.xN TX.nN hz hv (pv 6)) pa_nil)))))) (.cons ⟨by rfl, by decide, .inl TE.gL⟩ (fun _ _ _ _ _ _ _ => pss_never) .nil)))))))), ?_⟩
    cases op with
    | add w u =>
      obtain ⟨sw, wl, rl, lu⟩ := ok
      refine ⟨_, rfl, t, _, rfl, SqT.of ht, rfl, _, _, rfl, _, _, rfl, _, _, rfl, rfl, ?_⟩
      refine ⟨_, rfl, rfl, _, rfl, ifT (by decide +kernel) ?_⟩
      refine ⟨_, rfl, s.p, _, _, rfl, sa.ob.choose_spec, rfl, _, rfl, _, rfl, s, st, w, u, rfl, sa, sm, al, sw, by omega, by omega, lu, fun H1 b v sa1 k1 nb hb dv => ?_⟩
      refine ⟨_, rfl, b, _, _, _, rfl, rfl, SqT.of hb, rfl, _, rfl, b, _, _, _, rfl, rfl, SqT.of hb, rfl, rfl, line3 _ _ _, fun b2 hb2 => ?_⟩
      have e : (!decide (v = V.non)) = knownB st w := by
        unfold knownB
        cases hd : derive ((listed st).map red) (red w) with
        | none =>
          rw [hd] at dv
          have dv' : v = .non := dv
          rw [dv']
          rfl
        | some x =>
          rw [hd] at dv
          obtain ⟨q, rfl, _⟩ := dv
          rfl
      refine k _ b2 (sa1.kp0 (Kp.new hb2)) (k1.trans (Kp.new hb2)) (k1.free' hb2 (sa1.not_new hb2)) ?_
      rw [upd_same]
      show some (HO.lst [V.str "add", V.int (st.added.length : Nat), V.bl (!decide (v = V.non))]) = _
      rw [e]
      rfl
    | rem e u =>
      obtain ⟨el, lu⟩ := ok
      refine ⟨_, rfl, t, _, rfl, SqT.of ht, rfl, _, _, rfl, _, _, rfl, _, _, rfl, rfl, ?_⟩
      refine ⟨_, rfl, rfl, _, rfl, ifF (by decide +kernel) ?_⟩
      refine ⟨_, rfl, rfl, _, rfl, ifT (by decide +kernel) ?_⟩
      have l1 : [V.str "odd"].length ≤ sizeLine := by rw [sz]; exact Nat.le_of_ble_eq_true rfl
      refine ⟨by rw [sz]; exact Nat.le_of_ble_eq_true rfl, fun p1 hp1 => ⟨by rw [sz]; exact Nat.le_of_ble_eq_true rfl, fun p2 hp2 => ⟨line2 _ _, fun p3 hp3 => ?_⟩⟩⟩
      have k1 : Kp [] H (upd H p1 (.lst [.str "odd"])) := Kp.new hp1
      generalize upd H p1 (.lst [.str "odd"]) = H1 at *
      have k2 : Kp [] H1 (upd H1 p2 (.lst [.str "remove"])) := Kp.new hp2
      have h2 : (upd H1 p2 (.lst [.str "remove"])) p2 = some (.lst [.str "remove"]) := upd_same
      have n2 : H p2 = none := k1.free hp2
      generalize upd H1 p2 (.lst [.str "remove"]) = H2 at *
      have k3 : Kp [] H2 (upd H2 p3 (.lst [.ref p1, .ref p2])) := Kp.new hp3
      have h3 : (upd H2 p3 (.lst [.ref p1, .ref p2])) p3 = some (.lst [.ref p1, .ref p2]) := upd_same
      have h23 := k3 _ _ h2 List.not_mem_nil
      have n3 : H p3 = none := (k1.trans k2).free hp3
      generalize upd H2 p3 (.lst [.ref p1, .ref p2]) = H3 at *
      have k03 := (k1.trans k2).trans k3
      have sa3 := sa.kp0 k03
      refine ⟨_, rfl, s.p, _, _, rfl, sa3.ob.choose_spec, rfl, _, rfl, _, rfl, s, st, e, u, rfl, sa3, sm, lu, fun hc d H4 k4 nd hd => ?_, fun hc H4 sa4 k4 => ?_⟩
      · rw [after_no hc] at k
        refine ⟨true, TE.uu, fun _ a ha => ?_, (fun z => nomatch z)⟩
        refine ⟨_, rfl, rfl, rfl, d, _, _, rfl, hd, rfl, _, rfl, log_small (by omega), line2 _ _, fun b hb => ?_⟩
        have k5 : Kp [] H (upd H4 b (.lst [.str "entry", .str (numT e)])) := (k03.trans k4).trans (Kp.new hb)
        exact k _ b (sa.kp0 k5) k5.nil ((k03.trans k4).free hb) upd_same
      · rw [after_yes hc] at k
        refine ⟨rfl, .inr ⟨_, rfl, p3, _, _, .ref p2, rfl, rfl, SqL.of (k4 _ _ h3 (sa.not_new n3)), rfl, ?_⟩⟩
        exact k _ p2 sa4 (k03.nil.trans k4) n2 (k4 _ _ h23 (sa.not_new n2))
    | und u =>
      have lu : u < 4 := ok
      refine ⟨_, rfl, t, _, rfl, SqT.of ht, rfl, _, _, rfl, _, _, rfl, _, _, rfl, rfl, ?_⟩
      refine ⟨_, rfl, rfl, _, rfl, ifF (by decide +kernel) ?_⟩
      refine ⟨_, rfl, rfl, _, rfl, ifF (by decide +kernel) ?_⟩
      rw [after_und] at k
      refine ⟨_, rfl, s.p, _, _, rfl, sa.ob.choose_spec, rfl, _, rfl, s, st, u, rfl, sa, sm, lu, fun hc d H4 k4 nd hd => ?_, fun x st' hc H4 b sa4 k4 nb hb => ?_⟩
      · rw [undV_none hc] at k
        refine ⟨false, TE.nu, (fun z => nomatch z), fun _ => ⟨false, TE.ni, (fun z => nomatch z), fun _ => ⟨true, TE.nn, fun _ a ha => ?_, (fun z => nomatch z)⟩⟩⟩
        refine ⟨_, rfl, rfl, rfl, d, _, _, rfl, hd, rfl, line2 _ _, fun b hb => ?_⟩
        have k5 : Kp [] H (upd H4 b (.lst [.str "nothing", .int (u : Nat)])) := k4.trans (Kp.new hb)
        exact k _ b (sa.kp0 k5) k5.nil (k4.free hb) upd_same
      · rw [undV_some hc] at k
        refine ⟨_, rfl, b, _, _, _, rfl, rfl, SqT.of hb, rfl, _, rfl, b, _, _, _, rfl, rfl, SqT.of hb, rfl, line3 _ _ _, fun b2 hb2 => ?_⟩
        exact k _ b2 (sa4.kp0 (Kp.new hb2)) (k4.trans (Kp.new hb2)) (k4.free' hb2 (sa4.not_new hb2)) upd_same
end
end WK
end Text_WW18
section Text_WW19
set_option Elab.async false
set_option linter.all false
set_option maxRecDepth 100000
set_option maxHeartbeats 4000000
/-! WW19: the session's state as text, and the model's. -/
namespace WK
open PySem PySem.Spec L2 SX
open PyProof.Rows hiding St

/-! ### signs of shown texts -/
def Lo (x : Str) : Prop := ∀ c ∈ x.cps.toList, c < 16 ^ 8
theorem Lo.app {a b : Str} (h : Lo a) (h' : Lo b) : Lo (a ++ b) := fun c hc => (PyProof.Rows.mem_cps_append.mp hc).elim (h c) (h' c)
theorem Lo.join {sep : Str} {ts : List Str} (hs : Lo sep) (h : ∀ t ∈ ts, Lo t) : Lo (Str.join sep ts) := fun c hc => by
  rcases (PyProof.Rows.mem_join sep c ts).mp hc with ⟨t, ht, hc⟩ | ⟨_, hc⟩
  · exact h t ht c hc
  · exact hs c hc
theorem Lo.int (n : Nat) : Lo (PyData.int (n : Int)).shown := fun c hc => by
  apply Classical.byContradiction
  intro z
  exact PyProof.Rows.shown_int_free' (k := c) ⟨by intro e; rw [e] at z; exact z (by decide), .inr (by
    have : 57 < 16 ^ 8 := by decide
    omega)⟩ _ hc
theorem quote_lo (x : Str) : reprQuote x = 34 ∨ reprQuote x = 39 := by
  unfold reprQuote
  split
  · exact .inl rfl
  · exact .inr rfl
theorem char_lo {q c : Nat} (hq : q = 34 ∨ q = 39) (hc : IsStep c) : ∀ d ∈ Builtin.Str.reprChar q c, d < 16 ^ 8 := by
  rcases hq with rfl | rfl <;> rcases isStep_cases hc with rfl | rfl | rfl | rfl | rfl | rfl | rfl | rfl <;> decide +kernel
theorem fold_lo {q : Nat} : ∀ (l : List Nat) (acc : Array Nat), (∀ c ∈ acc.toList, c < 16 ^ 8) → (∀ c ∈ l, ∀ d ∈ Builtin.Str.reprChar q c, d < 16 ^ 8) → ∀ c ∈ (l.foldl (fun out c => out ++ (Builtin.Str.reprChar q c).toArray) acc).toList, c < 16 ^ 8
  | [], acc, h, _ => h
  | c :: l, acc, h, h' => fold_lo l _ (fun d hd => by
      rw [Array.toList_append] at hd
      rcases List.mem_append.mp hd with z | z
      · exact h d z
      · exact h' c List.mem_cons_self d z) (fun d hd => h' d (List.mem_cons_of_mem _ hd))
theorem Lo.str {w : List Nat} (h : Steps w) : Lo (PyData.str (S w)).shown := by
  have e : (PyData.str (S w)).shown = reprText (S w) := by simp only [PyData.shown]
  rw [e]
  unfold reprText Lo
  have hq := quote_lo (S w)
  have q8 : reprQuote (S w) < 16 ^ 8 := by
    rcases hq with e | e <;> rw [e] <;> decide
  generalize reprQuote (S w) = q at *
  intro c hc
  rw [Array.toList_push, ← Array.foldl_toList] at hc
  rcases List.mem_append.mp hc with z | z
  · refine fold_lo _ _ (fun d hd => ?_) (fun d hd => ?_) c z
    · rw [List.mem_singleton.mp (show d ∈ [q] from hd)]
      exact q8
    · exact char_lo hq (h d (by simpa using hd))
  · rw [List.mem_singleton.mp z]
    exact q8
theorem reprOf_lo {st : SS} (h : Small st) : Lo (reprOf st) := by
  unfold reprOf
  refine (Lo.app ?_ ?_).app ?_
  · unfold Lo
    decide +kernel
  · simp only [PyData.shown]
    unfold dictText
    refine (Lo.app ?_ (Lo.join ?_ ?_)).app ?_
    · unfold Lo
      decide +kernel
    · unfold Lo
      decide +kernel
    · intro t ht
      have go : ∀ kvs : List (PyData × PyData), (∀ p ∈ kvs, Lo p.1.shown ∧ Lo p.2.shown) → ∀ t ∈ PyData.shownKv kvs, Lo t := by
        intro kvs
        induction kvs with
        | nil => exact fun _ t ht => by simp only [PyData.shownKv] at ht; cases ht
        | cons p r ih =>
          intro hp t ht
          obtain ⟨a, b⟩ := p
          have y := hp (a, b) List.mem_cons_self
          simp only [PyData.shownKv] at ht
          rcases List.mem_cons.mp ht with rfl | ht
          · refine (Lo.app y.1 ?_).app y.2
            unfold Lo
            decide +kernel
          · exact ih (fun x hx => hp x (List.mem_cons_of_mem _ hx)) t ht
      refine go _ (fun p hp => ?_) t ht
      unfold datD at hp
      obtain ⟨q, hq, rfl⟩ := List.mem_map.mp hp
      obtain ⟨e, he, rfl⟩ := List.mem_map.mp hq
      exact ⟨Lo.int e, Lo.str (h.ws _ (getD_mem (current_lt he))).1⟩
    · unfold Lo
      decide +kernel
  · unfold Lo
    decide +kernel
theorem reprOf_len {st : SS} (h : Small st) : (reprOf st).length ≤ 10009 := by
  have d := h.dict
  have e1 : ("Session(" : Str).length = 8 := by decide +kernel
  have e2 : (")" : Str).length = 1 := by decide +kernel
  unfold reprOf
  rw [strLen_append, strLen_append, e1, e2]
  have := d.2.2
  omega
def itemD (st : SS) (e : Nat) : PyData := .tuple [.int (e : Int), .str (S (st.added.getD e []))]
def chgD (x : Chg) : PyData := .tuple [.int (x.who : Int), .str (wordA x.add), .int (x.entry : Int)]
def stateD (st : SS) : PyData := .list [.list ((current st).map (itemD st)), .list (st.changes.map chgD), .int ((current st).length : Nat), .str (reprOf st)]
structure Tiny (st : SS) : Prop where
  sm : Small st
  es : ∀ x ∈ st.changes, x.who < 4 ∧ x.entry ≤ 1000
theorem word_lo (b : Bool) : Lo (wordA b) := by
  unfold Lo
  cases b <;> decide +kernel
theorem stateD_fine {st : SS} (h : Tiny st) : Fine 3 400378 (stateD st) := by
  have al := h.sm.al
  have cl := h.sm.cl
  have cc := current_len st
  have f1 : Fine 2 4478 (.list ((current st).map (itemD st))) := by
    refine (Fine.lst (n := 1) (m := 371) (fun d hd => ?_)).mono (by decide) ?_
    · obtain ⟨e, he, rfl⟩ := List.mem_map.mp hd
      have lt := current_lt he
      have y := h.sm.ws (st.added.getD e []) (getD_mem lt)
      refine (Fine.tup (n := 0) (m := 182) (ds := [.int (e : Int), .str (S (st.added.getD e []))]) fun d hd => ?_).mono (Nat.le_refl _) (by show 2 * (182 + 2) + 3 ≤ 371; decide)
      rcases List.mem_cons.mp hd with rfl | hd
      · exact (Fine.int (by omega)).mono (Nat.le_refl _) (by decide)
      · rw [List.mem_singleton.mp hd]
        refine (Fine.str (steps_lt y.1)).mono (Nat.le_refl _) ?_
        rw [S_len]
        omega
    · rw [List.length_map]
      omega
  have f2 : Fine 2 2366 (.list (st.changes.map chgD)) := by
    refine (Fine.lst (n := 1) (m := 195) (fun d hd => ?_)).mono (by decide) ?_
    · obtain ⟨x, hx, rfl⟩ := List.mem_map.mp hd
      have y := h.es x hx
      refine (Fine.tup (n := 0) (m := 62) (ds := [.int (x.who : Int), .str (wordA x.add), .int (x.entry : Int)]) fun d hd => ?_).mono (Nat.le_refl _) (by show 3 * (62 + 2) + 3 ≤ 195; decide)
      rcases List.mem_cons.mp hd with rfl | hd
      · exact (Fine.int (by omega)).mono (Nat.le_refl _) (by decide)
      · rcases List.mem_cons.mp hd with rfl | hd
        · refine (Fine.str (word_lo _)).mono (Nat.le_refl _) ?_
          cases x.add <;> decide +kernel
        · rw [List.mem_singleton.mp hd]
          exact (Fine.int (by omega)).mono (Nat.le_refl _) (by decide)
    · rw [List.length_map]
      omega
  have f4 : Fine 0 100092 (.str (reprOf st)) := (Fine.str (reprOf_lo h.sm)).mono (Nat.le_refl _) (by have := reprOf_len h.sm; omega)
  refine (Fine.lst (n := 2) (m := 100092) (fun d hd => ?_)).mono (by decide) (by show 4 * (100092 + 2) + 2 ≤ 400378; decide)
  rcases List.mem_cons.mp hd with rfl | hd
  · exact f1.mono (by decide) (by decide)
  · rcases List.mem_cons.mp hd with rfl | hd
    · exact f2.mono (by decide) (by decide)
    · rcases List.mem_cons.mp hd with rfl | hd
      · exact (Fine.int (by omega)).mono (by decide) (by decide)
      · rw [List.mem_singleton.mp hd]
        exact f4.mono (by decide) (by decide)
theorem items_dp {K : PySem.W.Frag} {H : Hp} {st : SS} : ∀ {l : List Nat} {ts : List Addr}, Paired (fun (t : Addr) (q : L2.Key × V) => H t = some (.tup [kV q.1, q.2])) ts (l.map (ent st)) → DpAll K H (ts.map V.ref) (l.map (itemD st))
  | [], [], _ => .nil
  | [], _ :: _, h => nomatch h
  | _ :: _, [], h => nomatch h
  | e :: l, t :: ts, .cons h r => .cons (.tup (SqT.of h) (.cons (.int _) (.cons (.str _) .nil))) (items_dp r)
theorem chgs_dp {K : PySem.W.Frag} {H : Hp} : ∀ {xs : List Chg} {ts : List Addr}, Tups chT H xs ts → DpAll K H (ts.map V.ref) (xs.map chgD)
  | _, _, .nil => .nil
  | _, _, .cons h r => .cons (.tup (SqT.of h) (.cons (.int _) (.cons (.str _) (.cons (.int _) .nil)))) (chgs_dp r)
theorem state_dp {K : PySem.W.Frag} {H : Hp} {st : SS} {p c b : Addr} {ts : List Addr} (hp : H p = some (.lst (ts.map V.ref))) (pr : Paired (fun (t : Addr) (q : L2.Key × V) => H t = some (.tup [kV q.1, q.2])) ts (entK st)) (hc : LstT chT H c st.changes)
    (hb : H b = some (.lst [.ref p, .ref c, .int ((current st).length : Nat), .str (reprOf st)])) : Dp K H (.ref b) (stateD st) := by
  obtain ⟨us, h1, h2⟩ := hc
  exact .lst (SqL.of hb) (.cons (.lst (SqL.of hp) (items_dp pr)) (.cons (.lst (SqL.of h1) (chgs_dp h2)) (.cons (.int _) (.cons (.str _) .nil))))
theorem paired_kp {H H' : Hp} {kvs : List (L2.Key × V)} {ts : List Addr} (h : Paired (fun (t : Addr) (q : L2.Key × V) => H t = some (.tup [kV q.1, q.2])) ts kvs) (k : Tp H H') : Paired (fun (t : Addr) (q : L2.Key × V) => H' t = some (.tup [kV q.1, q.2])) ts kvs := Paired.mono (fun _ _ e => k _ _ e) h
def entL (st : SS) (l : List Nat) : List (L2.Key × V) := l.map (ent st)
theorem entL_none {st : SS} {l : List Nat} {e : Nat} (h : e ∉ l) : valV (entL st l) (Sum.inl (e : Int)) = none := by
  cases q : valV (entL st l) (Sum.inl (e : Int)) with
  | none => rfl
  | some v =>
    have m : (Sum.inl (e : Int) : L2.Key) ∈ (entL st l).map (·.1) := valV_in q
    obtain ⟨pr, hpr, z⟩ := List.mem_map.mp m
    obtain ⟨x, hx, rfl⟩ := List.mem_map.mp hpr
    have y : (Sum.inl (x : Int) : L2.Key) = Sum.inl (e : Int) := z
    have z2 := inlN.mp y
    have z3 : x = e := by omega
    rw [z3] at hx
    exact absurd hx h
def spState (C : Addr) : Sp := fun vs H Q _ => ∃ (s : Sd) (st : SS), vs = [.ref s.p] ∧ SA C s H st ∧ Tiny st ∧ ∀ H', Kp [] H H' → Q (.str (stateD st).shown) H'
def spDue : Sp := fun vs H Q _ => ∃ (m : Md) (st : SS), vs = [.ref m.p] ∧ MA m H st ∧ Tiny st ∧ ∀ H', Kp [] H H' → Q (.str (stateD st).shown) H'
section
variable {P : Program} {wd : World} {K : PySem.W.Frag} {mg : Str → Option Value} {base : Heap} {f CF CS fR fL : Addr} {fd fdR fdL : FuncData}
abbrev N_law_state : List Str := ["_law_session"]
theorem sc_law_state : FnScope N_law_state ["_law_session"] WHead.d_law_state.scope := ⟨rfl, rfl, rfl, by decide +kernel, rfl, by decide +kernel, by decide +kernel⟩
theorem ok_law_state (F : FnD K WHead.d_law_state f fd) (T : Txt K mg CF CS) (m_Session_entries : MetE P wd K mg base 2 CS "entries" (spEntries CS)) (m_Session_history : MetE P wd K mg base 1 CS "history" (spHist CS))
    (xL : FnOk P wd K mg base C8.CX0 3 fL fdL ["self"] (spLenS CS)) (bL : Binds K fdL ["self"] []) (mL : Meth K CS "__len__" fL) (xR : FnG P wd K mg base C8.CX0 3 fR fdR ["self"] (spReprS CS)) (bR : Binds K fdR ["self"] []) (mR : Meth K CS "__repr__" fR) : FnG P wd K mg base C8.CX0 5 f fd ["_law_session"] (spState CS) := by
  refine okG F sc_law_state (fun vs H Q E h => ?_) (fun cdv A outer s H vs Q E hG hr h => ?_)
  · obtain ⟨s, st, rfl, _⟩ := h
    rfl
  · obtain ⟨s, st, rfl, sa, ty, k⟩ := h
    have sz : sizeLine = 16777216 := sizeLine_eq
    refine ⟨_, PSs.nox ((pss_one (ps_ret (pe_callB (call_reprD hG hr.units) (by rfl) T.f_repr (by decide +kernel) (pa_cons (pe_lst (pa_cons (LiI.pe_listItems rfl (C8.pe_mt0 m_Session_entries hr (by decide) (pv 0)) (by rfl) T.f_list (by decide +kernel)) (pa_cons (C8.pe_mt0 m_Session_history hr (by decide) (pv 0)) (pa_cons (pe_callB (call_lenO xL (hr.mono (by decide)) bL mL) (by rfl) T.f_len PySem.boot_len (pa_cons (pv 0) pa_nil)) (pa_cons (pe_callB (call_reprO xR hG (hr.mono (by decide)) bR mR) (by rfl) T.f_repr (by decide +kernel) (pa_cons (pv 0) pa_nil)) pa_nil))))) pa_nil))))), ?_⟩
    have al := ty.sm.al
    have cl := ty.sm.cl
    have cc := current_len st
    have fn := stateD_fine ty
    have d1 := fn.dep
    have d2 := fn.len
    refine ⟨_, rfl, s.p, _, _, rfl, sa.ob.choose_spec, rfl, s, st, rfl, sa, by omega, by omega, fun H1 b k1 nb hb => ⟨b, _, rfl, hb, fun H2 p ts k2 np nts pn hp pr => ?_⟩⟩
    have k2 : Kp [] H1 H2 := fun b o e _ => k2 b o e
    have sa2 := sa.kp0 (k1.trans k2)
    refine ⟨_, rfl, s.p, _, _, rfl, sa2.ob.choose_spec, rfl, s, st, rfl, sa2, fun H3 c k3 nc hc => ?_⟩
    have sa3 := sa2.kp0 k3
    refine ⟨_, rfl, s.p, _, _, rfl, sa3.ob.choose_spec, s, st, rfl, sa3, by omega, by omega, fun H4 k4 => ⟨_, rfl, by omega, by omega, ?_⟩⟩
    have sa4 := sa3.kp0 k4
    refine ⟨_, rfl, s.p, _, _, rfl, sa4.ob.choose_spec, s, st, rfl, sa4, ty.sm, fun H5 k5 => ⟨_, rfl, by rw [sz]; exact Nat.le_of_ble_eq_true rfl, fun b2 hb2 => ?_⟩⟩
    have k6 : Kp [] H5 (upd H5 b2 (.lst [.ref p, .ref c, .int ((current st).length : Nat), .str (reprOf st)])) := Kp.new hb2
    have h6 : (upd H5 b2 (.lst [.ref p, .ref c, .int ((current st).length : Nat), .str (reprOf st)])) b2 = some (.lst [.ref p, .ref c, .int ((current st).length : Nat), .str (reprOf st)]) := upd_same
    generalize upd H5 b2 (.lst [.ref p, .ref c, .int ((current st).length : Nat), .str (reprOf st)]) = H6 at *
    have k36 := (k4.trans k5).trans k6
    have k26 := k3.trans k36
    exact ⟨b2, stateD st, rfl, state_dp (k26 _ _ hp List.not_mem_nil) (paired_kp pr k26.tp0) (hc.kp k36 k36.tp0 List.not_mem_nil) h6, fn.sh, fn.nd, by omega, by rw [sz]; omega, k _ ((k1.trans k2).trans k26)⟩
abbrev N_law_due : List Str := ["_law_model", "_law_entries", "_law_entry", "_law_text"]
theorem sc_law_due : FnScope N_law_due ["_law_model"] WHead.d_law_due.scope := ⟨rfl, rfl, rfl, by decide +kernel, rfl, by decide +kernel, by decide +kernel⟩
theorem ok_law_due (F : FnD K WHead.d_law_due f fd) (T : Txt K mg CF CS) (c_law_current : CalE P wd K mg base 1 "_law_current" spCurL) : FnG P wd K mg base C8.CX0 2 f fd ["_law_model"] spDue := by
  refine okG F sc_law_due (fun vs H Q E h => ?_) (fun cdv A outer s H vs Q E hG hr h => ?_)
  · obtain ⟨m, st, rfl, _⟩ := h
    rfl
  · obtain ⟨m, st, rfl, ma, ty, k⟩ := h
    have sz : sizeLine = 16777216 := sizeLine_eq
    have hu := hu_of hr
    refine ⟨_, PSs.nox ((pss_cons (ps_set (i := 1) sc_law_due.nd rfl (Or.inl rfl) pe_dnewK)
      (pss_cons (ps_for PassesOwn.never rfl (pi_list (C8.pe_c c_law_current hr (by decide) (by rfl) (pa_cons (pv 0) pa_nil))) (pg_name (i := 2) sc_law_due.nd rfl (Or.inl rfl)) (pss_one (ps_dput hu (pv 1) (pv 2) (pe_ix ix_list (pe_ix ix_list (pv 0) pe_int (fun _ _ => rfl)) (pv 2) (fun _ _ => rfl)) rfl)))
      (pss_cons (ps_set (i := 3) sc_law_due.nd rfl (Or.inl rfl) (pe_op op_add_str (pe_op op_add_str pe_str (pe_callB (call_reprDict hG hr.units) (by rfl) T.f_repr (by decide +kernel) (pa_cons (pv 1) pa_nil))) pe_str))
      (pss_one (ps_ret (pe_callB (call_reprD hG hr.units) (by rfl) T.f_repr (by decide +kernel) (pa_cons (pe_lst (pa_cons (LiI.pe_listItems rfl (pv 1) (by rfl) T.f_list (by decide +kernel)) (pa_cons (pe_ix ix_list (pv 0) pe_int (fun _ _ => rfl)) (pa_cons (pe_callB call_lenD (by rfl) T.f_len PySem.boot_len (pa_cons (pv 1) pa_nil)) (pa_cons (pv 3) pa_nil))))) pa_nil)))))))), ?_⟩
    have al := ty.sm.al
    have cl := ty.sm.cl
    have cc := current_len st
    have fn := stateD_fine ty
    have d1 := fn.dep
    have d2 := fn.len
    have dd := ty.sm.dict
    refine fun D hD => ?_
    have k0 : Kp [] H (upd H D (.dK [])) := Kp.new hD
    have h0 : (upd H D (.dK [])) D = some (.dK (entL st ((current st).take 0))) := upd_same
    generalize upd H D (.dK []) = H0 at *
    have ma0 := ma.kp0 k0
    refine ⟨_, rfl, m, st, rfl, ma0, by omega, by omega, fun H1 b k1 nb hb => ⟨b, rfl, ⟨_, SqL.of hb⟩, for_it (walk_list (K := K) (a := b) (xs := nums (current st))) (fun i σ H3 => ∃ o2 : Option V, σ = [some (.ref m.p), some (.ref D), o2, none] ∧ Kp [] H H3 ∧ H3 b = some (.lst (nums (current st))) ∧ H3 D = some (.dK (entL st ((current st).take i))))
      ⟨none, rfl, k0.trans k1, hb, k1 _ _ h0 List.not_mem_nil⟩ (fun i σ H3 _ h => by obtain ⟨_, _, _, h3, _⟩ := h; exact SqL.of h3) ?_ ?_⟩⟩
    · rintro i v σ H3 H4 hi ⟨o2, rfl, k3, h3, d3⟩ ⟨rfl, hv⟩
      obtain ⟨n, hn, rfl⟩ := nums_get hv
      have nlt := current_lt (List.mem_of_getElem? hn)
      have ma4 := ma.kp0 k3
      have nd : (current st).Nodup := by
        unfold current
        exact List.Pairwise.filter _ (List.nodup_range)
      have nin : n ∉ (current st).take i := by
        intro z
        obtain ⟨j, hj, ej⟩ := List.getElem_of_mem z
        rw [List.getElem_take] at ej
        rw [List.length_take] at hj
        have hi2 := (List.getElem?_eq_some_iff.mp hn).1
        have e2 := (List.getElem?_eq_some_iff.mp hn).2
        have := (List.getElem_inj nd).mp (ej.trans e2.symm)
        omega
      have bD : b ≠ D := (ne_of_none h0 nb).symm
      have tl : ((current st).take i).length ≤ 12 := by rw [List.length_take]; omega
      refine ⟨_, rfl, m.p, _, _, _, rfl, rfl, SqL.of ma4.ob, rfl, _, rfl, m.a, _, _, vS st.added[n], rfl, rfl, SqL.of ma4.ad, atI_nat (by rw [List.getElem?_map, List.getElem?_eq_getElem nlt]; rfl), _, rfl, _, rfl, D, _, rfl, DPut.k (k := Sum.inl (n : Int)) d3 (by unfold entL; rw [List.length_map, sz]; omega), ?_⟩
      refine ⟨_, rfl, k3.mine hD, by rw [upd_ne bD]; exact h3, ?_⟩
      rw [upd_same, putK_new _ (entL_none nin), take_snoc hn]
      unfold entL
      rw [List.map_append]
      show _ = some (HO.dK (_ ++ [ent st n]))
      unfold ent
      rw [List.getD_eq_getElem?_getD, List.getElem?_eq_getElem nlt]
      rfl
    · rintro σ H3 ⟨o2, rfl, k3, h3, d3⟩
      rw [nums_len, List.take_length] at d3
      have d3 : H3 D = some (.dK (entK st)) := d3
      have e1 : ("Session(" : Str).length = 8 := by decide +kernel
      have e2 : (")" : Str).length = 1 := by decide +kernel
      refine ⟨_, rfl, D, _, rfl, d3, entK_scalar st, dd.1, by omega, by rw [sz]; omega, _, _, rfl, rfl, by rw [e1, sz]; omega, _, _, rfl, rfl, by rw [strLen_append, e1, e2, sz]; omega, ?_⟩
      refine ⟨_, rfl, D, _, rfl, d3, fun H4 p ts k4 np nts pn hp pr => ?_⟩
      have k4 : Kp [] H3 H4 := fun b o e _ => k4 b o e
      have ma4 := ma.kp0 (k3.trans k4)
      have d4 := k4 _ _ d3 List.not_mem_nil
      have el : (entK st).length = (current st).length := List.length_map _
      refine ⟨_, rfl, m.p, _, _, _, rfl, rfl, SqL.of ma4.ob, rfl, _, rfl, D, _, rfl, d4, _, rfl, by rw [sz]; exact Nat.le_of_ble_eq_true rfl, fun b2 hb2 => ?_⟩
      rw [el]
      have k6 : Kp [] H4 (upd H4 b2 (.lst [.ref p, .ref m.c, .int ((current st).length : Nat), .str (reprOf st)])) := Kp.new hb2
      exact ⟨b2, stateD st, rfl, state_dp (k6 _ _ hp List.not_mem_nil) (paired_kp pr k6.tp0) (ma4.kp0 k6).ch upd_same, fn.sh, fn.nd, by omega, by rw [sz]; omega, k _ ((k3.trans k4).trans k6)⟩
end
end WK
end Text_WW19
section Text_WW20
set_option Elab.async false
set_option linter.all false
set_option maxRecDepth 100000
set_option maxHeartbeats 4000000
/-! WW20: a drawn change; a drawn addition. -/
namespace WK
open PySem PySem.Spec L2 SX
open PyProof.Rows hiding St

theorem PoolOk.tp {g : Addr} {H H' : Hp} (h : PoolOk H g) (k : Kp [g] H H') : Tp H H' := k.tp fun b hb xs e => by
  rw [List.mem_singleton.mp hb] at e
  obtain ⟨x, y, z⟩ := h
  rw [z] at e
  cases e
theorem MA.pool {m : Md} {H H' : Hp} {st : SS} {g : Addr} (h : MA m H st) (p : PoolOk H g) (k : Kp [g] H H') (n : g ∉ m.all) : MA m H' st := h.kp k (p.tp k) fun b hb z => n (by rw [List.mem_singleton.mp z] at hb; exact hb)
theorem SA.pool {C : Addr} {s : Sd} {H H' : Hp} {st : SS} {g : Addr} (h : SA C s H st) (p : PoolOk H g) (k : Kp [g] H H') (n : g ∉ s.all) : SA C s H' st := h.kp k (p.tp k) fun b hb z => n (by rw [List.mem_singleton.mp z] at hb; exact hb)
def spChange : Sp := fun vs H Q _ => ∃ (g : Addr) (m : Md) (st : SS), vs = [.ref g, .ref m.p] ∧ PoolOk H g ∧ MA m H st ∧ Small st ∧ g ∉ m.all ∧
  ∀ H' t op, Kp [g] H H' → PoolOk H' g → H t = none → H' t = some (.tup (Op.vals op)) → OpOk op → Q (.ref t) H'
def lineD : Line → PyData
  | .gen i => .tuple [.str "generator", .int i]
  | .invl j => .tuple [.str "inverse", .int j]
  | .prod j k => .tuple [.str "product", .int j, .int k]
def linesD (d : List Line) : PyData := .list (d.map lineD)
/-- a kept addition: a list of four that stands -/
structure Kept (st : SS) (H : Hp) (b L q : Addr) (ps : List (List Nat)) (d : List Line) (w : List Nat) : Prop where
  at_ : H b = some (.lst [.ref L, .ref q, .str (linesD d).shown, vS w])
  ps_ : H L = some (.lst (ps.map vS))
  ls_ : LstT lineT H q d
/-- what is known of it whatever the heap -/
structure KeptP (ps : List (List Nat)) (d : List Line) (w : List Nat) : Prop where
  sp : ∀ p ∈ ps, Steps p ∧ p.length ≤ 18
  few : ps.length ≤ 100
  lg : LG (ps.map red) d
  dl : d.length ≤ 60000
  val : (([] : List Nat) :: evalL (ps.map red) d).getLastD [] = w
theorem lines_dp {K : PySem.W.Frag} {H : Hp} : ∀ {xs : List Line} {ts : List Addr}, Tups lineT H xs ts → DpAll K H (ts.map V.ref) (xs.map lineD)
  | _, _, .nil => .nil
  | .gen _ :: _, _, .cons h r => .cons (.tup (SqT.of h) (.cons (.str _) (.cons (.int _) .nil))) (lines_dp r)
  | .invl _ :: _, _, .cons h r => .cons (.tup (SqT.of h) (.cons (.str _) (.cons (.int _) .nil))) (lines_dp r)
  | .prod _ _ :: _, _, .cons h r => .cons (.tup (SqT.of h) (.cons (.str _) (.cons (.int _) (.cons (.int _) .nil)))) (lines_dp r)
theorem linesD_dp {K : PySem.W.Frag} {H : Hp} {q : Addr} {d : List Line} (h : LstT lineT H q d) : Dp K H (.ref q) (linesD d) := by
  obtain ⟨ts, h1, h2⟩ := h
  exact .lst (SqL.of h1) (lines_dp h2)
theorem wordF (x : String) (h : (PyData.str (Str.ofString x)).shown.length ≤ 11) : Fine 0 11 (.str (Str.ofString x)) := ⟨by simp only [PyData.showable], by simp only [PyData.hasDict], by simp only [PyData.depth]; exact Nat.le_refl _, h⟩
theorem word_gen : (PyData.str (Str.ofString "generator")).shown.length ≤ 11 := by simp only [PyData.shown]; decide +kernel
theorem word_inv : (PyData.str (Str.ofString "inverse")).shown.length ≤ 11 := by simp only [PyData.shown]; decide +kernel
theorem word_prod : (PyData.str (Str.ofString "product")).shown.length ≤ 11 := by simp only [PyData.shown]; decide +kernel
theorem lineD_fine {m n : Nat} {l : Line} (hm : m ≤ 1000000) (hn : n ≤ 1000000) (h : LineOk m n l) : Fine 1 42 (lineD l) := by
  have i1 : ∀ {j : Nat}, j < 1000000 → Fine 0 11 (.int (j : Int)) := fun h => (Fine.int (by omega)).mono (Nat.le_refl _) (by decide)
  cases l with
  | gen i =>
    have h : i < m := h
    refine (Fine.tup (n := 0) (m := 11) (ds := [.str (Str.ofString "generator"), .int (i : Int)]) fun d hd => ?_).mono (Nat.le_refl _) (by show 2 * (11 + 2) + 3 ≤ 42; decide)
    rcases List.mem_cons.mp hd with rfl | hd
    · exact wordF _ word_gen
    · rw [List.mem_singleton.mp hd]
      exact i1 (by omega)
  | invl i =>
    have h : i < n := h
    refine (Fine.tup (n := 0) (m := 11) (ds := [.str (Str.ofString "inverse"), .int (i : Int)]) fun d hd => ?_).mono (Nat.le_refl _) (by show 2 * (11 + 2) + 3 ≤ 42; decide)
    rcases List.mem_cons.mp hd with rfl | hd
    · exact wordF _ word_inv
    · rw [List.mem_singleton.mp hd]
      exact i1 (by omega)
  | prod i j =>
    have h1 : i < n := h.1
    have h2 : j < n := h.2
    refine (Fine.tup (n := 0) (m := 11) (ds := [.str (Str.ofString "product"), .int (i : Int), .int (j : Int)]) fun d hd => ?_).mono (Nat.le_refl _) (by show 3 * (11 + 2) + 3 ≤ 42; decide)
    rcases List.mem_cons.mp hd with rfl | hd
    · exact wordF _ word_prod
    · rcases List.mem_cons.mp hd with rfl | hd
      · exact i1 (by omega)
      · rw [List.mem_singleton.mp hd]
        exact i1 (by omega)
theorem linesD_fine {ps : List (List Nat)} {d : List Line} (h : LG ps d) (few : ps.length ≤ 100) (dl : d.length ≤ 60000) : Fine 2 2640002 (linesD d) := by
  refine (Fine.lst (n := 1) (m := 42) (fun x hx => ?_)).mono (by decide) (by rw [List.length_map]; omega)
  obtain ⟨l, hl, rfl⟩ := List.mem_map.mp hx
  obtain ⟨i, hi, e⟩ := List.getElem_of_mem hl
  exact lineD_fine (m := ps.length) (n := i) (by omega) (by omega) (h.ok i l (by rw [List.getElem?_eq_getElem hi, e]))
def spAdded (C : Addr) : Sp := fun vs H Q _ => ∃ (g : Addr) (s : Sd) (m : Md) (st : SS), vs = [.ref g, .ref s.p, .ref m.p] ∧ PoolOk H g ∧ SA C s H st ∧ MA m H st ∧ Sm1 st ∧ g ∉ s.all ∧ g ∉ m.all ∧ (∀ b ∈ s.all, b ∉ m.all) ∧
  ∀ H' w u b L q ps d x, OpOk (.add w u) → SA C s H' (after st (.add w u)).1 → MA m H' (after st (.add w u)).1 → PoolOk H' g → Kp (g :: (s.all ++ m.all)) H H' → H b = none → H L = none → H q = none → Kept st H' b L q ps d x → KeptP ps d x → Q (.ref b) H'
section
variable {P : Program} {wd : World} {K : PySem.W.Frag} {mg : Str → Option Value} {base : Heap} {f CF CS : Addr} {fd : FuncData}
abbrev N_law_change : List Str := ["_law_pool_here", "_law_model", "_law_who", "_law_kind", "_law_path_here", "_law_known"]
theorem sc_law_change : FnScope N_law_change ["_law_pool_here", "_law_model"] WHead.d_law_change.scope := ⟨rfl, rfl, rfl, by decide +kernel, rfl, by decide +kernel, by decide +kernel⟩
theorem ok_law_change (F : FnD K WHead.d_law_change f fd) (T : Txt K mg CF CS) (c_law_draw : CalE P wd K mg base 1 "_law_draw" spDraw) (c_law_path : CalE P wd K mg base 2 "_law_path" spPathL) (c_law_listed : CalE P wd K mg base 2 "_law_listed" spListed) (c_law_product : CalE P wd K mg base 3 "_law_product" spProduct)
    (c_law_short : CalE P wd K mg base 2 "_law_short" spShort) : FnOk P wd K mg base C8.CX0 4 f fd ["_law_pool_here", "_law_model"] spChange := by
  refine F.ok sc_law_change (fun vs H Q E h => ?_) (fun cdv A outer s H vs Q E hr h => ?_)
  · obtain ⟨g, m, st, rfl, _⟩ := h
    rfl
  · obtain ⟨g, m, st, rfl, pk, ma, sm, gm, k⟩ := h
    have sz : sizeLine = 16777216 := sizeLine_eq
    have al := sm.al
    have cl := sm.cl
    have ll := listed_len st
    refine ⟨_, PSs.nox ((pss_cons (ps_set (i := 2) sc_law_change.nd rfl (Or.inl rfl) (C8.pe_c c_law_draw hr (by decide) (by rfl) (pa_cons (pv 0) (pa_cons pe_int pa_nil))))
      (pss_cons (ps_set (i := 3) sc_law_change.nd rfl (Or.inl rfl) (C8.pe_c c_law_draw hr (by decide) (by rfl) (pa_cons (pv 0) (pa_cons pe_int pa_nil))))
      (pss_cons (ps_if (pt_cmpR op_lt (pv 3) pe_int (nomark _)) (pss_cons (ps_set (i := 4) sc_law_change.nd rfl (Or.inl rfl) (C8.pe_c c_law_path hr (by decide) (by rfl) (pa_cons (pv 0) (pa_cons pe_int (pa_cons pe_int pa_nil)))))
      (pss_cons (ps_set (i := 5) sc_law_change.nd rfl (Or.inl rfl) (C8.pe_c c_law_short hr (by decide) (by rfl) (pa_cons (C8.pe_c c_law_product hr (by decide) (by rfl) (pa_cons (pv 0) (pa_cons (C8.pe_c c_law_listed hr (by decide) (by rfl) (pa_cons (pv 1) pa_nil)) (pa_cons pe_int pa_nil)))) pa_nil)))
      (C8.pss_cut (ps_if (PW.pt (pw_and (pt_cmpR op_eq (pv 3) pe_int (nomark _)) (pw_and1 (pt_cmpR op_le (pe_callB call_len (by rfl) T.f_len PySem.boot_len (pa_cons (pv 5) pa_nil)) pe_int (nomark _))))) (pss_one (ps_set (i := 4) sc_law_change.nd rfl (Or.inl rfl) (pv 5))) pss_nil)
      (pss_one (ps_ret (pe_tup (pa_cons pe_str (pa_cons (pv 4) (pa_cons (pv 2) pa_nil))))))))) pss_nil)
      (pss_cons (ps_if (pt_cmpR op_lt (pv 3) pe_int (nomark _)) (pss_one (ps_ret (pe_tup (pa_cons pe_str (pa_cons (C8.pe_c c_law_draw hr (by decide) (by rfl) (pa_cons (pv 0) (pa_cons (pe_op op_add (pe_callB call_len (by rfl) T.f_len PySem.boot_len (pa_cons (pe_ix ix_list (pv 1) pe_int (fun _ _ => rfl)) pa_nil)) pe_int) pa_nil))) (pa_cons (pv 2) pa_nil)))))) pss_nil)
      (pss_one (ps_ret (pe_tup (pa_cons pe_str (pa_cons pe_non (pa_cons (pv 2) pa_nil))))))))))), ?_⟩
    refine ⟨_, rfl, g, 4, rfl, by omega, by omega, pk, fun H1 who wl k1 pk1 => ?_⟩
    refine ⟨_, rfl, g, 8, rfl, by omega, by omega, pk1, fun H2 kind kl k2 pk2 => ?_⟩
    have k02 := k1.trans k2
    have ma2 := (ma.pool pk k1 gm).pool pk1 k2 gm
    refine ⟨_, rfl, _, _, rfl, rfl, _, rfl, ?_⟩
    by_cases c4 : (kind : Int) < 4
    · refine ifT (decide_eq_true c4) ?_
      refine ⟨_, rfl, g, 4, 2, rfl, by omega, by omega, by omega, pk2, fun H3 w sw wl3 k3 pk3 => ?_⟩
      have ma3 := ma2.pool pk2 k3 gm
      refine ⟨_, rfl, _, rfl, m, st, rfl, ma3, by omega, by omega, fun H4 L k4 nL hL => ?_⟩
      have pk4 := pk3.kp k4 List.not_mem_nil
      refine ⟨g, L, listed st, 2, rfl, hL, fun p hp => ⟨(sm.ws p (listed_mem hp)).1, (sm.ws p (listed_mem hp)).2.1⟩, by omega, by omega, pk4, fun H5 x sx xl mx _ k5 pk5 => ?_⟩
      refine ⟨x, rfl, sx, by omega, ?_⟩
      have k05 := ((k02.trans k3).trans k4.nil).trans k5
      refine ⟨fun σ' H' => ∃ y, H' = H5 ∧ σ' = [some (.ref g), some (.ref m.p), some (.int (who : Nat)), some (.int (kind : Nat)), some (vS y), some (vS (red x))] ∧ Steps y ∧ y.length ≤ 8, ?_, ?_⟩
      · refine ⟨_, rfl, rfl, _, rfl, ?_⟩
        by_cases c3 : V.int (kind : Int) = V.int 3
        · refine ifT (decide_eq_true c3) ⟨_, rfl, _, _, rfl, ⟨by rw [S_len, sz]; have := red_length x; omega, rfl⟩, _, _, rfl, rfl, _, rfl, ?_⟩
          rw [S_len]
          by_cases c8 : ((red x).length : Int) ≤ 8
          · refine ifT (decide_eq_true c8) ⟨_, rfl, red x, rfl, rfl, sx.red, by omega⟩
          · exact ifF (decide_eq_false c8) ⟨w, rfl, rfl, sw, by omega⟩
        · exact ifF (decide_eq_false c3) ⟨w, rfl, rfl, sw, by omega⟩
      · rintro σ' H' ⟨y, rfl, rfl, sy, yl⟩
        have rl := red_length y
        refine ⟨_, rfl, _, rfl, line3 _ _ _, fun t ht => ?_⟩
        exact k _ t (.add y who) (k05.trans (Kp.new ht)) (pk5.kp (F := []) (Kp.new ht) List.not_mem_nil) (k05.free' ht (by
          intro z
          exact pk5.ne ht (List.mem_singleton.mp z))) upd_same ⟨sy, by omega, by omega, by omega⟩
    · refine ifF (decide_eq_false c4) ?_
      refine ⟨_, rfl, _, _, rfl, rfl, _, rfl, ?_⟩
      by_cases c6 : (kind : Int) < 6
      · refine ifT (decide_eq_true c6) ?_
        refine ⟨_, rfl, _, rfl, m.p, _, _, _, rfl, rfl, SqL.of ma2.ob, rfl, _, _, rfl, .inl ⟨_, SqL.of ma2.ad, rfl⟩, _, _, rfl, rfl, g, st.added.length + 1, by rw [List.length_map]; rfl, by omega, by omega, pk2, fun H3 e el k3 pk3 => ?_⟩
        refine ⟨_, rfl, line3 _ _ _, fun t ht => ?_⟩
        exact k _ t (.rem e who) ((k02.trans k3).trans (Kp.new ht)) (pk3.kp (F := []) (Kp.new ht) List.not_mem_nil) ((k02.trans k3).free' ht (by
          intro z
          exact pk3.ne ht (List.mem_singleton.mp z))) upd_same ⟨by omega, by omega⟩
      · refine ifF (decide_eq_false c6) ?_
        refine ⟨_, rfl, line3 _ _ _, fun t ht => ?_⟩
        exact k _ t (.und who) (k02.trans (Kp.new ht)) (pk2.kp (F := []) (Kp.new ht) List.not_mem_nil) (k02.free' ht (by
          intro z
          exact pk2.ne ht (List.mem_singleton.mp z))) upd_same wl
abbrev N_law_added : List Str := ["_law_pool_here", "_law_session", "_law_model", "_law_paths", "_law_path_here", "_law_who", "_law_due_here", "_law_result"]
theorem sc_law_added : FnScope N_law_added ["_law_pool_here", "_law_session", "_law_model"] WHead.d_law_added.scope := ⟨rfl, rfl, rfl, by decide +kernel, rfl, by decide +kernel, by decide +kernel⟩
theorem ok_law_added (F : FnD K WHead.d_law_added f fd) (T : Txt K mg CF CS) (c_law_listed : CalE P wd K mg base 2 "_law_listed" spListed) (c_law_product : CalE P wd K mg base 3 "_law_product" spProduct) (c_law_short : CalE P wd K mg base 2 "_law_short" spShort) (c_law_draw : CalE P wd K mg base 1 "_law_draw" spDraw)
    (c_law_padded : CalE P wd K mg base 2 "_law_padded" spPadded) (c_law_expected : CalE P wd K mg base 5 "_law_expected" spExpected) (c_law_value : CalE P wd K mg base 4 "_law_value" spValue) (m_Session_add_path : MetK P wd K mg base C8.CX0 9 CS "add_path" (spAddPath CS) ["self", "path", "user"] ["user"] g2 g2) : FnG P wd K mg base C8.CX0 10 f fd ["_law_pool_here", "_law_session", "_law_model"] (spAdded CS) := by
  refine okG F sc_law_added (fun vs H Q E h => ?_) (fun cdv A outer s H vs Q E hG hr h => ?_)
  · obtain ⟨g, s, m, st, rfl, _⟩ := h
    rfl
  · obtain ⟨g, s, m, st, rfl, pk, sa, ma, sm1, gs, gm, sm', k⟩ := h
    have sz : sizeLine = 16777216 := sizeLine_eq
    have sm := sm1.sm
    have al := sm1.al
    have cl := sm.cl
    have ll := listed_len st
    refine ⟨_, PSs.nox ((pss_cons (ps_set (i := 3) sc_law_added.nd rfl (Or.inl rfl) (C8.pe_c c_law_listed hr (by decide) (by rfl) (pa_cons (pv 2) pa_nil)))
      (pss_cons (ps_set (i := 4) sc_law_added.nd rfl (Or.inl rfl) (C8.pe_c c_law_short hr (by decide) (by rfl) (pa_cons (C8.pe_c c_law_product hr (by decide) (by rfl) (pa_cons (pv 0) (pa_cons (pv 3) (pa_cons pe_int pa_nil)))) pa_nil)))
      (C8.pss_cut (ps_if (pt_cmpR op_gt (pe_callB call_len (by rfl) T.f_len PySem.boot_len (pa_cons (pv 4) pa_nil)) pe_int (nomark _)) (pss_one (ps_set (i := 4) sc_law_added.nd rfl (Or.inl rfl) (C8.pe_c c_law_short hr (by decide) (by rfl) (pa_cons (pe_ix ix_list (pv 3) (C8.pe_c c_law_draw hr (by decide) (by rfl) (pa_cons (pv 0) (pa_cons (pe_callB call_len (by rfl) T.f_len PySem.boot_len (pa_cons (pv 3) pa_nil)) pa_nil))) (fun _ _ => rfl)) pa_nil)))) pss_nil)
      (pss_cons (ps_set (i := 4) sc_law_added.nd rfl (Or.inl rfl) (C8.pe_c c_law_padded hr (by decide) (by rfl) (pa_cons (pv 0) (pa_cons (pv 4) pa_nil))))
      (pss_cons (ps_set (i := 5) sc_law_added.nd rfl (Or.inl rfl) (C8.pe_c c_law_draw hr (by decide) (by rfl) (pa_cons (pv 0) (pa_cons pe_int pa_nil))))
      (pss_cons (ps_set (i := 6) sc_law_added.nd rfl (Or.inl rfl) (C8.pe_c c_law_expected hr (by decide) (by rfl) (pa_cons (pv 2) (pa_cons (pe_tup (pa_cons pe_str (pa_cons (pv 4) (pa_cons (pv 5) pa_nil)))) pa_nil))))
      (pss_cons (ps_set (i := 7) sc_law_added.nd rfl (Or.inl rfl) (pe_mtK m_Session_add_path hr (by decide) passAt0 (pv 1) (pa_cons (pv 4) pa_nil) (pk_cons (pv 5) pk_nil)))
      (pss_cons (ps_if (PW.pt (pw_or (pt_not (pt_val (pe_callB call_isi (by rfl) T.f_isinstance (by decide +kernel) (pa_cons (pv 7) (pa_cons (pe_bltn (v := .ty "tuple") rfl T.f_tuple (by decide +kernel) rfl) pa_nil))))) (pw_or (pt_cmpR op_ne (pe_callB call_len (by rfl) T.f_len PySem.boot_len (pa_cons (pv 7) pa_nil)) pe_int (nomark _)) (pw_or1 (pt_cmpR op_ne (pe_callB SkE.call_repr_int (by rfl) T.f_repr (by decide +kernel) (pa_cons (pe_ix ix_tup (pv 7) pe_int (fun _ _ => rfl)) pa_nil)) (pe_callB SkE.call_repr_int (by rfl) T.f_repr (by decide +kernel) (pa_cons (pe_ix ix_list (pv 6) pe_int (fun _ _ => rfl)) pa_nil)) (nomark _)))))) (pss_one (ps_ret pe_non)) pss_nil)
      (pss_cons (ps_if (PW.pt (pw_or (pt_cmpR op_isN (pe_ix ix_tup (pv 7) pe_int (fun _ _ => rfl)) pe_non (nomark _)) (pw_or1 (pt_cmpR op_ne (C8.pe_c c_law_value hr (by decide) (by rfl) (pa_cons (pv 3) (pa_cons (pe_ix ix_tup (pv 7) pe_int (fun _ _ => rfl)) (pa_cons pe_int pa_nil)))) (C8.pe_c c_law_short hr (by decide) (by rfl) (pa_cons (pv 4) pa_nil)) (nomark _))))) (pss_one (ps_ret pe_non)) pss_nil)
      (pss_one (ps_ret (pe_lst (pa_cons (pv 3) (pa_cons (pe_ix ix_tup (pv 7) pe_int (fun _ _ => rfl)) (pa_cons (pe_callB (call_reprD hG hr.units) (by rfl) T.f_repr (by decide +kernel) (pa_cons (pe_ix ix_tup (pv 7) pe_int (fun _ _ => rfl)) pa_nil)) (pa_cons (C8.pe_c c_law_short hr (by decide) (by rfl) (pa_cons (pv 4) pa_nil)) pa_nil))))))))))))))))), ?_⟩
    refine ⟨_, rfl, m, st, rfl, ma, by omega, by omega, fun H1 L k1 nL hL => ?_⟩
    have pk1 := pk.kp k1 List.not_mem_nil
    have Lg := pk.ne nL
    have sp : ∀ p ∈ listed st, Steps p ∧ p.length ≤ 18 := fun p hp => ⟨(sm.ws p (listed_mem hp)).1, (sm.ws p (listed_mem hp)).2.1⟩
    refine ⟨_, rfl, _, rfl, g, L, listed st, 2, rfl, hL, sp, by omega, by omega, pk1, fun H2 x sx xl mx xn k2 pk2 => ?_⟩
    have hL2 := k2 _ _ hL (by simp [Lg])
    refine ⟨x, rfl, sx, by omega, ?_⟩
    have k02 : Kp [g] H H2 := k1.nil.trans k2
    refine ⟨fun σ' H' => ∃ y, Kp [g] H H' ∧ PoolOk H' g ∧ H' L = some (.lst ((listed st).map vS)) ∧ σ' = [some (.ref g), some (.ref s.p), some (.ref m.p), some (.ref L), some (vS y), none, none, none] ∧ Steps y ∧ y.length ≤ 16 ∧ red y = y ∧ ClosedAll ((listed st).map red) y, ?_, ?_⟩
    · refine ⟨_, rfl, _, _, rfl, ⟨by rw [S_len, sz]; have := red_length x; omega, rfl⟩, _, _, rfl, rfl, _, rfl, ?_⟩
      rw [S_len]
      by_cases c : (16 : Int) < ((red x).length : Int)
      · refine ifT (decide_eq_true c) ?_
        have ne : listed st ≠ [] := by
          intro z
          have e := xn z
          rw [e, red_nil] at c
          have c' : (16 : Int) < ((0 : Nat) : Int) := c
          omega
        have pos : 0 < (listed st).length := List.length_pos_iff.mpr ne
        refine ⟨_, rfl, _, rfl, _, rfl, _, _, rfl, .inl ⟨_, SqL.of hL2, rfl⟩, g, (listed st).length, by rw [List.length_map]; rfl, pos, by omega, pk2, fun H3 q ql k3 pk3 => ?_⟩
        have hL3 := k3 _ _ hL2 (by simp [Lg])
        have pm : (listed st)[q] ∈ listed st := List.getElem_mem ql
        refine ⟨L, _, _, vS (listed st)[q], rfl, rfl, SqL.of hL3, atI_nat (by rw [List.getElem?_map, List.getElem?_eq_getElem ql]; rfl), ?_⟩
        have pp := sp _ pm
        have p16 := (sm.ws _ (listed_mem pm)).2.2
        generalize (listed st)[q] = p at *
        refine ⟨p, rfl, pp.1, by omega, red p, k02.trans k3, pk3, hL3, rfl, pp.1.red, p16, red_red p, ?_⟩
        exact fun δ sy cl => cl _ (List.mem_map.mpr ⟨p, pm, rfl⟩)
      · refine ifF (decide_eq_false c) ⟨red x, k02, pk2, hL2, rfl, sx.red, by omega, red_red x, mx.closed⟩
    · rintro σ' H3 ⟨y, k3, pk3, hL3, rfl, sy, yl, ry, cy⟩
      have ma3 := ma.pool pk k3 gm
      have sa3 := sa.pool pk k3 gs
      -- path = padded(pool, path)
      refine ⟨_, rfl, _, rfl, g, y, rfl, sy, by omega, pk3, fun H4 u v c yuv cs k4 pk4 => ?_⟩
      have rw2 : red (u ++ [c] ++ [bk c] ++ v) = y := by
        rw [red_eq (padded_eqv u v c), ← yuv]
        exact ry
      have sw : Steps (u ++ [c] ++ [bk c] ++ v) := by
        rw [yuv] at sy
        exact (((sy.left).snoc cs).snoc (bk_step cs)).app sy.right
      have wl : (u ++ [c] ++ [bk c] ++ v).length ≤ 18 := by
        rw [yuv, List.length_append] at yl
        simp only [List.length_append, List.length_singleton]
        omega
      generalize u ++ [c] ++ [bk c] ++ v = w at *
      -- who = draw(pool, 4)
      refine ⟨_, rfl, g, 4, rfl, by omega, by omega, pk4, fun H5 who whl k5 pk5 => ?_⟩
      have k05 : Kp [g] H H5 := (k3.trans k4).trans k5
      have ma5 := ma.pool pk k05 gm
      have sa5 := sa.pool pk k05 gs
      have hL5 := k5 _ _ (k4 _ _ hL3 (by simp [Lg])) (by simp [Lg])
      have ok : OpOk (.add w who) := ⟨sw, wl, by rw [rw2]; exact yl, whl⟩
      -- due = expected(model, ('add', path, who))
      refine ⟨_, rfl, _, rfl, _, rfl, line3 _ _ _, fun t ht => ?_⟩
      have k6 : Kp [] H5 (upd H5 t (.tup (Op.add w who).vals)) := Kp.new ht
      have h6 : (upd H5 t (.tup (Op.add w who).vals)) t = some (.tup (Op.add w who).vals) := upd_same
      have ev : ([V.str "add", vS w, V.int (who : Nat)] : List V) = (Op.add w who).vals := rfl
      rw [ev]
      have ma6 := ma5.kp0 k6
      have sa6 := sa5.kp0 k6
      generalize upd H5 t (.tup (Op.add w who).vals) = H6 at *
      have pk6 := pk5.kp k6 List.not_mem_nil
      refine ⟨m, t, st, .add w who, rfl, ma6, sm1, h6, ok, fun H7 b7 ma7 k7 n7 h7 => ?_⟩
      have tp7 : Tp H6 H7 := k7.tp ma6.noTup
      have sa7 : SA CS s H7 st := sa6.kp k7 tp7 sm'
      have pk7 := pk6.kp k7 gm
      have Lm : L ∉ m.all := ma.not_new (H := H) nL
      have Ls : L ∉ s.all := sa.not_new nL
      have hL7 := k7 _ _ (k6 _ _ hL5 List.not_mem_nil) Lm
      have b7s : b7 ∉ s.all := sa6.not_new n7
      -- result = session.add_path(path, user=who)
      refine ⟨_, rfl, s.p, _, _, rfl, sa7.ob.choose_spec, rfl, _, rfl, _, rfl, s, st, w, who, rfl, sa7, sm, al, sw, by omega, by rw [rw2]; omega, whl, fun H8 b8 v8 sa8 k8 nb8 h8 dv => ?_⟩
      have tp8 : Tp H7 H8 := k8.tp sa7.noTup
      have ma8 : MA m H8 (after st (.add w who)).1 := ma7.kp k8 tp8 fun b hb z => sm' b z hb
      have pk8 := pk7.kp k8 gs
      have hL8 := k8 _ _ hL7 Ls
      have h78 := k8 _ _ h7 b7s
      have ft := sm.fit al
      have dk := derive_ok (paths := (listed st).map red) (goal := red w) ft.each ft.tot ft.many (red_red w) (by rw [rw2]; omega)
      cases hd : derive ((listed st).map red) (red w) with
      | none =>
        rw [hd] at dk
        exact absurd (by rw [rw2]; exact cy) dk
      | some d =>
        rw [hd] at dk dv
        obtain ⟨_, lg, dl, vl⟩ := dk
        obtain ⟨q, rfl, nq, hq⟩ := dv
        have few : (listed st).length ≤ 100 := by omega
        have fn := linesD_fine lg (by rw [List.length_map]; exact few) dl
        have f1 := fn.dep
        have f2 := fn.len
        refine ⟨_, rfl, _, _, _, _, _, rfl, .ty "tuple", .base (.tup h8), kit_ty (r := true) (by decide +kernel), _, rfl, ifF rfl ?_⟩
        refine ⟨_, rfl, _, _, rfl, .inr ⟨_, SqT.of h8, rfl⟩, rfl, _, rfl, ifF (by show (!decide (V.int ((2 : Nat) : Int) = V.int 2)) = false; decide +kernel) ?_⟩
        refine ⟨_, rfl, b8, _, _, _, rfl, rfl, SqT.of h8, rfl, _, rfl, log_small (by omega), _, rfl, b7, _, _, _, rfl, rfl, SqL.of h78, rfl, _, rfl, log_small (by omega), rfl, _, rfl, ifF ?_ ?_⟩
        · rw [decide_eq_true rfl]
          rfl
        refine ⟨_, rfl, b8, _, _, _, rfl, rfl, SqT.of h8, rfl, rfl, _, rfl, ifF rfl ?_⟩
        refine ⟨_, rfl, _, rfl, b8, _, _, _, rfl, rfl, SqT.of h8, rfl, L, q, listed st, d, rfl, hL8, hq, sp, lg, dl, fun H9 k9 => ?_⟩
        refine ⟨_, rfl, w, rfl, sw, by omega, rfl, _, rfl, ifF ?_ ?_⟩
        · rw [vl, decide_eq_true rfl]
          rfl
        have h89 := k9 _ _ h8 List.not_mem_nil
        have hq9 := hq.kp k9 k9.tp0 List.not_mem_nil
        refine ⟨_, rfl, _, rfl, b8, _, _, _, rfl, rfl, SqT.of h89, rfl, _, rfl, b8, _, _, _, rfl, rfl, SqT.of h89, rfl, q, linesD d, rfl, linesD_dp hq9, fn.sh, fn.nd, by omega, by rw [sz]; omega, _, rfl, w, rfl, sw, by omega, by rw [sz]; exact Nat.le_of_ble_eq_true rfl, fun b hb => ?_⟩
        have ka : Kp [] H8 (upd H9 b (.lst [.ref L, .ref q, .str (linesD d).shown, vS (red w)])) := k9.trans (Kp.new hb)
        have kb : Kp [] H9 (upd H9 b (.lst [.ref L, .ref q, .str (linesD d).shown, vS (red w)])) := Kp.new hb
        have all : Kp (g :: (s.all ++ m.all)) H (upd H9 b (.lst [.ref L, .ref q, .str (linesD d).shown, vS (red w)])) :=
          ((((k05.mono (by simp)).trans k6.nil).trans (k7.mono (by intro a ha; simp [ha]))).trans (k8.mono (by intro a ha; simp [ha]))).trans ka.nil
        have all9 : Kp (g :: (s.all ++ m.all)) H H9 := ((((k05.mono (by simp)).trans k6.nil).trans (k7.mono (by intro a ha; simp [ha]))).trans (k8.mono (by intro a ha; simp [ha]))).trans k9.nil
        have all7 : Kp (g :: (s.all ++ m.all)) H H7 := ((k05.mono (by simp)).trans k6.nil).trans (k7.mono (by intro a ha; simp [ha]))
        have bn : H b = none := all9.free' hb (by
          intro z
          have na := k9.free hb
          rcases List.mem_cons.mp z with e | z
          · exact pk8.ne na e
          · rcases List.mem_append.mp z with z | z
            · exact sa8.not_new na z
            · exact ma8.not_new na z)
        have qn : H q = none := all7.free' nq (by
          intro z
          rcases List.mem_cons.mp z with e | z
          · exact pk7.ne nq e
          · rcases List.mem_append.mp z with z | z
            · exact sa7.not_new nq z
            · exact ma7.not_new nq z)
        refine k _ w who b L q (listed st) d (red w) ok (sa8.kp0 ka) (ma8.kp0 ka) (pk8.kp ka List.not_mem_nil) all bn nL qn ⟨upd_same, ka _ _ hL8 List.not_mem_nil, hq9.kp kb kb.tp0 List.not_mem_nil⟩ ⟨sp, few, lg, dl, vl⟩
end
end WK
end Text_WW20
section Text_WW21
set_option Elab.async false
set_option linter.all false
set_option maxRecDepth 100000
set_option maxHeartbeats 4000000
/-! WW21: the law. -/
namespace WK
open PySem PySem.Spec L2 SX
open PyProof.Rows hiding St

def CalG (P : Program) (w : World) (K : PySem.W.Frag) (mg : Str → Option Value) (base : Heap) (k : Nat) (x : Str) (sp : Sp) : Prop :=
  ∃ (f : Addr) (fd : FuncData) (ps : List Str), FnG P w K mg base C8.CX0 k f fd ps sp ∧ mg x = some (.ref f) ∧ PySem.W.keepIn K (.ref f) = true ∧ Binds K fd ps []
section
variable {X : Cx} {k j : Nat} {C : Addr} {sp : Sp} {x : Str} {p pos : Pos} {e : Expr} {es : List Expr} {t : TA} {dvs : List V}
theorem pe_cG (c : CalG X.prog X.w X.K X.mg X.base k x sp) (hG : X.A.guards = some []) (hr : Room j X.A) (hk : k ≤ j) (hg : Gl X x) (ha : PA X (e :: es) t) (hdb : (x == ("__debug__" : Str)) = false := by decide)
    (he : starEach (e :: es) X.env = (false, eval e X.env) :: starEach es X.env := by rfl) (hpl : (backTo pos (starEach es X.env)).any (·.1) = false := by rfl) : PE X (.Call (.Name x p) (e :: es) [] pos) (tG sp C8.E0 t) := by
  obtain ⟨f, fd, ps, F, hm, kp, b⟩ := c
  exact pe_callG F hG (hr.mono hk) hg hm kp b C8.pass0 ha hdb he hpl
theorem pe_mk0 (c : C8.Mak X.prog X.w X.K X.mg X.base k x C sp dvs) (hr : Room j X.A) (hk : k + 1 ≤ j) (hg : Gl X x) (hdb : (x == ("__debug__" : Str)) = false := by decide) : PE X (.Call (.Name x p) [] [] pos) (tMake C sp dvs C8.E0 tNil) := by
  obtain ⟨f, fd, ps, ds, M, F, hm, b, d⟩ := c.ex
  exact pe_make0 M F (hr.mono hk) hg hm b d C8.pass0 hdb
end
/-! ### the invariant between two changes -/
structure InvI (i : Nat) (st : SS) : Prop where
  al : st.added.length ≤ i
  cl : st.changes.length ≤ i
  ct : st.count ≤ i
  ws : ∀ p ∈ st.added, Steps p ∧ p.length ≤ 18 ∧ (red p).length ≤ 16
  iv : InvE st
  wh : ∀ x ∈ st.changes, x.who < 4
theorem InvI.small {i : Nat} {st : SS} (h : InvI i st) (le : i ≤ 12) : Small st := ⟨by have := h.al; omega, by have := h.cl; omega, by have := h.ct; omega, h.ws⟩
theorem InvI.sm1 {i : Nat} {st : SS} (h : InvI i st) (le : i ≤ 11) : Sm1 st := ⟨h.small (by omega), by have := h.al; omega, h.iv⟩
theorem InvI.tiny {i : Nat} {st : SS} (h : InvI i st) (le : i ≤ 12) : Tiny st := ⟨h.small le, fun x hx => ⟨h.wh x hx, by have := h.iv x hx; have := h.al; omega⟩⟩
theorem InvI.zero : InvI 0 ⟨[], [], 0⟩ := ⟨Nat.le_refl _, Nat.le_refl _, Nat.le_refl _, (fun _ z => nomatch z), (fun _ z => nomatch z), (fun _ z => nomatch z)⟩
theorem InvI.und {i : Nat} {st : SS} (h : InvI i st) (k : Nat) : InvI i { st with changes := st.changes.eraseIdx k } :=
  ⟨h.al, Nat.le_trans (len_erase _ _) h.cl, h.ct, h.ws, fun x hx => h.iv x (List.mem_of_mem_eraseIdx hx), fun x hx => h.wh x (List.mem_of_mem_eraseIdx hx)⟩
theorem InvI.up {i : Nat} {st : SS} (h : InvI i st) : InvI (i + 1) st := ⟨Nat.le_succ_of_le h.al, Nat.le_succ_of_le h.cl, Nat.le_succ_of_le h.ct, h.ws, h.iv, h.wh⟩
theorem InvI.after {i : Nat} {st : SS} (h : InvI i st) {op : Op} (ok : OpOk op) : InvI (i + 1) (after st op).1 := by
  cases op with
  | add w u =>
    obtain ⟨sw, wl, rl, lu⟩ := ok
    have al := h.al
    have cl := h.cl
    have ct := h.ct
    refine ⟨?_, ?_, ?_, ?_, ?_, ?_⟩
    · show (st.added ++ [w]).length ≤ _
      rw [List.length_append, List.length_singleton]
      omega
    · show (st.changes ++ [_]).length ≤ _
      rw [List.length_append, List.length_singleton]
      omega
    · show st.count + 1 ≤ _
      omega
    · intro p hp
      have hp : p ∈ st.added ++ [w] := hp
      rcases List.mem_append.mp hp with z | z
      · exact h.ws p z
      · rw [List.mem_singleton.mp z]
        exact ⟨sw, wl, rl⟩
    · intro x hx
      have hx : x ∈ st.changes ++ [⟨u, true, st.added.length⟩] := hx
      show x.entry < (st.added ++ [w]).length
      rw [List.length_append, List.length_singleton]
      rcases List.mem_append.mp hx with z | z
      · have := h.iv x z
        omega
      · rw [List.mem_singleton.mp z]
        exact Nat.lt_succ_self _
    · intro x hx
      have hx : x ∈ st.changes ++ [⟨u, true, st.added.length⟩] := hx
      rcases List.mem_append.mp hx with z | z
      · exact h.wh x z
      · rw [List.mem_singleton.mp z]
        exact lu
  | rem e u =>
    obtain ⟨el, lu⟩ := ok
    cases hc : isCur st.changes e with
    | false =>
      rw [after_no hc]
      exact h.up
    | true =>
      rw [after_yes hc]
      have cl := h.cl
      have ct := h.ct
      refine ⟨Nat.le_succ_of_le h.al, ?_, ?_, h.ws, ?_, ?_⟩
      · show (st.changes ++ [_]).length ≤ _
        rw [List.length_append, List.length_singleton]
        omega
      · show st.count + 1 ≤ _
        omega
      · intro x hx
        have hx : x ∈ st.changes ++ [⟨u, false, e⟩] := hx
        rcases List.mem_append.mp hx with z | z
        · exact h.iv x z
        · rw [List.mem_singleton.mp z]
          exact isCur_lt h.iv hc
      · intro x hx
        have hx : x ∈ st.changes ++ [⟨u, false, e⟩] := hx
        rcases List.mem_append.mp hx with z | z
        · exact h.wh x z
        · rw [List.mem_singleton.mp z]
          exact lu
  | und u =>
    rw [after_und]
    cases hu : undoS st u with
    | none =>
      rw [undV_none hu]
      exact h.up
    | some pr =>
      obtain ⟨x, st'⟩ := pr
      rw [undV_some hu]
      unfold undoS at hu
      cases hl : (ownIdx st.changes u).getLast? with
      | none =>
        rw [hl] at hu
        cases hu
      | some k =>
        rw [hl] at hu
        have e := (Prod.mk.inj (Option.some.inj hu)).2
        rw [← e]
        exact (h.und k).up
/-! ### what a change answers, as data -/
def resD (vs : List V) : PyData := .list (vs.map datS)
theorem dp_scalar {K : PySem.W.Frag} {H : Hp} : ∀ {v : V}, isScalar v = true → Dp K H v (datS v)
  | .int i, _ => .int i
  | .str x, _ => .str x
  | .bl b, _ => .bl b
  | .non, _ => .non
theorem dpAll_scalar {K : PySem.W.Frag} {H : Hp} : ∀ {vs : List V}, (∀ v ∈ vs, isScalar v = true) → DpAll K H vs (vs.map datS)
  | [], _ => .nil
  | v :: vs, h => .cons (dp_scalar (h v List.mem_cons_self)) (dpAll_scalar fun x hx => h x (List.mem_cons_of_mem _ hx))
def FineV (v : V) : Prop := isScalar v = true ∧ Fine 0 200 (datS v)
theorem fineV_int {n : Nat} (h : n < 10 ^ 9) : FineV (.int (n : Int)) := ⟨rfl, (Fine.int h).mono (Nat.le_refl _) (by decide)⟩
theorem fineV_word (x : String) (h : Lo (Str.ofString x)) (l : (Str.ofString x).length ≤ 10) : FineV (.str (Str.ofString x)) := ⟨rfl, (Fine.str h).mono (Nat.le_refl _) (by omega)⟩
theorem numT_fine {e : Nat} (h : e ≤ 1000) : FineV (.str (numT e)) := by
  have lo : Lo (numT e) := by
    have z := Lo.int e
    simp only [PyData.shown] at z
    exact z
  have l : (numT e).length ≤ 10 := by
    have z := (Fine.int (n := e) (by omega)).len
    simp only [PyData.shown] at z
    exact z
  exact ⟨rfl, (Fine.str lo).mono (Nat.le_refl _) (by omega)⟩
theorem lo_word {x : String} (h : ∀ c ∈ (Str.ofString x).cps.toList, c < 16 ^ 8) : Lo (Str.ofString x) := h
theorem res_fine {i : Nat} {st : SS} (h : InvI i st) (le : i ≤ 11) {op : Op} (ok : OpOk op) : ∀ v ∈ (after st op).2, FineV v := by
  have al := h.al
  cases op with
  | add w u =>
    intro v hv
    have hv : v ∈ [V.str "add", V.int (st.added.length : Nat), V.bl (knownB st w)] := hv
    simp only [List.mem_cons, List.not_mem_nil, or_false] at hv
    rcases hv with rfl | rfl | rfl
    · exact fineV_word _ (lo_word (by decide +kernel)) (by decide +kernel)
    · exact fineV_int (by omega)
    · exact ⟨rfl, (Fine.bool _).mono (Nat.le_refl _) (by decide)⟩
  | rem e u =>
    obtain ⟨el, lu⟩ := ok
    intro v hv
    cases hc : isCur st.changes e with
    | false =>
      rw [after_no hc] at hv
      have hv : v ∈ [V.str "entry", V.str (numT e)] := hv
      simp only [List.mem_cons, List.not_mem_nil, or_false] at hv
      rcases hv with rfl | rfl
      · exact fineV_word _ (lo_word (by decide +kernel)) (by decide +kernel)
      · exact numT_fine el
    | true =>
      rw [after_yes hc] at hv
      have hv : v ∈ [V.str "remove"] := hv
      rw [List.mem_singleton.mp hv]
      exact fineV_word _ (lo_word (by decide +kernel)) (by decide +kernel)
  | und u =>
    have lu : u < 4 := ok
    intro v hv
    rw [after_und] at hv
    cases hu : undoS st u with
    | none =>
      rw [undV_none hu] at hv
      have hv : v ∈ [V.str "nothing", V.int (u : Nat)] := hv
      simp only [List.mem_cons, List.not_mem_nil, or_false] at hv
      rcases hv with rfl | rfl
      · exact fineV_word _ (lo_word (by decide +kernel)) (by decide +kernel)
      · exact fineV_int (by omega)
    | some pr =>
      obtain ⟨x, st'⟩ := pr
      rw [undV_some hu] at hv
      have hv : v ∈ [V.str "undo", V.str (wordA x.add), V.int (x.entry : Nat)] := hv
      have xe : x.entry < st.added.length := by
        unfold undoS at hu
        cases hl : (ownIdx st.changes u).getLast? with
        | none =>
          rw [hl] at hu
          cases hu
        | some k =>
          rw [hl] at hu
          have e := (Prod.mk.inj (Option.some.inj hu)).1
          have kl : k < st.changes.length := own_lt (List.mem_of_getLast? hl)
          rw [← e]
          exact h.iv _ (getD_mem kl)
      simp only [List.mem_cons, List.not_mem_nil, or_false] at hv
      rcases hv with rfl | rfl | rfl
      · exact fineV_word _ (lo_word (by decide +kernel)) (by decide +kernel)
      · refine ⟨rfl, (Fine.str (word_lo _)).mono (Nat.le_refl _) ?_⟩
        cases x.add <;> decide +kernel
      · exact fineV_int (by omega)
theorem resD_fine {vs : List V} (h : ∀ v ∈ vs, FineV v) : Fine 1 (vs.length * 202 + 2) (resD vs) := by
  refine (Fine.lst (n := 0) (m := 200) (ds := vs.map datS) fun d hd => ?_).mono (Nat.le_refl _) (by rw [List.length_map]; exact Nat.le_refl _)
  obtain ⟨v, hv, rfl⟩ := List.mem_map.mp hd
  exact (h v hv).2
theorem after_len (st : SS) (op : Op) : (after st op).2.length ≤ 3 := by
  cases op with
  | add w u => exact Nat.le_refl _
  | rem e u =>
    cases hc : isCur st.changes e with
    | false => rw [after_no hc]; exact Nat.le_of_ble_eq_true rfl
    | true => rw [after_yes hc]; exact Nat.le_of_ble_eq_true rfl
  | und u =>
    rw [after_und]
    cases hu : undoS st u with
    | none => rw [undV_none hu]; exact Nat.le_of_ble_eq_true rfl
    | some pr =>
      obtain ⟨x, st'⟩ := pr
      rw [undV_some hu]
      exact Nat.le_refl _
/-! ### the kept additions -/
structure KR where
  b : Addr
  L : Addr
  q : Addr
  ps : List (List Nat)
  d : List Line
  x : List Nat
structure KOk (F : List Addr) (H : Hp) (r : KR) : Prop where
  at_ : H r.b = some (.lst [.ref r.L, .ref r.q, .str (linesD r.d).shown, vS r.x])
  ps_ : H r.L = some (.lst (r.ps.map vS))
  ls_ : LstT lineT H r.q r.d
  ok : KeptP r.ps r.d r.x
  nb : r.b ∉ F
  nL : r.L ∉ F
  nq : r.q ∉ F
theorem KOk.kp {F : List Addr} {H H' : Hp} {r : KR} (h : KOk F H r) (k : Kp F H H') (tp : Tp H H') : KOk F H' r := ⟨k _ _ h.at_ h.nb, k _ _ h.ps_ h.nL, h.ls_.kp k tp h.nq, h.ok, h.nb, h.nL, h.nq⟩
/-- the mutable places of a round -/
def places (N g : Addr) (s : Sd) (m : Md) : List Addr := N :: g :: (s.all ++ m.all)
structure Dis (Hs : Hp) (N g : Addr) (s : Sd) (m : Md) : Prop where
  gs : g ∉ s.all
  gm : g ∉ m.all
  sm : ∀ b ∈ s.all, b ∉ m.all
  Ng : N ≠ g
  Ns : N ∉ s.all
  Nm : N ∉ m.all
  new : ∀ a ∈ places N g s m, Hs a = none
structure LiveR (C : Addr) (Hs : Hp) (N g : Addr) (s : Sd) (m : Md) (H : Hp) (st : SS) (ks : List KR) : Prop where
  kp : Kp [] Hs H
  pk : PoolOk H g
  sa : SA C s H st
  ma : MA m H st
  nn : H N = some (.lst (ks.map fun r => V.ref r.b))
  ok : ∀ r ∈ ks, KOk (places N g s m) H r
section
variable {C : Addr} {Hs : Hp} {N g : Addr} {s : Sd} {m : Md} {H H' : Hp} {st st' : SS} {ks : List KR}
theorem LiveR.notTup (l : LiveR C Hs N g s m H st ks) : ∀ a ∈ places N g s m, ∀ xs, H a ≠ some (.tup xs) := by
  intro a ha xs e
  rcases List.mem_cons.mp ha with rfl | ha
  · rw [l.nn] at e
    cases e
  · rcases List.mem_cons.mp ha with rfl | ha
    · obtain ⟨x, y, z⟩ := l.pk
      rw [z] at e
      cases e
    · rcases List.mem_append.mp ha with ha | ha
      · exact l.sa.noTup a ha xs e
      · exact l.ma.noTup a ha xs e
theorem LiveR.not_new (l : LiveR C Hs N g s m H st ks) {a : Addr} (n : H a = none) : a ∉ places N g s m := by
  intro ha
  rcases List.mem_cons.mp ha with rfl | ha
  · rw [l.nn] at n
    cases n
  · rcases List.mem_cons.mp ha with rfl | ha
    · exact l.pk.ne n rfl
    · rcases List.mem_append.mp ha with ha | ha
      · exact l.sa.not_new n ha
      · exact l.ma.not_new n ha
theorem drop_new {F : List Addr} {A B D : Hp} (h : Kp [] A B) (h' : Kp F B D) (n : ∀ a ∈ F, A a = none) : Kp [] A D := fun b o e _ => h' b o (h b o e List.not_mem_nil) fun z => by
  rw [n b z] at e
  cases e
theorem LiveR.go (l : LiveR C Hs N g s m H st ks) (dj : Dis Hs N g s m) (k : Kp (g :: (s.all ++ m.all)) H H') (sa : SA C s H' st') (ma : MA m H' st') (pk : PoolOk H' g) : LiveR C Hs N g s m H' st' ks := by
  have kP : Kp (places N g s m) H H' := k.mono fun a ha => List.mem_cons_of_mem _ ha
  have tp : Tp H H' := kP.tp l.notTup
  refine ⟨drop_new l.kp kP dj.new, pk, sa, ma, k _ _ l.nn ?_, fun r hr => (l.ok r hr).kp kP tp⟩
  intro z
  rcases List.mem_cons.mp z with z | z
  · exact dj.Ng z
  · rcases List.mem_append.mp z with z | z
    · exact dj.Ns z
    · exact dj.Nm z
theorem LiveR.kp0 (l : LiveR C Hs N g s m H st ks) (dj : Dis Hs N g s m) (k : Kp [] H H') : LiveR C Hs N g s m H' st ks := l.go dj k.nil (l.sa.kp0 k) (l.ma.kp0 k) (l.pk.kp k List.not_mem_nil)
theorem LiveR.draw (l : LiveR C Hs N g s m H st ks) (dj : Dis Hs N g s m) (k : Kp [g] H H') (pk : PoolOk H' g) : LiveR C Hs N g s m H' st ks := l.go dj (k.mono (by intro a ha; rw [List.mem_singleton.mp ha]; exact List.mem_cons_self)) (l.sa.pool l.pk k dj.gs) (l.ma.pool l.pk k dj.gm) pk
/-- one more is kept -/
theorem LiveR.keep (l : LiveR C Hs N g s m H st ks) (dj : Dis Hs N g s m) {r : KR} (o : KOk (places N g s m) H r) : LiveR C Hs N g s m (upd H N (.lst ((ks.map fun r => V.ref r.b) ++ [.ref r.b]))) st (ks ++ [r]) := by
  have k : Kp [N] H (upd H N (.lst ((ks.map fun r => V.ref r.b) ++ [.ref r.b]))) := Kp.upd List.mem_cons_self
  have tp : Tp H (upd H N (.lst ((ks.map fun r => V.ref r.b) ++ [.ref r.b]))) := Tp.upd l.nn (fun _ z => nomatch z)
  have kP : Kp (places N g s m) H (upd H N (.lst ((ks.map fun r => V.ref r.b) ++ [.ref r.b]))) := k.mono (by intro a ha; rw [List.mem_singleton.mp ha]; exact List.mem_cons_self)
  refine ⟨drop_new l.kp kP dj.new, l.pk.kp k (by simp [dj.Ng.symm]), l.sa.kp k tp (fun b hb z => dj.Ns (by rw [List.mem_singleton.mp z] at hb; exact hb)), l.ma.kp k tp (fun b hb z => dj.Nm (by rw [List.mem_singleton.mp z] at hb; exact hb)), ?_, ?_⟩
  · rw [upd_same, List.map_append]
    rfl
  · intro x hx
    rcases List.mem_append.mp hx with z | z
    · exact (l.ok x z).kp kP tp
    · rw [List.mem_singleton.mp z]
      exact o.kp kP tp
end
def spLaw (K : PySem.W.Frag) : Sp := fun vs H Q _ => ∃ (l : Addr) (ns : List Int), vs = [.ref l] ∧ SqL K H l (ns.map V.int) ∧ ns.length ≤ 10000 ∧ ∀ H', Q (.bl true) H'
section
variable {P : Program} {wd : World} {K : PySem.W.Frag} {mg : Str → Option Value} {base : Heap} {f CF CS : Addr} {fd : FuncData}
abbrev N_law : List Str := ["_law_script", "_law_index", "_law_pool_here", "_law_session", "_law_model", "_law_kept", "_law_number", "_law_found", "_law_change_here", "_law_paths", "_law_lines", "_law_text", "_law_value_here"]
theorem sc_law : FnScope N_law ["_law_script"] WHead.d_law.scope := ⟨rfl, rfl, rfl, by decide +kernel, rfl, by decide +kernel, by decide +kernel⟩
theorem ok_law (F : FnD K WHead.d_law f fd) (T : Txt K mg CF CS) (c_law_pool : CalE P wd K mg base 1 "_law_pool" (spPool K)) (k_Session : C8.Mak P wd K mg base 1 "Session" CS (spInitS CS) []) (c_law_draw : CalE P wd K mg base 1 "_law_draw" spDraw) (c_law_added : CalG P wd K mg base 10 "_law_added" (spAdded CS))
    (c_law_change : CalE P wd K mg base 4 "_law_change" spChange) (c_law_actual : CalE P wd K mg base 10 "_law_actual" (spActual CS)) (c_law_expected : CalE P wd K mg base 5 "_law_expected" spExpected) (c_law_value : CalE P wd K mg base 4 "_law_value" spValue)
    (c_law_state : CalG P wd K mg base 5 "_law_state" (spState CS)) (c_law_due : CalG P wd K mg base 2 "_law_due" spDue) : FnG P wd K mg base C8.CX0 11 f fd ["_law_script"] (spLaw K) := by
  refine okG F sc_law (fun vs H Q E h => ?_) (fun cdv A outer s H vs Q E hG hr h => ?_)
  · obtain ⟨l, ns, rfl, _⟩ := h
    rfl
  · obtain ⟨l, ns, rfl, hl, few, k⟩ := h
    have sz : sizeLine = 16777216 := sizeLine_eq
    refine ⟨_, PSs.nox ((pss_cons (ps_for PassesOwn.never rfl (pi_range1 (by rfl) T.f_range (pa_cons (pe_callB (call_max2 rfl) (by rfl) T.f_max (by decide +kernel) (pa_cons pe_int (pa_cons (pe_callB (call_min2 rfl) (by rfl) T.f_min (by decide +kernel) (pa_cons pe_int (pa_cons (pe_callB call_len (by rfl) T.f_len PySem.boot_len (pa_cons (pv 0) pa_nil)) pa_nil))) pa_nil))) pa_nil)) (pg_name (i := 1) sc_law.nd rfl (Or.inl rfl)) (pss_cons (ps_set (i := 2) sc_law.nd rfl (Or.inl rfl) (C8.pe_c c_law_pool hr (by decide) (by rfl) (pa_cons (pv 0) (pa_cons (pv 1) pa_nil))))
      (pss_cons (ps_set (i := 3) sc_law.nd rfl (Or.inl rfl) (pe_mk0 k_Session hr (by decide) (by rfl)))
      (pss_cons (ps_set (i := 4) sc_law.nd rfl (Or.inl rfl) (pe_lst (pa_cons (pe_lst pa_nil) (pa_cons (pe_lst pa_nil) (pa_cons (pe_lst (pa_cons pe_int pa_nil)) pa_nil)))))
      (pss_cons (ps_set (i := 5) sc_law.nd rfl (Or.inl rfl) (pe_lst pa_nil))
      (pss_cons (ps_for PassesOwn.never rfl (pi_range1 (by rfl) T.f_range (pa_cons (pe_op op_add pe_int (C8.pe_c c_law_draw hr (by decide) (by rfl) (pa_cons (pv 2) (pa_cons pe_int pa_nil)))) pa_nil)) (pg_name (i := 6) sc_law.nd rfl (Or.inl rfl)) (pss_one (ps_if (pt_cmpR op_eq (C8.pe_c c_law_draw hr (by decide) (by rfl) (pa_cons (pv 2) (pa_cons pe_int pa_nil))) pe_int (nomark _)) (pss_cons (ps_set (i := 7) sc_law.nd rfl (Or.inl rfl) (pe_cG c_law_added hG hr (by decide) (by rfl) (pa_cons (pv 2) (pa_cons (pv 3) (pa_cons (pv 4) pa_nil)))))
      (pss_cons (ps_if (pt_cmpR op_isN (pv 7) pe_non (nomark _)) (pss_one (ps_ret pe_bl)) pss_nil)
      (pss_one (ps_expr (pe_bm PySem.F.plainAttrs_list PySem.F.slot_list_append PySem.F.type_list_append mt_append (pv 5) (pa_cons (pv 7) pa_nil)))))) (pss_cons (ps_set (i := 8) sc_law.nd rfl (Or.inl rfl) (C8.pe_c c_law_change hr (by decide) (by rfl) (pa_cons (pv 2) (pa_cons (pv 4) pa_nil))))
      (pss_one (ps_if (pt_cmpR op_ne (pe_callB (call_reprD hG hr.units) (by rfl) T.f_repr (by decide +kernel) (pa_cons (C8.pe_c c_law_actual hr (by decide) (by rfl) (pa_cons (pv 3) (pa_cons (pv 8) pa_nil))) pa_nil)) (pe_callB (call_reprD hG hr.units) (by rfl) T.f_repr (by decide +kernel) (pa_cons (C8.pe_c c_law_expected hr (by decide) (by rfl) (pa_cons (pv 4) (pa_cons (pv 8) pa_nil))) pa_nil)) (nomark _)) (pss_one (ps_ret pe_bl)) pss_nil))))))
      (pss_cons (ps_for PassesOwn.never rfl (pi_list (pv 5)) (pg_lst rfl (pgs_cons (pg_name (i := 9) sc_law.nd rfl (Or.inl rfl)) (pgs_cons (pg_name (i := 10) sc_law.nd rfl (Or.inl rfl)) (pgs_cons (pg_name (i := 11) sc_law.nd rfl (Or.inl rfl)) (pgs_cons (pg_name (i := 12) sc_law.nd rfl (Or.inl rfl)) pgs_nil))))) (pss_one (ps_if (PW.pt (pw_or (pt_cmpR op_ne (pe_callB (call_reprD hG hr.units) (by rfl) T.f_repr (by decide +kernel) (pa_cons (pv 10) pa_nil)) (pv 11) (nomark _)) (pw_or1 (pt_cmpR op_ne (C8.pe_c c_law_value hr (by decide) (by rfl) (pa_cons (pv 9) (pa_cons (pv 10) (pa_cons pe_int pa_nil)))) (pv 12) (nomark _))))) (pss_one (ps_ret pe_bl)) pss_nil)))
      (pss_one (ps_if (pt_cmpR op_ne (pe_cG c_law_state hG hr (by decide) (by rfl) (pa_cons (pv 3) pa_nil)) (pe_cG c_law_due hG hr (by decide) (by rfl) (pa_cons (pv 4) pa_nil)) (nomark _)) (pss_one (ps_ret pe_bl)) pss_nil)))))))))
      (pss_one (ps_ret pe_bl)))), ?_⟩
    refine ⟨_, rfl, _, _, rfl, .inl ⟨_, hl, rfl⟩, _, _, rfl, _, _, rfl, ?_⟩
    have hj : ∀ c : Int, 0 ≤ c → ∃ n : Nat, (if (if (3 : Int) > c then c else 3) > 1 then (if (3 : Int) > c then c else 3) else 1) = (n : Int) ∧ n ≤ 3 := by
      intro c c0
      refine ⟨(if (if (3 : Int) > c then c else 3) > 1 then (if (3 : Int) > c then c else 3) else 1).toNat, ?_, ?_⟩
      · split <;> (try split) <;> omega
      · split <;> (try split) <;> omega
    obtain ⟨n, hn, n3⟩ := hj ((ns.map V.int).length : Nat) (by omega)
    have hn2 : (if (if ((ns.map V.int).length : Int) < 3 then ((ns.map V.int).length : Int) else 3) > 1 then (if ((ns.map V.int).length : Int) < 3 then ((ns.map V.int).length : Int) else 3) else 1) = (n : Int) := hn
    rw [hn2]
    refine ⟨_, rfl, by omega, by omega, for_it (walk_range (lo := 0) (n := n)) (fun i σ H3 => ∃ o1 o2 o3 o4 o5 o6 o7 o8 o9 o10 o11 o12 : Option V, σ = [some (.ref l), o1, o2, o3, o4, o5, o6, o7, o8, o9, o10, o11, o12] ∧ Kp [] H H3)
      ⟨none, none, none, none, none, none, none, none, none, none, none, none, rfl, Kp.refl _ _⟩ (fun _ _ _ _ _ => trivial) ?_ ?_⟩
    · rintro i v σ H3 H3' hi ⟨o1, o2, o3, o4, o5, o6, o7, o8, o9, o10, o11, o12, rfl, k3⟩ ⟨rfl, hv⟩
      obtain rfl : v = .int (i : Nat) := hv.trans (by show V.int (0 + (i : Int)) = _; rw [Int.zero_add])
      -- pool
      refine ⟨_, rfl, _, rfl, l, ns, i, rfl, k3.sql List.not_mem_nil hl, few, by omega, fun H4 g k4 ng pk4 => ?_⟩
      -- session
      refine fun p dx hp hdx ne => ⟨p, dx, rfl, upd_same, fun s H5 sp sa5 k5 new => ⟨rfl, ?_⟩⟩
      have kn : Kp [] H4 (upd (upd H4 dx (.own p)) p (.ins CS dx [])) := (Kp.new hdx).mine hp
      have k45 : Kp [] H4 H5 := drop_new kn k5 (fun a ha => by rw [List.mem_singleton.mp ha]; exact hp)
      have snew : ∀ b ∈ s.all, H4 b = none := by
        intro b hb
        by_cases e : b = p
        · rw [e]
          exact hp
        · exact kn.free (new b hb e)
      have gs : g ∉ s.all := by
        intro z
        obtain ⟨x, y, e⟩ := pk4
        rw [snew g z] at e
        cases e
      have pk5 := pk4.kp k45 List.not_mem_nil
      rw [← sp]
      -- model
      have z0 : (0 : Nat) ≤ sizeLine := Nat.zero_le _
      refine ⟨z0, fun a ha => ⟨z0, fun c hc => ⟨by rw [sz]; exact Nat.le_of_ble_eq_true rfl, fun kk hk => ⟨line3 _ _ _, fun mp hm => ?_⟩⟩⟩⟩
      have ka : Kp [] H5 (upd H5 a (.lst [])) := Kp.new ha
      have ha1 : (upd H5 a (.lst [])) a = some (.lst []) := upd_same
      generalize upd H5 a (.lst []) = H6 at *
      have kc : Kp [] H6 (upd H6 c (.lst [])) := Kp.new hc
      have hc1 : (upd H6 c (.lst [])) c = some (.lst []) := upd_same
      have ac := ne_of_none ha1 hc
      generalize upd H6 c (.lst []) = H7 at *
      have ha2 := kc _ _ ha1 List.not_mem_nil
      have kq : Kp [] H7 (upd H7 kk (.lst [.int 0])) := Kp.new hk
      have hk1 : (upd H7 kk (.lst [.int 0])) kk = some (.lst [.int 0]) := upd_same
      have ak := ne_of_none ha2 hk
      have ck := ne_of_none hc1 hk
      generalize upd H7 kk (.lst [.int 0]) = H8 at *
      have ha3 := kq _ _ ha2 List.not_mem_nil
      have hc2 := kq _ _ hc1 List.not_mem_nil
      have km : Kp [] H8 (upd H8 mp (.lst [.ref a, .ref c, .ref kk])) := Kp.new hm
      have hm1 : (upd H8 mp (.lst [.ref a, .ref c, .ref kk])) mp = some (.lst [.ref a, .ref c, .ref kk]) := upd_same
      have am := ne_of_none ha3 hm
      have cm := ne_of_none hc2 hm
      have qm := ne_of_none hk1 hm
      generalize upd H8 mp (.lst [.ref a, .ref c, .ref kk]) = H9 at *
      have ha4 := km _ _ ha3 List.not_mem_nil
      have hc3 := km _ _ hc2 List.not_mem_nil
      have hk2 := km _ _ hk1 List.not_mem_nil
      -- kept
      refine ⟨z0, fun N hN => ?_⟩
      have kN : Kp [] H9 (upd H9 N (.lst [])) := Kp.new hN
      have hN1 : (upd H9 N (.lst [])) N = some (.lst []) := upd_same
      generalize upd H9 N (.lst []) = H10 at *
      let m : Md := ⟨mp, a, c, kk⟩
      have k56 := ka
      have k57 := k56.trans kc
      have k58 := k57.trans kq
      have k59 := k58.trans km
      have k5A := k59.trans kN
      have sa9 := sa5.kp0 k59
      have ma9 : MA m H9 ⟨[], [], 0⟩ := ⟨hm1, ha4, ⟨[], hc3, .nil⟩, hk2, am.symm, cm.symm, qm.symm, ac, ak, ck⟩
      have mnew : ∀ b ∈ m.all, H5 b = none := by
        intro b hb
        rcases List.mem_cons.mp hb with e | hb
        · rw [e]
          exact k58.free hm
        · rcases List.mem_cons.mp hb with e | hb
          · rw [e]
            exact ha
          · rcases List.mem_cons.mp hb with e | hb
            · rw [e]
              exact k56.free hc
            · rw [List.mem_singleton.mp hb]
              exact k57.free hk
      have pk9 := pk5.kp k59 List.not_mem_nil
      have dj : Dis H3' N g s m := by
        refine ⟨gs, fun z => pk5.ne (mnew g z) rfl, fun b hb z => sa5.not_new (mnew b z) hb, pk9.ne hN, sa9.not_new hN, ma9.not_new hN, ?_⟩
        intro b hb
        rcases List.mem_cons.mp hb with e | hb
        · rw [e]
          exact (k4.trans (k45.trans k59)).free hN
        · rcases List.mem_cons.mp hb with e | hb
          · rw [e]
            exact ng
          · rcases List.mem_append.mp hb with hb | hb
            · exact k4.free (snew b hb)
            · exact (k4.trans k45).free (mnew b hb)
      have lv : LiveR CS H3' N g s m H10 ⟨[], [], 0⟩ [] := ⟨k4.trans (k45.trans k5A), pk9.kp kN List.not_mem_nil, sa9.kp0 kN, ma9.kp0 kN, hN1, fun _ z => nomatch z⟩
      have mref : (V.ref mp : V) = .ref m.p := rfl
      rw [mref]
      clear_value m
      -- the changes
      refine ⟨_, rfl, g, 12, rfl, by omega, by omega, lv.pk, fun H11 r rl k11 pk11 => ⟨_, _, rfl, rfl, ?_⟩⟩
      refine ⟨_, rfl, by omega, by omega, for_it (walk_range (lo := 0) (n := 1 + r)) (fun j σ H12 => ∃ (st : SS) (ks : List KR) (q6 q7 q8 : Option V), σ = [some (.ref l), some (.int (i : Nat)), some (.ref g), some (.ref s.p), some (.ref m.p), some (.ref N), q6, q7, q8, o9, o10, o11, o12] ∧ LiveR CS H3' N g s m H12 st ks ∧ InvI j st ∧ ks.length ≤ j)
        ⟨⟨[], [], 0⟩, [], _, _, _, rfl, lv.draw dj k11 pk11, InvI.zero, Nat.le_refl _⟩ (fun _ _ _ _ _ => trivial) ?_ ?_⟩
      · rintro j v σ H12 H12' hj ⟨st, ks, q6, q7, q8, rfl, lv, iv, kl⟩ ⟨rfl, hv⟩
        refine ⟨_, rfl, g, 3, rfl, by omega, by omega, lv.pk, fun H13 z zl k13 pk13 => ⟨rfl, _, rfl, ?_⟩⟩
        have lv3 := lv.draw dj k13 pk13
        by_cases z0 : V.int (z : Int) = V.int 0
        · refine ifT (decide_eq_true z0) ?_
          refine ⟨_, rfl, _, rfl, _, rfl, g, s, m, st, rfl, lv3.pk, lv3.sa, lv3.ma, iv.sm1 (by omega), dj.gs, dj.gm, dj.sm, fun H14 w u b L q ps d x ok sa14 ma14 pk14 k14 nb nL nq kept kp => ?_⟩
          have lv4 := lv3.go dj k14 sa14 ma14 pk14
          have o4 : KOk (places N g s m) H14 ⟨b, L, q, ps, d, x⟩ := ⟨kept.at_, kept.ps_, kept.ls_, kp, lv3.not_new nb, lv3.not_new nL, lv3.not_new nq⟩
          refine ⟨_, rfl, rfl, _, rfl, ifF rfl ?_⟩
          refine ⟨_, rfl, .inl ⟨rfl, _, SqL.of lv4.nn⟩, _, rfl, N, _, _, rfl, rfl, lv4.nn, by rw [List.length_map, sz]; omega, ?_⟩
          exact ⟨_, _, _, _, _, rfl, lv4.keep dj o4, iv.after ok, by rw [List.length_append, List.length_singleton]; omega⟩
        · refine ifF (decide_eq_false z0) ?_
          refine ⟨_, rfl, _, rfl, g, m, st, rfl, lv3.pk, lv3.ma, iv.small (by omega), dj.gm, fun H14 t op k14 pk14 nt ht ok => ?_⟩
          have lv4 := lv3.draw dj k14 pk14
          have ts : t ∉ places N g s m := lv3.not_new nt
          have fr := resD_fine (res_fine iv (by omega) ok)
          have al := after_len st op
          have f1 := fr.dep
          have f2 := fr.len
          have sc : ∀ v ∈ (after st op).2, isScalar v = true := fun v hv => (res_fine iv (by omega) ok v hv).1
          refine ⟨_, rfl, _, rfl, s, t, st, op, rfl, lv4.sa, iv.sm1 (by omega), ht, ok, fun H15 b1 sa15 k15 n1 h1 => ⟨b1, resD (after st op).2, rfl, .lst (SqL.of h1) (dpAll_scalar sc), fr.sh, fr.nd, by omega, by rw [sz]; omega, ?_⟩⟩
          have tp15 : Tp H14 H15 := k15.tp lv4.sa.noTup
          have ma15 : MA m H15 st := lv4.ma.kp k15 tp15 fun b hb z => dj.sm b z hb
          have ht15 := tp15 _ _ ht
          refine ⟨_, rfl, _, rfl, m, t, st, op, rfl, ma15, iv.sm1 (by omega), ht15, ok, fun H16 b2 ma16 k16 n2 h2 => ⟨b2, resD (after st op).2, rfl, .lst (SqL.of h2) (dpAll_scalar sc), fr.sh, fr.nd, by omega, by rw [sz]; omega, rfl, _, rfl, ifF ?_ ?_⟩⟩
          · rw [decide_eq_true rfl]
            rfl
          · have tp16 : Tp H15 H16 := k16.tp ma15.noTup
            have sa16 := sa15.kp k16 tp16 dj.sm
            have pk15 := lv4.pk.kp k15 dj.gs
            have lv6 := lv4.go dj ((k15.mono (by intro a ha; simp [ha])).trans (k16.mono (by intro a ha; simp [ha]))) sa16 ma16 (pk15.kp k16 dj.gm)
            exact ⟨_, ks, _, _, _, rfl, lv6, iv.after ok, by omega⟩
      · rintro σ H12 ⟨st, ks, q6, q7, q8, rfl, lv, iv, kl⟩
        -- what was kept
        refine ⟨_, rfl, N, rfl, ⟨_, SqL.of lv.nn⟩, for_it (walk_list (K := K) (a := N) (xs := ks.map fun r => V.ref r.b)) (fun j σ H17 => ∃ p9 p10 p11 p12 : Option V, σ = [some (.ref l), some (.int (i : Nat)), some (.ref g), some (.ref s.p), some (.ref m.p), some (.ref N), q6, q7, q8, p9, p10, p11, p12] ∧ LiveR CS H3' N g s m H17 st ks)
          ⟨_, _, _, _, rfl, lv⟩ (fun j σ H17 _ h => by obtain ⟨_, _, _, _, _, h⟩ := h; exact SqL.of h.nn) ?_ ?_⟩
        · rintro j v σ H17 H17' hj ⟨p9, p10, p11, p12, rfl, lv7⟩ ⟨rfl, hv⟩
          rw [List.getElem?_map] at hv
          obtain ⟨kr, hkr, rfl⟩ := Option.map_eq_some_iff.mp hv
          have o7 := lv7.ok kr (List.mem_of_getElem? hkr)
          have fn := linesD_fine o7.ok.lg (by rw [List.length_map]; exact o7.ok.few) o7.ok.dl
          have f1 := fn.dep
          have f2 := fn.len
          refine ⟨kr.b, _, rfl, SqL.of o7.at_, rfl, _, _, rfl, _, _, rfl, _, _, rfl, _, _, rfl, rfl, ?_⟩
          refine ⟨_, rfl, kr.q, linesD kr.d, rfl, linesD_dp o7.ls_, fn.sh, fn.nd, by omega, by rw [sz]; omega, _, rfl, rfl, _, rfl, ifF (by rw [decide_eq_true rfl]; rfl) ?_⟩
          refine ⟨_, rfl, _, rfl, kr.L, kr.q, kr.ps, kr.d, rfl, o7.ps_, o7.ls_, o7.ok.sp, o7.ok.lg, o7.ok.dl, fun H18 k18 => ⟨_, rfl, rfl, _, rfl, ifF (by rw [o7.ok.val, decide_eq_true rfl]; rfl) ?_⟩⟩
          exact ⟨_, _, _, _, rfl, lv7.kp0 dj k18⟩
        · rintro σ H17 ⟨p9, p10, p11, p12, rfl, lv7⟩
          have ty := iv.tiny (show 1 + r ≤ 12 by omega)
          refine ⟨_, rfl, s, st, rfl, lv7.sa, ty, fun H20 k20 => ?_⟩
          refine ⟨_, rfl, m, st, rfl, (lv7.kp0 dj k20).ma, ty, fun H21 k21 => ?_⟩
          generalize (stateD st).shown = z
          refine ⟨rfl, _, rfl, ifF ?_ ?_⟩
          · rw [decide_eq_true rfl]
            rfl
          have lv9 := (lv7.kp0 dj k20).kp0 dj k21
          exact ⟨_, _, _, _, _, _, _, _, _, _, _, _, rfl, k3.trans lv9.kp⟩
    · rintro σ H3 ⟨o1, o2, o3, o4, o5, o6, o7, o8, o9, o10, o11, o12, rfl, k3⟩
      exact k _
end
end WK
end Text_WW21
section Text_WA
set_option Elab.async false
set_option linter.all false
set_option maxRecDepth 100000
set_option maxHeartbeats 4000000
/-! WA: the parts joined over the head's facts. -/
namespace WK
open PySem PySem.Spec L2 SX
open PyProof.Rows hiding St

theorem bn_LabelledFolding_generator_line {K : PySem.W.Frag} {f : Addr} {fd : FuncData} (F : FnD K WHead.d_LabelledFolding_generator_line f fd) : Binds K fd ["self", "index"] [] := FunD.bindsN (ps := ["self", "index"]) F fun _ _ _ _ _ _ us hl => match us, hl with | [_, _], _ => rfl
theorem bn_LabelledFolding_inverse_line {K : PySem.W.Frag} {f : Addr} {fd : FuncData} (F : FnD K WHead.d_LabelledFolding_inverse_line f fd) : Binds K fd ["self", "line"] [] := FunD.bindsN (ps := ["self", "line"]) F fun _ _ _ _ _ _ us hl => match us, hl with | [_, _], _ => rfl
theorem bn_LabelledFolding_product_line {K : PySem.W.Frag} {f : Addr} {fd : FuncData} (F : FnD K WHead.d_LabelledFolding_product_line f fd) : Binds K fd ["self", "first", "second"] [] := FunD.bindsN (ps := ["self", "first", "second"]) F fun _ _ _ _ _ _ us hl => match us, hl with | [_, _, _], _ => rfl
theorem bn_LabelledFolding_add_edge {K : PySem.W.Frag} {f : Addr} {fd : FuncData} (F : FnD K WHead.d_LabelledFolding_add_edge f fd) : Binds K fd ["self", "source", "step", "target", "label"] [] := FunD.bindsN (ps := ["self", "source", "step", "target", "label"]) F fun _ _ _ _ _ _ us hl => match us, hl with | [_, _, _, _, _], _ => rfl
theorem bn_LabelledFolding_walk {K : PySem.W.Frag} {f : Addr} {fd : FuncData} (F : FnD K WHead.d_LabelledFolding_walk f fd) : Binds K fd ["self", "path"] [] := FunD.bindsN (ps := ["self", "path"]) F fun _ _ _ _ _ _ us hl => match us, hl with | [_, _], _ => rfl
theorem bn_LabelledFolding_current {K : PySem.W.Frag} {f : Addr} {fd : FuncData} (F : FnD K WHead.d_LabelledFolding_current f fd) : Binds K fd ["self", "node"] [] := FunD.bindsN (ps := ["self", "node"]) F fun _ _ _ _ _ _ us hl => match us, hl with | [_, _], _ => rfl
theorem bn_LabelledFolding_merge {K : PySem.W.Frag} {f : Addr} {fd : FuncData} (F : FnD K WHead.d_LabelledFolding_merge f fd) : Binds K fd ["self", "kept", "removed", "label"] [] := FunD.bindsN (ps := ["self", "kept", "removed", "label"]) F fun _ _ _ _ _ _ us hl => match us, hl with | [_, _, _, _], _ => rfl
theorem bn_LabelledFolding_merge_pending {K : PySem.W.Frag} {f : Addr} {fd : FuncData} (F : FnD K WHead.d_LabelledFolding_merge_pending f fd) : Binds K fd ["self"] [] := FunD.bindsN (ps := ["self"]) F fun _ _ _ _ _ _ us hl => match us, hl with | [_], _ => rfl
theorem bn_LabelledFolding_add_generator {K : PySem.W.Frag} {f : Addr} {fd : FuncData} (F : FnD K WHead.d_LabelledFolding_add_generator f fd) : Binds K fd ["self", "index", "path"] [] := FunD.bindsN (ps := ["self", "index", "path"]) F fun _ _ _ _ _ _ us hl => match us, hl with | [_, _, _], _ => rfl
theorem bn_required_lines {K : PySem.W.Frag} {f : Addr} {fd : FuncData} (F : FnD K WHead.d_required_lines f fd) : Binds K fd ["lines", "last"] [] := FunD.bindsN (ps := ["lines", "last"]) F fun _ _ _ _ _ _ us hl => match us, hl with | [_, _], _ => rfl
theorem bn_LabelledFolding_derivation_of {K : PySem.W.Frag} {f : Addr} {fd : FuncData} (F : FnD K WHead.d_LabelledFolding_derivation_of f fd) : Binds K fd ["self", "path"] [] := FunD.bindsN (ps := ["self", "path"]) F fun _ _ _ _ _ _ us hl => match us, hl with | [_, _], _ => rfl
theorem bn_LabelledFolding_init {K : PySem.W.Frag} {f : Addr} {fd : FuncData} (F : FnD K WHead.d_LabelledFolding_init f fd) : Binds K fd ["self", "paths"] [] := FunD.bindsN (ps := ["self", "paths"]) F fun _ _ _ _ _ _ us hl => match us, hl with | [_, _], _ => rfl
theorem bn_derive_all {K : PySem.W.Frag} {f : Addr} {fd : FuncData} (F : FnD K WHead.d_derive_all f fd) : Binds K fd ["paths", "goals"] [] := FunD.bindsN (ps := ["paths", "goals"]) F fun _ _ _ _ _ _ us hl => match us, hl with | [_, _], _ => rfl
theorem bn_is_integer {K : PySem.W.Frag} {f : Addr} {fd : FuncData} (F : FnD K WHead.d_is_integer f fd) : Binds K fd ["value"] [] := FunD.bindsN (ps := ["value"]) F fun _ _ _ _ _ _ us hl => match us, hl with | [_], _ => rfl
theorem bn_law_is_integer {K : PySem.W.Frag} {f : Addr} {fd : FuncData} (F : FnD K WHead.d_law_is_integer f fd) : Binds K fd ["_law_value_here"] [] := FunD.bindsN (ps := ["_law_value_here"]) F fun _ _ _ _ _ _ us hl => match us, hl with | [_], _ => rfl
theorem bn_is_path {K : PySem.W.Frag} {f : Addr} {fd : FuncData} (F : FnD K WHead.d_is_path f fd) : Binds K fd ["value"] [] := FunD.bindsN (ps := ["value"]) F fun _ _ _ _ _ _ us hl => match us, hl with | [_], _ => rfl
theorem bn_require_path {K : PySem.W.Frag} {f : Addr} {fd : FuncData} (F : FnD K WHead.d_require_path f fd) : Binds K fd ["value"] [] := FunD.bindsN (ps := ["value"]) F fun _ _ _ _ _ _ us hl => match us, hl with | [_], _ => rfl
theorem bn_reduce_all {K : PySem.W.Frag} {f : Addr} {fd : FuncData} (F : FnD K WHead.d_reduce_all f fd) : Binds K fd ["parts"] [] := FunD.bindsN (ps := ["parts"]) F fun _ _ _ _ _ _ us hl => match us, hl with | [_], _ => rfl
theorem bn_reduced_generator {K : PySem.W.Frag} {f : Addr} {fd : FuncData} (F : FnD K WHead.d_reduced_generator f fd) : Binds K fd ["path"] [] := FunD.bindsN (ps := ["path"]) F fun _ _ _ _ _ _ us hl => match us, hl with | [_], _ => rfl
theorem bn_law_back {K : PySem.W.Frag} {f : Addr} {fd : FuncData} (F : FnD K WHead.d_law_back f fd) : Binds K fd ["_law_step"] [] := FunD.bindsN (ps := ["_law_step"]) F fun _ _ _ _ _ _ us hl => match us, hl with | [_], _ => rfl
theorem bn_law_reversed {K : PySem.W.Frag} {f : Addr} {fd : FuncData} (F : FnD K WHead.d_law_reversed f fd) : Binds K fd ["_law_path_here"] [] := FunD.bindsN (ps := ["_law_path_here"]) F fun _ _ _ _ _ _ us hl => match us, hl with | [_], _ => rfl
theorem bn_law_short {K : PySem.W.Frag} {f : Addr} {fd : FuncData} (F : FnD K WHead.d_law_short f fd) : Binds K fd ["_law_path_here"] [] := FunD.bindsN (ps := ["_law_path_here"]) F fun _ _ _ _ _ _ us hl => match us, hl with | [_], _ => rfl
theorem bn_law_end {K : PySem.W.Frag} {f : Addr} {fd : FuncData} (F : FnD K WHead.d_law_end f fd) : Binds K fd ["_law_targets", "_law_path_here", "_law_node"] [] := FunD.bindsN (ps := ["_law_targets", "_law_path_here", "_law_node"]) F fun _ _ _ _ _ _ us hl => match us, hl with | [_, _, _], _ => rfl
theorem bn_law_merged {K : PySem.W.Frag} {f : Addr} {fd : FuncData} (F : FnD K WHead.d_law_merged f fd) : Binds K fd ["_law_edge", "_law_pair"] [] := FunD.bindsN (ps := ["_law_edge", "_law_pair"]) F fun _ _ _ _ _ _ us hl => match us, hl with | [_, _], _ => rfl
theorem bn_law_conflict {K : PySem.W.Frag} {f : Addr} {fd : FuncData} (F : FnD K WHead.d_law_conflict f fd) : Binds K fd ["_law_edges"] [] := FunD.bindsN (ps := ["_law_edges"]) F fun _ _ _ _ _ _ us hl => match us, hl with | [_], _ => rfl
theorem bn_law_initial {K : PySem.W.Frag} {f : Addr} {fd : FuncData} (F : FnD K WHead.d_law_initial f fd) : Binds K fd ["_law_paths"] [] := FunD.bindsN (ps := ["_law_paths"]) F fun _ _ _ _ _ _ us hl => match us, hl with | [_], _ => rfl
theorem bn_law_folded {K : PySem.W.Frag} {f : Addr} {fd : FuncData} (F : FnD K WHead.d_law_folded f fd) : Binds K fd ["_law_paths"] [] := FunD.bindsN (ps := ["_law_paths"]) F fun _ _ _ _ _ _ us hl => match us, hl with | [_], _ => rfl
theorem bn_Session_init {K : PySem.W.Frag} {f : Addr} {fd : FuncData} (F : FnD K WHead.d_Session_init f fd) : Binds K fd ["self"] [] := FunD.bindsN (ps := ["self"]) F fun _ _ _ _ _ _ us hl => match us, hl with | [_], _ => rfl
theorem bn_Session_is_current {K : PySem.W.Frag} {f : Addr} {fd : FuncData} (F : FnD K WHead.d_Session_is_current f fd) : Binds K fd ["self", "entry"] [] := FunD.bindsN (ps := ["self", "entry"]) F fun _ _ _ _ _ _ us hl => match us, hl with | [_, _], _ => rfl
theorem bn_Session_entries {K : PySem.W.Frag} {f : Addr} {fd : FuncData} (F : FnD K WHead.d_Session_entries f fd) : Binds K fd ["self"] [] := FunD.bindsN (ps := ["self"]) F fun _ _ _ _ _ _ us hl => match us, hl with | [_], _ => rfl
theorem bn_Session_paths {K : PySem.W.Frag} {f : Addr} {fd : FuncData} (F : FnD K WHead.d_Session_paths f fd) : Binds K fd ["self"] [] := FunD.bindsN (ps := ["self"]) F fun _ _ _ _ _ _ us hl => match us, hl with | [_], _ => rfl
theorem bn_Session_require_user {K : PySem.W.Frag} {f : Addr} {fd : FuncData} (F : FnD K WHead.d_Session_require_user f fd) : Binds K fd ["self", "user"] [] := FunD.bindsN (ps := ["self", "user"]) F fun _ _ _ _ _ _ us hl => match us, hl with | [_, _], _ => rfl
theorem bn_Session_record {K : PySem.W.Frag} {f : Addr} {fd : FuncData} (F : FnD K WHead.d_Session_record f fd) : Binds K fd ["self", "user", "word", "entry"] [] := FunD.bindsN (ps := ["self", "user", "word", "entry"]) F fun _ _ _ _ _ _ us hl => match us, hl with | [_, _, _, _], _ => rfl
theorem bn_Session_history {K : PySem.W.Frag} {f : Addr} {fd : FuncData} (F : FnD K WHead.d_Session_history f fd) : Binds K fd ["self"] [] := FunD.bindsN (ps := ["self"]) F fun _ _ _ _ _ _ us hl => match us, hl with | [_], _ => rfl
theorem bn_Session_len {K : PySem.W.Frag} {f : Addr} {fd : FuncData} (F : FnD K WHead.d_Session_len f fd) : Binds K fd ["self"] [] := FunD.bindsN (ps := ["self"]) F fun _ _ _ _ _ _ us hl => match us, hl with | [_], _ => rfl
theorem bn_UnknownEntry_init {K : PySem.W.Frag} {f : Addr} {fd : FuncData} (F : FnD K WHead.d_UnknownEntry_init f fd) : Binds K fd ["self", "value"] [] := FunD.bindsN (ps := ["self", "value"]) F fun _ _ _ _ _ _ us hl => match us, hl with | [_, _], _ => rfl
theorem bn_NothingToUndo_init {K : PySem.W.Frag} {f : Addr} {fd : FuncData} (F : FnD K WHead.d_NothingToUndo_init f fd) : Binds K fd ["self", "user"] [] := FunD.bindsN (ps := ["self", "user"]) F fun _ _ _ _ _ _ us hl => match us, hl with | [_, _], _ => rfl
theorem bn_Session_repr {K : PySem.W.Frag} {f : Addr} {fd : FuncData} (F : FnD K WHead.d_Session_repr f fd) : Binds K fd ["self"] [] := FunD.bindsN (ps := ["self"]) F fun _ _ _ _ _ _ us hl => match us, hl with | [_], _ => rfl
theorem bn_law_pool {K : PySem.W.Frag} {f : Addr} {fd : FuncData} (F : FnD K WHead.d_law_pool f fd) : Binds K fd ["_law_script", "_law_index"] [] := FunD.bindsN (ps := ["_law_script", "_law_index"]) F fun _ _ _ _ _ _ us hl => match us, hl with | [_, _], _ => rfl
theorem bn_law_draw {K : PySem.W.Frag} {f : Addr} {fd : FuncData} (F : FnD K WHead.d_law_draw f fd) : Binds K fd ["_law_pool_here", "_law_bound"] [] := FunD.bindsN (ps := ["_law_pool_here", "_law_bound"]) F fun _ _ _ _ _ _ us hl => match us, hl with | [_, _], _ => rfl
theorem bn_law_path {K : PySem.W.Frag} {f : Addr} {fd : FuncData} (F : FnD K WHead.d_law_path f fd) : Binds K fd ["_law_pool_here", "_law_longest", "_law_letters"] [] := FunD.bindsN (ps := ["_law_pool_here", "_law_longest", "_law_letters"]) F fun _ _ _ _ _ _ us hl => match us, hl with | [_, _, _], _ => rfl
theorem bn_law_padded {K : PySem.W.Frag} {f : Addr} {fd : FuncData} (F : FnD K WHead.d_law_padded f fd) : Binds K fd ["_law_pool_here", "_law_path_here"] [] := FunD.bindsN (ps := ["_law_pool_here", "_law_path_here"]) F fun _ _ _ _ _ _ us hl => match us, hl with | [_, _], _ => rfl
theorem bn_law_product {K : PySem.W.Frag} {f : Addr} {fd : FuncData} (F : FnD K WHead.d_law_product f fd) : Binds K fd ["_law_pool_here", "_law_paths", "_law_most"] [] := FunD.bindsN (ps := ["_law_pool_here", "_law_paths", "_law_most"]) F fun _ _ _ _ _ _ us hl => match us, hl with | [_, _, _], _ => rfl
theorem bn_law_line {K : PySem.W.Frag} {f : Addr} {fd : FuncData} (F : FnD K WHead.d_law_line f fd) : Binds K fd ["_law_paths", "_law_values", "_law_line_here"] [] := FunD.bindsN (ps := ["_law_paths", "_law_values", "_law_line_here"]) F fun _ _ _ _ _ _ us hl => match us, hl with | [_, _, _], _ => rfl
theorem bn_law_value {K : PySem.W.Frag} {f : Addr} {fd : FuncData} (F : FnD K WHead.d_law_value f fd) : Binds K fd ["_law_paths", "_law_lines", "_law_longest"] [] := FunD.bindsN (ps := ["_law_paths", "_law_lines", "_law_longest"]) F fun _ _ _ _ _ _ us hl => match us, hl with | [_, _, _], _ => rfl
theorem bn_law_current {K : PySem.W.Frag} {f : Addr} {fd : FuncData} (F : FnD K WHead.d_law_current f fd) : Binds K fd ["_law_model"] [] := FunD.bindsN (ps := ["_law_model"]) F fun _ _ _ _ _ _ us hl => match us, hl with | [_], _ => rfl
theorem bn_law_listed {K : PySem.W.Frag} {f : Addr} {fd : FuncData} (F : FnD K WHead.d_law_listed f fd) : Binds K fd ["_law_model"] [] := FunD.bindsN (ps := ["_law_model"]) F fun _ _ _ _ _ _ us hl => match us, hl with | [_], _ => rfl
theorem bn_law_undone {K : PySem.W.Frag} {f : Addr} {fd : FuncData} (F : FnD K WHead.d_law_undone f fd) : Binds K fd ["_law_model", "_law_who"] [] := FunD.bindsN (ps := ["_law_model", "_law_who"]) F fun _ _ _ _ _ _ us hl => match us, hl with | [_, _], _ => rfl
theorem bn_law_expected {K : PySem.W.Frag} {f : Addr} {fd : FuncData} (F : FnD K WHead.d_law_expected f fd) : Binds K fd ["_law_model", "_law_change_here"] [] := FunD.bindsN (ps := ["_law_model", "_law_change_here"]) F fun _ _ _ _ _ _ us hl => match us, hl with | [_, _], _ => rfl
theorem bn_law_actual {K : PySem.W.Frag} {f : Addr} {fd : FuncData} (F : FnD K WHead.d_law_actual f fd) : Binds K fd ["_law_session", "_law_change_here"] [] := FunD.bindsN (ps := ["_law_session", "_law_change_here"]) F fun _ _ _ _ _ _ us hl => match us, hl with | [_, _], _ => rfl
theorem bn_law_state {K : PySem.W.Frag} {f : Addr} {fd : FuncData} (F : FnD K WHead.d_law_state f fd) : Binds K fd ["_law_session"] [] := FunD.bindsN (ps := ["_law_session"]) F fun _ _ _ _ _ _ us hl => match us, hl with | [_], _ => rfl
theorem bn_law_due {K : PySem.W.Frag} {f : Addr} {fd : FuncData} (F : FnD K WHead.d_law_due f fd) : Binds K fd ["_law_model"] [] := FunD.bindsN (ps := ["_law_model"]) F fun _ _ _ _ _ _ us hl => match us, hl with | [_], _ => rfl
theorem bn_law_change {K : PySem.W.Frag} {f : Addr} {fd : FuncData} (F : FnD K WHead.d_law_change f fd) : Binds K fd ["_law_pool_here", "_law_model"] [] := FunD.bindsN (ps := ["_law_pool_here", "_law_model"]) F fun _ _ _ _ _ _ us hl => match us, hl with | [_, _], _ => rfl
theorem bn_law_added {K : PySem.W.Frag} {f : Addr} {fd : FuncData} (F : FnD K WHead.d_law_added f fd) : Binds K fd ["_law_pool_here", "_law_session", "_law_model"] [] := FunD.bindsN (ps := ["_law_pool_here", "_law_session", "_law_model"]) F fun _ _ _ _ _ _ us hl => match us, hl with | [_, _, _], _ => rfl
theorem bn_law {K : PySem.W.Frag} {f : Addr} {fd : FuncData} (F : FnD K WHead.d_law f fd) : Binds K fd ["_law_script"] [] := FunD.bindsN (ps := ["_law_script"]) F fun _ _ _ _ _ _ us hl => match us, hl with | [_], _ => rfl
theorem ownX_of {K : PySem.W.Frag} {C : Addr} {newId : String} {bm : List Value} (h : WHead.ownB K C newId bm = true) : OwnX K C newId bm ∧ XfC K C ∧ PySem.W.typeIn K (.ref (He.ma K C "__init__")) = some (.type "function") := by
  obtain ⟨h0, h⟩ := He.ba h
  obtain ⟨h1, h⟩ := He.ba h
  obtain ⟨h2, h⟩ := He.ba h
  obtain ⟨h3, h⟩ := He.ba h
  obtain ⟨h4, h⟩ := He.ba h
  obtain ⟨h5, h6⟩ := He.ba h
  refine ⟨⟨?_, He.eqO_ok h1, of_decide_eq_true h2, of_decide_eq_true h3, h4⟩, xfB_ok h5, of_decide_eq_true h6⟩
  split at h0
  · rename_i dd cd sl ho
    split at h0
    · rename_i C' bm' k0 k1 k2 k3 n k5 hm hs
      obtain ⟨e1, h0⟩ := He.ba h0
      obtain ⟨e2, h0⟩ := He.ba h0
      obtain ⟨e3, h0⟩ := He.ba h0
      obtain ⟨e4, e5⟩ := He.ba h0
      obtain rfl := of_decide_eq_true e1
      obtain rfl := of_decide_eq_true e2
      obtain rfl := of_decide_eq_true e4
      obtain ⟨nm, bs, mro, ns, qn, hd, sn, sub, ab, col, del⟩ := cd
      dsimp only at hm e3 e5
      subst hm
      subst e5
      obtain rfl : del = false := by
        cases del with
        | true => cases e3
        | false => rfl
      have hsl : sl = #[k0, k1, k2, k3, some (.builtin n), k5] := by
        obtain ⟨l⟩ := sl
        simp only at hs
        rw [hs]
      subst hsl
      exact ⟨nm, qn, ns, bs, sn, sub, ab, col, dd, k0, k1, k2, k3, k5, ho⟩
    · cases h0
  · cases h0
theorem rel_str {z : Str} {v : Option Value} (h : ∃ t, v = some (.str z t)) : ∃ u, v = some u ∧ RelV (.str z) u := h.elim fun t e => ⟨_, e, t, rfl⟩
theorem rel_int {z : Int} {v : Option Value} (h : ∃ t, v = some (.int z t)) : ∃ u, v = some u ∧ RelV (.int z) u := h.elim fun t e => ⟨_, e, t, rfl⟩
theorem facts {P : Program} {w : World} {K : PySem.W.Frag} {h : Heap} {mg : Str → Option Value} {f : Addr} (X : K.In h) (G : h.Ns mainGlobals mg) (hfa : mg ("law" : Str) = some (.ref f)) (c : He.SaysD WHead.fa WHead.fn K) (ex : WHead.ex K = true) :
    ∃ fd : FuncData, (∀ (s : Shared) (v : Value), BindsTo s fd ⟨[v], []⟩ [("_law_script", v)]) ∧ ∀ base : Heap, K.In base → base.Ns mainGlobals mg → FnG P w K mg base C8.CX0 11 f fd ["_law_script"] (spLaw K) := by
  obtain ⟨fd_LabelledFolding_generator_line, F_LabelledFolding_generator_line⟩ := c.def_ 1 (d := WHead.d_LabelledFolding_generator_line) rfl
  obtain ⟨fd_LabelledFolding_inverse_line, F_LabelledFolding_inverse_line⟩ := c.def_ 2 (d := WHead.d_LabelledFolding_inverse_line) rfl
  obtain ⟨fd_LabelledFolding_product_line, F_LabelledFolding_product_line⟩ := c.def_ 3 (d := WHead.d_LabelledFolding_product_line) rfl
  obtain ⟨fd_LabelledFolding_add_edge, F_LabelledFolding_add_edge⟩ := c.def_ 6 (d := WHead.d_LabelledFolding_add_edge) rfl
  obtain ⟨fd_LabelledFolding_walk, F_LabelledFolding_walk⟩ := c.def_ 5 (d := WHead.d_LabelledFolding_walk) rfl
  obtain ⟨fd_LabelledFolding_current, F_LabelledFolding_current⟩ := c.def_ 7 (d := WHead.d_LabelledFolding_current) rfl
  obtain ⟨fd_LabelledFolding_merge, F_LabelledFolding_merge⟩ := c.def_ 9 (d := WHead.d_LabelledFolding_merge) rfl
  obtain ⟨fd_LabelledFolding_merge_pending, F_LabelledFolding_merge_pending⟩ := c.def_ 8 (d := WHead.d_LabelledFolding_merge_pending) rfl
  obtain ⟨fd_LabelledFolding_add_generator, F_LabelledFolding_add_generator⟩ := c.def_ 4 (d := WHead.d_LabelledFolding_add_generator) rfl
  obtain ⟨fd_required_lines, F_required_lines⟩ := c.def_ 30 (d := WHead.d_required_lines) rfl
  obtain ⟨fd_LabelledFolding_derivation_of, F_LabelledFolding_derivation_of⟩ := c.def_ 10 (d := WHead.d_LabelledFolding_derivation_of) rfl
  obtain ⟨fd_LabelledFolding_init, F_LabelledFolding_init⟩ := c.def_ 0 (d := WHead.d_LabelledFolding_init) rfl
  obtain ⟨fd_derive_all, F_derive_all⟩ := c.def_ 31 (d := WHead.d_derive_all) rfl
  obtain ⟨fd_is_integer, F_is_integer⟩ := c.def_ 25 (d := WHead.d_is_integer) rfl
  obtain ⟨fd_law_is_integer, F_law_is_integer⟩ := c.def_ 45 (d := WHead.d_law_is_integer) rfl
  obtain ⟨fd_is_path, F_is_path⟩ := c.def_ 26 (d := WHead.d_is_path) rfl
  obtain ⟨fd_require_path, F_require_path⟩ := c.def_ 27 (d := WHead.d_require_path) rfl
  obtain ⟨fd_reduce_all, F_reduce_all⟩ := c.def_ 28 (d := WHead.d_reduce_all) rfl
  obtain ⟨fd_reduced_generator, F_reduced_generator⟩ := c.def_ 29 (d := WHead.d_reduced_generator) rfl
  obtain ⟨fd_law_back, F_law_back⟩ := c.def_ 35 (d := WHead.d_law_back) rfl
  obtain ⟨fd_law_reversed, F_law_reversed⟩ := c.def_ 36 (d := WHead.d_law_reversed) rfl
  obtain ⟨fd_law_short, F_law_short⟩ := c.def_ 37 (d := WHead.d_law_short) rfl
  obtain ⟨fd_law_end, F_law_end⟩ := c.def_ 42 (d := WHead.d_law_end) rfl
  obtain ⟨fd_law_merged, F_law_merged⟩ := c.def_ 40 (d := WHead.d_law_merged) rfl
  obtain ⟨fd_law_conflict, F_law_conflict⟩ := c.def_ 39 (d := WHead.d_law_conflict) rfl
  obtain ⟨fd_law_initial, F_law_initial⟩ := c.def_ 38 (d := WHead.d_law_initial) rfl
  obtain ⟨fd_law_folded, F_law_folded⟩ := c.def_ 41 (d := WHead.d_law_folded) rfl
  obtain ⟨fd_Session_init, F_Session_init⟩ := c.def_ 11 (d := WHead.d_Session_init) rfl
  obtain ⟨fd_Session_is_current, F_Session_is_current⟩ := c.def_ 12 (d := WHead.d_Session_is_current) rfl
  obtain ⟨fd_Session_entries, F_Session_entries⟩ := c.def_ 13 (d := WHead.d_Session_entries) rfl
  obtain ⟨fd_Session_paths, F_Session_paths⟩ := c.def_ 14 (d := WHead.d_Session_paths) rfl
  obtain ⟨fd_Session_require_user, F_Session_require_user⟩ := c.def_ 15 (d := WHead.d_Session_require_user) rfl
  obtain ⟨fd_Session_record, F_Session_record⟩ := c.def_ 16 (d := WHead.d_Session_record) rfl
  obtain ⟨fd_Session_history, F_Session_history⟩ := c.def_ 20 (d := WHead.d_Session_history) rfl
  obtain ⟨fd_Session_len, F_Session_len⟩ := c.def_ 21 (d := WHead.d_Session_len) rfl
  obtain ⟨fd_UnknownEntry_init, F_UnknownEntry_init⟩ := c.def_ 23 (d := WHead.d_UnknownEntry_init) rfl
  obtain ⟨fd_NothingToUndo_init, F_NothingToUndo_init⟩ := c.def_ 24 (d := WHead.d_NothingToUndo_init) rfl
  obtain ⟨fd_Session_repr, F_Session_repr⟩ := c.def_ 22 (d := WHead.d_Session_repr) rfl
  obtain ⟨fd_Session_add_path, F_Session_add_path⟩ := c.def_ 17 (d := WHead.d_Session_add_path) rfl
  obtain ⟨fd_Session_remove_entry, F_Session_remove_entry⟩ := c.def_ 18 (d := WHead.d_Session_remove_entry) rfl
  obtain ⟨fd_Session_undo, F_Session_undo⟩ := c.def_ 19 (d := WHead.d_Session_undo) rfl
  obtain ⟨fd_law_pool, F_law_pool⟩ := c.def_ 32 (d := WHead.d_law_pool) rfl
  obtain ⟨fd_law_draw, F_law_draw⟩ := c.def_ 33 (d := WHead.d_law_draw) rfl
  obtain ⟨fd_law_path, F_law_path⟩ := c.def_ 34 (d := WHead.d_law_path) rfl
  obtain ⟨fd_law_padded, F_law_padded⟩ := c.def_ 44 (d := WHead.d_law_padded) rfl
  obtain ⟨fd_law_product, F_law_product⟩ := c.def_ 43 (d := WHead.d_law_product) rfl
  obtain ⟨fd_law_line, F_law_line⟩ := c.def_ 46 (d := WHead.d_law_line) rfl
  obtain ⟨fd_law_value, F_law_value⟩ := c.def_ 47 (d := WHead.d_law_value) rfl
  obtain ⟨fd_law_current, F_law_current⟩ := c.def_ 48 (d := WHead.d_law_current) rfl
  obtain ⟨fd_law_listed, F_law_listed⟩ := c.def_ 49 (d := WHead.d_law_listed) rfl
  obtain ⟨fd_law_undone, F_law_undone⟩ := c.def_ 50 (d := WHead.d_law_undone) rfl
  obtain ⟨fd_law_expected, F_law_expected⟩ := c.def_ 51 (d := WHead.d_law_expected) rfl
  obtain ⟨fd_law_actual, F_law_actual⟩ := c.def_ 52 (d := WHead.d_law_actual) rfl
  obtain ⟨fd_law_state, F_law_state⟩ := c.def_ 53 (d := WHead.d_law_state) rfl
  obtain ⟨fd_law_due, F_law_due⟩ := c.def_ 54 (d := WHead.d_law_due) rfl
  obtain ⟨fd_law_change, F_law_change⟩ := c.def_ 55 (d := WHead.d_law_change) rfl
  obtain ⟨fd_law_added, F_law_added⟩ := c.def_ 56 (d := WHead.d_law_added) rfl
  obtain ⟨fd_law, F_law⟩ := c.def_ 57 (d := WHead.d_law) rfl
  have T : Txt K mg (He.ga K "LabelledFolding") (He.ga K "Session") := {
    f_isinstance := He.free_ok X G (c.fact 40 (f := .free "isinstance") rfl)
    f_len := He.free_ok X G (c.fact 41 (f := .free "len") rfl)
    f_all := He.free_ok X G (c.fact 42 (f := .free "all") rfl)
    f_range := He.free_ok X G (c.fact 43 (f := .free "range") rfl)
    f_sorted := He.free_ok X G (c.fact 44 (f := .free "sorted") rfl)
    f_list := He.free_ok X G (c.fact 45 (f := .free "list") rfl)
    f_tuple := He.free_ok X G (c.fact 46 (f := .free "tuple") rfl)
    f_enumerate := He.free_ok X G (c.fact 47 (f := .free "enumerate") rfl)
    f_int := He.free_ok X G (c.fact 48 (f := .free "int") rfl)
    f_max := He.free_ok X G (c.fact 49 (f := .free "max") rfl)
    f_min := He.free_ok X G (c.fact 50 (f := .free "min") rfl)
    f_repr := He.free_ok X G (c.fact 51 (f := .free "repr") rfl)
    f_str := He.free_ok X G (c.fact 52 (f := .free "str") rfl)
    f_bool := He.free_ok X G (c.fact 53 (f := .free "bool") rfl)
    g_STEPS := rel_str (He.str_ok X G (c.fact 56 (f := .str "STEPS" "aAbBcCdD") rfl))
    g_MAX_STEPS := rel_int (He.int_ok X G (c.fact 57 (f := .int "MAX_STEPS" 400) rfl))
    g_MAX_GENERATORS := rel_int (He.int_ok X G (c.fact 58 (f := .int "MAX_GENERATORS" 16) rfl))
    g_MAX_GENERATOR_STEPS := rel_int (He.int_ok X G (c.fact 59 (f := .int "MAX_GENERATOR_STEPS" 60) rfl))
    g_USER_COUNT := rel_int (He.int_ok X G (c.fact 60 (f := .int "USER_COUNT" 4) rfl))
    g_MAX_CHANGES := rel_int (He.int_ok X G (c.fact 61 (f := .int "MAX_CHANGES" 200) rfl))
    clF := He.cls_ok (c.fact 62 (f := .cls "LabelledFolding") rfl)
    nL := He.noat_ok (c.fact 89 (f := .noat "LabelledFolding" "lines") rfl)
    nT := He.noat_ok (c.fact 90 (f := .noat "LabelledFolding" "targets_of") rfl)
    nM := He.noat_ok (c.fact 91 (f := .noat "LabelledFolding" "merged") rfl)
    nN := He.noat_ok (c.fact 92 (f := .noat "LabelledFolding" "next_node") rfl)
    nP := He.noat_ok (c.fact 93 (f := .noat "LabelledFolding" "pending") rfl)
    clS := He.cls_ok (c.fact 75 (f := .cls "Session") rfl)
    nA := He.noat_ok (c.fact 94 (f := .noat "Session" "added") rfl)
    nC := He.noat_ok (c.fact 95 (f := .noat "Session" "changes") rfl)
    nK := He.noat_ok (c.fact 96 (f := .noat "Session" "change_count") rfl)
  }
  obtain ⟨exU, exN⟩ := He.ba ex
  obtain ⟨oU, xfU, tU⟩ := ownX_of exU
  obtain ⟨oN, xfN, tN⟩ := ownX_of exN
  have TX : TxtX K mg (He.ga K "UnknownEntry") (He.ga K "NothingToUndo") (He.ma K (He.ga K "UnknownEntry") "__init__") (He.ma K (He.ga K "NothingToUndo") "__init__") := {
    f_IndexError := He.free_ok X G (c.fact 54 (f := .free "IndexError") rfl)
    f_RuntimeError := He.free_ok X G (c.fact 55 (f := .free "RuntimeError") rfl)
    oU := oU
    oN := oN
    nU := He.noat_ok (c.fact 97 (f := .noat "UnknownEntry" "value") rfl)
    nN := He.noat_ok (c.fact 98 (f := .noat "NothingToUndo" "user") rfl)
    gU := (He.glo_ok X G (c.fact 35 (f := .glo "UnknownEntry") rfl))
    gN := (He.glo_ok X G (c.fact 36 (f := .glo "NothingToUndo") rfl))
    iU := (He.meth_ok (c.fact 103 (f := .meth "UnknownEntry" "__init__") rfl)).at_
    iN := (He.meth_ok (c.fact 104 (f := .meth "NothingToUndo" "__init__") rfl)).at_
    tU := tU
    tN := tN
  }
  have TE : TxtE K mg (He.ga K "UnknownEntry") (He.ga K "NothingToUndo") (He.ga K "InvalidUser") (He.ga K "LimitExceeded") := {
    gI := (He.glo_ok X G (c.fact 37 (f := .glo "InvalidUser") rfl))
    gL := (He.glo_ok X G (c.fact 38 (f := .glo "LimitExceeded") rfl))
    xU := xfU
    xN := xfN
    uu := He.exm_ok (c.fact 99 (f := .exm "UnknownEntry" "UnknownEntry" true) rfl)
    nu := He.exm_ok (c.fact 100 (f := .exm "NothingToUndo" "UnknownEntry" false) rfl)
    ni := He.exm_ok (c.fact 101 (f := .exm "NothingToUndo" "InvalidUser" false) rfl)
    nn := He.exm_ok (c.fact 102 (f := .exm "NothingToUndo" "NothingToUndo" true) rfl)
  }
  have e := hfa.symm.trans (He.glo_ok X G (c.fact 32 (f := .glo "law") rfl))
  cases e
  have bl := FunD.bindsA (ps := ["_law_script"]) F_law fun _ _ _ _ _ _ us hl => match us, hl with | [_], _ => rfl
  refine ⟨fd_law, fun s v => bl s [v] rfl, fun base _ _ => ?_⟩
  have o_LabelledFolding_generator_line := ok_LabelledFolding_generator_line (P := P) (w := w) (base := base) F_LabelledFolding_generator_line T
  have m_LabelledFolding_generator_line : MetE P w K mg base 1 (He.ga K "LabelledFolding") "generator_line" (spGenLine (He.ga K "LabelledFolding")) := metE T.clF (He.meth_ok (c.fact 65 (f := .meth "LabelledFolding" "generator_line") rfl)) o_LabelledFolding_generator_line (bn_LabelledFolding_generator_line F_LabelledFolding_generator_line)
  have o_LabelledFolding_inverse_line := ok_LabelledFolding_inverse_line (P := P) (w := w) (base := base) F_LabelledFolding_inverse_line T
  have m_LabelledFolding_inverse_line : MetE P w K mg base 1 (He.ga K "LabelledFolding") "inverse_line" (spInvLine (He.ga K "LabelledFolding")) := metE T.clF (He.meth_ok (c.fact 66 (f := .meth "LabelledFolding" "inverse_line") rfl)) o_LabelledFolding_inverse_line (bn_LabelledFolding_inverse_line F_LabelledFolding_inverse_line)
  have o_LabelledFolding_product_line := ok_LabelledFolding_product_line (P := P) (w := w) (base := base) F_LabelledFolding_product_line T
  have m_LabelledFolding_product_line : MetE P w K mg base 1 (He.ga K "LabelledFolding") "product_line" (spProdLine (He.ga K "LabelledFolding")) := metE T.clF (He.meth_ok (c.fact 67 (f := .meth "LabelledFolding" "product_line") rfl)) o_LabelledFolding_product_line (bn_LabelledFolding_product_line F_LabelledFolding_product_line)
  have o_LabelledFolding_add_edge := ok_LabelledFolding_add_edge (P := P) (w := w) (base := base) F_LabelledFolding_add_edge T m_LabelledFolding_inverse_line m_LabelledFolding_product_line
  have m_LabelledFolding_add_edge : MetE P w K mg base 2 (He.ga K "LabelledFolding") "add_edge" (spAddEdge (He.ga K "LabelledFolding")) := metE T.clF (He.meth_ok (c.fact 70 (f := .meth "LabelledFolding" "add_edge") rfl)) o_LabelledFolding_add_edge (bn_LabelledFolding_add_edge F_LabelledFolding_add_edge)
  have o_LabelledFolding_walk := ok_LabelledFolding_walk (P := P) (w := w) (base := base) F_LabelledFolding_walk T m_LabelledFolding_product_line
  have m_LabelledFolding_walk : MetE P w K mg base 2 (He.ga K "LabelledFolding") "walk" (spWalk (He.ga K "LabelledFolding")) := metE T.clF (He.meth_ok (c.fact 69 (f := .meth "LabelledFolding" "walk") rfl)) o_LabelledFolding_walk (bn_LabelledFolding_walk F_LabelledFolding_walk)
  have o_LabelledFolding_current := ok_LabelledFolding_current (P := P) (w := w) (base := base) F_LabelledFolding_current T m_LabelledFolding_product_line
  have m_LabelledFolding_current : MetE P w K mg base 2 (He.ga K "LabelledFolding") "current" (spCurrent (He.ga K "LabelledFolding")) := metE T.clF (He.meth_ok (c.fact 71 (f := .meth "LabelledFolding" "current") rfl)) o_LabelledFolding_current (bn_LabelledFolding_current F_LabelledFolding_current)
  have o_LabelledFolding_merge := ok_LabelledFolding_merge (P := P) (w := w) (base := base) F_LabelledFolding_merge T m_LabelledFolding_inverse_line m_LabelledFolding_product_line m_LabelledFolding_add_edge
  have m_LabelledFolding_merge : MetE P w K mg base 3 (He.ga K "LabelledFolding") "merge" (spMerge (He.ga K "LabelledFolding")) := metE T.clF (He.meth_ok (c.fact 73 (f := .meth "LabelledFolding" "merge") rfl)) o_LabelledFolding_merge (bn_LabelledFolding_merge F_LabelledFolding_merge)
  have o_LabelledFolding_merge_pending := ok_LabelledFolding_merge_pending (P := P) (w := w) (base := base) F_LabelledFolding_merge_pending T m_LabelledFolding_inverse_line m_LabelledFolding_product_line m_LabelledFolding_current m_LabelledFolding_merge
  have m_LabelledFolding_merge_pending : MetE P w K mg base 4 (He.ga K "LabelledFolding") "merge_pending" (spMergePending (He.ga K "LabelledFolding")) := metE T.clF (He.meth_ok (c.fact 72 (f := .meth "LabelledFolding" "merge_pending") rfl)) o_LabelledFolding_merge_pending (bn_LabelledFolding_merge_pending F_LabelledFolding_merge_pending)
  have o_LabelledFolding_add_generator := ok_LabelledFolding_add_generator (P := P) (w := w) (base := base) F_LabelledFolding_add_generator T m_LabelledFolding_generator_line m_LabelledFolding_inverse_line m_LabelledFolding_product_line m_LabelledFolding_walk m_LabelledFolding_add_edge m_LabelledFolding_merge_pending
  have m_LabelledFolding_add_generator : MetE P w K mg base 5 (He.ga K "LabelledFolding") "add_generator" (spAddGen (He.ga K "LabelledFolding")) := metE T.clF (He.meth_ok (c.fact 68 (f := .meth "LabelledFolding" "add_generator") rfl)) o_LabelledFolding_add_generator (bn_LabelledFolding_add_generator F_LabelledFolding_add_generator)
  have o_required_lines := ok_required_lines (P := P) (w := w) (base := base) F_required_lines T
  have c_required_lines : CalE P w K mg base 1 "required_lines" spReqLines := calE F_required_lines o_required_lines (He.glo_ok X G (c.fact 5 (f := .glo "required_lines") rfl)) (bn_required_lines F_required_lines)
  have o_LabelledFolding_derivation_of := ok_LabelledFolding_derivation_of (P := P) (w := w) (base := base) F_LabelledFolding_derivation_of T m_LabelledFolding_walk c_required_lines
  have m_LabelledFolding_derivation_of : MetE P w K mg base 3 (He.ga K "LabelledFolding") "derivation_of" (spDeriv (He.ga K "LabelledFolding")) := metE T.clF (He.meth_ok (c.fact 74 (f := .meth "LabelledFolding" "derivation_of") rfl)) o_LabelledFolding_derivation_of (bn_LabelledFolding_derivation_of F_LabelledFolding_derivation_of)
  have o_LabelledFolding_init := ok_LabelledFolding_init (P := P) (w := w) (base := base) F_LabelledFolding_init T m_LabelledFolding_add_generator
  have k_LabelledFolding : C8.Mak P w K mg base 6 "LabelledFolding" (He.ga K "LabelledFolding") (spInitF K (He.ga K "LabelledFolding")) [] := ⟨⟨_, _, _, _, He.mkr_ok (c.fact 63 (f := .mkr "LabelledFolding") rfl), o_LabelledFolding_init, (He.glo_ok X G (c.fact 33 (f := .glo "LabelledFolding") rfl)), bn_LabelledFolding_init F_LabelledFolding_init, .nil⟩⟩
  have o_derive_all := ok_derive_all (P := P) (w := w) (base := base) F_derive_all T k_LabelledFolding m_LabelledFolding_derivation_of
  have c_derive_all : CalE P w K mg base 8 "derive_all" (spDeriveAll K) := calE F_derive_all o_derive_all (He.glo_ok X G (c.fact 6 (f := .glo "derive_all") rfl)) (bn_derive_all F_derive_all)
  have o_is_integer := ok_is_integer (P := P) (w := w) (base := base) F_is_integer T
  have c_is_integer : CalE P w K mg base 1 "is_integer" spInt := calE F_is_integer o_is_integer (He.glo_ok X G (c.fact 0 (f := .glo "is_integer") rfl)) (bn_is_integer F_is_integer)
  have o_law_is_integer := ok_law_is_integer (P := P) (w := w) (base := base) F_law_is_integer T
  have c_law_is_integer : CalE P w K mg base 1 "_law_is_integer" spInt := calE F_law_is_integer o_law_is_integer (He.glo_ok X G (c.fact 20 (f := .glo "_law_is_integer") rfl)) (bn_law_is_integer F_law_is_integer)
  have o_is_path := ok_is_path (P := P) (w := w) (base := base) F_is_path T
  have c_is_path : CalE P w K mg base 1 "is_path" spIsPath := calE F_is_path o_is_path (He.glo_ok X G (c.fact 1 (f := .glo "is_path") rfl)) (bn_is_path F_is_path)
  have o_require_path := ok_require_path (P := P) (w := w) (base := base) F_require_path T c_is_path
  have c_require_path : CalE P w K mg base 2 "require_path" spReqPath := calE F_require_path o_require_path (He.glo_ok X G (c.fact 2 (f := .glo "require_path") rfl)) (bn_require_path F_require_path)
  have o_reduce_all := ok_reduce_all (P := P) (w := w) (base := base) F_reduce_all T
  have c_reduce_all : CalE P w K mg base 1 "reduce_all" (spRedAll K) := calE F_reduce_all o_reduce_all (He.glo_ok X G (c.fact 3 (f := .glo "reduce_all") rfl)) (bn_reduce_all F_reduce_all)
  have o_reduced_generator := ok_reduced_generator (P := P) (w := w) (base := base) F_reduced_generator T c_reduce_all
  have c_reduced_generator : CalE P w K mg base 2 "reduced_generator" spRedGen := calE F_reduced_generator o_reduced_generator (He.glo_ok X G (c.fact 4 (f := .glo "reduced_generator") rfl)) (bn_reduced_generator F_reduced_generator)
  have o_law_back := ok_law_back (P := P) (w := w) (base := base) F_law_back T
  have c_law_back : CalE P w K mg base 1 "_law_back" spBack := calE F_law_back o_law_back (He.glo_ok X G (c.fact 10 (f := .glo "_law_back") rfl)) (bn_law_back F_law_back)
  have o_law_reversed := ok_law_reversed (P := P) (w := w) (base := base) F_law_reversed T c_law_back
  have c_law_reversed : CalE P w K mg base 2 "_law_reversed" spRev := calE F_law_reversed o_law_reversed (He.glo_ok X G (c.fact 11 (f := .glo "_law_reversed") rfl)) (bn_law_reversed F_law_reversed)
  have o_law_short := ok_law_short (P := P) (w := w) (base := base) F_law_short T c_law_back
  have c_law_short : CalE P w K mg base 2 "_law_short" spShort := calE F_law_short o_law_short (He.glo_ok X G (c.fact 12 (f := .glo "_law_short") rfl)) (bn_law_short F_law_short)
  have o_law_end := ok_law_end (P := P) (w := w) (base := base) F_law_end T
  have c_law_end : CalE P w K mg base 1 "_law_end" spEnd := calE F_law_end o_law_end (He.glo_ok X G (c.fact 17 (f := .glo "_law_end") rfl)) (bn_law_end F_law_end)
  have o_law_merged := ok_law_merged (P := P) (w := w) (base := base) F_law_merged T
  have c_law_merged : CalE P w K mg base 1 "_law_merged" spMerged := calE F_law_merged o_law_merged (He.glo_ok X G (c.fact 15 (f := .glo "_law_merged") rfl)) (bn_law_merged F_law_merged)
  have o_law_conflict := ok_law_conflict (P := P) (w := w) (base := base) F_law_conflict T c_law_back
  have c_law_conflict : CalE P w K mg base 2 "_law_conflict" spConflict := calE F_law_conflict o_law_conflict (He.glo_ok X G (c.fact 14 (f := .glo "_law_conflict") rfl)) (bn_law_conflict F_law_conflict)
  have o_law_initial := ok_law_initial (P := P) (w := w) (base := base) F_law_initial T c_law_back c_law_short
  have c_law_initial : CalE P w K mg base 3 "_law_initial" (spInitial K) := calE F_law_initial o_law_initial (He.glo_ok X G (c.fact 13 (f := .glo "_law_initial") rfl)) (bn_law_initial F_law_initial)
  have o_law_folded := ok_law_folded (P := P) (w := w) (base := base) F_law_folded T c_law_initial c_law_conflict c_law_merged
  have c_law_folded : CalE P w K mg base 4 "_law_folded" (spFolded K) := calE F_law_folded o_law_folded (He.glo_ok X G (c.fact 16 (f := .glo "_law_folded") rfl)) (bn_law_folded F_law_folded)
  have o_Session_init := ok_Session_init (P := P) (w := w) (base := base) F_Session_init T
  have k_Session : C8.Mak P w K mg base 1 "Session" (He.ga K "Session") (spInitS (He.ga K "Session")) [] := ⟨⟨_, _, _, _, He.mkr_ok (c.fact 76 (f := .mkr "Session") rfl), o_Session_init, (He.glo_ok X G (c.fact 34 (f := .glo "Session") rfl)), bn_Session_init F_Session_init, .nil⟩⟩
  have o_Session_is_current := ok_Session_is_current (P := P) (w := w) (base := base) F_Session_is_current T
  have m_Session_is_current : MetE P w K mg base 1 (He.ga K "Session") "is_current" (spCur (He.ga K "Session")) := metE T.clS (He.meth_ok (c.fact 78 (f := .meth "Session" "is_current") rfl)) o_Session_is_current (bn_Session_is_current F_Session_is_current)
  have o_Session_entries := ok_Session_entries (P := P) (w := w) (base := base) F_Session_entries T m_Session_is_current
  have m_Session_entries : MetE P w K mg base 2 (He.ga K "Session") "entries" (spEntries (He.ga K "Session")) := metE T.clS (He.meth_ok (c.fact 79 (f := .meth "Session" "entries") rfl)) o_Session_entries (bn_Session_entries F_Session_entries)
  have o_Session_paths := ok_Session_paths (P := P) (w := w) (base := base) F_Session_paths T m_Session_entries c_reduce_all
  have m_Session_paths : MetE P w K mg base 3 (He.ga K "Session") "paths" (spPaths (He.ga K "Session")) := metE T.clS (He.meth_ok (c.fact 80 (f := .meth "Session" "paths") rfl)) o_Session_paths (bn_Session_paths F_Session_paths)
  have o_Session_require_user := ok_Session_require_user (P := P) (w := w) (base := base) F_Session_require_user T c_is_integer
  have m_Session_require_user : MetE P w K mg base 2 (He.ga K "Session") "require_user" (spUser (He.ga K "Session")) := metE T.clS (He.meth_ok (c.fact 81 (f := .meth "Session" "require_user") rfl)) o_Session_require_user (bn_Session_require_user F_Session_require_user)
  have o_Session_record := ok_Session_record (P := P) (w := w) (base := base) F_Session_record T
  have m_Session_record : MetE P w K mg base 1 (He.ga K "Session") "record" (spRecord (He.ga K "Session")) := metE T.clS (He.meth_ok (c.fact 82 (f := .meth "Session" "record") rfl)) o_Session_record (bn_Session_record F_Session_record)
  have o_Session_history := ok_Session_history (P := P) (w := w) (base := base) F_Session_history T
  have m_Session_history : MetE P w K mg base 1 (He.ga K "Session") "history" (spHist (He.ga K "Session")) := metE T.clS (He.meth_ok (c.fact 86 (f := .meth "Session" "history") rfl)) o_Session_history (bn_Session_history F_Session_history)
  have o_Session_len := ok_Session_len (P := P) (w := w) (base := base) F_Session_len T m_Session_entries
  have xL := o_Session_len
  have bL := bn_Session_len (K := K) F_Session_len
  have mL := (He.meth_ok (c.fact 87 (f := .meth "Session" "__len__") rfl))
  have o_UnknownEntry_init := ok_UnknownEntry_init (P := P) (w := w) (base := base) F_UnknownEntry_init TX
  have xU := o_UnknownEntry_init
  have bU := bn_UnknownEntry_init (K := K) F_UnknownEntry_init
  have o_NothingToUndo_init := ok_NothingToUndo_init (P := P) (w := w) (base := base) F_NothingToUndo_init TX
  have xN := o_NothingToUndo_init
  have bN := bn_NothingToUndo_init (K := K) F_NothingToUndo_init
  have o_Session_repr := ok_Session_repr (P := P) (w := w) (base := base) F_Session_repr T m_Session_entries
  have xR := o_Session_repr
  have bR := bn_Session_repr (K := K) F_Session_repr
  have mR := (He.meth_ok (c.fact 88 (f := .meth "Session" "__repr__") rfl))
  have o_Session_add_path := ok_Session_add_path (P := P) (w := w) (base := base) F_Session_add_path T c_require_path c_reduced_generator c_derive_all m_Session_require_user m_Session_entries m_Session_paths m_Session_record
  have m_Session_add_path : MetK P w K mg base C8.CX0 9 (He.ga K "Session") "add_path" (spAddPath (He.ga K "Session")) ["self", "path", "user"] ["user"] g2 g2 := ⟨_, _, T.clS, (He.meth_ok (c.fact 83 (f := .meth "Session" "add_path") rfl)), o_Session_add_path, kb_add_path F_Session_add_path⟩
  have o_Session_remove_entry := ok_Session_remove_entry (P := P) (w := w) (base := base) F_Session_remove_entry T TX xU bU c_is_integer m_Session_is_current m_Session_require_user m_Session_record
  have m_Session_remove_entry : MetK P w K mg base (L2.CX P w) 3 (He.ga K "Session") "remove_entry" (spRemove (He.ga K "Session") (He.ga K "UnknownEntry")) ["self", "entry", "user"] ["user"] g2 g2 := ⟨_, _, T.clS, (He.meth_ok (c.fact 84 (f := .meth "Session" "remove_entry") rfl)), o_Session_remove_entry, kb_remove_entry F_Session_remove_entry⟩
  have o_Session_undo := ok_Session_undo (P := P) (w := w) (base := base) F_Session_undo T TX xN bN m_Session_require_user m_Session_entries
  have m_Session_undo : MetK P w K mg base (L2.CX P w) 3 (He.ga K "Session") "undo" (spUndo (He.ga K "Session") (He.ga K "NothingToUndo")) ["self", "user"] ["user"] g1 g1 := ⟨_, _, T.clS, (He.meth_ok (c.fact 85 (f := .meth "Session" "undo") rfl)), o_Session_undo, kb_undo F_Session_undo⟩
  have o_law_pool := ok_law_pool (P := P) (wd := w) (base := base) F_law_pool T
  have c_law_pool : CalE P w K mg base 1 "_law_pool" (spPool K) := calE F_law_pool o_law_pool (He.glo_ok X G (c.fact 7 (f := .glo "_law_pool") rfl)) (bn_law_pool F_law_pool)
  have o_law_draw := ok_law_draw (P := P) (wd := w) (base := base) F_law_draw T
  have c_law_draw : CalE P w K mg base 1 "_law_draw" spDraw := calE F_law_draw o_law_draw (He.glo_ok X G (c.fact 8 (f := .glo "_law_draw") rfl)) (bn_law_draw F_law_draw)
  have o_law_path := ok_law_path (P := P) (wd := w) (base := base) F_law_path T c_law_draw
  have c_law_path : CalE P w K mg base 2 "_law_path" spPathL := calE F_law_path o_law_path (He.glo_ok X G (c.fact 9 (f := .glo "_law_path") rfl)) (bn_law_path F_law_path)
  have o_law_padded := ok_law_padded (P := P) (wd := w) (base := base) F_law_padded T c_law_draw c_law_back
  have c_law_padded : CalE P w K mg base 2 "_law_padded" spPadded := calE F_law_padded o_law_padded (He.glo_ok X G (c.fact 19 (f := .glo "_law_padded") rfl)) (bn_law_padded F_law_padded)
  have o_law_product := ok_law_product (P := P) (wd := w) (base := base) F_law_product T c_law_draw c_law_reversed
  have c_law_product : CalE P w K mg base 3 "_law_product" spProduct := calE F_law_product o_law_product (He.glo_ok X G (c.fact 18 (f := .glo "_law_product") rfl)) (bn_law_product F_law_product)
  have o_law_line := ok_law_line (P := P) (wd := w) (base := base) F_law_line T c_law_is_integer c_law_short c_law_reversed
  have c_law_line : CalE P w K mg base 3 "_law_line" spLine := calE F_law_line o_law_line (He.glo_ok X G (c.fact 21 (f := .glo "_law_line") rfl)) (bn_law_line F_law_line)
  have o_law_value := ok_law_value (P := P) (wd := w) (base := base) F_law_value T c_law_line
  have c_law_value : CalE P w K mg base 4 "_law_value" spValue := calE F_law_value o_law_value (He.glo_ok X G (c.fact 22 (f := .glo "_law_value") rfl)) (bn_law_value F_law_value)
  have o_law_current := ok_law_current (P := P) (wd := w) (base := base) F_law_current T
  have c_law_current : CalE P w K mg base 1 "_law_current" spCurL := calE F_law_current o_law_current (He.glo_ok X G (c.fact 23 (f := .glo "_law_current") rfl)) (bn_law_current F_law_current)
  have o_law_listed := ok_law_listed (P := P) (wd := w) (base := base) F_law_listed T c_law_current
  have c_law_listed : CalE P w K mg base 2 "_law_listed" spListed := calE F_law_listed o_law_listed (He.glo_ok X G (c.fact 24 (f := .glo "_law_listed") rfl)) (bn_law_listed F_law_listed)
  have o_law_undone := ok_law_undone (P := P) (wd := w) (base := base) F_law_undone T c_law_current
  have c_law_undone : CalE P w K mg base 2 "_law_undone" spUndone := calE F_law_undone o_law_undone (He.glo_ok X G (c.fact 25 (f := .glo "_law_undone") rfl)) (bn_law_undone F_law_undone)
  have o_law_expected := ok_law_expected (P := P) (wd := w) (base := base) F_law_expected T c_law_is_integer c_law_current c_law_listed c_law_undone c_law_short c_law_folded c_law_end
  have c_law_expected : CalE P w K mg base 5 "_law_expected" spExpected := calE F_law_expected o_law_expected (He.glo_ok X G (c.fact 26 (f := .glo "_law_expected") rfl)) (bn_law_expected F_law_expected)
  have o_law_actual := ok_law_actual (P := P) (wd := w) (base := base) F_law_actual T TX TE m_Session_add_path m_Session_remove_entry m_Session_undo
  have c_law_actual : CalE P w K mg base 10 "_law_actual" (spActual (He.ga K "Session")) := calE F_law_actual o_law_actual (He.glo_ok X G (c.fact 27 (f := .glo "_law_actual") rfl)) (bn_law_actual F_law_actual)
  have o_law_state := ok_law_state (P := P) (wd := w) (base := base) F_law_state T m_Session_entries m_Session_history xL bL mL xR bR mR
  have c_law_state : CalG P w K mg base 5 "_law_state" (spState (He.ga K "Session")) := ⟨_, _, _, o_law_state, (He.glo_ok X G (c.fact 28 (f := .glo "_law_state") rfl)), F_law_state.kp, bn_law_state F_law_state⟩
  have o_law_due := ok_law_due (P := P) (wd := w) (base := base) F_law_due T c_law_current
  have c_law_due : CalG P w K mg base 2 "_law_due" spDue := ⟨_, _, _, o_law_due, (He.glo_ok X G (c.fact 29 (f := .glo "_law_due") rfl)), F_law_due.kp, bn_law_due F_law_due⟩
  have o_law_change := ok_law_change (P := P) (wd := w) (base := base) F_law_change T c_law_draw c_law_path c_law_listed c_law_product c_law_short
  have c_law_change : CalE P w K mg base 4 "_law_change" spChange := calE F_law_change o_law_change (He.glo_ok X G (c.fact 30 (f := .glo "_law_change") rfl)) (bn_law_change F_law_change)
  have o_law_added := ok_law_added (P := P) (wd := w) (base := base) F_law_added T c_law_listed c_law_product c_law_short c_law_draw c_law_padded c_law_expected c_law_value m_Session_add_path
  have c_law_added : CalG P w K mg base 10 "_law_added" (spAdded (He.ga K "Session")) := ⟨_, _, _, o_law_added, (He.glo_ok X G (c.fact 31 (f := .glo "_law_added") rfl)), F_law_added.kp, bn_law_added F_law_added⟩
  have o_law := ok_law (P := P) (wd := w) (base := base) F_law T c_law_pool k_Session c_law_draw c_law_added c_law_change c_law_actual c_law_expected c_law_value c_law_state c_law_due
  exact o_law
end WK
end Text_WA
section Text_WEnd
set_option Elab.async false
set_option linter.all false
set_option maxRecDepth 100000
set_option maxHeartbeats 0
/-! WEnd: the law holds. -/
open PySem PySem.W PySem.Calls PyProof.Rows
theorem PySem.Challenge.cw_walkshome_k75_whole_derivations_of_addit_holds : PySem.Challenge.rw_walkshome_k75_whole_derivations_of_addit.Holds := by
  w_on; o_law
  refine HandSHeadRun.head_any (r := OpenLaw.row PySem.Challenge.rw_walkshome_k75_whole_derivations_of_addit) (q := view (OpenLaw.row PySem.Challenge.rw_walkshome_k75_whole_derivations_of_addit).prog [71]) (H := WHead.hk) (ob := WHead.ob) (M := 20000) (loose := WHead.nms) (d := HandSHeadRun.topDef (OpenLaw.row PySem.Challenge.rw_walkshome_k75_whole_derivations_of_addit).prog 71) (kwd := []) WHead.ob_eq
    (by kernel_rfl) (fun s => by kernel_rfl) WHead.run (by kernel_rfl) (by kernel_rfl) (by kernel_rfl) (by rfl) (by first | assumption | decide +kernel) (by decide +kernel) ⟨rfl, rfl, rfl, rfl, rfl, by decide +kernel⟩ ?hw ?hc
  case hw => w_witness2
  case hc =>
    refine WK.walkG (l := PySem.Challenge.rw_walkshome_k75_whole_derivations_of_addit) (n := 63) (k := 11) (x := "_law_script") (CX := C8.CX0) rfl (by decide) (by kernel_rfl) ⟨rfl, by decide, by decide⟩ ?F (fun _ _ _ _ z => z)
    intro w mg fa h Y G hmg0
    obtain ⟨K, KX, c⟩ := Y
    have hmg : mg ("law" : PySem.Str) = some (.ref fa) := by
      have e : (HandSHeadRun.topDef (OpenLaw.row PySem.Challenge.rw_walkshome_k75_whole_derivations_of_addit).prog 71).name = ("law" : PySem.Str) := by kernel_rfl
      rw [← e]
      exact hmg0
    obtain ⟨fd, hb, hF⟩ := WK.facts (P := (PySem.Challenge.rw_walkshome_k75_whole_derivations_of_addit).prog) (w := w) KX G hmg c.t.d c.more
    exact ⟨K, fd, WK.spLaw K, KX, hb, fun H a ns hl _ hS => ⟨a, ns, rfl, hS, Nat.le_trans hl (by decide), fun _ => rfl⟩, hF⟩
end Text_WEnd
