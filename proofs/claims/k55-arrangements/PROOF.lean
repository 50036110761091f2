import PyProof.Rows.All
import Wide.All
import OpenK.AllK
import Wide.FinOn
import HandS.ForMost
import HandS.HeadHook2
import HandS.Codes
import HandS.IsInst
import PyProof.EqAt
import PyProof.EqKinds
import PyProof.NeKinds
import HandS.NoneIn
import HandS.OwnEq
import HandS.Evl
import HandS.Defaults
import KE.GoesMore
import KE.GoesEnum
import HandS.Style
import HandS.TupAny
import KE.KItemsList
import PyProof.DictUpdate
import HandS.More
import HandS.ListItems
import HandS.SortOrd
import HandS.DictComp
import HandS.WordsDict
import PyProof.CompUse
import PyProof.DictDisplay
import HandS.Dict
import PyProof.P3Eq
import HandS.TupLen
import HandS.Wide
import KE.KDictZip
import PyProof.ListNew
import KE.KRevSl
import HandS.Conv
import KE.KStateDown
import HandS.Head0
import HandS.Head1
import HandS.Head2
import HandS.HeadEnd
import HandS.HeadHook1
import PySem.Challenge.RW_namewalk_k55_whole_arrangements_by_moves
set_option Elab.async false
set_option linter.all false
set_option maxRecDepth 100000
/-! The text by places; the facts that the head tells. Printed by gen_text.py. -/
namespace NW
open PySem PySem.Spec PyProof.Rows L2
abbrev prg : Program := PySem.Challenge.pw_namewalk_k55_whole_arrangements_by_moves
def top (i : Nat) : Stmt := prg.main.body.getD i (.Pass ⟨0, 0, 0, 0⟩)
abbrev s_Thing_eq : Stmt := inClass (top 10) 2
abbrev s_is_number : Stmt := top 11
abbrev s_is_name : Stmt := top 17
abbrev s_Path_init : Stmt := inClass (top 18) 0
abbrev s_read_path : Stmt := top 19
abbrev s_is_path_text : Stmt := top 20
abbrev s_is_owner : Stmt := top 22
abbrev s_by_names : Stmt := top 23
abbrev s_found_nodes : Stmt := top 24
abbrev s_Folder_init : Stmt := inClass (top 25) 0
abbrev s_Folder_class_name : Stmt := inClass (top 25) 1
abbrev s_Folder_facts : Stmt := inClass (top 25) 2
abbrev s_File_init : Stmt := inClass (top 26) 0
abbrev s_Link_init : Stmt := inClass (top 27) 0
abbrev s_Gone_init : Stmt := inClass (top 28) 0
abbrev s_wrong_with_entries : Stmt := top 29
abbrev s_wrong_with : Stmt := top 30
abbrev s_Tree_init : Stmt := inClass (top 31) 0
abbrev s_Tree_class_name : Stmt := inClass (top 31) 1
abbrev s_Tree_facts : Stmt := inClass (top 31) 2
abbrev s_Tree_folder_numbers : Stmt := inClass (top 31) 3
abbrev s_Tree_check_folders : Stmt := inClass (top 31) 4
abbrev s_check_node : Stmt := top 32
abbrev s_node_at : Stmt := top 33
abbrev s_entries_of : Stmt := top 34
abbrev s_above : Stmt := top 35
abbrev s_Move_init : Stmt := inClass (top 42) 0
abbrev s_is_folder : Stmt := top 43
abbrev s_is_below : Stmt := top 44
abbrev s_made_node : Stmt := top 45
abbrev s_wrong_names : Stmt := top 46
abbrev s_is_leaf : Stmt := top 47
abbrev s_wrong_move : Stmt := top 48
abbrev s_wrong_deed : Stmt := top 49
abbrev s_with_entry : Stmt := top 50
abbrev s_without_entry : Stmt := top 51
abbrev s_done : Stmt := top 52
abbrev s_Others_init : Stmt := inClass (top 54) 0
abbrev s_check_others : Stmt := top 55
abbrev s_is_allowed : Stmt := top 56
abbrev s_may : Stmt := top 57
abbrev s_loose : Stmt := top 58
abbrev s_heads_of : Stmt := top 59
abbrev s_pieces : Stmt := top 60
abbrev s_arrangements : Stmt := top 61
abbrev s_law_mixed : Stmt := top 63
abbrev s_law_source : Stmt := top 64
abbrev s_law_take : Stmt := top 65
abbrev s_law_pick : Stmt := top 66
abbrev s_law_nodes : Stmt := top 67
abbrev s_law_turned : Stmt := top 68
abbrev s_law_tree : Stmt := top 69
abbrev s_law_theirs : Stmt := top 70
abbrev s_law_shape : Stmt := top 71
abbrev s_law_moved : Stmt := top 72
abbrev s_law_right : Stmt := top 73
abbrev s_law : Stmt := top 74
def dfn (at_ : Str × Option Str) (name qual : Str) (st : Stmt) : He.DefD := ⟨at_, name, qual, defArgs st, defBody st, defScope st, [], []⟩
def fnT : List He.DefD := [
  dfn ("Thing", some "__eq__") "__eq__" "Thing.__eq__" s_Thing_eq,
  dfn ("is_number", none) "is_number" "is_number" s_is_number,
  dfn ("is_name", none) "is_name" "is_name" s_is_name,
  dfn ("Path", some "__init__") "__init__" "Path.__init__" s_Path_init,
  dfn ("read_path", none) "read_path" "read_path" s_read_path,
  dfn ("is_path_text", none) "is_path_text" "is_path_text" s_is_path_text,
  dfn ("is_owner", none) "is_owner" "is_owner" s_is_owner,
  dfn ("by_names", none) "by_names" "by_names" s_by_names,
  dfn ("found_nodes", none) "found_nodes" "found_nodes" s_found_nodes,
  dfn ("Folder", some "__init__") "__init__" "Folder.__init__" s_Folder_init,
  dfn ("Folder", some "class_name") "class_name" "Folder.class_name" s_Folder_class_name,
  dfn ("Folder", some "facts") "facts" "Folder.facts" s_Folder_facts,
  dfn ("File", some "__init__") "__init__" "File.__init__" s_File_init,
  dfn ("Link", some "__init__") "__init__" "Link.__init__" s_Link_init,
  dfn ("Gone", some "__init__") "__init__" "Gone.__init__" s_Gone_init,
  dfn ("wrong_with_entries", none) "wrong_with_entries" "wrong_with_entries" s_wrong_with_entries,
  dfn ("wrong_with", none) "wrong_with" "wrong_with" s_wrong_with,
  dfn ("Tree", some "__init__") "__init__" "Tree.__init__" s_Tree_init,
  dfn ("Tree", some "class_name") "class_name" "Tree.class_name" s_Tree_class_name,
  dfn ("Tree", some "facts") "facts" "Tree.facts" s_Tree_facts,
  dfn ("Tree", some "folder_numbers") "folder_numbers" "Tree.folder_numbers" s_Tree_folder_numbers,
  dfn ("Tree", some "check_folders") "check_folders" "Tree.check_folders" s_Tree_check_folders,
  dfn ("check_node", none) "check_node" "check_node" s_check_node,
  dfn ("node_at", none) "node_at" "node_at" s_node_at,
  dfn ("entries_of", none) "entries_of" "entries_of" s_entries_of,
  dfn ("above", none) "above" "above" s_above,
  dfn ("Move", some "__init__") "__init__" "Move.__init__" s_Move_init,
  dfn ("is_folder", none) "is_folder" "is_folder" s_is_folder,
  dfn ("is_below", none) "is_below" "is_below" s_is_below,
  dfn ("made_node", none) "made_node" "made_node" s_made_node,
  dfn ("wrong_names", none) "wrong_names" "wrong_names" s_wrong_names,
  dfn ("is_leaf", none) "is_leaf" "is_leaf" s_is_leaf,
  dfn ("wrong_move", none) "wrong_move" "wrong_move" s_wrong_move,
  dfn ("wrong_deed", none) "wrong_deed" "wrong_deed" s_wrong_deed,
  dfn ("with_entry", none) "with_entry" "with_entry" s_with_entry,
  dfn ("without_entry", none) "without_entry" "without_entry" s_without_entry,
  dfn ("done", none) "done" "done" s_done,
  dfn ("Others", some "__init__") "__init__" "Others.__init__" s_Others_init,
  dfn ("check_others", none) "check_others" "check_others" s_check_others,
  dfn ("is_allowed", none) "is_allowed" "is_allowed" s_is_allowed,
  dfn ("may", none) "may" "may" s_may,
  dfn ("loose", none) "loose" "loose" s_loose,
  dfn ("heads_of", none) "heads_of" "heads_of" s_heads_of,
  dfn ("pieces", none) "pieces" "pieces" s_pieces,
  dfn ("arrangements", none) "arrangements" "arrangements" s_arrangements,
  dfn ("_law_mixed", none) "_law_mixed" "_law_mixed" s_law_mixed,
  dfn ("_law_source", none) "_law_source" "_law_source" s_law_source,
  dfn ("_law_take", none) "_law_take" "_law_take" s_law_take,
  dfn ("_law_pick", none) "_law_pick" "_law_pick" s_law_pick,
  dfn ("_law_nodes", none) "_law_nodes" "_law_nodes" s_law_nodes,
  dfn ("_law_turned", none) "_law_turned" "_law_turned" s_law_turned,
  dfn ("_law_tree", none) "_law_tree" "_law_tree" s_law_tree,
  dfn ("_law_theirs", none) "_law_theirs" "_law_theirs" s_law_theirs,
  dfn ("_law_shape", none) "_law_shape" "_law_shape" s_law_shape,
  dfn ("_law_moved", none) "_law_moved" "_law_moved" s_law_moved,
  dfn ("_law_right", none) "_law_right" "_law_right" s_law_right,
  dfn ("law", none) "law" "law" s_law]
def faT : List He.Fa := [
  .glo "WalkError",
  .glo "NoTree",
  .glo "NoNode",
  .glo "BadText",
  .glo "NoPath",
  .glo "NoOwner",
  .glo "NoDeed",
  .glo "Thing",
  .glo "is_number",
  .glo "is_name",
  .glo "Path",
  .glo "read_path",
  .glo "is_path_text",
  .glo "is_owner",
  .glo "by_names",
  .glo "found_nodes",
  .glo "Folder",
  .glo "File",
  .glo "Link",
  .glo "Gone",
  .glo "wrong_with_entries",
  .glo "wrong_with",
  .glo "Tree",
  .glo "check_node",
  .glo "node_at",
  .glo "entries_of",
  .glo "above",
  .glo "MakeFolder",
  .glo "MakeFile",
  .glo "MakeLink",
  .glo "Put",
  .glo "Take",
  .glo "Move",
  .glo "is_folder",
  .glo "is_below",
  .glo "made_node",
  .glo "wrong_names",
  .glo "is_leaf",
  .glo "wrong_move",
  .glo "wrong_deed",
  .glo "with_entry",
  .glo "without_entry",
  .glo "done",
  .glo "Others",
  .glo "check_others",
  .glo "is_allowed",
  .glo "may",
  .glo "loose",
  .glo "heads_of",
  .glo "pieces",
  .glo "arrangements",
  .glo "_law_mixed",
  .glo "_law_source",
  .glo "_law_take",
  .glo "_law_pick",
  .glo "_law_nodes",
  .glo "_law_turned",
  .glo "_law_tree",
  .glo "_law_theirs",
  .glo "_law_shape",
  .glo "_law_moved",
  .glo "_law_right",
  .glo "law",
  .free "len",
  .free "range",
  .free "isinstance",
  .free "int",
  .free "str",
  .free "tuple",
  .free "sorted",
  .free "enumerate",
  .free "list",
  .free "dict",
  .free "zip",
  .free "all",
  .free "bool",
  .str "UP" "..",
  .str "HERE" ".",
  .str "LETTERS" "abcdefghijklmnopqrstuvwxyz0123456789_-.",
  .int "MOST_LETTERS" 12,
  .cls "Path",
  .mkr "Path",
  .noat "Path" "steps",
  .noat "Path" "absolute",
  .noat "Path" "folder",
  .cls "Folder",
  .mkr "Folder",
  .noat "Folder" "owner",
  .noat "Folder" "entries",
  .cls "File",
  .mkr "File",
  .noat "File" "owner",
  .cls "Link",
  .mkr "Link",
  .noat "Link" "owner",
  .noat "Link" "text",
  .cls "Gone",
  .mkr "Gone",
  .noat "Gone" "owner",
  .noat "Gone" "above",
  .cls "Tree",
  .mkr "Tree",
  .noat "Tree" "nodes",
  .cls "Move",
  .mkr "Move",
  .noat "Move" "folder",
  .noat "Move" "name",
  .noat "Move" "goal",
  .noat "Move" "other",
  .cls "Others",
  .mkr "Others",
  .noat "Others" "owner",
  .noat "Others" "folders",
  .meth "Folder" "__eq__",
  .meth "Folder" "class_name",
  .meth "Folder" "facts",
  .meth "Tree" "__eq__",
  .meth "Tree" "class_name",
  .meth "Tree" "facts",
  .meth "Tree" "folder_numbers",
  .meth "Tree" "check_folders",
  .keep "is_number",
  .keep "is_name",
  .keep "read_path",
  .keep "is_path_text",
  .keep "is_owner",
  .keep "by_names",
  .keep "found_nodes",
  .keep "wrong_with_entries",
  .keep "wrong_with",
  .keep "check_node",
  .keep "node_at",
  .keep "entries_of",
  .keep "above",
  .keep "is_folder",
  .keep "is_below",
  .keep "made_node",
  .keep "wrong_names",
  .keep "is_leaf",
  .keep "wrong_move",
  .keep "wrong_deed",
  .keep "with_entry",
  .keep "without_entry",
  .keep "done",
  .keep "check_others",
  .keep "is_allowed",
  .keep "may",
  .keep "loose",
  .keep "heads_of",
  .keep "pieces",
  .keep "arrangements",
  .keep "_law_mixed",
  .keep "_law_source",
  .keep "_law_take",
  .keep "_law_pick",
  .keep "_law_nodes",
  .keep "_law_turned",
  .keep "_law_tree",
  .keep "_law_theirs",
  .keep "_law_shape",
  .keep "_law_moved",
  .keep "_law_right",
  .keep "law"]
def loose0 : List Str := ["_wall", "WalkError", "NoTree", "NoNode", "BadText", "NoPath", "NoOwner", "NoDeed", "Thing", "is_number", "UP", "HERE", "MOST_LETTERS", "LETTERS", "is_name", "Path", "read_path", "is_path_text", "is_owner", "by_names", "found_nodes", "Folder", "File", "Link", "Gone", "wrong_with_entries", "wrong_with", "Tree", "check_node", "node_at"]
def loose1 : List Str := ["entries_of", "above", "MakeFolder", "MakeFile", "MakeLink", "Put", "Take", "Move", "is_folder", "is_below", "made_node", "wrong_names", "is_leaf", "wrong_move", "wrong_deed", "with_entry", "without_entry", "done", "Others", "check_others", "is_allowed", "may", "loose", "heads_of", "pieces", "arrangements", "_law_mixed", "_law_source", "_law_take", "_law_pick"]
def loose2 : List Str := ["_law_nodes", "_law_turned", "_law_tree", "_law_theirs", "_law_shape", "_law_moved", "_law_right"]
def looseT : List Str := loose0 ++ loose1 ++ loose2
/-- what isinstance asks of an own class's instances -/
def insB (K : PySem.W.Frag) (x : Str) : Bool := He.eqO (PySem.W.findIn K (.ref (He.ga K x)) "__class__") (some (some (.builtin "object.__class__"))) &&
  (He.eqO (PySem.W.specialIn K (.builtin "object.__class__") "__get__") (some (some (.builtin "getset_descriptor.__get__"))) &&
  (decide (PySem.W.takesIn K (.builtin "object.__class__") = some true) && decide (PySem.W.mroIn K (He.ga K x) (.type "object") = some true)))
/-- an instance of x is one of y: b -/
def isB (K : PySem.W.Frag) (x y : Str) (b : Bool) : Bool := decide (PySem.W.kitOne K (.ref (He.ga K x)) (.ref (He.ga K y)) = some b)
def tyB (K : PySem.W.Frag) (t : String) (y : Str) (b : Bool) : Bool := decide (PySem.W.kitOne K (.type t) (.ref (He.ga K y)) = some b)
/-- the class takes its own == from Thing -/
def eqB (K : PySem.W.Frag) (x : Str) : Bool := decide (He.ma K (He.ga K x) "__eq__" = He.ma K (He.ga K "Thing") "__eq__")
def nfB (K : PySem.W.Frag) (x : Str) : Bool := PySem.W.notFirst K (He.ga K x) (.type "str")
def exL (K : PySem.W.Frag) : List Bool := [
  insB K "Path",
  insB K "Folder",
  insB K "File",
  insB K "Link",
  insB K "Gone",
  insB K "Tree",
  insB K "Move",
  insB K "Others",
  isB K "Folder" "Folder" true,
  isB K "Folder" "File" false,
  isB K "Folder" "Link" false,
  isB K "Folder" "Gone" false,
  isB K "File" "Folder" false,
  isB K "File" "File" true,
  isB K "File" "Link" false,
  isB K "File" "Gone" false,
  isB K "Link" "Folder" false,
  isB K "Link" "File" false,
  isB K "Link" "Link" true,
  isB K "Link" "Gone" false,
  isB K "Gone" "Folder" false,
  isB K "Gone" "File" false,
  isB K "Gone" "Link" false,
  isB K "Gone" "Gone" true,
  isB K "Move" "MakeFolder" false,
  isB K "Move" "MakeFile" false,
  isB K "Move" "MakeLink" false,
  isB K "Move" "Put" false,
  isB K "Move" "Take" false,
  isB K "Move" "Move" true,
  isB K "Folder" "Thing" true,
  isB K "Tree" "Thing" true,
  tyB K "str" "Thing" false,
  eqB K "Folder",
  eqB K "Tree",
  nfB K "Tree"]
def exT (K : PySem.W.Frag) : Bool := (exL K).all id
def addrT : List Addr := [3, 221, 220, 266, 265, 330, 329, 363, 362, 396, 395, 429, 428, 486, 485, 543, 542, 576, 575, 609, 608, 642, 641, 675, 674, 708, 707, 809, 808, 218, 217, 249, 248, 313, 312, 320, 319, 327, 326, 346, 345, 379, 378, 412, 411, 457, 456, 464, 463, 471, 470, 476, 475, 483, 482, 691, 690, 792, 791, 232, 231, 237, 236, 275, 274, 282, 281, 289, 288, 294, 293, 299, 298, 436, 435, 443, 442, 495, 494, 500, 499, 505, 504, 512, 511, 717, 716, 724, 723, 731, 730, 738, 737, 745, 744, 752, 751, 759, 758, 766, 765, 771, 770, 778, 777, 818, 817, 825, 824, 832, 831, 839, 838, 844, 843, 849, 848, 854, 853, 861, 860, 868, 867, 875, 874, 882, 881, 887, 886, 892, 891, 899, 898, 904, 903, 909, 908, 916, 915, 921, 920, 928, 927]
end NW
/-! The head's facts by name. Printed by gen_facts.py. -/
namespace NW
open PySem PySem.Spec PyProof.Rows L2
/-- what the head tells of the written part and of the module's names -/
structure Txt (K : PySem.W.Frag) (mg : Str → Option Value) : Prop where
  c : He.SaysD faT fnT K
  ex : exT K = true
  ns : ∃ h : Heap, K.In h ∧ h.Ns mainGlobals mg
section
variable {K : PySem.W.Frag} {mg : Str → Option Value}
theorem Txt.e (T : Txt K mg) (i : Nat) {b : Bool} (h : (exL K)[i]? = some b := by rfl) : b = true := by
  have q := List.all_eq_true.mp (show (exL K).all id = true from T.ex) b (List.mem_of_getElem? h)
  exact q
theorem Txt.g (T : Txt K mg) (i : Nat) {x : Str} (h : faT[i]? = some (.glo x) := by rfl) : mg x = some (.ref (He.ga K x)) := by
  obtain ⟨hp, a, b⟩ := T.ns
  exact He.glo_ok a b (T.c.fact i h)
theorem Txt.f (T : Txt K mg) (i : Nat) {x : Str} (h : faT[i]? = some (.free x) := by rfl) : mg x = none := by
  obtain ⟨hp, a, b⟩ := T.ns
  exact He.free_ok a b (T.c.fact i h)
theorem Txt.s (T : Txt K mg) (i : Nat) {x z : Str} (h : faT[i]? = some (.str x z) := by rfl) : ∃ u, mg x = some u ∧ L2.RelV (.str z) u := by
  obtain ⟨hp, a, b⟩ := T.ns
  obtain ⟨t, e⟩ := He.str_ok a b (T.c.fact i h)
  exact ⟨_, e, t, rfl⟩
theorem Txt.n (T : Txt K mg) (i : Nat) {x : Str} {z : Int} (h : faT[i]? = some (.int x z) := by rfl) : ∃ u, mg x = some u ∧ L2.RelV (.int z) u := by
  obtain ⟨hp, a, b⟩ := T.ns
  obtain ⟨t, e⟩ := He.int_ok a b (T.c.fact i h)
  exact ⟨_, e, t, rfl⟩
theorem insB_ok {x : Str} (c : Cls K (He.ga K x)) (h : insB K x = true) {H : Hp} {a dx : Addr} {fs : List (Str × V)} (ha : H a = some (.ins (He.ga K x) dx fs)) : TyX K H (.ref a) (.ref (He.ga K x)) := by
  obtain ⟨h1, h⟩ := He.ba h
  obtain ⟨h2, h⟩ := He.ba h
  obtain ⟨h3, h4⟩ := He.ba h
  exact .base (.ins ha c (He.eqO_ok h1) (He.eqO_ok h2) (of_decide_eq_true h3) (of_decide_eq_true h4))
theorem g_WalkError (T : Txt K mg) : mg "WalkError" = some (.ref (He.ga K "WalkError")) := T.g 0
theorem g_NoTree (T : Txt K mg) : mg "NoTree" = some (.ref (He.ga K "NoTree")) := T.g 1
theorem g_NoNode (T : Txt K mg) : mg "NoNode" = some (.ref (He.ga K "NoNode")) := T.g 2
theorem g_BadText (T : Txt K mg) : mg "BadText" = some (.ref (He.ga K "BadText")) := T.g 3
theorem g_NoPath (T : Txt K mg) : mg "NoPath" = some (.ref (He.ga K "NoPath")) := T.g 4
theorem g_NoOwner (T : Txt K mg) : mg "NoOwner" = some (.ref (He.ga K "NoOwner")) := T.g 5
theorem g_NoDeed (T : Txt K mg) : mg "NoDeed" = some (.ref (He.ga K "NoDeed")) := T.g 6
theorem g_Thing (T : Txt K mg) : mg "Thing" = some (.ref (He.ga K "Thing")) := T.g 7
theorem g_is_number (T : Txt K mg) : mg "is_number" = some (.ref (He.ga K "is_number")) := T.g 8
theorem g_is_name (T : Txt K mg) : mg "is_name" = some (.ref (He.ga K "is_name")) := T.g 9
theorem g_Path (T : Txt K mg) : mg "Path" = some (.ref (He.ga K "Path")) := T.g 10
theorem g_read_path (T : Txt K mg) : mg "read_path" = some (.ref (He.ga K "read_path")) := T.g 11
theorem g_is_path_text (T : Txt K mg) : mg "is_path_text" = some (.ref (He.ga K "is_path_text")) := T.g 12
theorem g_is_owner (T : Txt K mg) : mg "is_owner" = some (.ref (He.ga K "is_owner")) := T.g 13
theorem g_by_names (T : Txt K mg) : mg "by_names" = some (.ref (He.ga K "by_names")) := T.g 14
theorem g_found_nodes (T : Txt K mg) : mg "found_nodes" = some (.ref (He.ga K "found_nodes")) := T.g 15
theorem g_Folder (T : Txt K mg) : mg "Folder" = some (.ref (He.ga K "Folder")) := T.g 16
theorem g_File (T : Txt K mg) : mg "File" = some (.ref (He.ga K "File")) := T.g 17
theorem g_Link (T : Txt K mg) : mg "Link" = some (.ref (He.ga K "Link")) := T.g 18
theorem g_Gone (T : Txt K mg) : mg "Gone" = some (.ref (He.ga K "Gone")) := T.g 19
theorem g_wrong_with_entries (T : Txt K mg) : mg "wrong_with_entries" = some (.ref (He.ga K "wrong_with_entries")) := T.g 20
theorem g_wrong_with (T : Txt K mg) : mg "wrong_with" = some (.ref (He.ga K "wrong_with")) := T.g 21
theorem g_Tree (T : Txt K mg) : mg "Tree" = some (.ref (He.ga K "Tree")) := T.g 22
theorem g_check_node (T : Txt K mg) : mg "check_node" = some (.ref (He.ga K "check_node")) := T.g 23
theorem g_node_at (T : Txt K mg) : mg "node_at" = some (.ref (He.ga K "node_at")) := T.g 24
theorem g_entries_of (T : Txt K mg) : mg "entries_of" = some (.ref (He.ga K "entries_of")) := T.g 25
theorem g_above (T : Txt K mg) : mg "above" = some (.ref (He.ga K "above")) := T.g 26
theorem g_MakeFolder (T : Txt K mg) : mg "MakeFolder" = some (.ref (He.ga K "MakeFolder")) := T.g 27
theorem g_MakeFile (T : Txt K mg) : mg "MakeFile" = some (.ref (He.ga K "MakeFile")) := T.g 28
theorem g_MakeLink (T : Txt K mg) : mg "MakeLink" = some (.ref (He.ga K "MakeLink")) := T.g 29
theorem g_Put (T : Txt K mg) : mg "Put" = some (.ref (He.ga K "Put")) := T.g 30
theorem g_Take (T : Txt K mg) : mg "Take" = some (.ref (He.ga K "Take")) := T.g 31
theorem g_Move (T : Txt K mg) : mg "Move" = some (.ref (He.ga K "Move")) := T.g 32
theorem g_is_folder (T : Txt K mg) : mg "is_folder" = some (.ref (He.ga K "is_folder")) := T.g 33
theorem g_is_below (T : Txt K mg) : mg "is_below" = some (.ref (He.ga K "is_below")) := T.g 34
theorem g_made_node (T : Txt K mg) : mg "made_node" = some (.ref (He.ga K "made_node")) := T.g 35
theorem g_wrong_names (T : Txt K mg) : mg "wrong_names" = some (.ref (He.ga K "wrong_names")) := T.g 36
theorem g_is_leaf (T : Txt K mg) : mg "is_leaf" = some (.ref (He.ga K "is_leaf")) := T.g 37
theorem g_wrong_move (T : Txt K mg) : mg "wrong_move" = some (.ref (He.ga K "wrong_move")) := T.g 38
theorem g_wrong_deed (T : Txt K mg) : mg "wrong_deed" = some (.ref (He.ga K "wrong_deed")) := T.g 39
theorem g_with_entry (T : Txt K mg) : mg "with_entry" = some (.ref (He.ga K "with_entry")) := T.g 40
theorem g_without_entry (T : Txt K mg) : mg "without_entry" = some (.ref (He.ga K "without_entry")) := T.g 41
theorem g_done (T : Txt K mg) : mg "done" = some (.ref (He.ga K "done")) := T.g 42
theorem g_Others (T : Txt K mg) : mg "Others" = some (.ref (He.ga K "Others")) := T.g 43
theorem g_check_others (T : Txt K mg) : mg "check_others" = some (.ref (He.ga K "check_others")) := T.g 44
theorem g_is_allowed (T : Txt K mg) : mg "is_allowed" = some (.ref (He.ga K "is_allowed")) := T.g 45
theorem g_may (T : Txt K mg) : mg "may" = some (.ref (He.ga K "may")) := T.g 46
theorem g_loose (T : Txt K mg) : mg "loose" = some (.ref (He.ga K "loose")) := T.g 47
theorem g_heads_of (T : Txt K mg) : mg "heads_of" = some (.ref (He.ga K "heads_of")) := T.g 48
theorem g_pieces (T : Txt K mg) : mg "pieces" = some (.ref (He.ga K "pieces")) := T.g 49
theorem g_arrangements (T : Txt K mg) : mg "arrangements" = some (.ref (He.ga K "arrangements")) := T.g 50
theorem g_law_mixed (T : Txt K mg) : mg "_law_mixed" = some (.ref (He.ga K "_law_mixed")) := T.g 51
theorem g_law_source (T : Txt K mg) : mg "_law_source" = some (.ref (He.ga K "_law_source")) := T.g 52
theorem g_law_take (T : Txt K mg) : mg "_law_take" = some (.ref (He.ga K "_law_take")) := T.g 53
theorem g_law_pick (T : Txt K mg) : mg "_law_pick" = some (.ref (He.ga K "_law_pick")) := T.g 54
theorem g_law_nodes (T : Txt K mg) : mg "_law_nodes" = some (.ref (He.ga K "_law_nodes")) := T.g 55
theorem g_law_turned (T : Txt K mg) : mg "_law_turned" = some (.ref (He.ga K "_law_turned")) := T.g 56
theorem g_law_tree (T : Txt K mg) : mg "_law_tree" = some (.ref (He.ga K "_law_tree")) := T.g 57
theorem g_law_theirs (T : Txt K mg) : mg "_law_theirs" = some (.ref (He.ga K "_law_theirs")) := T.g 58
theorem g_law_shape (T : Txt K mg) : mg "_law_shape" = some (.ref (He.ga K "_law_shape")) := T.g 59
theorem g_law_moved (T : Txt K mg) : mg "_law_moved" = some (.ref (He.ga K "_law_moved")) := T.g 60
theorem g_law_right (T : Txt K mg) : mg "_law_right" = some (.ref (He.ga K "_law_right")) := T.g 61
theorem g_law (T : Txt K mg) : mg "law" = some (.ref (He.ga K "law")) := T.g 62
theorem f_len (T : Txt K mg) : mg "len" = none := T.f 63
theorem f_range (T : Txt K mg) : mg "range" = none := T.f 64
theorem f_isinstance (T : Txt K mg) : mg "isinstance" = none := T.f 65
theorem f_int (T : Txt K mg) : mg "int" = none := T.f 66
theorem f_str (T : Txt K mg) : mg "str" = none := T.f 67
theorem f_tuple (T : Txt K mg) : mg "tuple" = none := T.f 68
theorem f_sorted (T : Txt K mg) : mg "sorted" = none := T.f 69
theorem f_enumerate (T : Txt K mg) : mg "enumerate" = none := T.f 70
theorem f_list (T : Txt K mg) : mg "list" = none := T.f 71
theorem f_dict (T : Txt K mg) : mg "dict" = none := T.f 72
theorem f_zip (T : Txt K mg) : mg "zip" = none := T.f 73
theorem f_all (T : Txt K mg) : mg "all" = none := T.f 74
theorem f_bool (T : Txt K mg) : mg "bool" = none := T.f 75
theorem v_UP (T : Txt K mg) : ∃ u, mg "UP" = some u ∧ L2.RelV (.str "..") u := T.s 76
theorem v_HERE (T : Txt K mg) : ∃ u, mg "HERE" = some u ∧ L2.RelV (.str ".") u := T.s 77
theorem v_LETTERS (T : Txt K mg) : ∃ u, mg "LETTERS" = some u ∧ L2.RelV (.str "abcdefghijklmnopqrstuvwxyz0123456789_-.") u := T.s 78
theorem v_MOST_LETTERS (T : Txt K mg) : ∃ u, mg "MOST_LETTERS" = some u ∧ L2.RelV (.int 12) u := T.n 79
theorem cl_Path (T : Txt K mg) : Cls K (He.ga K "Path") := He.cls_ok (T.c.fact 80)
theorem mk_Path (T : Txt K mg) : Mk K (He.ga K "Path") (He.ma K (He.ga K "Path") "__init__") := He.mkr_ok (T.c.fact 81)
theorem na_Path_steps (T : Txt K mg) : NoAttr K (He.ga K "Path") "steps" := He.noat_ok (T.c.fact 82)
theorem na_Path_absolute (T : Txt K mg) : NoAttr K (He.ga K "Path") "absolute" := He.noat_ok (T.c.fact 83)
theorem na_Path_folder (T : Txt K mg) : NoAttr K (He.ga K "Path") "folder" := He.noat_ok (T.c.fact 84)
theorem cl_Folder (T : Txt K mg) : Cls K (He.ga K "Folder") := He.cls_ok (T.c.fact 85)
theorem mk_Folder (T : Txt K mg) : Mk K (He.ga K "Folder") (He.ma K (He.ga K "Folder") "__init__") := He.mkr_ok (T.c.fact 86)
theorem na_Folder_owner (T : Txt K mg) : NoAttr K (He.ga K "Folder") "owner" := He.noat_ok (T.c.fact 87)
theorem na_Folder_entries (T : Txt K mg) : NoAttr K (He.ga K "Folder") "entries" := He.noat_ok (T.c.fact 88)
theorem cl_File (T : Txt K mg) : Cls K (He.ga K "File") := He.cls_ok (T.c.fact 89)
theorem mk_File (T : Txt K mg) : Mk K (He.ga K "File") (He.ma K (He.ga K "File") "__init__") := He.mkr_ok (T.c.fact 90)
theorem na_File_owner (T : Txt K mg) : NoAttr K (He.ga K "File") "owner" := He.noat_ok (T.c.fact 91)
theorem cl_Link (T : Txt K mg) : Cls K (He.ga K "Link") := He.cls_ok (T.c.fact 92)
theorem mk_Link (T : Txt K mg) : Mk K (He.ga K "Link") (He.ma K (He.ga K "Link") "__init__") := He.mkr_ok (T.c.fact 93)
theorem na_Link_owner (T : Txt K mg) : NoAttr K (He.ga K "Link") "owner" := He.noat_ok (T.c.fact 94)
theorem na_Link_text (T : Txt K mg) : NoAttr K (He.ga K "Link") "text" := He.noat_ok (T.c.fact 95)
theorem cl_Gone (T : Txt K mg) : Cls K (He.ga K "Gone") := He.cls_ok (T.c.fact 96)
theorem mk_Gone (T : Txt K mg) : Mk K (He.ga K "Gone") (He.ma K (He.ga K "Gone") "__init__") := He.mkr_ok (T.c.fact 97)
theorem na_Gone_owner (T : Txt K mg) : NoAttr K (He.ga K "Gone") "owner" := He.noat_ok (T.c.fact 98)
theorem na_Gone_above (T : Txt K mg) : NoAttr K (He.ga K "Gone") "above" := He.noat_ok (T.c.fact 99)
theorem cl_Tree (T : Txt K mg) : Cls K (He.ga K "Tree") := He.cls_ok (T.c.fact 100)
theorem mk_Tree (T : Txt K mg) : Mk K (He.ga K "Tree") (He.ma K (He.ga K "Tree") "__init__") := He.mkr_ok (T.c.fact 101)
theorem na_Tree_nodes (T : Txt K mg) : NoAttr K (He.ga K "Tree") "nodes" := He.noat_ok (T.c.fact 102)
theorem cl_Move (T : Txt K mg) : Cls K (He.ga K "Move") := He.cls_ok (T.c.fact 103)
theorem mk_Move (T : Txt K mg) : Mk K (He.ga K "Move") (He.ma K (He.ga K "Move") "__init__") := He.mkr_ok (T.c.fact 104)
theorem na_Move_folder (T : Txt K mg) : NoAttr K (He.ga K "Move") "folder" := He.noat_ok (T.c.fact 105)
theorem na_Move_name (T : Txt K mg) : NoAttr K (He.ga K "Move") "name" := He.noat_ok (T.c.fact 106)
theorem na_Move_goal (T : Txt K mg) : NoAttr K (He.ga K "Move") "goal" := He.noat_ok (T.c.fact 107)
theorem na_Move_other (T : Txt K mg) : NoAttr K (He.ga K "Move") "other" := He.noat_ok (T.c.fact 108)
theorem cl_Others (T : Txt K mg) : Cls K (He.ga K "Others") := He.cls_ok (T.c.fact 109)
theorem mk_Others (T : Txt K mg) : Mk K (He.ga K "Others") (He.ma K (He.ga K "Others") "__init__") := He.mkr_ok (T.c.fact 110)
theorem na_Others_owner (T : Txt K mg) : NoAttr K (He.ga K "Others") "owner" := He.noat_ok (T.c.fact 111)
theorem na_Others_folders (T : Txt K mg) : NoAttr K (He.ga K "Others") "folders" := He.noat_ok (T.c.fact 112)
theorem me_Folder_eq (T : Txt K mg) : Meth K (He.ga K "Folder") "__eq__" (He.ma K (He.ga K "Folder") "__eq__") := He.meth_ok (T.c.fact 113)
theorem me_Folder_class_name (T : Txt K mg) : Meth K (He.ga K "Folder") "class_name" (He.ma K (He.ga K "Folder") "class_name") := He.meth_ok (T.c.fact 114)
theorem me_Folder_facts (T : Txt K mg) : Meth K (He.ga K "Folder") "facts" (He.ma K (He.ga K "Folder") "facts") := He.meth_ok (T.c.fact 115)
theorem me_Tree_eq (T : Txt K mg) : Meth K (He.ga K "Tree") "__eq__" (He.ma K (He.ga K "Tree") "__eq__") := He.meth_ok (T.c.fact 116)
theorem me_Tree_class_name (T : Txt K mg) : Meth K (He.ga K "Tree") "class_name" (He.ma K (He.ga K "Tree") "class_name") := He.meth_ok (T.c.fact 117)
theorem me_Tree_facts (T : Txt K mg) : Meth K (He.ga K "Tree") "facts" (He.ma K (He.ga K "Tree") "facts") := He.meth_ok (T.c.fact 118)
theorem me_Tree_folder_numbers (T : Txt K mg) : Meth K (He.ga K "Tree") "folder_numbers" (He.ma K (He.ga K "Tree") "folder_numbers") := He.meth_ok (T.c.fact 119)
theorem me_Tree_check_folders (T : Txt K mg) : Meth K (He.ga K "Tree") "check_folders" (He.ma K (He.ga K "Tree") "check_folders") := He.meth_ok (T.c.fact 120)
theorem kp_is_number (T : Txt K mg) : PySem.W.keepIn K (.ref (He.ga K "is_number")) = true := He.keep_ok (T.c.fact 121)
theorem kp_is_name (T : Txt K mg) : PySem.W.keepIn K (.ref (He.ga K "is_name")) = true := He.keep_ok (T.c.fact 122)
theorem kp_read_path (T : Txt K mg) : PySem.W.keepIn K (.ref (He.ga K "read_path")) = true := He.keep_ok (T.c.fact 123)
theorem kp_is_path_text (T : Txt K mg) : PySem.W.keepIn K (.ref (He.ga K "is_path_text")) = true := He.keep_ok (T.c.fact 124)
theorem kp_is_owner (T : Txt K mg) : PySem.W.keepIn K (.ref (He.ga K "is_owner")) = true := He.keep_ok (T.c.fact 125)
theorem kp_by_names (T : Txt K mg) : PySem.W.keepIn K (.ref (He.ga K "by_names")) = true := He.keep_ok (T.c.fact 126)
theorem kp_found_nodes (T : Txt K mg) : PySem.W.keepIn K (.ref (He.ga K "found_nodes")) = true := He.keep_ok (T.c.fact 127)
theorem kp_wrong_with_entries (T : Txt K mg) : PySem.W.keepIn K (.ref (He.ga K "wrong_with_entries")) = true := He.keep_ok (T.c.fact 128)
theorem kp_wrong_with (T : Txt K mg) : PySem.W.keepIn K (.ref (He.ga K "wrong_with")) = true := He.keep_ok (T.c.fact 129)
theorem kp_check_node (T : Txt K mg) : PySem.W.keepIn K (.ref (He.ga K "check_node")) = true := He.keep_ok (T.c.fact 130)
theorem kp_node_at (T : Txt K mg) : PySem.W.keepIn K (.ref (He.ga K "node_at")) = true := He.keep_ok (T.c.fact 131)
theorem kp_entries_of (T : Txt K mg) : PySem.W.keepIn K (.ref (He.ga K "entries_of")) = true := He.keep_ok (T.c.fact 132)
theorem kp_above (T : Txt K mg) : PySem.W.keepIn K (.ref (He.ga K "above")) = true := He.keep_ok (T.c.fact 133)
theorem kp_is_folder (T : Txt K mg) : PySem.W.keepIn K (.ref (He.ga K "is_folder")) = true := He.keep_ok (T.c.fact 134)
theorem kp_is_below (T : Txt K mg) : PySem.W.keepIn K (.ref (He.ga K "is_below")) = true := He.keep_ok (T.c.fact 135)
theorem kp_made_node (T : Txt K mg) : PySem.W.keepIn K (.ref (He.ga K "made_node")) = true := He.keep_ok (T.c.fact 136)
theorem kp_wrong_names (T : Txt K mg) : PySem.W.keepIn K (.ref (He.ga K "wrong_names")) = true := He.keep_ok (T.c.fact 137)
theorem kp_is_leaf (T : Txt K mg) : PySem.W.keepIn K (.ref (He.ga K "is_leaf")) = true := He.keep_ok (T.c.fact 138)
theorem kp_wrong_move (T : Txt K mg) : PySem.W.keepIn K (.ref (He.ga K "wrong_move")) = true := He.keep_ok (T.c.fact 139)
theorem kp_wrong_deed (T : Txt K mg) : PySem.W.keepIn K (.ref (He.ga K "wrong_deed")) = true := He.keep_ok (T.c.fact 140)
theorem kp_with_entry (T : Txt K mg) : PySem.W.keepIn K (.ref (He.ga K "with_entry")) = true := He.keep_ok (T.c.fact 141)
theorem kp_without_entry (T : Txt K mg) : PySem.W.keepIn K (.ref (He.ga K "without_entry")) = true := He.keep_ok (T.c.fact 142)
theorem kp_done (T : Txt K mg) : PySem.W.keepIn K (.ref (He.ga K "done")) = true := He.keep_ok (T.c.fact 143)
theorem kp_check_others (T : Txt K mg) : PySem.W.keepIn K (.ref (He.ga K "check_others")) = true := He.keep_ok (T.c.fact 144)
theorem kp_is_allowed (T : Txt K mg) : PySem.W.keepIn K (.ref (He.ga K "is_allowed")) = true := He.keep_ok (T.c.fact 145)
theorem kp_may (T : Txt K mg) : PySem.W.keepIn K (.ref (He.ga K "may")) = true := He.keep_ok (T.c.fact 146)
theorem kp_loose (T : Txt K mg) : PySem.W.keepIn K (.ref (He.ga K "loose")) = true := He.keep_ok (T.c.fact 147)
theorem kp_heads_of (T : Txt K mg) : PySem.W.keepIn K (.ref (He.ga K "heads_of")) = true := He.keep_ok (T.c.fact 148)
theorem kp_pieces (T : Txt K mg) : PySem.W.keepIn K (.ref (He.ga K "pieces")) = true := He.keep_ok (T.c.fact 149)
theorem kp_arrangements (T : Txt K mg) : PySem.W.keepIn K (.ref (He.ga K "arrangements")) = true := He.keep_ok (T.c.fact 150)
theorem kp_law_mixed (T : Txt K mg) : PySem.W.keepIn K (.ref (He.ga K "_law_mixed")) = true := He.keep_ok (T.c.fact 151)
theorem kp_law_source (T : Txt K mg) : PySem.W.keepIn K (.ref (He.ga K "_law_source")) = true := He.keep_ok (T.c.fact 152)
theorem kp_law_take (T : Txt K mg) : PySem.W.keepIn K (.ref (He.ga K "_law_take")) = true := He.keep_ok (T.c.fact 153)
theorem kp_law_pick (T : Txt K mg) : PySem.W.keepIn K (.ref (He.ga K "_law_pick")) = true := He.keep_ok (T.c.fact 154)
theorem kp_law_nodes (T : Txt K mg) : PySem.W.keepIn K (.ref (He.ga K "_law_nodes")) = true := He.keep_ok (T.c.fact 155)
theorem kp_law_turned (T : Txt K mg) : PySem.W.keepIn K (.ref (He.ga K "_law_turned")) = true := He.keep_ok (T.c.fact 156)
theorem kp_law_tree (T : Txt K mg) : PySem.W.keepIn K (.ref (He.ga K "_law_tree")) = true := He.keep_ok (T.c.fact 157)
theorem kp_law_theirs (T : Txt K mg) : PySem.W.keepIn K (.ref (He.ga K "_law_theirs")) = true := He.keep_ok (T.c.fact 158)
theorem kp_law_shape (T : Txt K mg) : PySem.W.keepIn K (.ref (He.ga K "_law_shape")) = true := He.keep_ok (T.c.fact 159)
theorem kp_law_moved (T : Txt K mg) : PySem.W.keepIn K (.ref (He.ga K "_law_moved")) = true := He.keep_ok (T.c.fact 160)
theorem kp_law_right (T : Txt K mg) : PySem.W.keepIn K (.ref (He.ga K "_law_right")) = true := He.keep_ok (T.c.fact 161)
theorem kp_law (T : Txt K mg) : PySem.W.keepIn K (.ref (He.ga K "law")) = true := He.keep_ok (T.c.fact 162)
theorem fd_Thing_eq (T : Txt K mg) : ∃ fd, FunD K "__eq__" "Thing.__eq__" (defArgs s_Thing_eq) (defBody s_Thing_eq) (defScope s_Thing_eq) [] [] (He.ma K (He.ga K "Thing") "__eq__") fd := T.c.def_ 0 (d := dfn ("Thing", some "__eq__") "__eq__" "Thing.__eq__" s_Thing_eq)
theorem fd_is_number (T : Txt K mg) : ∃ fd, FunD K "is_number" "is_number" (defArgs s_is_number) (defBody s_is_number) (defScope s_is_number) [] [] (He.ga K "is_number") fd := T.c.def_ 1 (d := dfn ("is_number", none) "is_number" "is_number" s_is_number)
theorem fd_is_name (T : Txt K mg) : ∃ fd, FunD K "is_name" "is_name" (defArgs s_is_name) (defBody s_is_name) (defScope s_is_name) [] [] (He.ga K "is_name") fd := T.c.def_ 2 (d := dfn ("is_name", none) "is_name" "is_name" s_is_name)
theorem fd_Path_init (T : Txt K mg) : ∃ fd, FunD K "__init__" "Path.__init__" (defArgs s_Path_init) (defBody s_Path_init) (defScope s_Path_init) [] [] (He.ma K (He.ga K "Path") "__init__") fd := T.c.def_ 3 (d := dfn ("Path", some "__init__") "__init__" "Path.__init__" s_Path_init)
theorem fd_read_path (T : Txt K mg) : ∃ fd, FunD K "read_path" "read_path" (defArgs s_read_path) (defBody s_read_path) (defScope s_read_path) [] [] (He.ga K "read_path") fd := T.c.def_ 4 (d := dfn ("read_path", none) "read_path" "read_path" s_read_path)
theorem fd_is_path_text (T : Txt K mg) : ∃ fd, FunD K "is_path_text" "is_path_text" (defArgs s_is_path_text) (defBody s_is_path_text) (defScope s_is_path_text) [] [] (He.ga K "is_path_text") fd := T.c.def_ 5 (d := dfn ("is_path_text", none) "is_path_text" "is_path_text" s_is_path_text)
theorem fd_is_owner (T : Txt K mg) : ∃ fd, FunD K "is_owner" "is_owner" (defArgs s_is_owner) (defBody s_is_owner) (defScope s_is_owner) [] [] (He.ga K "is_owner") fd := T.c.def_ 6 (d := dfn ("is_owner", none) "is_owner" "is_owner" s_is_owner)
theorem fd_by_names (T : Txt K mg) : ∃ fd, FunD K "by_names" "by_names" (defArgs s_by_names) (defBody s_by_names) (defScope s_by_names) [] [] (He.ga K "by_names") fd := T.c.def_ 7 (d := dfn ("by_names", none) "by_names" "by_names" s_by_names)
theorem fd_found_nodes (T : Txt K mg) : ∃ fd, FunD K "found_nodes" "found_nodes" (defArgs s_found_nodes) (defBody s_found_nodes) (defScope s_found_nodes) [] [] (He.ga K "found_nodes") fd := T.c.def_ 8 (d := dfn ("found_nodes", none) "found_nodes" "found_nodes" s_found_nodes)
theorem fd_Folder_init (T : Txt K mg) : ∃ fd, FunD K "__init__" "Folder.__init__" (defArgs s_Folder_init) (defBody s_Folder_init) (defScope s_Folder_init) [] [] (He.ma K (He.ga K "Folder") "__init__") fd := T.c.def_ 9 (d := dfn ("Folder", some "__init__") "__init__" "Folder.__init__" s_Folder_init)
theorem fd_Folder_class_name (T : Txt K mg) : ∃ fd, FunD K "class_name" "Folder.class_name" (defArgs s_Folder_class_name) (defBody s_Folder_class_name) (defScope s_Folder_class_name) [] [] (He.ma K (He.ga K "Folder") "class_name") fd := T.c.def_ 10 (d := dfn ("Folder", some "class_name") "class_name" "Folder.class_name" s_Folder_class_name)
theorem fd_Folder_facts (T : Txt K mg) : ∃ fd, FunD K "facts" "Folder.facts" (defArgs s_Folder_facts) (defBody s_Folder_facts) (defScope s_Folder_facts) [] [] (He.ma K (He.ga K "Folder") "facts") fd := T.c.def_ 11 (d := dfn ("Folder", some "facts") "facts" "Folder.facts" s_Folder_facts)
theorem fd_File_init (T : Txt K mg) : ∃ fd, FunD K "__init__" "File.__init__" (defArgs s_File_init) (defBody s_File_init) (defScope s_File_init) [] [] (He.ma K (He.ga K "File") "__init__") fd := T.c.def_ 12 (d := dfn ("File", some "__init__") "__init__" "File.__init__" s_File_init)
theorem fd_Link_init (T : Txt K mg) : ∃ fd, FunD K "__init__" "Link.__init__" (defArgs s_Link_init) (defBody s_Link_init) (defScope s_Link_init) [] [] (He.ma K (He.ga K "Link") "__init__") fd := T.c.def_ 13 (d := dfn ("Link", some "__init__") "__init__" "Link.__init__" s_Link_init)
theorem fd_Gone_init (T : Txt K mg) : ∃ fd, FunD K "__init__" "Gone.__init__" (defArgs s_Gone_init) (defBody s_Gone_init) (defScope s_Gone_init) [] [] (He.ma K (He.ga K "Gone") "__init__") fd := T.c.def_ 14 (d := dfn ("Gone", some "__init__") "__init__" "Gone.__init__" s_Gone_init)
theorem fd_wrong_with_entries (T : Txt K mg) : ∃ fd, FunD K "wrong_with_entries" "wrong_with_entries" (defArgs s_wrong_with_entries) (defBody s_wrong_with_entries) (defScope s_wrong_with_entries) [] [] (He.ga K "wrong_with_entries") fd := T.c.def_ 15 (d := dfn ("wrong_with_entries", none) "wrong_with_entries" "wrong_with_entries" s_wrong_with_entries)
theorem fd_wrong_with (T : Txt K mg) : ∃ fd, FunD K "wrong_with" "wrong_with" (defArgs s_wrong_with) (defBody s_wrong_with) (defScope s_wrong_with) [] [] (He.ga K "wrong_with") fd := T.c.def_ 16 (d := dfn ("wrong_with", none) "wrong_with" "wrong_with" s_wrong_with)
theorem fd_Tree_init (T : Txt K mg) : ∃ fd, FunD K "__init__" "Tree.__init__" (defArgs s_Tree_init) (defBody s_Tree_init) (defScope s_Tree_init) [] [] (He.ma K (He.ga K "Tree") "__init__") fd := T.c.def_ 17 (d := dfn ("Tree", some "__init__") "__init__" "Tree.__init__" s_Tree_init)
theorem fd_Tree_class_name (T : Txt K mg) : ∃ fd, FunD K "class_name" "Tree.class_name" (defArgs s_Tree_class_name) (defBody s_Tree_class_name) (defScope s_Tree_class_name) [] [] (He.ma K (He.ga K "Tree") "class_name") fd := T.c.def_ 18 (d := dfn ("Tree", some "class_name") "class_name" "Tree.class_name" s_Tree_class_name)
theorem fd_Tree_facts (T : Txt K mg) : ∃ fd, FunD K "facts" "Tree.facts" (defArgs s_Tree_facts) (defBody s_Tree_facts) (defScope s_Tree_facts) [] [] (He.ma K (He.ga K "Tree") "facts") fd := T.c.def_ 19 (d := dfn ("Tree", some "facts") "facts" "Tree.facts" s_Tree_facts)
theorem fd_Tree_folder_numbers (T : Txt K mg) : ∃ fd, FunD K "folder_numbers" "Tree.folder_numbers" (defArgs s_Tree_folder_numbers) (defBody s_Tree_folder_numbers) (defScope s_Tree_folder_numbers) [] [] (He.ma K (He.ga K "Tree") "folder_numbers") fd := T.c.def_ 20 (d := dfn ("Tree", some "folder_numbers") "folder_numbers" "Tree.folder_numbers" s_Tree_folder_numbers)
theorem fd_Tree_check_folders (T : Txt K mg) : ∃ fd, FunD K "check_folders" "Tree.check_folders" (defArgs s_Tree_check_folders) (defBody s_Tree_check_folders) (defScope s_Tree_check_folders) [] [] (He.ma K (He.ga K "Tree") "check_folders") fd := T.c.def_ 21 (d := dfn ("Tree", some "check_folders") "check_folders" "Tree.check_folders" s_Tree_check_folders)
theorem fd_check_node (T : Txt K mg) : ∃ fd, FunD K "check_node" "check_node" (defArgs s_check_node) (defBody s_check_node) (defScope s_check_node) [] [] (He.ga K "check_node") fd := T.c.def_ 22 (d := dfn ("check_node", none) "check_node" "check_node" s_check_node)
theorem fd_node_at (T : Txt K mg) : ∃ fd, FunD K "node_at" "node_at" (defArgs s_node_at) (defBody s_node_at) (defScope s_node_at) [] [] (He.ga K "node_at") fd := T.c.def_ 23 (d := dfn ("node_at", none) "node_at" "node_at" s_node_at)
theorem fd_entries_of (T : Txt K mg) : ∃ fd, FunD K "entries_of" "entries_of" (defArgs s_entries_of) (defBody s_entries_of) (defScope s_entries_of) [] [] (He.ga K "entries_of") fd := T.c.def_ 24 (d := dfn ("entries_of", none) "entries_of" "entries_of" s_entries_of)
theorem fd_above (T : Txt K mg) : ∃ fd, FunD K "above" "above" (defArgs s_above) (defBody s_above) (defScope s_above) [] [] (He.ga K "above") fd := T.c.def_ 25 (d := dfn ("above", none) "above" "above" s_above)
theorem fd_Move_init (T : Txt K mg) : ∃ fd, FunD K "__init__" "Move.__init__" (defArgs s_Move_init) (defBody s_Move_init) (defScope s_Move_init) [] [] (He.ma K (He.ga K "Move") "__init__") fd := T.c.def_ 26 (d := dfn ("Move", some "__init__") "__init__" "Move.__init__" s_Move_init)
theorem fd_is_folder (T : Txt K mg) : ∃ fd, FunD K "is_folder" "is_folder" (defArgs s_is_folder) (defBody s_is_folder) (defScope s_is_folder) [] [] (He.ga K "is_folder") fd := T.c.def_ 27 (d := dfn ("is_folder", none) "is_folder" "is_folder" s_is_folder)
theorem fd_is_below (T : Txt K mg) : ∃ fd, FunD K "is_below" "is_below" (defArgs s_is_below) (defBody s_is_below) (defScope s_is_below) [] [] (He.ga K "is_below") fd := T.c.def_ 28 (d := dfn ("is_below", none) "is_below" "is_below" s_is_below)
theorem fd_made_node (T : Txt K mg) : ∃ fd, FunD K "made_node" "made_node" (defArgs s_made_node) (defBody s_made_node) (defScope s_made_node) [] [] (He.ga K "made_node") fd := T.c.def_ 29 (d := dfn ("made_node", none) "made_node" "made_node" s_made_node)
theorem fd_wrong_names (T : Txt K mg) : ∃ fd, FunD K "wrong_names" "wrong_names" (defArgs s_wrong_names) (defBody s_wrong_names) (defScope s_wrong_names) [] [] (He.ga K "wrong_names") fd := T.c.def_ 30 (d := dfn ("wrong_names", none) "wrong_names" "wrong_names" s_wrong_names)
theorem fd_is_leaf (T : Txt K mg) : ∃ fd, FunD K "is_leaf" "is_leaf" (defArgs s_is_leaf) (defBody s_is_leaf) (defScope s_is_leaf) [] [] (He.ga K "is_leaf") fd := T.c.def_ 31 (d := dfn ("is_leaf", none) "is_leaf" "is_leaf" s_is_leaf)
theorem fd_wrong_move (T : Txt K mg) : ∃ fd, FunD K "wrong_move" "wrong_move" (defArgs s_wrong_move) (defBody s_wrong_move) (defScope s_wrong_move) [] [] (He.ga K "wrong_move") fd := T.c.def_ 32 (d := dfn ("wrong_move", none) "wrong_move" "wrong_move" s_wrong_move)
theorem fd_wrong_deed (T : Txt K mg) : ∃ fd, FunD K "wrong_deed" "wrong_deed" (defArgs s_wrong_deed) (defBody s_wrong_deed) (defScope s_wrong_deed) [] [] (He.ga K "wrong_deed") fd := T.c.def_ 33 (d := dfn ("wrong_deed", none) "wrong_deed" "wrong_deed" s_wrong_deed)
theorem fd_with_entry (T : Txt K mg) : ∃ fd, FunD K "with_entry" "with_entry" (defArgs s_with_entry) (defBody s_with_entry) (defScope s_with_entry) [] [] (He.ga K "with_entry") fd := T.c.def_ 34 (d := dfn ("with_entry", none) "with_entry" "with_entry" s_with_entry)
theorem fd_without_entry (T : Txt K mg) : ∃ fd, FunD K "without_entry" "without_entry" (defArgs s_without_entry) (defBody s_without_entry) (defScope s_without_entry) [] [] (He.ga K "without_entry") fd := T.c.def_ 35 (d := dfn ("without_entry", none) "without_entry" "without_entry" s_without_entry)
theorem fd_done (T : Txt K mg) : ∃ fd, FunD K "done" "done" (defArgs s_done) (defBody s_done) (defScope s_done) [] [] (He.ga K "done") fd := T.c.def_ 36 (d := dfn ("done", none) "done" "done" s_done)
theorem fd_Others_init (T : Txt K mg) : ∃ fd, FunD K "__init__" "Others.__init__" (defArgs s_Others_init) (defBody s_Others_init) (defScope s_Others_init) [] [] (He.ma K (He.ga K "Others") "__init__") fd := T.c.def_ 37 (d := dfn ("Others", some "__init__") "__init__" "Others.__init__" s_Others_init)
theorem fd_check_others (T : Txt K mg) : ∃ fd, FunD K "check_others" "check_others" (defArgs s_check_others) (defBody s_check_others) (defScope s_check_others) [] [] (He.ga K "check_others") fd := T.c.def_ 38 (d := dfn ("check_others", none) "check_others" "check_others" s_check_others)
theorem fd_is_allowed (T : Txt K mg) : ∃ fd, FunD K "is_allowed" "is_allowed" (defArgs s_is_allowed) (defBody s_is_allowed) (defScope s_is_allowed) [] [] (He.ga K "is_allowed") fd := T.c.def_ 39 (d := dfn ("is_allowed", none) "is_allowed" "is_allowed" s_is_allowed)
theorem fd_may (T : Txt K mg) : ∃ fd, FunD K "may" "may" (defArgs s_may) (defBody s_may) (defScope s_may) [] [] (He.ga K "may") fd := T.c.def_ 40 (d := dfn ("may", none) "may" "may" s_may)
theorem fd_loose (T : Txt K mg) : ∃ fd, FunD K "loose" "loose" (defArgs s_loose) (defBody s_loose) (defScope s_loose) [] [] (He.ga K "loose") fd := T.c.def_ 41 (d := dfn ("loose", none) "loose" "loose" s_loose)
theorem fd_heads_of (T : Txt K mg) : ∃ fd, FunD K "heads_of" "heads_of" (defArgs s_heads_of) (defBody s_heads_of) (defScope s_heads_of) [] [] (He.ga K "heads_of") fd := T.c.def_ 42 (d := dfn ("heads_of", none) "heads_of" "heads_of" s_heads_of)
theorem fd_pieces (T : Txt K mg) : ∃ fd, FunD K "pieces" "pieces" (defArgs s_pieces) (defBody s_pieces) (defScope s_pieces) [] [] (He.ga K "pieces") fd := T.c.def_ 43 (d := dfn ("pieces", none) "pieces" "pieces" s_pieces)
theorem fd_arrangements (T : Txt K mg) : ∃ fd, FunD K "arrangements" "arrangements" (defArgs s_arrangements) (defBody s_arrangements) (defScope s_arrangements) [] [] (He.ga K "arrangements") fd := T.c.def_ 44 (d := dfn ("arrangements", none) "arrangements" "arrangements" s_arrangements)
theorem fd_law_mixed (T : Txt K mg) : ∃ fd, FunD K "_law_mixed" "_law_mixed" (defArgs s_law_mixed) (defBody s_law_mixed) (defScope s_law_mixed) [] [] (He.ga K "_law_mixed") fd := T.c.def_ 45 (d := dfn ("_law_mixed", none) "_law_mixed" "_law_mixed" s_law_mixed)
theorem fd_law_source (T : Txt K mg) : ∃ fd, FunD K "_law_source" "_law_source" (defArgs s_law_source) (defBody s_law_source) (defScope s_law_source) [] [] (He.ga K "_law_source") fd := T.c.def_ 46 (d := dfn ("_law_source", none) "_law_source" "_law_source" s_law_source)
theorem fd_law_take (T : Txt K mg) : ∃ fd, FunD K "_law_take" "_law_take" (defArgs s_law_take) (defBody s_law_take) (defScope s_law_take) [] [] (He.ga K "_law_take") fd := T.c.def_ 47 (d := dfn ("_law_take", none) "_law_take" "_law_take" s_law_take)
theorem fd_law_pick (T : Txt K mg) : ∃ fd, FunD K "_law_pick" "_law_pick" (defArgs s_law_pick) (defBody s_law_pick) (defScope s_law_pick) [] [] (He.ga K "_law_pick") fd := T.c.def_ 48 (d := dfn ("_law_pick", none) "_law_pick" "_law_pick" s_law_pick)
theorem fd_law_nodes (T : Txt K mg) : ∃ fd, FunD K "_law_nodes" "_law_nodes" (defArgs s_law_nodes) (defBody s_law_nodes) (defScope s_law_nodes) [] [] (He.ga K "_law_nodes") fd := T.c.def_ 49 (d := dfn ("_law_nodes", none) "_law_nodes" "_law_nodes" s_law_nodes)
theorem fd_law_turned (T : Txt K mg) : ∃ fd, FunD K "_law_turned" "_law_turned" (defArgs s_law_turned) (defBody s_law_turned) (defScope s_law_turned) [] [] (He.ga K "_law_turned") fd := T.c.def_ 50 (d := dfn ("_law_turned", none) "_law_turned" "_law_turned" s_law_turned)
theorem fd_law_tree (T : Txt K mg) : ∃ fd, FunD K "_law_tree" "_law_tree" (defArgs s_law_tree) (defBody s_law_tree) (defScope s_law_tree) [] [] (He.ga K "_law_tree") fd := T.c.def_ 51 (d := dfn ("_law_tree", none) "_law_tree" "_law_tree" s_law_tree)
theorem fd_law_theirs (T : Txt K mg) : ∃ fd, FunD K "_law_theirs" "_law_theirs" (defArgs s_law_theirs) (defBody s_law_theirs) (defScope s_law_theirs) [] [] (He.ga K "_law_theirs") fd := T.c.def_ 52 (d := dfn ("_law_theirs", none) "_law_theirs" "_law_theirs" s_law_theirs)
theorem fd_law_shape (T : Txt K mg) : ∃ fd, FunD K "_law_shape" "_law_shape" (defArgs s_law_shape) (defBody s_law_shape) (defScope s_law_shape) [] [] (He.ga K "_law_shape") fd := T.c.def_ 53 (d := dfn ("_law_shape", none) "_law_shape" "_law_shape" s_law_shape)
theorem fd_law_moved (T : Txt K mg) : ∃ fd, FunD K "_law_moved" "_law_moved" (defArgs s_law_moved) (defBody s_law_moved) (defScope s_law_moved) [] [] (He.ga K "_law_moved") fd := T.c.def_ 54 (d := dfn ("_law_moved", none) "_law_moved" "_law_moved" s_law_moved)
theorem fd_law_right (T : Txt K mg) : ∃ fd, FunD K "_law_right" "_law_right" (defArgs s_law_right) (defBody s_law_right) (defScope s_law_right) [] [] (He.ga K "_law_right") fd := T.c.def_ 55 (d := dfn ("_law_right", none) "_law_right" "_law_right" s_law_right)
theorem fd_law (T : Txt K mg) : ∃ fd, FunD K "law" "law" (defArgs s_law) (defBody s_law) (defScope s_law) [] [] (He.ga K "law") fd := T.c.def_ 56 (d := dfn ("law", none) "law" "law" s_law)
theorem in_Path (T : Txt K mg) {H : Hp} {a dx : Addr} {fs : List (Str × V)} (ha : H a = some (.ins (He.ga K "Path") dx fs)) : TyX K H (.ref a) (.ref (He.ga K "Path")) := insB_ok (cl_Path T) (T.e 0) ha
theorem in_Folder (T : Txt K mg) {H : Hp} {a dx : Addr} {fs : List (Str × V)} (ha : H a = some (.ins (He.ga K "Folder") dx fs)) : TyX K H (.ref a) (.ref (He.ga K "Folder")) := insB_ok (cl_Folder T) (T.e 1) ha
theorem in_File (T : Txt K mg) {H : Hp} {a dx : Addr} {fs : List (Str × V)} (ha : H a = some (.ins (He.ga K "File") dx fs)) : TyX K H (.ref a) (.ref (He.ga K "File")) := insB_ok (cl_File T) (T.e 2) ha
theorem in_Link (T : Txt K mg) {H : Hp} {a dx : Addr} {fs : List (Str × V)} (ha : H a = some (.ins (He.ga K "Link") dx fs)) : TyX K H (.ref a) (.ref (He.ga K "Link")) := insB_ok (cl_Link T) (T.e 3) ha
theorem in_Gone (T : Txt K mg) {H : Hp} {a dx : Addr} {fs : List (Str × V)} (ha : H a = some (.ins (He.ga K "Gone") dx fs)) : TyX K H (.ref a) (.ref (He.ga K "Gone")) := insB_ok (cl_Gone T) (T.e 4) ha
theorem in_Tree (T : Txt K mg) {H : Hp} {a dx : Addr} {fs : List (Str × V)} (ha : H a = some (.ins (He.ga K "Tree") dx fs)) : TyX K H (.ref a) (.ref (He.ga K "Tree")) := insB_ok (cl_Tree T) (T.e 5) ha
theorem in_Move (T : Txt K mg) {H : Hp} {a dx : Addr} {fs : List (Str × V)} (ha : H a = some (.ins (He.ga K "Move") dx fs)) : TyX K H (.ref a) (.ref (He.ga K "Move")) := insB_ok (cl_Move T) (T.e 6) ha
theorem in_Others (T : Txt K mg) {H : Hp} {a dx : Addr} {fs : List (Str × V)} (ha : H a = some (.ins (He.ga K "Others") dx fs)) : TyX K H (.ref a) (.ref (He.ga K "Others")) := insB_ok (cl_Others T) (T.e 7) ha
theorem is_Folder_Folder (T : Txt K mg) : PySem.W.kitOne K (.ref (He.ga K "Folder")) (.ref (He.ga K "Folder")) = some true := of_decide_eq_true (T.e 8)
theorem is_Folder_File (T : Txt K mg) : PySem.W.kitOne K (.ref (He.ga K "Folder")) (.ref (He.ga K "File")) = some false := of_decide_eq_true (T.e 9)
theorem is_Folder_Link (T : Txt K mg) : PySem.W.kitOne K (.ref (He.ga K "Folder")) (.ref (He.ga K "Link")) = some false := of_decide_eq_true (T.e 10)
theorem is_Folder_Gone (T : Txt K mg) : PySem.W.kitOne K (.ref (He.ga K "Folder")) (.ref (He.ga K "Gone")) = some false := of_decide_eq_true (T.e 11)
theorem is_File_Folder (T : Txt K mg) : PySem.W.kitOne K (.ref (He.ga K "File")) (.ref (He.ga K "Folder")) = some false := of_decide_eq_true (T.e 12)
theorem is_File_File (T : Txt K mg) : PySem.W.kitOne K (.ref (He.ga K "File")) (.ref (He.ga K "File")) = some true := of_decide_eq_true (T.e 13)
theorem is_File_Link (T : Txt K mg) : PySem.W.kitOne K (.ref (He.ga K "File")) (.ref (He.ga K "Link")) = some false := of_decide_eq_true (T.e 14)
theorem is_File_Gone (T : Txt K mg) : PySem.W.kitOne K (.ref (He.ga K "File")) (.ref (He.ga K "Gone")) = some false := of_decide_eq_true (T.e 15)
theorem is_Link_Folder (T : Txt K mg) : PySem.W.kitOne K (.ref (He.ga K "Link")) (.ref (He.ga K "Folder")) = some false := of_decide_eq_true (T.e 16)
theorem is_Link_File (T : Txt K mg) : PySem.W.kitOne K (.ref (He.ga K "Link")) (.ref (He.ga K "File")) = some false := of_decide_eq_true (T.e 17)
theorem is_Link_Link (T : Txt K mg) : PySem.W.kitOne K (.ref (He.ga K "Link")) (.ref (He.ga K "Link")) = some true := of_decide_eq_true (T.e 18)
theorem is_Link_Gone (T : Txt K mg) : PySem.W.kitOne K (.ref (He.ga K "Link")) (.ref (He.ga K "Gone")) = some false := of_decide_eq_true (T.e 19)
theorem is_Gone_Folder (T : Txt K mg) : PySem.W.kitOne K (.ref (He.ga K "Gone")) (.ref (He.ga K "Folder")) = some false := of_decide_eq_true (T.e 20)
theorem is_Gone_File (T : Txt K mg) : PySem.W.kitOne K (.ref (He.ga K "Gone")) (.ref (He.ga K "File")) = some false := of_decide_eq_true (T.e 21)
theorem is_Gone_Link (T : Txt K mg) : PySem.W.kitOne K (.ref (He.ga K "Gone")) (.ref (He.ga K "Link")) = some false := of_decide_eq_true (T.e 22)
theorem is_Gone_Gone (T : Txt K mg) : PySem.W.kitOne K (.ref (He.ga K "Gone")) (.ref (He.ga K "Gone")) = some true := of_decide_eq_true (T.e 23)
theorem is_Move_MakeFolder (T : Txt K mg) : PySem.W.kitOne K (.ref (He.ga K "Move")) (.ref (He.ga K "MakeFolder")) = some false := of_decide_eq_true (T.e 24)
theorem is_Move_MakeFile (T : Txt K mg) : PySem.W.kitOne K (.ref (He.ga K "Move")) (.ref (He.ga K "MakeFile")) = some false := of_decide_eq_true (T.e 25)
theorem is_Move_MakeLink (T : Txt K mg) : PySem.W.kitOne K (.ref (He.ga K "Move")) (.ref (He.ga K "MakeLink")) = some false := of_decide_eq_true (T.e 26)
theorem is_Move_Put (T : Txt K mg) : PySem.W.kitOne K (.ref (He.ga K "Move")) (.ref (He.ga K "Put")) = some false := of_decide_eq_true (T.e 27)
theorem is_Move_Take (T : Txt K mg) : PySem.W.kitOne K (.ref (He.ga K "Move")) (.ref (He.ga K "Take")) = some false := of_decide_eq_true (T.e 28)
theorem is_Move_Move (T : Txt K mg) : PySem.W.kitOne K (.ref (He.ga K "Move")) (.ref (He.ga K "Move")) = some true := of_decide_eq_true (T.e 29)
theorem is_Folder_Thing (T : Txt K mg) : PySem.W.kitOne K (.ref (He.ga K "Folder")) (.ref (He.ga K "Thing")) = some true := of_decide_eq_true (T.e 30)
theorem is_Tree_Thing (T : Txt K mg) : PySem.W.kitOne K (.ref (He.ga K "Tree")) (.ref (He.ga K "Thing")) = some true := of_decide_eq_true (T.e 31)
theorem is_str_Thing (T : Txt K mg) : PySem.W.kitOne K (.type "str") (.ref (He.ga K "Thing")) = some false := of_decide_eq_true (T.e 32)
theorem eq_Folder (T : Txt K mg) : He.ma K (He.ga K "Folder") "__eq__" = He.ma K (He.ga K "Thing") "__eq__" := of_decide_eq_true (T.e 33)
theorem eq_Tree (T : Txt K mg) : He.ma K (He.ga K "Tree") "__eq__" = He.ma K (He.ga K "Thing") "__eq__" := of_decide_eq_true (T.e 34)
theorem nf_Tree (T : Txt K mg) : PySem.W.notFirst K (He.ga K "Tree") (.type "str") = true := T.e 35
end
end NW
set_option maxHeartbeats 4000000
/-! Rules that the hand layer lacks. -/
namespace NW
open PySem PySem.Spec PyProof.Rows L2
section
variable {X : Cx}
/-! ### a sequence against an empty one -/
def rNeNilL (K : PySem.W.Frag) : R2 := fun x y H Q => ∃ a b xs, x = .ref a ∧ y = .ref b ∧ SqL K H a xs ∧ SqL K H b [] ∧ Q (.bl (!xs.isEmpty)) H
def rEqNilL (K : PySem.W.Frag) : R2 := fun x y H Q => ∃ a b xs, x = .ref a ∧ y = .ref b ∧ SqL K H a xs ∧ SqL K H b [] ∧ Q (.bl xs.isEmpty) H
def rEqNilT (K : PySem.W.Frag) : R2 := fun x y H Q => ∃ a b xs, x = .ref a ∧ y = .ref b ∧ SqT K H a xs ∧ SqT K H b [] ∧ Q (.bl xs.isEmpty) H
theorem vals_nil {us : List Value} (r : Vals [] us) : us = [] := by cases r; rfl
theorem op_neNilL (hu : X.A.units < cLine) : OpR X (compareOp .NotEq) (rNeNilL X.K) := by
  intro pins s σ H x y v u Q I rx ry h
  obtain ⟨a, b, xs, rfl, rfl, ha, hb, q⟩ := h
  cases rx
  cases ry
  obtain ⟨its, r, p, _⟩ := I.list ha
  obtain ⟨its2, r2, p2, _⟩ := I.list hb
  obtain rfl := vals_nil r2
  show wpAny (model X.prog X.w) X.A (richCompare .NotEq (.ref a) (.ref b)) (EP X pins σ Q) X.xe s
  cases r with
  | nil => exact SeqAt.RcNeAt.lists (e := fun _ => true) p.isList p2.isList rfl hu (fun j h1 h2 => absurd h1 (by simp)) X.prog X.w X.xe _ (fin_bl I q (by simp))
  | cons r1 rt => exact SeqAt.RcNeAt.lists_lengths p.isList p2.isList (by simp) hu X.prog X.w X.xe _ (fin_bl I q (by simp))
theorem op_eqNilL (hu : X.A.units < cLine) : OpR X (compareOp .Eq) (rEqNilL X.K) := by
  intro pins s σ H x y v u Q I rx ry h
  obtain ⟨a, b, xs, rfl, rfl, ha, hb, q⟩ := h
  cases rx
  cases ry
  obtain ⟨its, r, p, _⟩ := I.list ha
  obtain ⟨its2, r2, p2, _⟩ := I.list hb
  obtain rfl := vals_nil r2
  show wpAny (model X.prog X.w) X.A (richCompare .Eq (.ref a) (.ref b)) (EP X pins σ Q) X.xe s
  cases r with
  | nil => exact SeqAt.RcAt.lists (e := fun _ => true) p.isList p2.isList rfl hu (fun j h1 h2 => absurd h1 (by simp)) X.prog X.w X.xe _ (fin_bl I q (by simp))
  | cons r1 rt => exact SeqAt.RcAt.lists_lengths p.isList p2.isList (by simp) hu X.prog X.w X.xe _ (fin_bl I q (by simp))
theorem op_eqNilT (hu : X.A.units < cLine) : OpR X (compareOp .Eq) (rEqNilT X.K) := by
  intro pins s σ H x y v u Q I rx ry h
  obtain ⟨a, b, xs, rfl, rfl, ha, hb, q⟩ := h
  cases rx
  cases ry
  obtain ⟨its, r, p, _⟩ := I.tuple ha
  obtain ⟨its2, r2, p2, _⟩ := I.tuple hb
  obtain rfl := vals_nil r2
  show wpAny (model X.prog X.w) X.A (richCompare .Eq (.ref a) (.ref b)) (EP X pins σ Q) X.xe s
  refine SeqAt.RcAt.tuples (e := fun _ => true) p p2 hu (fun j h1 h2 => absurd h2 (by simp)) X.prog X.w X.xe _ ?_
  cases r with
  | nil => exact fin_bl I q (by simp)
  | cons r1 rt => exact fin_bl I q (by simp)
/-! ### list.count of flat values -/
def cntK (x : V) (v : Value) : Bool := match absV v with
  | some y => eqV y x
  | none => false
theorem cntK_rel {x y : V} {v : Value} (r : L2.RelV y v) : cntK x v = eqV y x := by unfold cntK; rw [r.abs]
theorem cntK_count {x : V} : ∀ {xs : List V} {us : List Value}, Vals xs us → us.countP (cntK x) = xs.countP fun y => eqV y x
  | _, _, .nil => rfl
  | _, _, .cons r t => by rw [List.countP_cons, List.countP_cons, cntK_count t, cntK_rel r]
theorem vals_mem : ∀ {xs : List V} {us : List Value} {u : Value}, Vals xs us → u ∈ us → ∃ y ∈ xs, L2.RelV y u
  | _, _, _, .nil, h => by cases h
  | _, _, u, .cons (b := b) r t, h => by
    rcases List.mem_cons.mp h with e | h
    · subst e; exact ⟨_, List.mem_cons_self, r⟩
    · obtain ⟨y, hy, q⟩ := vals_mem t h; exact ⟨y, List.mem_cons_of_mem _ hy, q⟩
def rCntV (K : PySem.W.Frag) : V → List V → Hp → VK → Prop := fun x xs H Q => ∃ (p : Addr) (ys : List V) (k : V), x = .ref p ∧ xs = [k] ∧ SqL K H p ys ∧ flatV k = true ∧ ys.all flatV = true ∧ Q (.int ((ys.countP fun y => eqV y k : Nat) : Int)) H
theorem mt_countV : MtR X "list.count" (rCntV X.K) := by
  intro pins s σ H x xs v us Q I rx rxs h
  obtain ⟨p, ys, k, rfl, rfl, hs, fk, fa, q⟩ := h
  cases rx
  obtain ⟨u, rfl, ru⟩ := rxs.one
  obtain ⟨its, rv, ⟨⟨cls, dd, data, sl⟩, n, ho, hc, hdn, hd⟩, hlen⟩ := I.list hs
  simp only at hc hd
  subst hc hd
  refine call_meets PySem.F.slot_list_count ⟨_, ho, rfl⟩ PySem.F.entry_list_count (PySem.F.args_list_count_2 _ _)
    (SeqAt.list_countAt p its.toArray n dd sl u (cntK k)) ⟨ho, fun y hy => ?_, ?_⟩
  · obtain ⟨z, hz, rz⟩ := vals_mem rv (by simpa using hy)
    rw [cntK_rel rz]
    exact eqAt_V rz ru (List.all_eq_true.mp fa z hz) fk
  · refine ⟨.int ((ys.countP fun y => eqV y k : Nat) : Int), H, I.tok _, ⟨s.toks, ?_⟩, q⟩
    have ec := cntK_count (x := k) rv
    show Value.int ((its.toArray.toList.countP (cntK k) : Nat) : Int) s.toks = _
    rw [← ec]
/-! ### a list (the script, too) + a list -/
def rCatL (K : PySem.W.Frag) : R2 := fun x y H Q => ∃ l b xs zs, x = .ref l ∧ y = .ref b ∧ SqL K H l xs ∧ SqL K H b zs ∧ xs.length + zs.length ≤ sizeLine ∧
  ∀ p, H p = none → Q (.ref p) (upd H p (.lst (xs ++ zs)))
theorem op_catL : OpR X (binaryOp .Add) (rCatL X.K) := by
  intro pins s σ H x y v u Q I rx ry h
  obtain ⟨l, b, xs, zs, rfl, rfl, hH, hB, hz, q⟩ := h
  cases rx
  cases ry
  obtain ⟨its, r, ⟨⟨cls, dd, data, sl⟩, n, ho, hc, hdn, hd⟩, _⟩ := I.list hH
  obtain ⟨its2, r2, ⟨⟨cls2, dd2, data2, sl2⟩, n2, ho2, hc2, hdn2, hd2⟩, _⟩ := I.list hB
  simp only at hc hd hc2 hd2
  subst hc hd hc2 hd2
  have e1 := r.length
  have e2 := r2.length
  have e : its.toArray ++ its2.toArray = (its ++ its2).toArray := by simp
  refine concat_meets ⟨_, ho, rfl⟩ ⟨_, ho2, rfl⟩ noFill_list_add seq_list_add PySem.F.slot_list_add PySem.F.entry_list_add (PySem.F.args_list_add_2 _ _) (list_addW l b its.toArray its2.toArray n n2 dd dd2 sl sl2 (by simp; omega)) ⟨ho, ho2, ?_⟩
  rw [e]
  exact ⟨.ref _, _, I.lnew (t' := s.toks) (r.append r2) (by rw [List.length_append]; omega), rfl, q _ I.fresh⟩
/-! ### x *= e -/
theorem ip_mul : PIp X .Mult (fun x y H Q => ∃ i j, x = .int i ∧ y = .int j ∧ CMul i j ∧ Q (.int (i * j)) H) := by
  intro pins s σ H x y v u Q I r1 r2 h
  obtain ⟨i, j, e1, e2, hc, q⟩ := h
  subst e1; subst e2
  obtain ⟨t, rfl⟩ := r1
  obtain ⟨t', rfl⟩ := r2
  exact imul_int ⟨.int _, H, I.tok _, ⟨_, rfl⟩, q⟩ hc.ok
end
end NW
set_option maxHeartbeats 4000000
/-! Defs by their bodies; what comprehensions give; expressions that the layer's Evl lacks. -/
namespace NW
open PySem PySem.Spec PyProof.Rows L2 Evl
/-! ### the built-ins' names -/
theorem b_len : bootBuiltins "len" = some (.builtin "len") := by decide +kernel
theorem b_isinstance : bootBuiltins "isinstance" = some (.builtin "isinstance") := by decide +kernel
theorem b_sorted : bootBuiltins "sorted" = some (.builtin "sorted") := by decide +kernel
theorem b_all : bootBuiltins "all" = some (.builtin "all") := by decide +kernel
theorem b_range : bootBuiltins "range" = some (.type "range") := by decide +kernel
theorem b_int : bootBuiltins "int" = some (.type "int") := by decide +kernel
theorem b_str : bootBuiltins "str" = some (.type "str") := by decide +kernel
theorem b_tuple : bootBuiltins "tuple" = some (.type "tuple") := by decide +kernel
theorem b_enumerate : bootBuiltins "enumerate" = some (.type "enumerate") := by decide +kernel
theorem b_list : bootBuiltins "list" = some (.type "list") := by decide +kernel
theorem b_dict : bootBuiltins "dict" = some (.type "dict") := by decide +kernel
theorem b_zip : bootBuiltins "zip" = some (.type "zip") := by decide +kernel
theorem b_bool : bootBuiltins "bool" = some (.type "bool") := by decide +kernel
/-! ### a def, a method, a class by its body -/
section
variable {P : Program} {w : World} {K : PySem.W.Frag} {mg : Str → Option Value} {base : Heap}
theorem cal_of {x qual : Str} {st : Stmt} {N ps : List Str} {k : Nat} {sp : Sp} {a : Addr} (F : ∃ fd, FunD K x qual (defArgs st) (defBody st) (defScope st) [] [] a fd) (hm : mg x = some (.ref a))
    (b : ∀ (kV doc pm : Value) (an : Option Addr) (cdv ct : Value) (us : List Value), us.length = ps.length → bindArgs (PySem.W.fnOf x qual (defArgs st) (defBody st) (defScope st) .none kV doc pm an cdv ct) ⟨us, []⟩ = pure (ps.zip us))
    (S : FnScope N ps (defScope st)) (len : ∀ vs H Q E, sp vs H Q E → vs.length = ps.length)
    (body : ∀ (cdv : Value) (A : Around) (outer : List Env) (s : Shared) (H : Hp) (vs : List V) (Q : VK) (E : XK), Room k (A.deeper (envOfC qual (defScope st) s.heap.objs.size a cdv)) → sp vs H Q E →
      ∃ t, PSs (cxOf CX0 P w K mg base N qual (defScope st) a cdv A outer s H E).nox (defBody st) t ∧ t { nx := fun _ H' => Q .non H', rt := Q } (start N vs) H) : C8.Cal P w K mg base (k + 1) x sp [] := by
  obtain ⟨fd, F⟩ := F
  refine ⟨a, fd, ps, [], F.ok S len fun cdv A outer s H vs Q E hr h => ?_, hm, F.kp, F.bindsN b, .nil⟩
  obtain ⟨t, q, z⟩ := body cdv A outer s H vs Q E hr h
  exact ⟨t, q.nox, z⟩
theorem met_of {x qual : Str} {st : Stmt} {N ps : List Str} {k : Nat} {sp : Sp} {C : Addr} {m : Str} {a : Addr} (F : ∃ fd, FunD K x qual (defArgs st) (defBody st) (defScope st) [] [] a fd) (c : Cls K C) (hm : Meth K C m a)
    (b : ∀ (kV doc pm : Value) (an : Option Addr) (cdv ct : Value) (us : List Value), us.length = ps.length → bindArgs (PySem.W.fnOf x qual (defArgs st) (defBody st) (defScope st) .none kV doc pm an cdv ct) ⟨us, []⟩ = pure (ps.zip us))
    (S : FnScope N ps (defScope st)) (len : ∀ vs H Q E, sp vs H Q E → vs.length = ps.length)
    (body : ∀ (cdv : Value) (A : Around) (outer : List Env) (s : Shared) (H : Hp) (vs : List V) (Q : VK) (E : XK), Room k (A.deeper (envOfC qual (defScope st) s.heap.objs.size a cdv)) → sp vs H Q E →
      ∃ t, PSs (cxOf CX0 P w K mg base N qual (defScope st) a cdv A outer s H E).nox (defBody st) t ∧ t { nx := fun _ H' => Q .non H', rt := Q } (start N vs) H) : C8.Met P w K mg base (k + 1) C m sp [] := by
  obtain ⟨fd, F⟩ := F
  refine ⟨a, fd, ps, [], c, hm, F.ok S len fun cdv A outer s H vs Q E hr h => ?_, F.bindsN b, .nil⟩
  obtain ⟨t, q, z⟩ := body cdv A outer s H vs Q E hr h
  exact ⟨t, q.nox, z⟩
theorem mak_of {x qual : Str} {st : Stmt} {N ps : List Str} {k : Nat} {sp : Sp} {C : Addr} {y : Str} {a : Addr} (F : ∃ fd, FunD K x qual (defArgs st) (defBody st) (defScope st) [] [] a fd) (M : Mk K C a) (hm : mg y = some (.ref C))
    (b : ∀ (kV doc pm : Value) (an : Option Addr) (cdv ct : Value) (us : List Value), us.length = ps.length → bindArgs (PySem.W.fnOf x qual (defArgs st) (defBody st) (defScope st) .none kV doc pm an cdv ct) ⟨us, []⟩ = pure (ps.zip us))
    (S : FnScope N ps (defScope st)) (len : ∀ vs H Q E, sp vs H Q E → vs.length = ps.length)
    (body : ∀ (cdv : Value) (A : Around) (outer : List Env) (s : Shared) (H : Hp) (vs : List V) (Q : VK) (E : XK), Room k (A.deeper (envOfC qual (defScope st) s.heap.objs.size a cdv)) → sp vs H Q E →
      ∃ t, PSs (cxOf CX0 P w K mg base N qual (defScope st) a cdv A outer s H E).nox (defBody st) t ∧ t { nx := fun _ H' => Q .non H', rt := Q } (start N vs) H) : C8.Mak P w K mg base (k + 1) y C sp [] := by
  obtain ⟨fd, F⟩ := F
  refine ⟨a, fd, ps, [], M, F.ok S len fun cdv A outer s H vs Q E hr h => ?_, hm, F.bindsN b, .nil⟩
  obtain ⟨t, q, z⟩ := body cdv A outer s H vs Q E hr h
  exact ⟨t, q.nox, z⟩
end
/-! ### rules whose readings name the written part: told by K, so that a block's own context does not stand in them -/
section
variable {X : Cx} {K : PySem.W.Frag}
theorem k_ixl (h : X.K = K) : IxR X (rIxL K) := by subst h; exact ix_list
theorem k_ixt (h : X.K = K) : IxR X (rIxT K) := by subst h; exact ix_tup
theorem k_isi (h : X.K = K) : CallR X (.builtin "isinstance") (rIsi K) := by subst h; exact call_isi
theorem k_isiT (h : X.K = K) : CallR X (.builtin "isinstance") (rIsiT K) := by subst h; exact call_isiT
theorem k_tup (h : X.K = K) : CallR X (.type "tuple") (fun xs H Q => ∃ p ys, xs = [.ref p] ∧ ((SqL K H p ys ∧ ∀ l, H l = none → Q (.ref l) (upd H l (.tup ys))) ∨ (SqT K H p ys ∧ Q (.ref p) H))) := by subst h; exact call_tuple_of
theorem k_len (h : X.K = K) : CallR X (.builtin "len") (rLenS K) := by subst h; exact call_len_seq
theorem k_sll (h : X.K = K) : SlR X (rSlL K) := by subst h; exact sl_list
theorem k_in (h : X.K = K) : OpR X (compareOp .In) (rIn K false) := by subst h; exact op_in_seq
theorem k_ni (h : X.K = K) : OpR X (compareOp .NotIn) (rIn K true) := by subst h; exact op_notIn_seq
theorem k_pgt {es : List Expr} {k : Nat} {t : TGs} {n : Nat} {pos : Pos} (h : X.K = K) (hc : X.calm = true) (hp : PGs X es t)
    (hn : (assignEach es X.env).length = n) (hst : (assignEach es X.env).findIdx? (·.1) = none) : PG X (.Tuple es k pos) (gTup K n t) := by subst h; exact pg_tup hc hp hn hst
theorem k_fld {e : Expr} {ta : TE} {f : Str} {pos : Pos} (h : X.K = K) (he : PE X e ta) (hb : attributeBase e f X.env (eval e X.env) = eval e X.env) : PE X (.Attribute e f pos) (tFld K ta f) := by subst h; exact pe_fld he hb
end
/-! ### what stands still: tuples, instances -/
def Imm : HO → Prop
  | .tup _ => True
  | .ins _ _ (_ :: _) => True
  | .own _ => True
  | .frz _ _ => True
  | _ => False
/-- tuples and instances stand as they stood -/
def ExI (H H' : Hp) : Prop := ∀ b o, Imm o → H b = some o → H' b = some o
theorem ExI.refl (H : Hp) : ExI H H := fun _ _ _ h => h
theorem ExI.trans {H H1 H2 : Hp} (a : ExI H H1) (b : ExI H1 H2) : ExI H H2 := fun x o i h => b x o i (a x o i h)
theorem Ex.i {H H' : Hp} (e : Ex H H') : ExI H H' := fun b o _ h => e b o h
theorem ExI.upd {H : Hp} {l : Addr} {o : HO} (h : ∀ u, H l = some u → ¬ Imm u) : ExI H (L2.upd H l o) := fun b u i e => by
  have n : b ≠ l := fun z => by subst z; exact h u e i
  rw [upd_ne n]
  exact e
theorem ExI.lst {H : Hp} {l : Addr} {o : HO} {xs : List V} (h : H l = some (.lst xs)) : ExI H (L2.upd H l o) := ExI.upd fun u e => by
  rw [h] at e; cases e; exact id
theorem ExI.dk {H : Hp} {l : Addr} {o : HO} {xs : List (Key × V)} (h : H l = some (.dK xs)) : ExI H (L2.upd H l o) := ExI.upd fun u e => by
  rw [h] at e; cases e; exact id
theorem ExI.dt {H : Hp} {l : Addr} {o : HO} {xs : List (List Key × V)} (h : H l = some (.dT xs)) : ExI H (L2.upd H l o) := ExI.upd fun u e => by
  rw [h] at e; cases e; exact id
/-- all but what stands at l -/
def Bt (l : Addr) (H H' : Hp) : Prop := ∀ b o, b ≠ l → H b = some o → H' b = some o
theorem Bt.upd {H : Hp} {l : Addr} {o : HO} : Bt l H (upd H l o) := fun b u n e => by rw [upd_ne n]; exact e
theorem Bt.trans {l : Addr} {H H1 H2 : Hp} (a : Bt l H H1) (b : Bt l H1 H2) : Bt l H H2 := fun x o n h => b x o n (a x o n h)
theorem Ex.bt {l : Addr} {H H' : Hp} (e : Ex H H') : Bt l H H' := fun b o _ h => e b o h
theorem Bt.ex {l : Addr} {H0 H H' : Hp} (a : Bt l H H') (e : Ex H0 H) (h : H0 l = none) : Ex H0 H' := fun b o q => a b o (ne_of_none q h) (e b o q)
theorem Bt.exI {l : Addr} {H H' : Hp} (a : Bt l H H') (h : ∀ u, H l = some u → ¬ Imm u) : ExI H H' := fun b o i e => a b o (fun z => by subst z; exact h o e i) e
theorem pr_snoc {α β : Type} {F : α → β → Prop} : ∀ {xs : List α} {ys : List β} {x : α} {y : β}, Paired F xs ys → F x y → Paired F (xs ++ [x]) (ys ++ [y])
  | _, _, _, _, .nil, h => .cons h .nil
  | _, _, _, _, .cons r t, h => .cons r (pr_snoc t h)
theorem pr_len {α β : Type} {F : α → β → Prop} : ∀ {xs : List α} {ys : List β}, Paired F xs ys → xs.length = ys.length
  | _, _, .nil => rfl
  | _, _, .cons _ t => congrArg (· + 1) (pr_len t)
theorem pr_at {α β : Type} {F : α → β → Prop} : ∀ {xs : List α} {ys : List β}, Paired F xs ys → ∀ {i : Nat} {x : α}, xs[i]? = some x → ∃ y, ys[i]? = some y ∧ F x y
  | _, _, .nil, i, x, h => by simp at h
  | _, _, .cons r t, 0, x, h => by
    have e := Option.some.inj h
    subst e
    exact ⟨_, rfl, r⟩
  | _, _, .cons r t, i + 1, x, h => pr_at t h
theorem pr_at2 {α β : Type} {F : α → β → Prop} : ∀ {xs : List α} {ys : List β}, Paired F xs ys → ∀ {i : Nat} {y : β}, ys[i]? = some y → ∃ x, xs[i]? = some x ∧ F x y
  | _, _, .nil, i, x, h => by simp at h
  | _, _, .cons r t, 0, x, h => by
    have e := Option.some.inj h
    subst e
    exact ⟨_, rfl, r⟩
  | _, _, .cons r t, i + 1, x, h => pr_at2 t h
theorem pr_map {α β : Type} {f : α → β} : ∀ {xs : List α} {ys : List β}, Paired (fun a b => b = f a) xs ys → ys = xs.map f
  | _, _, .nil => rfl
  | _, _, .cons r t => by rw [List.map_cons, ← pr_map t, r]
theorem _root_.PySem.Paired.mon {α β : Type} {F G : α → β → Prop} {xs : List α} {ys : List β} (p : Paired F xs ys) (h : ∀ a b, F a b → G a b) : Paired G xs ys := Paired.mapP p h
theorem _root_.PySem.Paired.add1 {α β : Type} {F : α → β → Prop} {xs : List α} {ys : List β} {x : α} {y : β} (p : Paired F xs ys) (h : F x y) : Paired F (xs ++ [x]) (ys ++ [y]) := pr_snoc p h
theorem _root_.PySem.Paired.len {α β : Type} {F : α → β → Prop} {xs : List α} {ys : List β} (p : Paired F xs ys) : xs.length = ys.length := pr_len p
theorem _root_.PySem.Paired.at1 {α β : Type} {F : α → β → Prop} {xs : List α} {ys : List β} (p : Paired F xs ys) {i : Nat} {x : α} (h : xs[i]? = some x) : ∃ y, ys[i]? = some y ∧ F x y := pr_at p h
theorem _root_.PySem.Paired.at2 {α β : Type} {F : α → β → Prop} {xs : List α} {ys : List β} (p : Paired F xs ys) {i : Nat} {y : β} (h : ys[i]? = some y) : ∃ x, xs[i]? = some x ∧ F x y := pr_at2 p h
theorem _root_.PySem.Paired.map_eq {α β : Type} {f : α → β} {xs : List α} {ys : List β} (p : Paired (fun a b => b = f a) xs ys) : ys = xs.map f := pr_map p
/-! ### expressions -/
section
variable {K : PySem.W.Frag} {σ : L2.St} {H H' : Hp} {ta tb te tx : TE} {t u : TT} {x y z v : V} {r : R2} {D : Ends} {tu tw tz : TS}
/-- gives something that is R -/
def EvP (te : TE) (σ : L2.St) (H : Hp) (R : V → Hp → Prop) : Prop := ∀ H1, Ex H H1 → ∀ Q : VK, (∀ v H2, Ex H1 H2 → R v H2 → Q v H2) → te σ H1 Q
/-- a new list whose items are P -/
def EvLP (te : TE) (σ : L2.St) (H : Hp) (P : List V → Hp → Prop) : Prop := ∀ H1, Ex H H1 → ∀ Q : VK, (∀ p ys H2, H1 p = none → Ex H1 H2 → H2 p = some (.lst ys) → P ys H2 → Q (.ref p) H2) → te σ H1 Q
theorem Ev.p (h : Ev te σ H v) {R : V → Hp → Prop} (hr : ∀ H1, Ex H H1 → R v H1) : EvP te σ H R := fun H1 e Q q => h H1 e Q fun H2 e2 => q v H2 e2 (hr H2 (e.trans e2))
theorem EvLP.l {xs : List V} (h : EvLP te σ H fun ys _ => ys = xs) : EvL te σ H xs := fun H1 e Q q => h H1 e Q fun p ys H2 hp e2 h2 hy => q p H2 hp e2 (hy ▸ h2)
theorem EvP.mono {R : V → Hp → Prop} (e : Ex H H') (h : EvP te σ H R) : EvP te σ H' R := fun H1 a Q q => h H1 (e.trans a) Q q
theorem EvLP.mono {P : List V → Hp → Prop} (e : Ex H H') (h : EvLP te σ H P) : EvLP te σ H' P := fun H1 a Q q => h H1 (e.trans a) Q q
theorem ev_fld {a C dx : Addr} {fs : List (Str × V)} {f : Str} (h : Ev ta σ H (.ref a)) (ha : H a = some (.ins C dx fs)) (c : Cls K C) (n : NoAttr K C f) (l : fs.lookup f = some v) : Ev (tFld K ta f) σ H v :=
  fun H1 e Q q => h H1 e _ fun H2 e2 => ⟨a, C, dx, fs, v, rfl, (e.trans e2) _ _ ha, c, n, l, q H2 e2⟩
theorem tyOf_ex {x : V} {t : Value} (e : Ex H H') (h : TyOf K H x t) : TyOf K H' x t := by
  cases h with
  | non => exact .non
  | bl b => exact .bl b
  | int i => exact .int i
  | str z => exact .str z
  | flt z => exact .flt z
  | lst q => exact .lst (e _ _ q)
  | frz q => exact .frz (e _ _ q)
  | tup q => exact .tup (e _ _ q)
  | dK q => exact .dK (e _ _ q)
  | dT q => exact .dT (e _ _ q)
  | ins q a b c d f => exact .ins (e _ _ q) a b c d f
theorem tyX_ex {x : V} {t : Value} (e : Ex H H') (h : TyX K H x t) : TyX K H' x t := by
  cases h with
  | base b => exact .base (tyOf_ex e b)
  | byt b => exact .byt b
  | set q => exact .set (e _ _ q)
  | kList q c => exact .kList q c
  | kTuple q c => exact .kTuple q c
  | kDict q c => exact .kDict q c
  | fTuple q => exact .fTuple (e _ _ q)
  | fDict q => exact .fDict (e _ _ q)
/-- isinstance(x, c) -/
theorem ev_isi {c : V} {tv cv : Value} {b : Bool} (hx : Ev ta σ H x) (hc : Ev tb σ H c) (k : ClsV c cv) (ty : TyX K H x tv) (e : PySem.W.kitOne K tv cv = some b) : Ev (tCB (rIsi K) (tCons ta (tCons tb tNil))) σ H (.bl b) :=
  ev_cb (ea_cons hx (ea_cons hc ea_nil)) fun H1 e1 Q q => ⟨x, c, tv, cv, b, rfl, k, tyX_ex e1 ty, e, q H1 (Evl.Ex.refl H1)⟩
/-- isinstance(x, (c, d)) -/
theorem ev_isiT {cs : List V} {us : List Value} {tv : Value} {b : Bool} {tc : TA} (hx : Ev ta σ H x) (hc : EvA tc σ H cs) (hl : cs.length ≤ 1000) (k : Paired ClsV cs us) (ty : TyX K H x tv) (e : PySem.W.kitAny K tv us = some b) :
    Ev (tCB (rIsiT K) (tCons ta (tCons (tTup tc) tNil))) σ H (.bl b) := fun H1 e1 Q q => hx H1 e1 _ fun H2 e2 => hc H2 (e1.trans e2) _ fun H3 e3 => ⟨sz_of (by omega), fun p hp =>
  ⟨x, p, cs, tv, us, b, rfl, upd_same, k, tyX_ex (((e1.trans e2).trans e3).trans (Evl.Ex.new hp)) ty, e, q _ ((e2.trans e3).trans (Evl.Ex.new hp))⟩⟩
theorem ev_chain {r r' : R2} {tc : TE} {w : V} {b : Bool} {z' : V} (ha : Ev ta σ H x) (hb : Ev tb σ H y) (h1 : RV r x y H (.bl b)) (hc : b = true → Ev tc σ H w) (h2 : b = true → RV r' y w H z') (hz : b = false → z' = .bl false) : Ev (tChain r r' ta tb tc) σ H z' :=
  fun H1 e Q q => ha H1 e _ fun H2 e2 => hb H2 (e.trans e2) _ fun H3 e3 => h1 H3 ((e.trans e2).trans e3) _ fun H4 e4 => ⟨b, rfl, by
    have ee := ((e.trans e2).trans e3).trans e4
    have qq := (e2.trans e3).trans e4
    cases b with
    | true => exact iteT (hc rfl H4 ee _ fun H5 e5 => h2 rfl H5 (ee.trans e5) Q fun H6 e6 => q H6 ((qq.trans e5).trans e6))
    | false => rw [hz rfl] at q; exact iteF (q H4 qq)⟩
theorem rv_le {i j : Int} : RV (rI0 fun i j => .bl (decide (i ≤ j))) (.int i) (.int j) H (.bl (decide (i ≤ j))) := rv_I0
theorem et_yes : EvT tYes σ H true := fun H1 _ _ q => q H1 (Evl.Ex.refl H1)
/-- xs != [], xs == [] -/
theorem ev_neNil {a : Addr} {xs : List V} (ha : Ev ta σ H (.ref a)) (hs : SqL K H a xs) : Ev (tOp (rNeNilL K) ta (tLst tNil)) σ H (.bl (!xs.isEmpty)) :=
  ev_opL ha (el_lst ea_nil (Nat.zero_le _)) fun p H1 hp e => fun H2 e2 Q q => ⟨a, p, xs, rfl, rfl, ex_l (e.trans e2) hs, sq_of (e2 _ _ hp), q H2 (Evl.Ex.refl H2)⟩
theorem ev_eqNil {a : Addr} {xs : List V} (ha : Ev ta σ H (.ref a)) (hs : SqL K H a xs) : Ev (tOp (rEqNilL K) ta (tLst tNil)) σ H (.bl xs.isEmpty) :=
  ev_opL ha (el_lst ea_nil (Nat.zero_le _)) fun p H1 hp e => fun H2 e2 Q q => ⟨a, p, xs, rfl, rfl, ex_l (e.trans e2) hs, sq_of (e2 _ _ hp), q H2 (Evl.Ex.refl H2)⟩
theorem ev_neNilN {xs : List V} (ha : EvL ta σ H xs) : Ev (tOp (rNeNilL K) ta (tLst tNil)) σ H (.bl (!xs.isEmpty)) :=
  ev_opLL ha (el_lst ea_nil (Nat.zero_le _)) fun p q H1 hp hq e => fun H2 e2 Q k => ⟨p, q, xs, rfl, rfl, sq_of (e2 _ _ hp), sq_of (e2 _ _ hq), k H2 (Evl.Ex.refl H2)⟩
theorem ev_eqNilT {a : Addr} {xs : List V} (ha : Ev ta σ H (.ref a)) (hs : SqT K H a xs) : Ev (tOp (rEqNilT K) ta (tTup tNil)) σ H (.bl xs.isEmpty) :=
  ev_opU ha (eu_tup ea_nil (Nat.zero_le _)) fun p H1 hp e => fun H2 e2 Q q => ⟨a, p, xs, rfl, rfl, ex_t (e.trans e2) hs, st_of (e2 _ _ hp), q H2 (Evl.Ex.refl H2)⟩
/-- len of a tuple -/
theorem ev_lenT {p : Addr} {xs : List V} (ha : Ev ta σ H (.ref p)) (h : SqT K H p xs) : Ev (tCB (rLenS K) (tCons ta tNil)) σ H (.int (xs.length : Int)) := fun H1 e Q q =>
  ha H1 e _ fun H2 e2 => ⟨p, xs, rfl, Or.inr (ex_t (e.trans e2) h), q H2 e2⟩
theorem ev_lenS {z : Str} (ha : Ev ta σ H (.str z)) (h : z.length ≤ 100000) : Ev (tCB (fun xs H Q => ∃ z, xs = [.str z] ∧ z.length ≤ sizeLine ∧ Q (.int z.length) H) (tCons ta tNil)) σ H (.int (z.length : Int)) := fun H1 e Q q =>
  ha H1 e _ fun H2 e2 => ⟨z, rfl, sz_of h, q H2 e2⟩
theorem ev_isN (ha : Ev ta σ H x) : Ev (tOp (fun x y H Q => y = .non ∧ Q (.bl (decide (x = .non))) H) ta (tC .non)) σ H (.bl (decide (x = .non))) :=
  ev_op ha ev_c fun H1 _ Q q => ⟨rfl, q H1 (Evl.Ex.refl H1)⟩
theorem ev_notN (ha : Ev ta σ H x) : Ev (tOp (fun x y H Q => y = .non ∧ Q (.bl (!decide (x = .non))) H) ta (tC .non)) σ H (.bl (!decide (x = .non))) :=
  ev_op ha ev_c fun H1 _ Q q => ⟨rfl, q H1 (Evl.Ex.refl H1)⟩
/-- all(a list of bools) -/
theorem ev_allL {bs : List Bool} (ha : EvL ta σ H (bs.map V.bl)) : Ev (tCB (rAll K) (tCons ta tNil)) σ H (.bl (bs.all id)) := fun H1 e Q q =>
  ha H1 e _ fun p H2 _ e2 h2 => ⟨p, bs, rfl, sq_of h2, q H2 e2⟩
/-- a call whose promise is told; of a method -/
theorem ev_meth {sp : Sp} {vs dvs : List V} {C a dx : Addr} {fs : List (Str × V)} {m : Str} {E : XK} {tr : TA} (h : Ev ta σ H (.ref a)) (ha : H a = some (.ins C dx fs)) (hl : fs.lookup m = none) (hr : EvA tr σ H vs) (hs : SpV sp (.ref a :: (vs ++ dvs)) H z) :
    Ev (tMeth C m sp dvs E ta tr) σ H z := fun H1 e Q q => h H1 e _ fun H2 e2 => ⟨a, dx, fs, rfl, (e.trans e2) _ _ ha, hl, hr H2 (e.trans e2) _ fun H3 e3 => hs H3 ((e.trans e2).trans e3) Q (fun H4 e4 => q H4 ((e2.trans e3).trans e4)) E⟩
/-- what a promise gives: something that is R -/
def SpP (sp : Sp) (vs : List V) (H : Hp) (R : V → Hp → Prop) : Prop := ∀ H1, Ex H H1 → ∀ Q : VK, (∀ v H2, Ex H1 H2 → R v H2 → Q v H2) → ∀ E : XK, sp vs H1 Q E
def SpLP (sp : Sp) (vs : List V) (H : Hp) (P : List V → Hp → Prop) : Prop := ∀ H1, Ex H H1 → ∀ Q : VK, (∀ p ys H2, H1 p = none → Ex H1 H2 → H2 p = some (.lst ys) → P ys H2 → Q (.ref p) H2) → ∀ E : XK, sp vs H1 Q E
theorem evp_call {sp : Sp} {dvs vs : List V} {E : XK} {tr : TA} {R : V → Hp → Prop} (h : EvA tr σ H vs) (hs : SpP sp (vs ++ dvs) H R) : EvP (tCall sp dvs E tr) σ H R := fun H1 e Q q =>
  h H1 e _ fun H2 e2 => hs H2 (e.trans e2) Q (fun v H3 e3 r => q v H3 (e2.trans e3) r) E
theorem elp_call {sp : Sp} {dvs vs : List V} {E : XK} {tr : TA} {P : List V → Hp → Prop} (h : EvA tr σ H vs) (hs : SpLP sp (vs ++ dvs) H P) : EvLP (tCall sp dvs E tr) σ H P := fun H1 e Q q =>
  h H1 e _ fun H2 e2 => hs H2 (e.trans e2) Q (fun p ys H3 hp e3 h3 r => q p ys H3 (fresh_back e2 hp) (e2.trans e3) h3 r) E
theorem q_asgP {i : Nat} {R : V → Hp → Prop} (h : EvP te σ H R) (k : ∀ v H1, Ex H H1 → R v H1 → tz D (σ.set i (some v)) H1) : tSeq (tAsg te (gName i)) tz D σ H := h H (Evl.Ex.refl H) _ k
theorem q_asgLP {i : Nat} {P : List V → Hp → Prop} (h : EvLP te σ H P) (k : ∀ p ys H1, H p = none → Ex H H1 → H1 p = some (.lst ys) → P ys H1 → tz D (σ.set i (some (.ref p))) H1) : tSeq (tAsg te (gName i)) tz D σ H := h H (Evl.Ex.refl H) _ k
theorem s_retP {R : V → Hp → Prop} (h : EvP te σ H R) (k : ∀ v H1, Ex H H1 → R v H1 → D.rt v H1) : tRet te D σ H := h H (Evl.Ex.refl H) _ k
theorem s_retLP {P : List V → Hp → Prop} (h : EvLP te σ H P) (k : ∀ p ys H1, H p = none → Ex H H1 → H1 p = some (.lst ys) → P ys H1 → D.rt (.ref p) H1) : tRet te D σ H := h H (Evl.Ex.refl H) _ k
theorem q_ret (h : tRet te { D with nx := tz D } σ H) : tSeq (tRet te) tz D σ H := h
end
/-! ### what is walked by a comprehension -/
structure JOk (J : It) (n : Nat) (Item : Nat → V → Hp → Prop) (H0 : Hp) : Prop where
  stop : ∀ H, Ex H0 H → J.stop n H
  go : ∀ i H, Ex H0 H → i < n → J.go i H ∧ ∀ x H', J.yld i H x H' → Ex H H' ∧ Item i x H'
def Wk (wi : TI) (σ : L2.St) (H : Hp) (n : Nat) (Item : Nat → V → Hp → Prop) : Prop :=
  ∀ H1, Ex H H1 → ∀ R : It → Hp → Prop, (∀ J H2, Ex H1 H2 → JOk J n Item H2 → R J H2) → wi σ H1 R
abbrev ItOf (xs : List V) : Nat → V → Hp → Prop := fun i x _ => xs[i]? = some x
section
variable {K : PySem.W.Frag} {σ : L2.St} {H H' : Hp} {tl : TE} {a : Addr} {xs : List V}
theorem jok_list {H0 : Hp} (hs : SqL K H0 a xs) : JOk (Itl K a) xs.length (ItOf xs) H0 :=
  ⟨fun H e => ⟨xs, ex_l e hs, Nat.le_refl _⟩, fun i H e hi => ⟨⟨xs, xs[i], ex_l e hs, List.getElem?_eq_getElem hi⟩, fun x H' y => ⟨by rw [y.1]; exact Evl.Ex.refl H, y.2 xs (ex_l e hs)⟩⟩⟩
theorem jok_tup {H0 : Hp} (hs : SqT K H0 a xs) : JOk (Itt K a) xs.length (ItOf xs) H0 :=
  ⟨fun H e => ⟨xs, ex_t e hs, Nat.le_refl _⟩, fun i H e hi => ⟨⟨xs, xs[i], ex_t e hs, List.getElem?_eq_getElem hi⟩, fun x H' y => ⟨by rw [y.1]; exact Evl.Ex.refl H, y.2 xs (ex_t e hs)⟩⟩⟩
theorem wk_list (h : Ev tl σ H (.ref a)) (hs : SqL K H a xs) : Wk (iList K tl) σ H xs.length (ItOf xs) := fun H1 e R r =>
  h H1 e _ fun H2 e2 => ⟨a, rfl, ⟨xs, ex_l (e.trans e2) hs⟩, r _ H2 e2 (jok_list (ex_l (e.trans e2) hs))⟩
theorem wk_tup (h : Ev tl σ H (.ref a)) (hs : SqT K H a xs) : Wk (iTup K tl) σ H xs.length (ItOf xs) := fun H1 e R r =>
  h H1 e _ fun H2 e2 => ⟨a, rfl, ⟨xs, ex_t (e.trans e2) hs⟩, r _ H2 e2 (jok_tup (ex_t (e.trans e2) hs))⟩
theorem wk_newl (h : EvL tl σ H xs) : Wk (iList K tl) σ H xs.length (ItOf xs) := fun H1 e R r =>
  h H1 e _ fun p H2 _ e2 hp => ⟨p, rfl, ⟨xs, sq_of hp⟩, r _ H2 e2 (jok_list (sq_of hp))⟩
theorem wk_str {z : Str} (h : Ev tl σ H (.str z)) : Wk (iStr tl) σ H z.cps.size (fun i x _ => ∃ c, z.cps[i]? = some c ∧ x = .str ⟨#[c]⟩) := fun H1 e R r =>
  h H1 e _ fun H2 e2 => ⟨z, rfl, r _ H2 e2 ⟨fun H _ => Nat.le_refl _, fun i H _ hi => ⟨hi, fun x H' y => ⟨by rw [y.1]; exact Evl.Ex.refl H, y.2⟩⟩⟩⟩
/-- enumerate(a list): each item a new pair -/
abbrev EnOf (xs : List V) : Nat → V → Hp → Prop := fun i x H => ∃ T y, x = .ref T ∧ H T = some (.tup [.int (i : Int), y]) ∧ xs[i]? = some y
theorem wk_enum {ta : TA} (h : EvA ta σ H [.ref a]) (hs : SqL K H a xs) : Wk (iEnum K ta) σ H xs.length (EnOf xs) := fun H1 e R r =>
  h H1 e _ fun H2 e2 => ⟨a, xs, rfl, ex_l (e.trans e2) hs, r _ H2 e2 ⟨fun H e3 => ⟨xs, ex_l ((e.trans e2).trans e3) hs, Nat.le_refl _⟩,
    fun i H e3 hi => ⟨⟨xs, xs[i], ex_l ((e.trans e2).trans e3) hs, List.getElem?_eq_getElem hi⟩, fun x H' ⟨T, y, ex, hT, eH, hy⟩ =>
      ⟨by rw [eH]; exact Evl.Ex.new hT, T, y, ex, by rw [eH]; exact upd_same, hy xs (ex_l ((e.trans e2).trans e3) hs)⟩⟩⟩⟩
end
def kept (n : Nat) (f : Nat → Bool) : List Nat := (List.range n).filter f
theorem kept_yes {n : Nat} {f : Nat → Bool} (h : f n = true) : kept (n + 1) f = kept n f ++ [n] := by
  unfold kept
  rw [List.range_succ, List.filter_append, List.filter_cons, if_pos h] <;> rfl
theorem kept_no {n : Nat} {f : Nat → Bool} (h : f n = false) : kept (n + 1) f = kept n f := by
  unfold kept
  rw [List.range_succ, List.filter_append, List.filter_cons, if_neg (by rw [h]; decide)]
  exact List.append_nil _
theorem kept_len (n : Nat) (f : Nat → Bool) : (kept n f).length ≤ n := by
  have h := List.length_filter_le f (List.range n)
  rw [List.length_range] at h
  exact h
theorem kept_all (n : Nat) : kept n (fun _ => true) = List.range n := by
  unfold kept
  exact List.filter_eq_self.mpr fun _ _ => rfl
/-- a comprehension: item by item; the elements are R, which speaks of tuples and instances alone -/
theorem comp_gen {σ : L2.St} {H : Hp} {wi : TI} {g : TG} {tt : TT} {te : TE} {vs : List Nat} {n : Nat} {Item : Nat → V → Hp → Prop} (hw : Wk wi σ H n Item) (hn : n ≤ 40000) (f : Nat → Bool) (R : Nat → V → Hp → Prop)
    (hm : ∀ i v H H', ExI H H' → R i v H → R i v H')
    (step : ∀ i x H1, i < n → Ex H H1 → Item i x H1 → ∀ Q : L2.St → Hp → Prop, (∀ σ2 H2, Ex H1 H2 → wipe σ2 vs = wipe σ vs → EvT tt σ2 H2 (f i) → (f i = true → EvP te σ2 H2 (R i)) → Q σ2 H2) → g x (wipe σ vs) H1 Q) :
    EvLP (tLc wi g tt te vs) σ H fun ys H' => Paired (fun i y => R i y H') (kept n f) ys := by
  intro H1 e1 Q q
  refine hw H1 e1 _ fun J H2 e2 jok => ?_
  intro D hD
  refine ⟨fun i m H' => m = n - i ∧ i ≤ n ∧ Ex H2 H' ∧ ∃ acc, H' D = some (.lst acc) ∧ Paired (fun j y => R j y H') (kept i f) acc, ⟨n, by simp, Nat.zero_le _, Evl.Ex.new hD, [], upd_same, .nil⟩, ?_⟩
  rintro i m H3 ⟨rfl, hi, e3, acc, hacc, pr⟩
  by_cases hlt : i < n
  · obtain ⟨go, yl⟩ := jok.go i H3 e3 hlt
    refine .inr ⟨go, fun H' => Ex H2 H' ∧ ∃ acc, H' D = some (.lst acc) ∧ Paired (fun j y => R j y H') (kept (i + 1) f) acc, fun H' ⟨a, b⟩ => ⟨n - (i + 1), by omega, rfl, hlt, a, b⟩, fun x H4 y => ?_⟩
    obtain ⟨e4, it⟩ := yl x H4 y
    refine step i x H4 hlt ((e1.trans e2).trans (e3.trans e4)) it _ fun σ2 H5 e5 hwp ht he => ⟨hwp, ?_⟩
    refine ht H5 (Evl.Ex.refl H5) _ fun H6 e6 => ?_
    cases hf : f i with
    | false =>
      refine iteF ⟨((e3.trans e4).trans e5).trans e6, acc, e6 _ _ (e5 _ _ (e4 _ _ hacc)), ?_⟩
      rw [kept_no hf]
      exact pr.mon fun j y r => hm j y _ _ (Ex.i ((e4.trans e5).trans e6)) r
    | true =>
      refine iteT (he hf H6 e6 _ fun v H7 e7 rv => ?_)
      have hD7 : H7 D = some (.lst acc) := e7 _ _ (e6 _ _ (e5 _ _ (e4 _ _ hacc)))
      have hl : acc.length ≤ i := by rw [← pr.len]; exact kept_len i f
      refine ⟨acc, hD7, sz_lt (by omega), Evl.Ex.mut ((((e3.trans e4).trans e5).trans e6).trans e7) hD, acc ++ [v], upd_same, ?_⟩
      rw [kept_yes hf]
      exact (pr.mon fun j y r => hm j y _ _ ((Ex.i (((e4.trans e5).trans e6).trans e7)).trans (ExI.lst hD7)) r).add1 (hm i v _ _ (ExI.lst hD7) rv)
  · have e : i = n := by omega
    subst e
    exact .inl ⟨jok.stop H3 e3, q D acc H3 (fresh_back e2 hD) (e2.trans e3) hacc pr⟩
/-- .. whose elements are known values -/
theorem comp_val {σ : L2.St} {H : Hp} {wi : TI} {g : TG} {tt : TT} {te : TE} {vs : List Nat} {n : Nat} {Item : Nat → V → Hp → Prop} (hw : Wk wi σ H n Item) (hn : n ≤ 40000) (f : Nat → Bool) (v : Nat → V)
    (step : ∀ i x H1, i < n → Ex H H1 → Item i x H1 → ∀ Q : L2.St → Hp → Prop, (∀ σ2 H2, Ex H1 H2 → wipe σ2 vs = wipe σ vs → EvT tt σ2 H2 (f i) → (f i = true → Ev te σ2 H2 (v i)) → Q σ2 H2) → g x (wipe σ vs) H1 Q) :
    EvL (tLc wi g tt te vs) σ H ((kept n f).map v) := by
  intro H1 e1 Q q
  refine comp_gen hw hn f (fun i y _ => y = v i) (fun _ _ _ _ _ r => r) (fun i x H2 hi e2 it Q' q' => ?_) H1 e1 Q fun p ys H2 hp e2 h2 pr => q p H2 hp e2 (by rw [h2, pr.map_eq])
  exact step i x H2 hi e2 it Q' fun σ2 H3 e3 hwp ht he => q' σ2 H3 e3 hwp ht fun hf => Ev.p (he hf) fun _ _ => rfl
end NW
set_option maxHeartbeats 4000000
/-! Trees as plain data; how the heap bears them; what fields and isinstance give. -/
namespace NW
open PySem PySem.Spec PyProof.Rows L2 Evl
abbrev Ents := List (Str × Nat)
/-- a node -/
inductive Nd where
  | fol (o : Nat) (es : Ents)
  | fil (o : Nat)
  | lnk (o : Nat) (z : Str)
  | gon (o b : Nat)
  deriving DecidableEq
abbrev Tr := List Nd
def Nd.isFol : Nd → Bool | .fol _ _ => true | _ => false
def Nd.isFil : Nd → Bool | .fil _ => true | _ => false
def Nd.isLnk : Nd → Bool | .lnk _ _ => true | _ => false
def Nd.isGon : Nd → Bool | .gon _ _ => true | _ => false
def Nd.own : Nd → Nat | .fol o _ => o | .fil o => o | .lnk o _ => o | .gon o _ => o
def Nd.es : Nd → Ents | .fol _ e => e | _ => []
def Nd.cls : Nd → Str | .fol _ _ => "Folder" | .fil _ => "File" | .lnk _ _ => "Link" | .gon _ _ => "Gone"
/-- the entries of a folder -/
def ents (T : Tr) (f : Nat) : Ents := match T[f]? with | some n => n.es | none => []
def isF (T : Tr) (f : Nat) : Bool := match T[f]? with | some n => n.isFol | none => false
/-! ### the heap -/
theorem lk0 {k : Str} {v : V} {r : List (Str × V)} : ((k, v) :: r).lookup k = some v := by simp [List.lookup]
theorem lk1 {k j : Str} {v : V} {r : List (Str × V)} (h : (k == j) = false) : ((j, v) :: r).lookup k = r.lookup k := by simp only [List.lookup, h]
abbrev entV (a : Addr) (H : Hp) (e : Str × Nat) : Prop := H a = some (.tup [.str e.1, .int (e.2 : Int)])
def EntsAt (H : Hp) (t : Addr) (es : Ents) : Prop := ∃ as : List Addr, H t = some (.tup (as.map V.ref)) ∧ Paired (fun a e => entV a H e) as es
abbrev fFol (o : Nat) (t : Addr) : List (Str × V) := [("owner", .int (o : Int)), ("entries", .ref t)]
abbrev fFil (o : Nat) : List (Str × V) := [("owner", .int (o : Int))]
abbrev fLnk (o : Nat) (z : Str) : List (Str × V) := [("owner", .int (o : Int)), ("text", .str z)]
abbrev fGon (o b : Nat) : List (Str × V) := [("owner", .int (o : Int)), ("above", .int (b : Int))]
abbrev fTre (t : Addr) : List (Str × V) := [("nodes", .ref t)]
abbrev fOth (o : Nat) (t : Addr) : List (Str × V) := [("owner", .int (o : Int)), ("folders", .ref t)]
abbrev fMov (f : Nat) (n : Str) (g : Nat) (q : Str) : List (Str × V) := [("folder", .int (f : Int)), ("name", .str n), ("goal", .int (g : Int)), ("other", .str q)]
def NdAt (K : PySem.W.Frag) (H : Hp) (a : Addr) : Nd → Prop
  | .fol o es => ∃ dx t, H a = some (.ins (He.ga K "Folder") dx (fFol o t)) ∧ EntsAt H t es
  | .fil o => ∃ dx, H a = some (.ins (He.ga K "File") dx (fFil o))
  | .lnk o z => ∃ dx, H a = some (.ins (He.ga K "Link") dx (fLnk o z))
  | .gon o b => ∃ dx, H a = some (.ins (He.ga K "Gone") dx (fGon o b))
/-- a tree at a: its tuple of nodes at t, the nodes at as -/
structure TrA (K : PySem.W.Frag) (H : Hp) (a t : Addr) (as : List Addr) (T : Tr) : Prop where
  ob : ∃ dx, H a = some (.ins (He.ga K "Tree") dx (fTre t))
  tup : H t = some (.tup (as.map V.ref))
  nds : Paired (NdAt K H) as T
def TreeAt (K : PySem.W.Frag) (H : Hp) (a : Addr) (T : Tr) : Prop := ∃ t as, TrA K H a t as T
abbrev intsV (F : List Nat) : List V := F.map fun f : Nat => V.int (f : Int)
def OthAt (K : PySem.W.Frag) (H : Hp) (a : Addr) (o : Nat) (F : List Nat) : Prop := ∃ dx t, H a = some (.ins (He.ga K "Others") dx (fOth o t)) ∧ H t = some (.tup (intsV F))
def MovAt (K : PySem.W.Frag) (H : Hp) (a : Addr) (f : Nat) (n : Str) (g : Nat) (q : Str) : Prop := ∃ dx, H a = some (.ins (He.ga K "Move") dx (fMov f n g q))
section
variable {K : PySem.W.Frag} {mg : Str → Option Value} {H H' : Hp}
theorem EntsAt.mono {t : Addr} {es : Ents} (e : ExI H H') (h : EntsAt H t es) : EntsAt H' t es := by
  obtain ⟨as, h1, h2⟩ := h
  exact ⟨as, e _ _ trivial h1, h2.mon fun _ _ q => e _ _ trivial q⟩
theorem NdAt.mono {a : Addr} {n : Nd} (e : ExI H H') (h : NdAt K H a n) : NdAt K H' a n := by
  cases n with
  | fol o es => obtain ⟨dx, t, h1, h2⟩ := h; exact ⟨dx, t, e _ _ trivial h1, h2.mono e⟩
  | fil o => obtain ⟨dx, h1⟩ := h; exact ⟨dx, e _ _ trivial h1⟩
  | lnk o z => obtain ⟨dx, h1⟩ := h; exact ⟨dx, e _ _ trivial h1⟩
  | gon o b => obtain ⟨dx, h1⟩ := h; exact ⟨dx, e _ _ trivial h1⟩
theorem TrA.mono {a t : Addr} {as : List Addr} {T : Tr} (e : ExI H H') (h : TrA K H a t as T) : TrA K H' a t as T :=
  ⟨let ⟨dx, q⟩ := h.ob; ⟨dx, e _ _ trivial q⟩, e _ _ trivial h.tup, h.nds.mon fun _ _ q => q.mono e⟩
theorem TreeAt.mono {a : Addr} {T : Tr} (e : ExI H H') (h : TreeAt K H a T) : TreeAt K H' a T := let ⟨t, as, q⟩ := h; ⟨t, as, q.mono e⟩
theorem OthAt.mono {a : Addr} {o : Nat} {F : List Nat} (e : ExI H H') (h : OthAt K H a o F) : OthAt K H' a o F := let ⟨dx, t, q, r⟩ := h; ⟨dx, t, e _ _ trivial q, e _ _ trivial r⟩
theorem MovAt.mono {a : Addr} {f : Nat} {n : Str} {g : Nat} {q : Str} (e : ExI H H') (h : MovAt K H a f n g q) : MovAt K H' a f n g q := let ⟨dx, r⟩ := h; ⟨dx, e _ _ trivial r⟩
theorem NdAt.ty (T : Txt K mg) {a : Addr} {n : Nd} (h : NdAt K H a n) : TyX K H (.ref a) (.ref (He.ga K n.cls)) := by
  cases n with
  | fol o es => obtain ⟨dx, t, h1, _⟩ := h; exact in_Folder T h1
  | fil o => obtain ⟨dx, h1⟩ := h; exact in_File T h1
  | lnk o z => obtain ⟨dx, h1⟩ := h; exact in_Link T h1
  | gon o b => obtain ⟨dx, h1⟩ := h; exact in_Gone T h1
theorem kit_fol (T : Txt K mg) (n : Nd) : PySem.W.kitOne K (.ref (He.ga K n.cls)) (.ref (He.ga K "Folder")) = some n.isFol := by
  cases n with
  | fol o es => exact is_Folder_Folder T
  | fil o => exact is_File_Folder T
  | lnk o z => exact is_Link_Folder T
  | gon o b => exact is_Gone_Folder T
theorem kit_fil (T : Txt K mg) (n : Nd) : PySem.W.kitOne K (.ref (He.ga K n.cls)) (.ref (He.ga K "File")) = some n.isFil := by
  cases n with
  | fol o es => exact is_Folder_File T
  | fil o => exact is_File_File T
  | lnk o z => exact is_Link_File T
  | gon o b => exact is_Gone_File T
theorem kit_lnk (T : Txt K mg) (n : Nd) : PySem.W.kitOne K (.ref (He.ga K n.cls)) (.ref (He.ga K "Link")) = some n.isLnk := by
  cases n with
  | fol o es => exact is_Folder_Link T
  | fil o => exact is_File_Link T
  | lnk o z => exact is_Link_Link T
  | gon o b => exact is_Gone_Link T
theorem kit_gon (T : Txt K mg) (n : Nd) : PySem.W.kitOne K (.ref (He.ga K n.cls)) (.ref (He.ga K "Gone")) = some n.isGon := by
  cases n with
  | fol o es => exact is_Folder_Gone T
  | fil o => exact is_File_Gone T
  | lnk o z => exact is_Link_Gone T
  | gon o b => exact is_Gone_Gone T
variable {σ : L2.St} {ta tb te : TE} {a t b : Addr} {as : List Addr} {Tr' : Tr} {n : Nd}
theorem ev_isFol (T : Txt K mg) (h : Ev ta σ H (.ref a)) (hn : NdAt K H a n) : Ev (tCB (rIsi K) (tCons ta (tCons (tC (.ref (He.ga K "Folder"))) tNil))) σ H (.bl n.isFol) := ev_isi h ev_c (.own _) (hn.ty T) (kit_fol T n)
theorem ev_isFil (T : Txt K mg) (h : Ev ta σ H (.ref a)) (hn : NdAt K H a n) : Ev (tCB (rIsi K) (tCons ta (tCons (tC (.ref (He.ga K "File"))) tNil))) σ H (.bl n.isFil) := ev_isi h ev_c (.own _) (hn.ty T) (kit_fil T n)
theorem ev_isLnk (T : Txt K mg) (h : Ev ta σ H (.ref a)) (hn : NdAt K H a n) : Ev (tCB (rIsi K) (tCons ta (tCons (tC (.ref (He.ga K "Link"))) tNil))) σ H (.bl n.isLnk) := ev_isi h ev_c (.own _) (hn.ty T) (kit_lnk T n)
theorem ev_isGon (T : Txt K mg) (h : Ev ta σ H (.ref a)) (hn : NdAt K H a n) : Ev (tCB (rIsi K) (tCons ta (tCons (tC (.ref (He.ga K "Gone"))) tNil))) σ H (.bl n.isGon) := ev_isi h ev_c (.own _) (hn.ty T) (kit_gon T n)
theorem ev_isInt {i : Int} (h : Ev ta σ H (.int i)) : Ev (tCB (rIsi K) (tCons ta (tCons (tC (.ty "int")) tNil))) σ H (.bl true) := ev_isi h ev_c (.ty _) (.base (.int i)) (kit_ty (by decide +kernel))
theorem ev_isBool {i : Int} (h : Ev ta σ H (.int i)) : Ev (tCB (rIsi K) (tCons ta (tCons (tC (.ty "bool")) tNil))) σ H (.bl false) := ev_isi h ev_c (.ty _) (.base (.int i)) (kit_ty (by decide +kernel))
theorem ev_isStr {z : Str} (h : Ev ta σ H (.str z)) : Ev (tCB (rIsi K) (tCons ta (tCons (tC (.ty "str")) tNil))) σ H (.bl true) := ev_isi h ev_c (.ty _) (.base (.str z)) (kit_ty (by decide +kernel))
/-! ### fields -/
theorem ev_nodes (T : Txt K mg) (h : Ev ta σ H (.ref a)) (q : TrA K H a t as Tr') : Ev (tFld K ta "nodes") σ H (.ref t) := let ⟨_, r⟩ := q.ob; ev_fld h r (cl_Tree T) (na_Tree_nodes T) lk0
theorem ev_node (T : Txt K mg) {i : Nat} (h : Ev ta σ H (.ref a)) (q : TrA K H a t as Tr') (hi : Ev tb σ H (.int (i : Int))) (hb : as[i]? = some b) : Ev (tOp (rIxT K) (tFld K ta "nodes") tb) σ H (.ref b) :=
  ev_op (ev_nodes T h q) hi (rv_ixT (st_of q.tup) (atI_nat (by rw [List.getElem?_map, hb]; rfl)))
theorem ev_lenNodes (T : Txt K mg) (h : Ev ta σ H (.ref a)) (q : TrA K H a t as Tr') : Ev (tCB (rLenS K) (tCons (tFld K ta "nodes") tNil)) σ H (.int (Tr'.length : Int)) :=
  ev_is (ev_lenT (ev_nodes T h q) (st_of q.tup)) (by rw [List.length_map, q.nds.len])
theorem ev_ents (T : Txt K mg) {o : Nat} {dx : Addr} (h : Ev ta σ H (.ref a)) (q : H a = some (.ins (He.ga K "Folder") dx (fFol o t))) : Ev (tFld K ta "entries") σ H (.ref t) :=
  ev_fld h q (cl_Folder T) (na_Folder_entries T) ((lk1 (by decide +kernel)).trans lk0)
theorem ev_owner (T : Txt K mg) (h : Ev ta σ H (.ref a)) (q : NdAt K H a n) : Ev (tFld K ta "owner") σ H (.int (n.own : Int)) := by
  cases n with
  | fol o es => obtain ⟨dx, t, h1, _⟩ := q; exact ev_fld h h1 (cl_Folder T) (na_Folder_owner T) lk0
  | fil o => obtain ⟨dx, h1⟩ := q; exact ev_fld h h1 (cl_File T) (na_File_owner T) lk0
  | lnk o z => obtain ⟨dx, h1⟩ := q; exact ev_fld h h1 (cl_Link T) (na_Link_owner T) lk0
  | gon o b => obtain ⟨dx, h1⟩ := q; exact ev_fld h h1 (cl_Gone T) (na_Gone_owner T) lk0
theorem ev_above (T : Txt K mg) {o c : Nat} (h : Ev ta σ H (.ref a)) (q : NdAt K H a (.gon o c)) : Ev (tFld K ta "above") σ H (.int (c : Int)) := by
  obtain ⟨dx, h1⟩ := q
  exact ev_fld h h1 (cl_Gone T) (na_Gone_above T) ((lk1 (by decide +kernel)).trans lk0)
theorem ev_text (T : Txt K mg) {o : Nat} {z : Str} (h : Ev ta σ H (.ref a)) (q : NdAt K H a (.lnk o z)) : Ev (tFld K ta "text") σ H (.str z) := by
  obtain ⟨dx, h1⟩ := q
  exact ev_fld h h1 (cl_Link T) (na_Link_text T) ((lk1 (by decide +kernel)).trans lk0)
theorem ev_oowner (T : Txt K mg) {o : Nat} {dx : Addr} (h : Ev ta σ H (.ref a)) (q : H a = some (.ins (He.ga K "Others") dx (fOth o t))) : Ev (tFld K ta "owner") σ H (.int (o : Int)) := ev_fld h q (cl_Others T) (na_Others_owner T) lk0
theorem ev_folders (T : Txt K mg) {o : Nat} {dx : Addr} (h : Ev ta σ H (.ref a)) (q : H a = some (.ins (He.ga K "Others") dx (fOth o t))) : Ev (tFld K ta "folders") σ H (.ref t) := ev_fld h q (cl_Others T) (na_Others_folders T) ((lk1 (by decide +kernel)).trans lk0)
variable {f g : Nat} {nm q : Str} {dx : Addr}
theorem ev_mfolder (T : Txt K mg) (h : Ev ta σ H (.ref a)) (r : MovAt K H a f nm g q) : Ev (tFld K ta "folder") σ H (.int (f : Int)) := let ⟨_, r⟩ := r; ev_fld h r (cl_Move T) (na_Move_folder T) lk0
theorem ev_mname (T : Txt K mg) (h : Ev ta σ H (.ref a)) (r : MovAt K H a f nm g q) : Ev (tFld K ta "name") σ H (.str nm) := let ⟨_, r⟩ := r; ev_fld h r (cl_Move T) (na_Move_name T) ((lk1 (by decide +kernel)).trans lk0)
theorem ev_mgoal (T : Txt K mg) (h : Ev ta σ H (.ref a)) (r : MovAt K H a f nm g q) : Ev (tFld K ta "goal") σ H (.int (g : Int)) := let ⟨_, r⟩ := r; ev_fld h r (cl_Move T) (na_Move_goal T) ((lk1 (by decide +kernel)).trans ((lk1 (by decide +kernel)).trans lk0))
theorem ev_mother (T : Txt K mg) (h : Ev ta σ H (.ref a)) (r : MovAt K H a f nm g q) : Ev (tFld K ta "other") σ H (.str q) := let ⟨_, r⟩ := r; ev_fld h r (cl_Move T) (na_Move_other T) ((lk1 (by decide +kernel)).trans ((lk1 (by decide +kernel)).trans ((lk1 (by decide +kernel)).trans lk0)))
theorem ty_mov (T : Txt K mg) (r : MovAt K H a f nm g q) : TyX K H (.ref a) (.ref (He.ga K "Move")) := let ⟨_, r⟩ := r; in_Move T r
end
/-! ### entries of a tree -/
theorem ents_of {T : Tr} {f : Nat} {o : Nat} {es : Ents} (h : T[f]? = some (.fol o es)) : ents T f = es := by unfold ents; rw [h]; rfl
theorem isF_of {T : Tr} {f : Nat} (h : isF T f = true) : ∃ o es, T[f]? = some (.fol o es) := by
  unfold isF at h
  cases q : T[f]? with
  | none => rw [q] at h; cases h
  | some n =>
    rw [q] at h
    cases n with
    | fol o es => exact ⟨o, es, rfl⟩
    | _ => cases h
theorem isF_at {T : Tr} {f : Nat} {o : Nat} {es : Ents} (h : T[f]? = some (.fol o es)) : isF T f = true := by unfold isF; rw [h]; rfl
theorem isF_nd {T : Tr} {f : Nat} {n : Nd} (h : T[f]? = some n) : isF T f = n.isFol := by unfold isF; rw [h]
end NW
set_option maxHeartbeats 4000000
/-! is_number, is_owner, is_name, check_node, node_at. -/
namespace NW
open PySem PySem.Spec PyProof.Rows L2 Evl
theorem hu0_of {A : Around} {k : Nat} (hr : Room k A) : A.units < cLine := by have := hr.un; omega
def letters : Str := "abcdefghijklmnopqrstuvwxyz0123456789_-."
/-- a name -/
def nameOk (z : Str) : Bool := decide (1 ≤ z.length) && (decide (z.length ≤ 12) && (!decide (z = ".") && (!decide (z = "..") && z.cps.toList.all fun c => decide (c ∈ letters.cps.toList))))
structure NameOk (z : Str) : Prop where
  lo : 1 ≤ z.length
  hi : z.length ≤ 12
  n1 : z ≠ "."
  n2 : z ≠ ".."
  all : ∀ c ∈ z.cps.toList, c ∈ letters.cps.toList
theorem nameOk_iff {z : Str} : nameOk z = true ↔ NameOk z := by
  unfold nameOk
  simp only [Bool.and_eq_true, decide_eq_true_eq, Bool.not_eq_true', decide_eq_false_iff_not, List.all_eq_true]
  exact ⟨fun ⟨a, b, c, d, e⟩ => ⟨a, b, c, d, e⟩, fun ⟨a, b, c, d, e⟩ => ⟨a, b, c, d, e⟩⟩
/-! ### promises -/
def spNum : Sp := fun vs H Q _ => ∃ i : Int, vs = [.int i] ∧ ∀ H', Ex H H' → Q (.bl true) H'
theorem spNum_v {H : Hp} {i : Int} : SpV spNum [.int i] H (.bl true) := fun H1 e Q q E => ⟨i, rfl, q⟩
def spOwn : Sp := fun vs H Q _ => ∃ i : Nat, vs = [.int (i : Int)] ∧ ∀ H', Ex H H' → Q (.bl true) H'
theorem spOwn_v {H : Hp} {i : Nat} : SpV spOwn [.int (i : Int)] H (.bl true) := fun H1 e Q q E => ⟨i, rfl, q⟩
def spName : Sp := fun vs H Q _ => ∃ z : Str, vs = [.str z] ∧ ((NameOk z ∧ ∀ H', Ex H H' → Q (.bl true) H') ∨ (z = ".." ∧ ∀ H', Ex H H' → Q (.bl false) H'))
theorem spName_v {H : Hp} {z : Str} (h : NameOk z) : SpV spName [.str z] H (.bl true) := fun H1 e Q q E => ⟨z, rfl, .inl ⟨h, q⟩⟩
theorem spName_u {H : Hp} : SpV spName [.str ".."] H (.bl false) := fun H1 e Q q E => ⟨_, rfl, .inr ⟨rfl, q⟩⟩
section
variable {P : Program} {w : World} {K : PySem.W.Frag} {mg : Str → Option Value} {base : Heap}
theorem sc_is_number : FnScope ["thing"] ["thing"] (defScope s_is_number) := ⟨rfl, rfl, rfl, by decide +kernel, rfl, by decide +kernel, by decide +kernel⟩
theorem c_is_number (T : Txt K mg) : C8.Cal P w K mg base 1 "is_number" spNum [] := by
  refine cal_of (fd_is_number T) (g_is_number T) (fun _ _ _ _ _ _ us hl => match us, hl with | [_], _ => rfl) sc_is_number (fun vs H Q E h => ?_) (fun cdv A outer s H vs Q E hr h => ?_)
  · obtain ⟨i, rfl, _⟩ := h; rfl
  · obtain ⟨i, rfl, k⟩ := h
    refine ⟨_, (pss_one (ps_ret (pe_and (pe_callB call_isi (by rfl) (f_isinstance T) b_isinstance (pa_cons (pv 0) (pa_cons (pe_bltn (v := .ty "int") (by rfl) (f_int T) b_int rfl) pa_nil))) (pe_one (pe_not (pe_callB call_isi (by rfl) (f_isinstance T) b_isinstance (pa_cons (pv 0) (pa_cons (pe_bltn (v := .ty "bool") (by rfl) (f_bool T) b_bool rfl) pa_nil)))))))), ?_⟩
    exact s_ret (ev_andV (ev_isInt (ev_var rfl)) fun _ => ev_notV (ev_isBool (ev_var rfl))) fun H1 e1 => k H1 e1
theorem sc_is_owner : FnScope ["thing"] ["thing"] (defScope s_is_owner) := ⟨rfl, rfl, rfl, by decide +kernel, rfl, by decide +kernel, by decide +kernel⟩
theorem c_is_owner (T : Txt K mg) : C8.Cal P w K mg base 2 "is_owner" spOwn [] := by
  refine cal_of (fd_is_owner T) (g_is_owner T) (fun _ _ _ _ _ _ us hl => match us, hl with | [_], _ => rfl) sc_is_owner (fun vs H Q E h => ?_) (fun cdv A outer s H vs Q E hr h => ?_)
  · obtain ⟨i, rfl, _⟩ := h; rfl
  · obtain ⟨i, rfl, k⟩ := h
    refine ⟨_, (pss_one (ps_ret (pe_and (C8.pe_c (c_is_number T) hr (by decide) rfl (pa_cons (pv 0) pa_nil)) (pe_one (pe_cmpR op_ge (pv 0) pe_int (nomark _)))))), ?_⟩
    refine s_ret (ev_andV (ev_call (dvs := []) (ea_cons (ev_var rfl) ea_nil) spNum_v) fun _ => ev_op (ev_var rfl) ev_c rv_I0) fun H1 e1 => ?_
    have q := k H1 e1
    rw [show (true && decide ((0 : Int) ≤ (i : Int))) = true by simp]
    exact q
theorem ev_allC {σ : L2.St} {H : Hp} {ta : TE} {l : List Nat} {b : Nat → Bool} (h : EvL ta σ H (l.map fun i => V.bl (b i))) : Ev (tCB (rAll K) (tCons ta tNil)) σ H (.bl (l.all b)) := by
  have h2 : EvL ta σ H ((l.map b).map V.bl) := by rw [List.map_map]; exact h
  refine ev_is (ev_allL h2) ?_
  rw [List.all_map]
  rfl
theorem all_kept {n : Nat} {f b : Nat → Bool} (h : ∀ i, i < n → f i = true → b i = true) : (kept n f).all b = true := by
  refine List.all_eq_true.mpr fun i hi => ?_
  obtain ⟨h1, h2⟩ := List.mem_filter.mp hi
  exact h i (List.mem_range.mp h1) h2
theorem sc_is_name : FnScope ["thing", "letter"] ["thing"] (defScope s_is_name) := ⟨rfl, rfl, rfl, by decide +kernel, rfl, by decide +kernel, by decide +kernel⟩
theorem c_is_name (T : Txt K mg) : C8.Cal P w K mg base 1 "is_name" spName [] := by
  refine cal_of (fd_is_name T) (g_is_name T) (fun _ _ _ _ _ _ us hl => match us, hl with | [_], _ => rfl) sc_is_name (fun vs H Q E h => ?_) (fun cdv A outer s H vs Q E hr h => ?_)
  · obtain ⟨i, rfl, _⟩ := h; rfl
  · obtain ⟨z, rfl, ⟨nk, k⟩ | ⟨rfl, k⟩⟩ := h
    rotate_left
    · refine ⟨_, (pss_cons (ps_if (PW.pt (pw_or (pt_not (pt_val (pe_callB call_isi (by rfl) (f_isinstance T) b_isinstance (pa_cons (pv 0) (pa_cons (pe_bltn (v := .ty "str") (by rfl) (f_str T) b_str rfl) pa_nil))))) (pw_or (pt_not (pt_chain op_le op_le pe_int (pe_callB call_len_str (by rfl) (f_len T) b_len (pa_cons (pv 0) pa_nil)) (C8.pe_gc rfl (v_MOST_LETTERS T)))) (pw_or1 (pt_cmpR op_in_seq (pv 0) (pe_tup (pa_cons (C8.pe_gc rfl (v_HERE T)) (pa_cons (C8.pe_gc rfl (v_UP T)) pa_nil))) (by rfl)))))) (pss_one (ps_ret pe_bl)) pss_nil)
      (pss_one (ps_ret (pe_callB (cr_all rfl) (by rfl) (f_all T) b_all (pa_cons (pe_lc (own := [("letter", 1)]) rfl sc_is_name.nd (pi_str (pv 0)) (blkOk_by (own := [("letter", 1)]) (N := ["thing", "letter"]) (sc := defScope s_is_name) (by decide +kernel)) (fun _ _ _ _ _ => (pg_name (i := 1) sc_is_name.nd rfl (Or.inl rfl) (.inr rfl))) (fun _ _ _ _ _ => pts_nil) (fun _ _ _ _ _ => (pe_cmpR op_in_sign (pv 1) (C8.pe_gc rfl (v_LETTERS T)) (by rfl)))) pa_nil))))), ?_⟩
      refine q_when (b := true) (et_is (et_or (et_not (et_B (ev_isStr (ev_var rfl)))) fun _ => et_or (et_not (et_test (ev_chain (z' := .bl true) ev_c (ev_lenS (ev_var rfl) (by decide +kernel)) rv_I0 (fun _ => ev_c) (fun _ => rv_I0) (fun h => nomatch h)))) fun _ =>
        et_test (ev_inU (ev_var rfl) (eu_tup (ea_cons ev_c (ea_cons ev_c ea_nil)) (by decide)) rfl rfl)) (by decide +kernel)) (fun _ H1 e1 => s_ret ev_c fun H2 e2 => k H2 (e1.trans e2)) (fun h => by cases h)
    refine ⟨_, (pss_cons (ps_if (PW.pt (pw_or (pt_not (pt_val (pe_callB call_isi (by rfl) (f_isinstance T) b_isinstance (pa_cons (pv 0) (pa_cons (pe_bltn (v := .ty "str") (by rfl) (f_str T) b_str rfl) pa_nil))))) (pw_or (pt_not (pt_chain op_le op_le pe_int (pe_callB call_len_str (by rfl) (f_len T) b_len (pa_cons (pv 0) pa_nil)) (C8.pe_gc rfl (v_MOST_LETTERS T)))) (pw_or1 (pt_cmpR op_in_seq (pv 0) (pe_tup (pa_cons (C8.pe_gc rfl (v_HERE T)) (pa_cons (C8.pe_gc rfl (v_UP T)) pa_nil))) (by rfl)))))) (pss_one (ps_ret pe_bl)) pss_nil)
      (pss_one (ps_ret (pe_callB (cr_all rfl) (by rfl) (f_all T) b_all (pa_cons (pe_lc (own := [("letter", 1)]) rfl sc_is_name.nd (pi_str (pv 0)) (blkOk_by (own := [("letter", 1)]) (N := ["thing", "letter"]) (sc := defScope s_is_name) (by decide +kernel)) (fun _ _ _ _ _ => (pg_name (i := 1) sc_is_name.nd rfl (Or.inl rfl) (.inr rfl))) (fun _ _ _ _ _ => pts_nil) (fun _ _ _ _ _ => (pe_cmpR op_in_sign (pv 1) (C8.pe_gc rfl (v_LETTERS T)) (by rfl)))) pa_nil))))), ?_⟩
    have lz : (z.length : Int) ≤ 12 := by have := nk.hi; omega
    have l1 : (1 : Int) ≤ (z.length : Int) := by have := nk.lo; omega
    have hn : inV (.str z) [.str ".", .str ".."] = false := by
      simp only [inV, List.any_cons, List.any_nil, eqV, Bool.or_false, Bool.or_eq_false_iff, beq_eq_false_iff_ne]
      exact ⟨fun e => nk.n1 e.symm, fun e => nk.n2 e.symm⟩
    refine q_when (b := false) (et_is (et_or (et_not (et_B (ev_isStr (ev_var rfl)))) fun _ => et_or (et_not (et_test (ev_chain (z' := .bl true) ev_c (ev_lenS (ev_var rfl) (by have := nk.hi; omega)) rv_I0 (fun _ => ev_c) (fun _ => (by rw [← decide_eq_true lz]; exact rv_I0)) (fun h => absurd l1 (of_decide_eq_false h))))) fun _ =>
      et_test (ev_inU (ev_var rfl) (eu_tup (ea_cons ev_c (ea_cons ev_c ea_nil)) (by decide)) rfl rfl)) (by rw [hn]; rfl)) (fun h => by cases h) fun _ H1 e1 => ?_
    refine s_ret (ev_allC (b := fun _ => true) (comp_val (wk_str (ev_var rfl)) (by have := nk.hi; have : z.cps.size = z.length := rfl; omega) (fun _ => true) _ (fun i x H2 hi e2 it Q' q' => ?_))) fun H3 e3 => ?_
    · obtain ⟨c, hc, rfl⟩ := it
      refine q' _ H2 (Evl.Ex.refl H2) rfl et_yes fun _ => ?_
      have hm : c ∈ letters.cps.toList := nk.all c (Array.mem_toList_iff.mpr (Array.mem_of_getElem? hc))
      refine ev_is (ev_op (ev_var rfl) ev_c fun H4 e4 Q q => ⟨c, _, rfl, rfl, q H4 (Evl.Ex.refl H4)⟩) ?_
      exact congrArg V.bl (decide_eq_true hm)
    · have q := k H3 (e1.trans e3)
      rw [all_kept fun _ _ _ => rfl]
      exact q
end
end NW
set_option maxHeartbeats 4000000
/-! enumerate over a tuple. -/
namespace NW
open PySem PySem.Spec PyProof.Rows L2
set_option maxHeartbeats 1000000 in
/-- enumerate(v), v anything that begins -/
theorem enum_new1 {v : Value} {o : Obj} {B0 : Heap → Prop} (B : Begins v o B0) :
    Meets (Builtin.«enumerate.__new__» ⟨[.type "enumerate", v], []⟩) (fun _ R s => B0 s.heap ∧
      R (.ok (.ret (.ref (s.heap.push o).objs.size))) { s with heap := (s.heap.push o).push { cls := .type "enumerate", data := .fields #[.none, .bool false, .ref s.heap.objs.size, rawInt 0, .none, .none] } }) :=
  .of_wp fun prog w A R s h => by
    obtain ⟨hp, g, d, tk, os⟩ := s
    obtain ⟨h1, h⟩ := h
    have hsub := sub_enumerate
    have q1 : ∀ {A' : Around} {E : Value → Shared → Prop} {Q : Value → Shared → Prop}, Q (.ref hp.objs.size) ⟨hp.push o, g, d, tk, os⟩ → wpAny (model prog w) A' (pyIter v) Q E ⟨hp, g, d, tk, os⟩ :=
      fun q => B.iter prog w _ _ ⟨hp, g, d, tk, os⟩ _ h1 q
    wp_walk using q1
    refine wpAny_stack_any fun st => wpAny_pure ?_
    split
    · rename_i c _ _ _ _ _
      cases (c == Value.type "enumerate")
      · wp_walk using q1
        exact ⟨_, rfl, h⟩
      · wp_walk using q1
        exact ⟨_, rfl, h⟩
    · wp_walk using q1
      exact ⟨_, rfl, h⟩
theorem enum_begins1 {prog : Program} {w : World} {A : Around} {E : Value → Shared → Prop} {s : Shared} {v : Value} {o : Obj} {B0 : Heap → Prop} {Q : Value → Shared → Prop} (B : Begins v o B0) (h1 : B0 s.heap)
    (h : ∀ h', IsEnum h' (s.heap.objs.size + 1) s.heap.objs.size 0 .none → h'.get? s.heap.objs.size = some o → (∀ b o, s.heap.get? b = some o → h'.get? b = some o) → Q (.ref (s.heap.objs.size + 1)) { s with heap := h' }) :
    wpAny (model prog w) A (call (.type "enumerate") [v]) Q E s := by
  refine callType_new F.called_enumerate (by decide) (F.typeCall_enumerate_1 _) (F.newCall_enumerate_1 _) (fun obj => F.args_object_init_2 obj _) F.entry_enumerate_new (enum_new1 B) ⟨h1, ?_⟩
  have hz : (s.heap.push o).objs.size = s.heap.objs.size + 1 := Heap.size_push ..
  show _ ∧ _
  rw [hz]
  have he : IsEnum ((s.heap.push o).push { cls := .type "enumerate", data := .fields #[.none, .bool false, .ref s.heap.objs.size, rawInt 0, .none, .none] }) (s.heap.objs.size + 1) s.heap.objs.size 0 .none := by
    have q := Heap.get?_push_size (s.heap.push o) (o := { cls := .type "enumerate", data := .fields #[.none, .bool false, .ref s.heap.objs.size, rawInt 0, .none, .none] }) rfl
    rw [hz] at q
    exact q
  exact ⟨⟨_, he, rfl⟩, h _ he (Heap.get?_push_of_some _ (Heap.get?_push_size _ B.free)) fun b o x => Heap.get?_push_of_some _ (Heap.get?_push_of_some _ x)⟩
/-- the tuple at a as it stands, each item in a new pair -/
def IteT (K : PySem.W.Frag) (a : Addr) : It :=
  ⟨fun i H => ∃ (xs : List V) (x : V), SqT K H a xs ∧ xs[i]? = some x, fun i H v H' => ∃ T x, v = .ref T ∧ H T = none ∧ H' = upd H T (.tup [.int (i : Nat), x]) ∧ ∀ xs, SqT K H a xs → xs[i]? = some x, fun i H => ∃ xs : List V, SqT K H a xs ∧ xs.length ≤ i⟩
theorem turn_enumT {P : Program} {w : World} {K : PySem.W.Frag} {elts : List Expr} {kk : Nat} {tpos : Pos} (a e it : Addr) (hai : a ≠ it) :
    Turn P w K (.Tuple elts kk tpos) (IteT K a) [e, it] e (fun i h => (∃ old, IsEnum h e it ((i : Nat) : Int) old) ∧ h.IsTupleIter it a i ∧ e ≠ it) where
  mem := by simp
  obj := fun i h st b hb => by
    obtain ⟨⟨old, he⟩, ⟨o, ho, hc, hd⟩, _⟩ := st
    have e' : b = e ∨ b = it := by simpa using hb
    rcases e' with z | z
    · rw [z]; exact ⟨_, he, fun v q => nomatch q⟩
    · rw [z]; exact ⟨o, ho, fun v q => by rw [hd] at q; cases q⟩
  keep := fun i h h' st k => let ⟨⟨old, he⟩, hi, hne⟩ := st; ⟨⟨old, k e (by simp) _ he⟩, hi.at fun o q => k it (by simp) o q, hne⟩
  item := by
    intro X hP hw hK hc i pins s σ H E I hf st hg
    subst hP hw hK
    obtain ⟨⟨old, he⟩, hit, hne⟩ := st
    obtain ⟨xs, x, hq, hx⟩ := hg
    obtain ⟨its, rv, p, hz⟩ := I.tuple hq
    obtain ⟨u, hu, ru⟩ := rv.get hx
    have hel : e < s.heap.objs.size := Heap.lt_size he
    have hil : it < s.heap.objs.size := by obtain ⟨_, q, _⟩ := hit; exact Heap.lt_size q
    have hlt : i < its.toArray.size := by
      have := (List.getElem?_eq_some_iff.mp hu).1
      simpa using this
    have DD := Draws.tuple (prog := X.prog) (w := X.w) (A := X.A.in1) (show X.A.in1.handled = none from I.ok.hd hc) it a hai its.toArray
    refine wpAny_pyNext_enum_itemD DD he ⟨hit, p⟩ hlt hne ?_ fun x' h' tk hP ho hs' hT hsz hk => ?_
    · intro hm
      rcases List.mem_cons.mp hm with z | z
      · exact hne z
      · have z : e = a := by simpa using z
        subst z
        obtain ⟨o, q1, q2, _⟩ := id p
        rw [he] at q1; cases q1
        exact absurd (Value.type.inj q2) (by decide)
    have ex : x' = u := by
      have q : its.toArray[i]? = some x' := hP
      rw [List.getElem?_toArray, hu] at q
      exact (Option.some.inj q).symm
    subst ex
    refine ⟨_, rfl, wpAny_letOwnedTupleGo_enum (s := { s with heap := h', toks := tk + 1 }) ho fun h'' he' sb => ?_⟩
    have hT2 : h''.get? s.heap.objs.size = some { cls := .type "tuple", data := .seq #[.int i tk, x'] } := (sb.2 _ (Nat.ne_of_gt hel)).trans hT
    have new : ObjOk X.prog X.w (upd H s.heap.objs.size (.tup [.int (i : Nat), x])) h'' s.heap.objs.size (.tup [.int (i : Nat), x]) :=
      ⟨by show 2 ≤ sizeLine; decide, [.int i tk, x'], .cons ⟨_, rfl⟩ (.cons ru .nil), ⟨_, hT2, rfl, _, rfl⟩⟩
    have I1 : Inv X pins σ (upd H s.heap.objs.size (.tup [.int (i : Nat), x])) { s with heap := h'', toks := tk + 1 } :=
      I.turnedNew (ch := [e, it]) (fun b ob hb q => (sb.2 b (fun z => hb (by simp [z]))).trans (hk b ob (fun z => hb (by simp [z])) (fun z => hb (by simp [z])) q)) hf (Nat.le_refl _) new
    refine ⟨.ref s.heap.objs.size, _, I1, rfl, ⟨_, x, rfl, I.hok.fresh (Nat.le_refl _), rfl, fun ys hy => by rw [I.tuple_inj hy hq]; exact hx⟩, ⟨⟨x', ?_⟩, hs'.1.at fun o q => (sb.2 it (Ne.symm hne)).trans q, hne⟩, fun b hb => ?_⟩
    · have e1 : ((i + 1 : Nat) : Int) = (i : Int) + 1 := by omega
      rw [e1]; exact he'
    · have hb' : b < s.heap.objs.size := by
        have e' : b = e ∨ b = it := by simpa using hb
        rcases e' with z | z
        · rw [z]; exact hel
        · rw [z]; exact hil
      rw [upd_ne (Nat.ne_of_lt hb')]
      exact (hf b hb).1
  done := by
    intro X hP hw hK hc i pins s σ H E I hf st hg
    subst hP hw hK
    obtain ⟨⟨old, he⟩, hit, hne⟩ := st
    obtain ⟨xs, hq, hx⟩ := hg
    obtain ⟨its, rv, p, hz⟩ := I.tuple hq
    obtain ⟨f0, f1, f2, f3, f4, f5⟩ := hf it (by simp)
    have hl := rv.length
    have hT : s.TypeIs (.ref e) "enumerate" := ⟨_, he, rfl⟩
    have fin : ∀ h', Heap.ExtBut it s.heap h' → (none : Option Value) = none ∧ Inv X pins σ H { s with heap := h' } := fun h' eb => ⟨rfl, I.turned (t' := s.toks) (fun b o hb q => eb b o hb q) f0 f1 f3 f4 f5⟩
    unfold pyNext
    refine wpAny_bind (wpAny_attempt (wpAny_callSpecial?_slot (name := Str.ofString "__next__") hT F.slot_enumerate_next
      (wpAny_call_entry F.slot_enumerate_next hT F.entry_enumerate_next ?_ (F.args_enumerate_next_1 _))))
    show wpAny _ _ (field (.ref e) 2 >>= _) _ _ _
    refine wpAny_bind (wpAny_field he rfl (x := .ref it) rfl ?_)
    refine wpAny_bind (wpAny_nextOf_tuple_end (show X.A.in1.handled = none from I.ok.hd hc) hit p (by simp; omega) fun h' x he' hx' => ?_)
    obtain ⟨o, ho, hc'⟩ := hx'
    refine wpAny_bind (wpAny_isInstance (T := "StopIteration") (b := true) ⟨o, ho, hc'⟩ isSubtype_stop ?_)
    exact wpAny_pure (fin _ he')
  self := fun A i s Q E st h => let ⟨⟨_, he⟩, _⟩ := st; wpAny_pyIter_enum he h
def iEnumT (K : PySem.W.Frag) (ta : TA) : TI := fun σ H R => ta σ H fun vs H1 => ∃ a xs, vs = [.ref a] ∧ SqT K H1 a xs ∧ R (IteT K a) H1
theorem pi_enumT {X : Cx} {e : Expr} {ta : TA} {p pos tpos : Pos} {elts : List Expr} {kk : Nat} (hg : Gl X "enumerate") (hm : X.mg "enumerate" = none) (ha : PA X [e] ta) (hs : starEach [e] X.env = [(false, eval e X.env)] := by rfl) :
    PI X (.Tuple elts kk tpos) (.Call (.Name "enumerate" p) [e] [] pos) (iEnumT X.K ta) := by
  refine ⟨fun pins s σ H R I h => ?_⟩
  refine Call_ (ld_blt I hg hm boot_enumerate (PyProof.Rows.callWith_type1 (thn (ha.run pos pins s σ H _ I h) fun us s1 ⟨vs, H1, I1, r1, q1⟩ => ?_) hs rfl))
  obtain ⟨a, xs, ex, hq, q⟩ := q1
  subst ex
  cases r1 with
  | cons r rr =>
    cases rr
    cases r
    obtain ⟨its, rv, p', hz⟩ := I1.tuple hq
    refine enum_begins1 (begins_tuple a its.toArray) p' fun h' he hit hk => wpAny_pyIter_enum he ?_
    have I2 : Inv X pins σ H1 { s1 with heap := h' } := I1.kept (t' := s1.toks) hk
    have hal : a < s1.heap.objs.size := p'.lt
    refine ⟨s1.heap.objs.size + 1, [s1.heap.objs.size + 1, s1.heap.objs.size], _, _, H1, rfl, I2, turn_enumT a (s1.heap.objs.size + 1) s1.heap.objs.size (Nat.ne_of_lt hal), ⟨⟨.none, he⟩, ⟨_, hit, rfl, rfl⟩, Nat.succ_ne_self _⟩, fun b hb => ?_, q⟩
    have e' : b = s1.heap.objs.size + 1 ∨ b = s1.heap.objs.size := by simpa using hb
    have hle : s1.heap.objs.size ≤ b := by
      rcases e' with z | z
      · rw [z]; exact Nat.le_add_right _ _
      · rw [z]; exact Nat.le_refl _
    exact I1.fpOk hle (I1.hok.fresh hle)
open Evl in
theorem wk_enumT {K : PySem.W.Frag} {σ : L2.St} {H : Hp} {a : Addr} {xs : List V} {ta : TA} (h : EvA ta σ H [.ref a]) (hs : SqT K H a xs) : Wk (iEnumT K ta) σ H xs.length (EnOf xs) := fun H1 e R r =>
  h H1 e _ fun H2 e2 => ⟨a, xs, rfl, ex_t (e.trans e2) hs, r _ H2 e2 ⟨fun H e3 => ⟨xs, ex_t ((e.trans e2).trans e3) hs, Nat.le_refl _⟩,
    fun i H e3 hi => ⟨⟨xs, xs[i], ex_t ((e.trans e2).trans e3) hs, List.getElem?_eq_getElem hi⟩, fun x H' ⟨T, y, ex, hT, eH, hy⟩ =>
      ⟨by rw [eH]; exact Evl.Ex.new hT, T, y, ex, by rw [eH]; exact upd_same, hy xs (ex_t ((e.trans e2).trans e3) hs)⟩⟩⟩⟩
end NW
set_option maxHeartbeats 4000000
/-! check_node, node_at, Tree.folder_numbers, entries_of, above, is_folder. -/
namespace NW
open PySem PySem.Spec PyProof.Rows L2 Evl
/-! ### comprehensions over entries -/
theorem kept_take {α β : Type} {es : List α} {f : α → Bool} {v : α → β} {f' : Nat → Bool} {v' : Nat → β} (hf : ∀ k e, es[k]? = some e → f' k = f e) (hv : ∀ k e, es[k]? = some e → v' k = v e) :
    ∀ n, n ≤ es.length → (kept n f').map v' = ((es.take n).filter f).map v
  | 0, _ => rfl
  | n + 1, h => by
    have ih := kept_take hf hv n (by omega)
    have hlt : n < es.length := h
    have e := List.getElem?_eq_getElem hlt
    rw [List.take_succ, e]
    show _ = List.map v (List.filter f (es.take n ++ [es[n]]))
    rw [List.filter_append, List.map_append, ← ih]
    cases q : f es[n] with
    | true =>
      rw [kept_yes ((hf n _ e).trans q), List.map_append, List.filter_cons, if_pos q]
      show _ ++ [v' n] = _ ++ [v es[n]]
      rw [hv n _ e]
    | false =>
      rw [kept_no ((hf n _ e).trans q), List.filter_cons, if_neg (by rw [q]; decide)]
      exact (List.append_nil _).symm
theorem kept_map {α β : Type} {es : List α} {f : α → Bool} {v : α → β} {f' : Nat → Bool} {v' : Nat → β} (hf : ∀ k e, es[k]? = some e → f' k = f e) (hv : ∀ k e, es[k]? = some e → v' k = v e) :
    (kept es.length f').map v' = (es.filter f).map v := by
  rw [kept_take hf hv es.length (Nat.le_refl _), List.take_length]
/-- the items are pairs (name, node) -/
abbrev PrOf (es : Ents) : Nat → V → Hp → Prop := fun k x H => ∃ a e, x = .ref a ∧ es[k]? = some e ∧ entV a H e
theorem wk_prs {wi : TI} {σ : L2.St} {H : Hp} {as : List Addr} {es : Ents} (h : Wk wi σ H (as.map V.ref).length (ItOf (as.map V.ref))) (p : Paired (fun a e => entV a H e) as es) : Wk wi σ H es.length (PrOf es) := by
  intro H1 e1 R r
  refine h H1 e1 R fun J H2 e2 jok => r J H2 e2 ?_
  have hl : (as.map V.ref).length = es.length := by rw [List.length_map, p.len]
  rw [hl] at jok
  refine ⟨jok.stop, fun i H3 e3 hi => ⟨(jok.go i H3 e3 hi).1, fun x H4 y => ?_⟩⟩
  obtain ⟨e4, it⟩ := (jok.go i H3 e3 hi).2 x H4 y
  refine ⟨e4, ?_⟩
  have it : (as.map V.ref)[i]? = some x := it
  rw [List.getElem?_map] at it
  cases q : as[i]? with
  | none => rw [q] at it; cases it
  | some a =>
    rw [q] at it
    obtain ⟨e, he, hv⟩ := p.at1 q
    exact ⟨a, e, (Option.some.inj it).symm, he, (((e1.trans e2).trans e3).trans e4) _ _ hv⟩
theorem wk_ents {K : PySem.W.Frag} {σ : L2.St} {H : Hp} {tl : TE} {t : Addr} {es : Ents} (h : Ev tl σ H (.ref t)) (hE : EntsAt H t es) : Wk (iTup K tl) σ H es.length (PrOf es) := by
  obtain ⟨as, h1, h2⟩ := hE
  exact wk_prs (wk_tup h (st_of h1)) h2
theorem el_prs {K : PySem.W.Frag} {σ : L2.St} {H : Hp} {wi : TI} {tt : TT} {te : TE} {vs : List Nat} {i j : Nat} {es : Ents} (h : Wk wi σ H es.length (PrOf es)) (hz : es.length ≤ 40000) (f : Str × Nat → Bool) (v : Str × Nat → V)
    (hw : ∀ a b, wipe (((wipe σ vs).set i (some a)).set j (some b)) vs = wipe σ vs)
    (ht : ∀ e ∈ es, ∀ H1, Ex H H1 → EvT tt (((wipe σ vs).set i (some (.str e.1))).set j (some (.int (e.2 : Int)))) H1 (f e))
    (he : ∀ e ∈ es, ∀ H1, Ex H H1 → f e = true → Ev te (((wipe σ vs).set i (some (.str e.1))).set j (some (.int (e.2 : Int)))) H1 (v e)) :
    EvL (tLc wi (gTup K 2 (gCons (gName i) (gCons (gName j) gNil))) tt te vs) σ H ((es.filter f).map v) := by
  have hk := kept_map (es := es) (f := f) (v := v) (f' := fun k => match es[k]? with | some e => f e | none => false) (v' := fun k => match es[k]? with | some e => v e | none => .non)
    (fun k e q => by simp only [q]) (fun k e q => by simp only [q])
  rw [← hk]
  refine comp_val h hz _ _ fun k x H1 hi e1 it Q q => ?_
  obtain ⟨a, e, rfl, hek, hv⟩ := it
  have hm : e ∈ es := List.mem_of_getElem? hek
  refine ⟨a, _, rfl, st_of hv, rfl, .str e.1, [.int (e.2 : Int)], rfl, .int (e.2 : Int), [], rfl, rfl, ?_⟩
  refine q _ H1 (Evl.Ex.refl H1) (hw _ _) ?_ fun hf => ?_
  · simp only [hek]
    exact ht e hm H1 e1
  · simp only [hek] at hf ⊢
    exact he e hm H1 e1 hf
theorem at0 {x : V} {xs : List V} : atI (x :: xs) 0 = some x := atI_nat (j := 0) rfl
/-! ### plain functions -/
def lookE (es : Ents) (nm : Str) : Option Nat := ((es.filter fun e => decide (e.1 = nm)).map (·.2)).head?
def optI : Option Nat → V
  | some n => .int (n : Int)
  | none => .non
/-- the folders' numbers -/
def fols (T : Tr) : List Nat := (List.range T.length).filter (isF T)
/-- the entries that lead to a node -/
def entsTo (T : Tr) (n : Nat) : List (Nat × Str) := (fols T).flatMap fun f => ((ents T f).filter fun e => decide (e.2 = n)).map fun e => (f, e.1)
theorem mem_fols {T : Tr} {f : Nat} : f ∈ fols T ↔ isF T f = true := by
  unfold fols
  rw [List.mem_filter, List.mem_range]
  refine ⟨fun h => h.2, fun h => ⟨?_, h⟩⟩
  obtain ⟨o, es, e⟩ := isF_of h
  exact (List.getElem?_eq_some_iff.mp e).1
/-! ### promises -/
def spChk (K : PySem.W.Frag) : Sp := fun vs H Q _ => ∃ (a t : Addr) (as : List Addr) (T : Tr) (n : Nat), vs = [.ref a, .int (n : Int)] ∧ TrA K H a t as T ∧ n < T.length ∧ ∀ H', Ex H H' → Q .non H'
def spNodeAt (K : PySem.W.Frag) : Sp := fun vs H Q _ => ∃ (a t : Addr) (as : List Addr) (T : Tr) (f o : Nat) (es : Ents) (nm : Str), vs = [.ref a, .int (f : Int), .str nm] ∧ TrA K H a t as T ∧ T[f]? = some (.fol o es) ∧ es.length ≤ 40000 ∧ ∀ H', Ex H H' → Q (optI (lookE es nm)) H'
def spFols (K : PySem.W.Frag) : Sp := fun vs H Q _ => ∃ (a t : Addr) (as : List Addr) (T : Tr), vs = [.ref a] ∧ TrA K H a t as T ∧ T.length ≤ 40000 ∧ ∀ p H', H p = none → Ex H H' → H' p = some (.lst (intsV (fols T))) → Q (.ref p) H'
theorem spChk_v {K : PySem.W.Frag} {H : Hp} {a t : Addr} {as : List Addr} {T : Tr} {n : Nat} (h : TrA K H a t as T) (hn : n < T.length) : SpV (spChk K) [.ref a, .int (n : Int)] H .non := fun H1 e Q q E => ⟨a, t, as, T, n, rfl, h.mono (Ex.i e), hn, q⟩
theorem spNodeAt_v {K : PySem.W.Frag} {H : Hp} {a t : Addr} {as : List Addr} {T : Tr} {f o : Nat} {es : Ents} {nm : Str} (h : TrA K H a t as T) (hf : T[f]? = some (.fol o es)) (hz : es.length ≤ 40000) : SpV (spNodeAt K) [.ref a, .int (f : Int), .str nm] H (optI (lookE es nm)) :=
  fun H1 e Q q E => ⟨a, t, as, T, f, o, es, nm, rfl, h.mono (Ex.i e), hf, hz, q⟩
theorem spFols_l {K : PySem.W.Frag} {H : Hp} {a t : Addr} {as : List Addr} {T : Tr} (h : TrA K H a t as T) (hz : T.length ≤ 40000) : SpL (spFols K) [.ref a] H (intsV (fols T)) := fun H1 e Q q E => ⟨a, t, as, T, rfl, h.mono (Ex.i e), hz, q⟩
section
variable {P : Program} {w : World} {K : PySem.W.Frag} {mg : Str → Option Value} {base : Heap}
theorem sc_check_node : FnScope ["tree", "node"] ["tree", "node"] (defScope s_check_node) := ⟨rfl, rfl, rfl, by decide +kernel, rfl, by decide +kernel, by decide +kernel⟩
theorem c_check_node (T : Txt K mg) : C8.Cal P w K mg base 2 "check_node" (spChk K) [] := by
  refine cal_of (fd_check_node T) (g_check_node T) (fun _ _ _ _ _ _ us hl => match us, hl with | [_, _], _ => rfl) sc_check_node (fun vs H Q E h => ?_) (fun cdv A outer s H vs Q E hr h => ?_)
  · obtain ⟨_, _, _, _, _, rfl, _⟩ := h; rfl
  · obtain ⟨a, t, as, Tr, n, rfl, hT, hn, k⟩ := h
    refine ⟨_, (pss_one (ps_if (PW.pt (pw_or (pt_not (pt_val (C8.pe_c (c_is_number T) hr (by decide) rfl (pa_cons (pv 1) pa_nil)))) (pw_or1 (pt_not (pt_chain op_le op_lt pe_int (pv 1) (pe_callB call_len_seq (by rfl) (f_len T) b_len (pa_cons (pe_fld (pv 0) rfl) pa_nil))))))) (pss_one ps_never) pss_nil)), ?_⟩
    have h0 : (0 : Int) ≤ (n : Int) := by omega
    have h1 : (n : Int) < (Tr.length : Int) := by omega
    refine s_when (b := false) (et_is (et_or (et_not (et_B (ev_call (dvs := []) (ea_cons (ev_var rfl) ea_nil) spNum_v))) fun _ => et_not (et_test (ev_chain (z' := .bl true) ev_c (ev_var rfl) rv_I0 (fun _ => ev_lenNodes T (ev_var rfl) hT) (fun _ => (by rw [← decide_eq_true h1]; exact rv_I0)) (fun h => absurd h0 (of_decide_eq_false h))))) rfl) (fun h => by cases h) fun _ H1 e1 => k H1 e1
theorem sc_node_at : FnScope ["tree", "folder", "name", "found", "other", "node"] ["tree", "folder", "name"] (defScope s_node_at) := ⟨rfl, rfl, rfl, by decide +kernel, rfl, by decide +kernel, by decide +kernel⟩
theorem c_node_at (T : Txt K mg) : C8.Cal P w K mg base 1 "node_at" (spNodeAt K) [] := by
  refine cal_of (fd_node_at T) (g_node_at T) (fun _ _ _ _ _ _ us hl => match us, hl with | [_, _, _], _ => rfl) sc_node_at (fun vs H Q E h => ?_) (fun cdv A outer s H vs Q E hr h => ?_)
  · obtain ⟨_, _, _, _, _, _, _, _, rfl, _⟩ := h; rfl
  · obtain ⟨a, t, as, Tr, f, o, es, nm, rfl, hT, hf, hz, k⟩ := h
    obtain ⟨b, hb, nb⟩ := hT.nds.at2 hf
    obtain ⟨dx, te, hF, hE⟩ := id nb
    refine ⟨_, (pss_cons (ps_if (pt_val (pe_callB call_isi (by rfl) (f_isinstance T) b_isinstance (pa_cons (pe_ix ix_tup (pe_fld (pv 0) rfl) (pv 1) (fun _ _ => rfl)) (pa_cons (pe_glob (v := .ref (He.ga K "Gone")) rfl (g_Gone T) rfl) pa_nil)))) (pss_one (ps_ret pe_non)) pss_nil)
      (pss_cons (ps_setLc (i := 3) (own := [("other", 4), ("node", 5)]) rfl sc_node_at.nd rfl rfl (sw_true rfl rfl rfl (by decide +kernel)) (pi_tup (pe_fld (pe_ix ix_tup (pe_fld (pv 0) rfl) (pv 1) (fun _ _ => rfl)) rfl)) (blkOk_by (own := [("other", 4), ("node", 5)]) (N := ["tree", "folder", "name", "found", "other", "node"]) (sc := defScope s_node_at) (by decide +kernel)) (fun _ _ _ _ _ => (k_pgt (K := K) (n := 2) rfl rfl (pgs_cons (pg_name (i := 4) sc_node_at.nd rfl (Or.inl rfl) (.inr rfl)) (pgs_cons (pg_name (i := 5) sc_node_at.nd rfl (Or.inl rfl) (.inr rfl)) pgs_nil)) rfl rfl)) (fun _ _ _ _ _ => (pts_one (pt_cmpR op_eq (pv 4) (pv 2) (nomark _)))) (fun _ _ _ _ _ => (pv 5)))
      (pss_one (ps_ret (pe_ifExp (pt_cmpR (op_neNilL (hu0_of hr)) (pv 3) (pe_lst pa_nil) (nomark _)) (pe_ix ix_list (pv 3) pe_int (fun _ _ => rfl)) pe_non))))), ?_⟩
    refine q_when (b := false) (et_B (ev_isGon T (ev_node T (ev_var rfl) hT (ev_var rfl) hb) nb)) (fun h => by cases h) fun _ H1 e1 => ?_
    refine q_asgL (el_prs (wk_ents (ev_ents T (ev_node T (ev_var rfl) (hT.mono (Ex.i e1)) (ev_var rfl) hb) (e1 _ _ hF)) (hE.mono (Ex.i e1))) hz (fun e => decide (e.1 = nm)) (fun e => .int (e.2 : Int)) (fun _ _ => rfl)
      (fun e he H2 e2 => et_is (et_test (ev_op (ev_var rfl) (ev_var rfl) (rv_eq rfl))) (by simp)) (fun e he H2 e2 _ => ev_var rfl)) fun p H2 hp e2 h2 => ?_
    have hN := ev_neNil (K := K) (ta := tVar 3) (σ := [some (.ref a), some (.int (f : Int)), some (.str nm), some (.ref p), none, none]) (ev_var rfl) (sq_of h2)
    refine s_ret (v := optI (lookE es nm)) (ev_if (et_test hN) (fun hb => ?_) (fun hb => ?_)) fun H3 e3 => k H3 ((e1.trans e2).trans e3)
    · unfold lookE
      cases q : es.filter fun e => decide (e.1 = nm) with
      | nil => rw [q] at hb; cases hb
      | cons e r =>
        rw [q] at h2
        exact ev_op (ev_var rfl) ev_c (rv_ixL (sq_of h2) at0)
    · unfold lookE
      cases q : es.filter fun e => decide (e.1 = nm) with
      | nil => exact ev_c
      | cons e r => rw [q] at hb; cases hb
theorem sc_Tree_folder_numbers : FnScope ["self", "index", "node"] ["self"] (defScope s_Tree_folder_numbers) := ⟨rfl, rfl, rfl, by decide +kernel, rfl, by decide +kernel, by decide +kernel⟩
theorem m_Tree_folder_numbers (T : Txt K mg) : C8.Met P w K mg base 1 (He.ga K "Tree") "folder_numbers" (spFols K) [] := by
  refine met_of (fd_Tree_folder_numbers T) (cl_Tree T) (me_Tree_folder_numbers T) (fun _ _ _ _ _ _ us hl => match us, hl with | [_], _ => rfl) sc_Tree_folder_numbers (fun vs H Q E h => ?_) (fun cdv A outer s H vs Q E hr h => ?_)
  · obtain ⟨_, _, _, _, rfl, _⟩ := h; rfl
  · obtain ⟨a, t, as, Tr, rfl, hT, hz, k⟩ := h
    refine ⟨_, (pss_one (ps_ret (pe_lc (own := [("index", 1), ("node", 2)]) rfl sc_Tree_folder_numbers.nd (pi_enumT (by rfl) (f_enumerate T) (pa_cons (pe_fld (pv 0) rfl) pa_nil)) (blkOk_by (own := [("index", 1), ("node", 2)]) (N := ["self", "index", "node"]) (sc := defScope s_Tree_folder_numbers) (by decide +kernel)) (fun _ _ _ _ _ => (k_pgt (K := K) (n := 2) rfl rfl (pgs_cons (pg_name (i := 1) sc_Tree_folder_numbers.nd rfl (Or.inl rfl) (.inr rfl)) (pgs_cons (pg_name (i := 2) sc_Tree_folder_numbers.nd rfl (Or.inl rfl) (.inr rfl)) pgs_nil)) rfl rfl)) (fun _ _ _ _ _ => (pts_one (pt_val (pe_callB (k_isi (K := K) rfl) (by rfl) (f_isinstance T) b_isinstance (pa_cons (pv 2) (pa_cons (pe_glob (v := .ref (He.ga K "Folder")) rfl (g_Folder T) rfl) pa_nil)))))) (fun _ _ _ _ _ => (pv 1))))), ?_⟩
    have hl : (as.map V.ref).length = Tr.length := by rw [List.length_map, hT.nds.len]
    refine s_retL (xs := intsV (fols Tr)) ?_ k
    show EvL _ _ _ ((kept Tr.length (isF Tr)).map fun f : Nat => V.int (f : Int))
    rw [← hl]
    refine comp_val (wk_enumT (ea_cons (ev_nodes T (ev_var rfl) hT) ea_nil) (st_of hT.tup)) (by omega) _ _ fun i x H1 hi e1 it Q' q => ?_
    obtain ⟨Tp, y, rfl, hTp, hy⟩ := it
    refine ⟨Tp, _, rfl, st_of hTp, rfl, .int (i : Int), [y], rfl, y, [], rfl, rfl, ?_⟩
    rw [List.getElem?_map] at hy
    cases q1 : as[i]? with
    | none => rw [q1] at hy; cases hy
    | some b =>
      rw [q1] at hy
      have ey : V.ref b = y := Option.some.inj hy
      subst ey
      obtain ⟨n, hn, nb⟩ := hT.nds.at1 q1
      refine q _ H1 (Evl.Ex.refl H1) rfl ?_ fun _ => ev_var rfl
      rw [isF_nd hn]
      exact et_B (ev_isFol T (ev_var rfl) (nb.mono (Ex.i e1)))
end
end NW
set_option maxHeartbeats 4000000
/-! Good trees, in plain Lean: what Tree(nodes) asks, and a rank. -/
namespace NW
open PySem
/-- strictly ascending names -/
def nlt (a b : Str) : Prop := a.cps.toList < b.cps.toList
def SrtE (es : Ents) : Prop := es.Pairwise fun a b => nlt a.1 b.1
/-- the texts that links bear -/
def texts : List Str := ["a", "b/", "../a", "/a/b", ".", "..", "/", "a/..", "c", "d/a"]
def isG (T : Tr) (f : Nat) : Bool := match T[f]? with | some n => n.isGon | none => false
structure EsOk (T : Tr) (es : Ents) : Prop where
  len : es.length ≤ 60
  ok : ∀ e ∈ es, NameOk e.1 ∧ 0 < e.2 ∧ e.2 < T.length ∧ isG T e.2 = false
  srt : SrtE es
def NdOk (T : Tr) (i : Nat) : Nd → Prop
  | .fol _ es => EsOk T es
  | .fil _ => True
  | .lnk _ z => z ∈ texts
  | .gon _ b => b < T.length ∧ b ≠ i ∧ (isF T b = true ∨ isG T b = true)
structure Good (T : Tr) : Prop where
  len : T.length ≤ 60
  root : isF T 0 = true
  nd : ∀ i n, T[i]? = some n → NdOk T i n
  one : ∀ n, isF T n = true → n ≠ 0 → (entsTo T n).length = 1
  sz : (T.map fun n => n.es.length).sum ≤ 60
  rk : ∃ rk : Nat → Nat, ∀ f nm n, (nm, n) ∈ ents T f → isF T n = true → rk f < rk n
/-- where a folder stands; the root in itself -/
def parN (T : Tr) (n : Nat) : Nat := if n = 0 then 0 else (((entsTo T n).head?).map (·.1)).getD 0
/-- n stands below top (or is it) -/
inductive Below (T : Tr) (top : Nat) : Nat → Prop where
  | refl : Below T top top
  | up {n : Nat} (h : n ≠ 0) (b : Below T top (parN T n)) : Below T top n
theorem mem_entsTo {T : Tr} {n f : Nat} {nm : Str} : (f, nm) ∈ entsTo T n ↔ isF T f = true ∧ (nm, n) ∈ ents T f := by
  unfold entsTo
  rw [List.mem_flatMap]
  constructor
  · rintro ⟨g, hg, hm⟩
    obtain ⟨e, he, q⟩ := List.mem_map.mp hm
    obtain ⟨h1, h2⟩ := List.mem_filter.mp he
    have h3 : e.2 = n := of_decide_eq_true h2
    have q1 : g = f := congrArg Prod.fst q
    have q2 : e.1 = nm := congrArg Prod.snd q
    subst q1 q2 h3
    exact ⟨mem_fols.mp hg, h1⟩
  · rintro ⟨h1, h2⟩
    exact ⟨f, mem_fols.mpr h1, List.mem_map.mpr ⟨(nm, n), List.mem_filter.mpr ⟨h2, decide_eq_true rfl⟩, rfl⟩⟩
theorem ents_fol {T : Tr} {f : Nat} {e : Str × Nat} (h : e ∈ ents T f) : isF T f = true := by
  unfold ents at h
  cases q : T[f]? with
  | none => rw [q] at h; cases h
  | some n =>
    rw [q] at h
    cases n with
    | fol o es => exact isF_at q
    | _ => cases h
namespace Good
variable {T : Tr} (G : Good T)
include G
theorem pos : 0 < T.length := by
  obtain ⟨o, es, e⟩ := isF_of G.root
  exact (List.getElem?_eq_some_iff.mp e).1
theorem esOk {f : Nat} (h : isF T f = true) : EsOk T (ents T f) := by
  obtain ⟨o, es, e⟩ := isF_of h
  rw [ents_of e]
  exact G.nd f _ e
/-- the one entry of a folder -/
theorem entry {n : Nat} (h : isF T n = true) (h0 : n ≠ 0) : ∃ f nm, entsTo T n = [(f, nm)] ∧ isF T f = true ∧ (nm, n) ∈ ents T f ∧ parN T n = f := by
  have q := G.one n h h0
  cases e : entsTo T n with
  | nil => rw [e] at q; cases q
  | cons p r =>
    rw [e] at q
    have hr : r = [] := List.length_eq_zero_iff.mp (Nat.succ.inj q)
    subst hr
    have hm : (p.1, p.2) ∈ entsTo T n := by rw [e]; exact List.mem_cons_self
    obtain ⟨h1, h2⟩ := mem_entsTo.mp hm
    refine ⟨p.1, p.2, rfl, h1, h2, ?_⟩
    unfold parN
    rw [if_neg h0, e]
    rfl
theorem par_fol {n : Nat} (h : isF T n = true) : isF T (parN T n) = true := by
  by_cases h0 : n = 0
  · subst h0
    exact G.root
  · obtain ⟨f, nm, _, h1, _, e⟩ := G.entry h h0
    rw [e]
    exact h1
theorem lt {f : Nat} (h : isF T f = true) : f < T.length := by
  obtain ⟨o, es, e⟩ := isF_of h
  exact (List.getElem?_eq_some_iff.mp e).1
end Good
theorem below_root {T : Tr} {top : Nat} (h : Below T top 0) : top = 0 := by
  cases h with
  | refl => rfl
  | up h b => exact absurd rfl h
theorem below_iff {T : Tr} {top n : Nat} (h0 : n ≠ 0) (hn : n ≠ top) : Below T top n ↔ Below T top (parN T n) := by
  constructor
  · intro h
    cases h with
    | refl => exact absurd rfl hn
    | up _ b => exact b
  · exact Below.up h0
end NW
set_option maxHeartbeats 4000000
/-! entries_of, above, is_folder, is_below. -/
namespace NW
open PySem PySem.Spec PyProof.Rows L2 Evl
theorem pr_mapl {α β γ : Type} {g : α → β} {F : β → γ → Prop} : ∀ {xs : List α} {ys : List γ}, Paired F (xs.map g) ys → Paired (fun a y => F (g a) y) xs ys
  | [], _, .nil => .nil
  | _ :: _, _, .cons r t => .cons r (pr_mapl t)
theorem pr_mapl' {α β γ : Type} {g : α → β} {F : β → γ → Prop} : ∀ {xs : List α} {ys : List γ}, Paired (fun a y => F (g a) y) xs ys → Paired F (xs.map g) ys
  | _, _, .nil => .nil
  | _, _, .cons r t => .cons r (pr_mapl' t)
theorem pr_app {α β : Type} {F : α → β → Prop} : ∀ {xs xs' : List α} {ys ys' : List β}, Paired F xs ys → Paired F xs' ys' → Paired F (xs ++ xs') (ys ++ ys')
  | _, _, _, _, .nil, h => h
  | _, _, _, _, .cons r t, h => .cons r (pr_app t h)
theorem pr_take {α β : Type} {F : α → β → Prop} : ∀ {xs : List α} {ys : List β} (n : Nat), Paired F xs ys → Paired F (xs.take n) (ys.take n)
  | _, _, 0, _ => .nil
  | _, _, n + 1, .nil => .nil
  | _, _, n + 1, .cons r t => .cons r (pr_take n t)
/-- what stands for an option of an item -/
def optR {α : Type} (R : α → V → Hp → Prop) : Option α → V → Hp → Prop
  | some e => R e
  | none => fun _ _ => False
theorem kept_pr {α : Type} {es : List α} {f : α → Bool} {f' : Nat → Bool} {R : α → V → Hp → Prop} {H : Hp} {ys : List V} (hf : ∀ k e, es[k]? = some e → f' k = f e)
    (p : Paired (fun k y => optR R es[k]? y H) (kept es.length f') ys) : Paired (fun e y => R e y H) (es.filter f) ys := by
  have q := pr_mapl' (g := fun k : Nat => es[k]?) (F := fun o y => optR R o y H) p
  rw [kept_map (v := some) hf (fun k e h => h)] at q
  exact pr_mapl q
/-- a comprehension over entries that gives new things -/
theorem elp_prs {K : PySem.W.Frag} {σ : L2.St} {H : Hp} {wi : TI} {tt : TT} {te : TE} {vs : List Nat} {i j : Nat} {es : Ents} (h : Wk wi σ H es.length (PrOf es)) (hz : es.length ≤ 40000) (f : Str × Nat → Bool) (R : Str × Nat → V → Hp → Prop)
    (hm : ∀ e v H H', ExI H H' → R e v H → R e v H')
    (hw : ∀ a b, wipe (((wipe σ vs).set i (some a)).set j (some b)) vs = wipe σ vs)
    (ht : ∀ e ∈ es, ∀ H1, Ex H H1 → EvT tt (((wipe σ vs).set i (some (.str e.1))).set j (some (.int (e.2 : Int)))) H1 (f e))
    (he : ∀ e ∈ es, ∀ H1, Ex H H1 → f e = true → EvP te (((wipe σ vs).set i (some (.str e.1))).set j (some (.int (e.2 : Int)))) H1 (R e)) :
    EvLP (tLc wi (gTup K 2 (gCons (gName i) (gCons (gName j) gNil))) tt te vs) σ H fun ys H' => Paired (fun e y => R e y H') (es.filter f) ys := by
  have q := comp_gen (te := te) (tt := tt) (g := gTup K 2 (gCons (gName i) (gCons (gName j) gNil))) (vs := vs) h hz (fun k => match es[k]? with | some e => f e | none => false) (fun k => optR R es[k]?)
    (fun k v H1 H2 e r => by
      cases c : es[k]? with
      | none => rw [c] at r; exact r
      | some x => rw [c] at r; exact hm x v H1 H2 e r)
    (fun k x H1 hi e1 it Q q => by
      obtain ⟨a, e, rfl, hek, hv⟩ := it
      have hm : e ∈ es := List.mem_of_getElem? hek
      refine ⟨a, _, rfl, st_of hv, rfl, .str e.1, [.int (e.2 : Int)], rfl, .int (e.2 : Int), [], rfl, rfl, ?_⟩
      refine q _ H1 (Evl.Ex.refl H1) (hw _ _) ?_ fun hf => ?_
      · simp only [hek]
        exact ht e hm H1 e1
      · simp only [hek] at hf ⊢
        exact he e hm H1 e1 hf)
  intro H1 e1 Q k
  refine q H1 e1 Q fun p ys H2 hp e2 h2 r => k p ys H2 hp e2 h2 ?_
  exact kept_pr (fun k e c => by simp only [c]) r
section
variable {K : PySem.W.Frag} {σ : L2.St} {H H' : Hp} {ta tb te tx : TE} {t u : TT} {x y z v : V} {r : R2} {D : Ends} {tu tw tz : TS}
theorem s_ext {l : Addr} {xs : List V} {Pp : List V → Hp → Prop} (hl : H l = some (.lst xs)) (ha : Ev ta σ H (.ref l)) (h : EvLP te σ H Pp) (hz : ∀ ys H1, Ex H H1 → Pp ys H1 → xs.length + ys.length ≤ 1000000) (k : ∀ ys H1, Ex H H1 → Pp ys H1 → D.nx σ (upd H1 l (.lst (xs ++ ys)))) :
    tDrop (tBM K "list" rExtend ta (tCons te tNil)) D σ H := ha H (Evl.Ex.refl H) _ fun H1 e1 =>
  ⟨Or.inl ⟨rfl, xs, sq_of (e1 l _ hl)⟩, h H1 e1 _ fun p ys H2 hp e2 h2 r => ⟨l, p, xs, ys, rfl, rfl, e2 l _ (e1 l _ hl), h2, Nat.le_trans (hz ys H2 (e1.trans e2) r) (by decide), k ys H2 (e1.trans e2) r⟩⟩
theorem EvLP.imp {P P' : List V → Hp → Prop} (h : EvLP te σ H P) (c : ∀ ys H', P ys H' → P' ys H') : EvLP te σ H P' := fun H1 e Q q => h H1 e Q fun p ys H2 hp e2 h2 r => q p ys H2 hp e2 h2 (c ys H2 r)
theorem EvP.imp {R R' : V → Hp → Prop} (h : EvP te σ H R) (c : ∀ v H', R v H' → R' v H') : EvP te σ H R' := fun H1 e Q q => h H1 e Q fun v H2 e2 r => q v H2 e2 (c v H2 r)
theorem evp_tup {tc : TA} {vs : List V} (h : EvA tc σ H vs) (hl : vs.length ≤ 100000) : EvP (tTup tc) σ H fun v H' => ∃ p, v = .ref p ∧ H' p = some (.tup vs) := fun H1 e Q q =>
  eu_tup h hl H1 e Q fun p H2 _ e2 h2 => q _ H2 e2 ⟨p, rfl, h2⟩
theorem el_meth {sp : Sp} {vs dvs xs : List V} {C a dx : Addr} {fs : List (Str × V)} {m : Str} {E : XK} {tr : TA} (h : Ev ta σ H (.ref a)) (ha : H a = some (.ins C dx fs)) (hl : fs.lookup m = none) (hr : EvA tr σ H vs) (hs : SpL sp (.ref a :: (vs ++ dvs)) H xs) :
    EvL (tMeth C m sp dvs E ta tr) σ H xs := fun H1 e Q q => h H1 e _ fun H2 e2 => ⟨a, dx, fs, rfl, (e.trans e2) _ _ ha, hl, hr H2 (e.trans e2) _ fun H3 e3 => hs H3 ((e.trans e2).trans e3) Q (fun p H4 hp e4 h4 => q p H4 (fresh_back (e2.trans e3) hp) ((e2.trans e3).trans e4) h4) E⟩
theorem el_fols {mg : Str → Option Value} {a t : Addr} {as : List Addr} {T : Tr} {E : XK} (h : Ev ta σ H (.ref a)) (hT : TrA K H a t as T) (hz : T.length ≤ 40000) : EvL (tMeth (He.ga K "Tree") "folder_numbers" (spFols K) [] E ta tNil) σ H (intsV (fols T)) := by
  obtain ⟨dx, ho⟩ := hT.ob
  exact el_meth h ho rfl ea_nil (spFols_l hT hz)
/-- an operation whose left side gives something -/
theorem ev_opP {R : V → Hp → Prop} (ha : EvP ta σ H R) (hb : Ev tb σ H y) (hr : ∀ v H1, R v H1 → Ex H H1 → RV r v y H1 z) : Ev (tOp r ta tb) σ H z := fun H1 e Q q =>
  ha H1 e _ fun v H2 e2 hv => hb H2 (e.trans e2) _ fun H3 e3 => hr v H2 hv (e.trans e2) H3 e3 _ fun H4 e4 => q H4 ((e2.trans e3).trans e4)
theorem ev_opLP {Pp : List V → Hp → Prop} (ha : EvLP ta σ H Pp) (hb : Ev tb σ H y) (hr : ∀ p ys H1, H1 p = some (.lst ys) → Pp ys H1 → Ex H H1 → RV r (.ref p) y H1 z) : Ev (tOp r ta tb) σ H z := fun H1 e Q q =>
  ha H1 e _ fun p ys H2 hp e2 h2 hv => hb H2 (e.trans e2) _ fun H3 e3 => hr p ys H2 h2 hv (e.trans e2) H3 e3 _ fun H4 e4 => q H4 ((e2.trans e3).trans e4)
theorem evp_opLP {Pp : List V → Hp → Prop} {R : V → Hp → Prop} (ha : EvLP ta σ H Pp) (hb : Ev tb σ H y) (hr : ∀ p ys H1, H1 p = some (.lst ys) → Pp ys H1 → Ex H H1 → ∀ H2, Ex H1 H2 → ∃ v, RV r (.ref p) y H2 v ∧ ∀ H3, Ex H2 H3 → R v H3) : EvP (tOp r ta tb) σ H R := fun H1 e Q q =>
  ha H1 e _ fun p ys H2 hp e2 h2 hv => hb H2 (e.trans e2) _ fun H3 e3 => by
    obtain ⟨v, h4, h5⟩ := hr p ys H2 h2 hv (e.trans e2) H3 e3
    exact h4 H3 (Evl.Ex.refl H3) _ fun H4 e4 => q v H4 ((e2.trans e3).trans e4) (h5 H4 e4)
end
/-! ### entries that lead to a node -/
def EntVs (H : Hp) (es : List (Nat × Str)) (ys : List V) : Prop := Paired (fun e y => ∃ a, y = V.ref a ∧ H a = some (.tup [.int (e.1 : Int), .str e.2])) es ys
theorem EntVs.mono {H H' : Hp} {es : List (Nat × Str)} {ys : List V} (e : ExI H H') (h : EntVs H es ys) : EntVs H' es ys := Paired.mon h fun _ _ ⟨a, h1, h2⟩ => ⟨a, h1, e _ _ trivial h2⟩
structure Sized (T : Tr) : Prop where
  len : T.length ≤ 100
  es : ∀ f, (ents T f).length ≤ 1000
theorem Good.sized {T : Tr} (G : Good T) : Sized T := ⟨Nat.le_trans G.len (by decide), fun f => by
  by_cases h : isF T f = true
  · exact Nat.le_trans (G.esOk h).len (by decide)
  · unfold ents
    cases q : T[f]? with
    | none => exact Nat.zero_le _
    | some n =>
      cases n with
      | fol o es => exact absurd (isF_at q) h
      | _ => exact Nat.zero_le _⟩
def entsF (T : Tr) (n f : Nat) : List (Nat × Str) := ((ents T f).filter fun e => decide (e.2 = n)).map fun e => (f, e.1)
theorem entsTo_take (T : Tr) (n : Nat) : entsTo T n = ((fols T).take (fols T).length).flatMap (entsF T n) := by rw [List.take_length]; rfl
theorem entsF_len {T : Tr} (S : Sized T) (n : Nat) : ∀ fs : List Nat, (fs.flatMap (entsF T n)).length ≤ 1000 * fs.length
  | [] => Nat.le_refl _
  | f :: fs => by
    have ih := entsF_len S n fs
    have h1 : (entsF T n f).length ≤ 1000 := by
      unfold entsF
      rw [List.length_map]
      exact Nat.le_trans (List.length_filter_le _ _) (S.es f)
    rw [List.flatMap_cons, List.length_append, List.length_cons]
    omega
theorem fols_len (T : Tr) : (fols T).length ≤ T.length := by
  have h := List.length_filter_le (isF T) (List.range T.length)
  rw [List.length_range] at h
  exact h
def spEnts (K : PySem.W.Frag) : Sp := fun vs H Q _ => ∃ (a t : Addr) (as : List Addr) (T : Tr) (n : Nat), vs = [.ref a, .int (n : Int)] ∧ TrA K H a t as T ∧ n < T.length ∧ Sized T ∧
  ∀ p ys H', H p = none → Ex H H' → H' p = some (.lst ys) → EntVs H' (entsTo T n) ys → Q (.ref p) H'
theorem spEnts_lp {K : PySem.W.Frag} {H : Hp} {a t : Addr} {as : List Addr} {T : Tr} {n : Nat} (h : TrA K H a t as T) (hn : n < T.length) (S : Sized T) : SpLP (spEnts K) [.ref a, .int (n : Int)] H fun ys H' => EntVs H' (entsTo T n) ys :=
  fun H1 e Q q E => ⟨a, t, as, T, n, rfl, h.mono (Ex.i e), hn, S, q⟩
def spAbove (K : PySem.W.Frag) : Sp := fun vs H Q _ => ∃ (a t : Addr) (as : List Addr) (T : Tr) (n : Nat), vs = [.ref a, .int (n : Int)] ∧ TrA K H a t as T ∧ Good T ∧ isF T n = true ∧ ∀ H', Ex H H' → Q (.int (parN T n : Int)) H'
theorem spAbove_v {K : PySem.W.Frag} {H : Hp} {a t : Addr} {as : List Addr} {T : Tr} {n : Nat} (h : TrA K H a t as T) (G : Good T) (hn : isF T n = true) : SpV (spAbove K) [.ref a, .int (n : Int)] H (.int (parN T n : Int)) := fun H1 e Q q E => ⟨a, t, as, T, n, rfl, h.mono (Ex.i e), G, hn, q⟩
def spIsFol (K : PySem.W.Frag) : Sp := fun vs H Q _ => ∃ (a t : Addr) (as : List Addr) (T : Tr) (n : Nat), vs = [.ref a, .int (n : Int)] ∧ TrA K H a t as T ∧ isF T n = true ∧ ∀ H', Ex H H' → Q (.bl true) H'
theorem spIsFol_v {K : PySem.W.Frag} {H : Hp} {a t : Addr} {as : List Addr} {T : Tr} {n : Nat} (h : TrA K H a t as T) (hn : isF T n = true) : SpV (spIsFol K) [.ref a, .int (n : Int)] H (.bl true) := fun H1 e Q q E => ⟨a, t, as, T, n, rfl, h.mono (Ex.i e), hn, q⟩
def spBelow (K : PySem.W.Frag) : Sp := fun vs H Q _ => ∃ (a t : Addr) (as : List Addr) (T : Tr) (n top : Nat), vs = [.ref a, .int (n : Int), .int (top : Int)] ∧ TrA K H a t as T ∧ Good T ∧ isF T n = true ∧ ∀ b H', (b = true ↔ Below T top n) → Ex H H' → Q (.bl b) H'
theorem spBelow_v {K : PySem.W.Frag} {H : Hp} {a t : Addr} {as : List Addr} {T : Tr} {n top : Nat} {b : Bool} (h : TrA K H a t as T) (G : Good T) (hn : isF T n = true) (hb : b = true ↔ Below T top n) : SpV (spBelow K) [.ref a, .int (n : Int), .int (top : Int)] H (.bl b) :=
  fun H1 e Q q E => ⟨a, t, as, T, n, top, rfl, h.mono (Ex.i e), G, hn, fun b' H' h' e' => by
    have : b' = b := Bool.eq_iff_iff.mpr (h'.trans hb.symm)
    subst this
    exact q H' e'⟩
theorem int_eq {a b : Nat} : decide (V.int (a : Int) = V.int (b : Int)) = decide (a = b) := by
  simp only [V.int.injEq, Int.ofNat_inj]
section
variable {P : Program} {w : World} {K : PySem.W.Frag} {mg : Str → Option Value} {base : Heap}
theorem sc_entries_of : FnScope ["tree", "node", "found", "folder", "name", "other"] ["tree", "node"] (defScope s_entries_of) := ⟨rfl, rfl, rfl, by decide +kernel, rfl, by decide +kernel, by decide +kernel⟩
theorem c_entries_of (T : Txt K mg) : C8.Cal P w K mg base 3 "entries_of" (spEnts K) [] := by
  refine cal_of (fd_entries_of T) (g_entries_of T) (fun _ _ _ _ _ _ us hl => match us, hl with | [_, _], _ => rfl) sc_entries_of (fun vs H Q E h => ?_) (fun cdv A outer s H vs Q E hr h => ?_)
  · obtain ⟨_, _, _, _, _, rfl, _⟩ := h; rfl
  · obtain ⟨a, t, as, Tr, n, rfl, hT, hn, S, k⟩ := h
    refine ⟨_, ((pss_cons (ps_expr (C8.pe_c (c_check_node T) hr (by decide) rfl (pa_cons (pv 0) (pa_cons (pv 1) pa_nil))))
      (pss_cons (ps_set (i := 2) sc_entries_of.nd rfl (Or.inl rfl) (pe_lst pa_nil))
      (pss_cons (ps_for PassesOwn.never rfl (pi_list (C8.pe_mt0 (m_Tree_folder_numbers T) hr (by decide) (pv 0))) (pg_name (i := 3) sc_entries_of.nd rfl (Or.inr rfl)) (pss_one (ps_expr (pe_bm PySem.F.plainAttrs_list PySem.F.slot_list_extend PySem.F.type_list_extend mt_extend (pv 2) (pa_cons (pe_lc (own := [("name", 4), ("other", 5)]) rfl sc_entries_of.nd (pi_tup (pe_fld (pe_ix ix_tup (pe_fld (pv 0) rfl) (pv 3) (fun _ _ => rfl)) rfl)) (blkOk_by (own := [("name", 4), ("other", 5)]) (N := ["tree", "node", "found", "folder", "name", "other"]) (sc := defScope s_entries_of) (by decide +kernel)) (fun _ _ _ _ _ => (k_pgt (K := K) (n := 2) rfl rfl (pgs_cons (pg_name (i := 4) sc_entries_of.nd rfl (Or.inl rfl) (.inr rfl)) (pgs_cons (pg_name (i := 5) sc_entries_of.nd rfl (Or.inl rfl) (.inr rfl)) pgs_nil)) rfl rfl)) (fun _ _ _ _ _ => (pts_one (pt_cmpR op_eq (pv 5) (pv 1) (nomark _)))) (fun _ _ _ _ _ => (pe_tup (pa_cons (pv 3) (pa_cons (pv 4) pa_nil))))) pa_nil)))))
      (pss_one (ps_ret (pv 2))))))), ?_⟩
    refine q_drop (ev_call (dvs := []) (ea_cons (ev_var rfl) (ea_cons (ev_var rfl) ea_nil)) (spChk_v hT hn)) fun H1 e1 => ?_
    refine q_asgL (el_lst ea_nil (Nat.zero_le _)) fun l H2 hl e2 h2 => ?_
    have hT2 := hT.mono (Ex.i (e1.trans e2))
    refine q_forNLn (el_fols (mg := mg) (ev_var rfl) hT2 (by have := S.len; omega))
      (fun p i σ' H' => H2 p = none ∧ H' p = some (.lst (intsV (fols Tr))) ∧ Ex H H' ∧ ∃ x ys, σ' = [some (.ref a), some (.int (n : Int)), some (.ref l), x, none, none] ∧ H' l = some (.lst ys) ∧ EntVs H' (((fols Tr).take i).flatMap (entsF Tr n)) ys)
      (fun p H3 hp e3 h3 => ⟨hp, h3, (e1.trans e2).trans e3, none, [], rfl, e3 _ _ h2, .nil⟩) (fun p i σ' H' _ h => sq_of h.2.1) ?_ ?_
    · rintro p i x σ' H' hx ⟨hp, h1, e, x3, ys, rfl, hys, pr⟩
      obtain ⟨f, hf, rfl⟩ : ∃ f, (fols Tr)[i]? = some f ∧ V.int (f : Int) = x := by
        rw [List.getElem?_map] at hx
        cases q : (fols Tr)[i]? with
        | none => rw [q] at hx; cases hx
        | some f => rw [q] at hx; exact ⟨f, rfl, Option.some.inj hx⟩
      obtain ⟨o, es, hfe⟩ := isF_of (mem_fols.mp (List.mem_of_getElem? hf))
      have hT3 := hT.mono (Ex.i e)
      obtain ⟨b, hb, nb⟩ := hT3.nds.at2 hfe
      obtain ⟨dx, te, hF, hE⟩ := id nb
      have hes : es.length ≤ 1000 := by have := S.es f; rw [ents_of hfe] at this; exact this
      have hne : p ≠ l := fun z => by subst z; rw [h2] at hp; cases hp
      refine s_ext (Pp := fun zs H' => EntVs H' (entsF Tr n f) zs) hys (ev_var rfl) ?_ ?_ ?_
      · refine EvLP.imp (elp_prs (wk_ents (ev_ents T (ev_node T (ev_var rfl) hT3 (ev_var rfl) hb) hF) hE) (by omega) (fun e => decide (e.2 = n)) (fun e y H' => ∃ a, y = V.ref a ∧ H' a = some (.tup [.int (f : Int), .str e.1]))
          (fun e v H H' x ⟨a, h1, h2⟩ => ⟨a, h1, x _ _ trivial h2⟩) (fun _ _ => rfl)
          (fun e he H2 e2 => et_is (et_test (ev_op (ev_var rfl) (ev_var rfl) (rv_eq rfl))) int_eq) (fun e he H2 e2 _ => evp_tup (vs := [.int (f : Int), .str e.1]) (ea_cons (ev_var rfl) (ea_cons (ev_var rfl) ea_nil)) (by simp))) fun ys H2 r => ?_
        unfold EntVs entsF
        rw [ents_of hfe]
        exact pr_mapl' r
      · intro zs H3 e3 r
        have l1 := pr.len
        have l2 := Paired.len r
        have l3 := entsF_len S n ((fols Tr).take i)
        have l4 := entsF_len S n [f]
        rw [List.flatMap_cons, List.flatMap_nil, List.append_nil] at l4
        have l5 : ((fols Tr).take i).length ≤ 100 := by
          have := fols_len Tr
          have := S.len
          rw [List.length_take]
          omega
        simp only [List.length_cons, List.length_nil] at l4
        omega
      · intro zs H3 e3 r
        have h3 := e3 _ _ hys
        refine ⟨hp, by rw [upd_ne hne]; exact e3 _ _ h1, (e.trans e3).mut (fresh_back e1 hl), some (.int (f : Int)), ys ++ zs, rfl, upd_same, ?_⟩
        rw [List.take_succ, hf]
        show EntVs _ (List.flatMap _ ((fols Tr).take i ++ [f])) _
        rw [List.flatMap_append, List.flatMap_cons, List.flatMap_nil, List.append_nil]
        exact pr_app (EntVs.mono ((Ex.i e3).trans (ExI.lst h3)) pr) (EntVs.mono (ExI.lst h3) r)
    · rintro p σ' H' ⟨hp, h1, e, x3, ys, rfl, hys, pr⟩
      refine s_ret (ev_var rfl) fun H3 e3 => ?_
      rw [show (intsV (fols Tr)).length = (fols Tr).length from List.length_map ..] at pr
      rw [← entsTo_take] at pr
      exact k l ys H3 (fresh_back e1 hl) (e.trans e3) (e3 _ _ hys) (EntVs.mono (Ex.i e3) pr)
theorem sc_above : FnScope ["tree", "node"] ["tree", "node"] (defScope s_above) := ⟨rfl, rfl, rfl, by decide +kernel, rfl, by decide +kernel, by decide +kernel⟩
theorem c_above (T : Txt K mg) : C8.Cal P w K mg base 4 "above" (spAbove K) [] := by
  refine cal_of (fd_above T) (g_above T) (fun _ _ _ _ _ _ us hl => match us, hl with | [_, _], _ => rfl) sc_above (fun vs H Q E h => ?_) (fun cdv A outer s H vs Q E hr h => ?_)
  · obtain ⟨_, _, _, _, _, rfl, _⟩ := h; rfl
  · obtain ⟨a, t, as, Tr, n, rfl, hT, G, hn, k⟩ := h
    refine ⟨_, (pss_cons (ps_expr (C8.pe_c (c_check_node T) hr (by decide) rfl (pa_cons (pv 0) (pa_cons (pv 1) pa_nil))))
      (pss_cons (ps_if (pt_cmpR op_eq (pv 1) pe_int (nomark _)) (pss_one (ps_ret pe_int)) pss_nil)
      (pss_cons (ps_if (pt_val (pe_callB call_isi (by rfl) (f_isinstance T) b_isinstance (pa_cons (pe_ix ix_tup (pe_fld (pv 0) rfl) (pv 1) (fun _ _ => rfl)) (pa_cons (pe_glob (v := .ref (He.ga K "Gone")) rfl (g_Gone T) rfl) pa_nil)))) (pss_one (ps_ret (pe_fld (pe_ix ix_tup (pe_fld (pv 0) rfl) (pv 1) (fun _ _ => rfl)) rfl))) pss_nil)
      (pss_one (ps_ret (pe_ifExp (pt_val (pe_callB call_isi (by rfl) (f_isinstance T) b_isinstance (pa_cons (pe_ix ix_tup (pe_fld (pv 0) rfl) (pv 1) (fun _ _ => rfl)) (pa_cons (pe_glob (v := .ref (He.ga K "Folder")) rfl (g_Folder T) rfl) pa_nil)))) (pe_ix ix_tup (pe_ix ix_list (C8.pe_c (c_entries_of T) hr (by decide) rfl (pa_cons (pv 0) (pa_cons (pv 1) pa_nil))) pe_int (fun _ _ => rfl)) pe_int (fun _ _ => rfl)) pe_non)))))), ?_⟩
    have hlt := G.lt hn
    obtain ⟨o, es, hfe⟩ := isF_of hn
    obtain ⟨b, hb, nb⟩ := hT.nds.at2 hfe
    refine q_drop (ev_call (dvs := []) (ea_cons (ev_var rfl) (ea_cons (ev_var rfl) ea_nil)) (spChk_v hT hlt)) fun H1 e1 => ?_
    refine q_when (b := decide (n = 0)) (et_is (et_test (ev_op (ev_var rfl) ev_c (rv_eq rfl))) (int_eq (b := 0))) (fun hz H2 e2 => ?_) fun hz H2 e2 => ?_
    · have hz : n = 0 := of_decide_eq_true hz
      subst hz
      exact s_ret ev_c fun H3 e3 => k H3 ((e1.trans e2).trans e3)
    · have hz : n ≠ 0 := of_decide_eq_false hz
      have hT2 := hT.mono (Ex.i (e1.trans e2))
      have nb2 := nb.mono (Ex.i (e1.trans e2))
      refine q_when (b := false) (et_B (ev_isGon T (ev_node T (ev_var rfl) hT2 (ev_var rfl) hb) nb2)) (fun h => by cases h) fun _ H3 e3 => ?_
      have hT3 := hT2.mono (Ex.i e3)
      obtain ⟨f, nm, hE, _, _, hp⟩ := G.entry hn hz
      refine s_ret (v := .int (parN Tr n : Int)) (ev_if (b := true) (et_B (ev_isFol T (ev_node T (ev_var rfl) hT3 (ev_var rfl) hb) (nb2.mono (Ex.i e3)))) (fun _ => ?_) (fun h => by cases h)) fun H4 e4 => k H4 (((e1.trans e2).trans e3).trans e4)
      refine ev_opP (R := fun v H' => ∃ p, v = .ref p ∧ H' p = some (.tup [.int (f : Int), .str nm])) (evp_opLP (elp_call (dvs := []) (ea_cons (ev_var rfl) (ea_cons (ev_var rfl) ea_nil)) (spEnts_lp hT3 hlt G.sized)) ev_c fun p ys H4 h4 r e4 H5 e5 => ?_) ev_c fun v H4 hv e4 => ?_
      · rw [hE] at r
        cases r with
        | cons r1 r2 =>
          obtain ⟨a1, rfl, ha1⟩ := r1
          exact ⟨_, rv_ixL (sq_of (e5 _ _ h4)) at0, fun H6 e6 => ⟨a1, rfl, (e5.trans e6) _ _ ha1⟩⟩
      · obtain ⟨p, rfl, hp1⟩ := hv
        rw [hp]
        exact rv_ixT (st_of hp1) at0
theorem sc_is_folder : FnScope ["tree", "thing"] ["tree", "thing"] (defScope s_is_folder) := ⟨rfl, rfl, rfl, by decide +kernel, rfl, by decide +kernel, by decide +kernel⟩
theorem c_is_folder (T : Txt K mg) : C8.Cal P w K mg base 2 "is_folder" (spIsFol K) [] := by
  refine cal_of (fd_is_folder T) (g_is_folder T) (fun _ _ _ _ _ _ us hl => match us, hl with | [_, _], _ => rfl) sc_is_folder (fun vs H Q E h => ?_) (fun cdv A outer s H vs Q E hr h => ?_)
  · obtain ⟨_, _, _, _, _, rfl, _⟩ := h; rfl
  · obtain ⟨a, t, as, Tr, n, rfl, hT, hn, k⟩ := h
    refine ⟨_, (pss_one (ps_ret (pe_and (C8.pe_c (c_is_number T) hr (by decide) rfl (pa_cons (pv 1) pa_nil)) (pe_and (pe_chain op_le op_lt pe_int (pv 1) (pe_callB call_len_seq (by rfl) (f_len T) b_len (pa_cons (pe_fld (pv 0) rfl) pa_nil))) (pe_one (pe_callB call_isi (by rfl) (f_isinstance T) b_isinstance (pa_cons (pe_ix ix_tup (pe_fld (pv 0) rfl) (pv 1) (fun _ _ => rfl)) (pa_cons (pe_glob (v := .ref (He.ga K "Folder")) rfl (g_Folder T) rfl) pa_nil)))))))), ?_⟩
    obtain ⟨o, es, hfe⟩ := isF_of hn
    obtain ⟨b, hb, nb⟩ := hT.nds.at2 hfe
    have hlt : n < Tr.length := (List.getElem?_eq_some_iff.mp hfe).1
    have h0 : (0 : Int) ≤ (n : Int) := by omega
    have h1 : (n : Int) < (Tr.length : Int) := by omega
    refine s_ret (ev_andV (ev_call (dvs := []) (ea_cons (ev_var rfl) ea_nil) spNum_v) fun _ => ev_andV (ev_chain (z' := .bl true) ev_c (ev_var rfl) rv_I0 (fun _ => ev_lenNodes T (ev_var rfl) hT) (fun _ => (by rw [← decide_eq_true h1]; exact rv_I0)) (fun h => absurd h0 (of_decide_eq_false h)))
      fun _ => ev_isFol T (ev_node T (ev_var rfl) hT (ev_var rfl) hb) nb) fun H1 e1 => k H1 e1
theorem sc_is_below : FnScope ["tree", "folder", "top"] ["tree", "folder", "top"] (defScope s_is_below) := ⟨rfl, rfl, rfl, by decide +kernel, rfl, by decide +kernel, by decide +kernel⟩
theorem c_is_below (T : Txt K mg) : C8.Cal P w K mg base 5 "is_below" (spBelow K) [] := by
  refine cal_of (fd_is_below T) (g_is_below T) (fun _ _ _ _ _ _ us hl => match us, hl with | [_, _, _], _ => rfl) sc_is_below (fun vs H Q E h => ?_) (fun cdv A outer s H vs Q E hr h => ?_)
  · obtain ⟨_, _, _, _, _, _, rfl, _⟩ := h; rfl
  · obtain ⟨a, t, as, Tr, n, top, rfl, hT, G, hn, k⟩ := h
    refine ⟨_, (pss_cons (ps_while PassesOwn.never (PW.pt (pw_and (pt_cmpR op_ne (pv 1) (pv 2) (nomark _)) (pw_and1 (pt_cmpR op_ne (pv 1) pe_int (nomark _))))) (pss_one (ps_set (i := 1) sc_is_below.nd rfl (Or.inl rfl) (C8.pe_c (c_above T) hr (by decide) rfl (pa_cons (pv 0) (pa_cons (pv 1) pa_nil))))))
      (pss_one (ps_ret (pe_cmpR op_eq (pv 1) (pv 2) (nomark _))))), ?_⟩
    obtain ⟨rk, hrk⟩ := G.rk
    refine q_while (fun m σ' H' => ∃ x : Nat, σ' = [some (.ref a), some (.int (x : Int)), some (.int (top : Int))] ∧ isF Tr x = true ∧ m = rk x ∧ (Below Tr top x ↔ Below Tr top n) ∧ Ex H H') (rk n) ⟨n, rfl, hn, rfl, Iff.rfl, Evl.Ex.refl H⟩ ?_
    rintro m σ' H' ⟨x, rfl, hx, rfl, hb, e⟩
    refine ⟨_, et_and (et_test (ev_op (ev_var rfl) (ev_var rfl) (rv_ne rfl))) fun _ => et_test (ev_op (ev_var rfl) ev_c (rv_ne rfl)), fun ht H1 e1 => ?_, fun ht H1 e1 => ?_⟩
    · simp only [Bool.and_eq_true, Bool.not_eq_true', decide_eq_false_iff_not] at ht
      have h1 : x ≠ top := fun z => ht.1 (by rw [z])
      have h2 : x ≠ 0 := fun z => ht.2 (by rw [z]; rfl)
      refine ⟨fun σ2 H2 => σ2 = [some (.ref a), some (.int (parN Tr x : Int)), some (.int (top : Int))] ∧ Ex H H2, fun σ2 H2 ⟨hs, he⟩ => ⟨rk (parN Tr x), ?_, parN Tr x, hs, G.par_fol hx, rfl, (below_iff h2 h1).symm.trans hb, he⟩, ?_⟩
      · obtain ⟨f, nm, _, _, hm, hp⟩ := G.entry hx h2
        rw [hp]
        exact hrk f nm x hm hx
      · exact s_asg (ev_call (dvs := []) (ea_cons (ev_var rfl) (ea_cons (ev_var rfl) ea_nil)) (spAbove_v (hT.mono (Ex.i (e.trans e1))) G hx)) fun H2 e2 => ⟨rfl, (e.trans e1).trans e2⟩
    · refine s_ret (ev_is (ev_op (ev_var rfl) (ev_var rfl) (rv_eq rfl)) (congrArg V.bl int_eq)) fun H2 e2 => k (decide (x = top)) H2 ?_ ((e.trans e1).trans e2)
      rw [← hb, decide_eq_true_iff]
      constructor
      · rintro rfl
        exact .refl
      · intro h
        by_cases h1 : x = top
        · exact h1
        · by_cases h2 : x = 0
          · subst h2
            exact (below_root h).symm
          · exfalso
            simp only [Bool.and_eq_false_iff, Bool.not_eq_false', decide_eq_true_eq, V.int.injEq] at ht
            omega
end
end NW
set_option maxHeartbeats 4000000
/-! Arguments some of which are new things; makers; fields. -/
namespace NW
open PySem PySem.Spec PyProof.Rows L2 Evl
section
variable {K : PySem.W.Frag} {σ : L2.St} {H H' : Hp} {ta tb te tx tv : TE} {t u : TT} {x y z v : V} {r : R2} {D : Ends} {tu tw tz : TS} {tr : TA}
def EvAP (ta : TA) (σ : L2.St) (H : Hp) (P : List V → Hp → Prop) : Prop := ∀ H1, Ex H H1 → ∀ Q : List V → Hp → Prop, (∀ vs H2, Ex H1 H2 → P vs H2 → Q vs H2) → ta σ H1 Q
theorem eap_nil {P : List V → Hp → Prop} (h : ∀ H1, Ex H H1 → P [] H1) : EvAP tNil σ H P := fun H1 e Q q => q [] H1 (Evl.Ex.refl H1) (h H1 e)
theorem eap_cons {R : V → Hp → Prop} {P : List V → Hp → Prop} (h : EvP te σ H R) (k : ∀ v H1, Ex H H1 → R v H1 → EvAP tr σ H1 fun vs H2 => P (v :: vs) H2) : EvAP (tCons te tr) σ H P := fun H1 e Q q =>
  h H1 e _ fun v H2 e2 hv => k v H2 (e.trans e2) hv H2 (Evl.Ex.refl H2) _ fun vs H3 e3 hp => q _ H3 (e2.trans e3) hp
theorem EvA.p {vs : List V} (h : EvA tr σ H vs) : EvAP tr σ H fun ws _ => ws = vs := fun H1 e Q q => h H1 e Q fun H2 e2 => q vs H2 e2 rfl
theorem ev_p (h : Ev te σ H v) : EvP te σ H fun w _ => w = v := Ev.p h fun _ _ => rfl
theorem evl_p {xs : List V} (h : EvL te σ H xs) : EvP te σ H fun v H' => ∃ p, v = .ref p ∧ H p = none ∧ H' p = some (.lst xs) := fun H1 e Q q =>
  h H1 e Q fun p H2 hp e2 h2 => q _ H2 e2 ⟨p, rfl, fresh_back e hp, h2⟩
theorem evu_p {xs : List V} (h : EvU te σ H xs) : EvP te σ H fun v H' => ∃ p, v = .ref p ∧ H p = none ∧ H' p = some (.tup xs) := fun H1 e Q q =>
  h H1 e Q fun p H2 hp e2 h2 => q _ H2 e2 ⟨p, rfl, fresh_back e hp, h2⟩
theorem evlp_p {P : List V → Hp → Prop} (h : EvLP te σ H P) : EvP te σ H fun v H' => ∃ p ys, v = .ref p ∧ H p = none ∧ H' p = some (.lst ys) ∧ P ys H' := fun H1 e Q q =>
  h H1 e Q fun p ys H2 hp e2 h2 r => q _ H2 e2 ⟨p, ys, rfl, fresh_back e hp, h2, r⟩
theorem evp_callA {sp : Sp} {dvs : List V} {E : XK} {P : List V → Hp → Prop} {R : V → Hp → Prop} (h : EvAP tr σ H P) (hs : ∀ vs H1, Ex H H1 → P vs H1 → SpP sp (vs ++ dvs) H1 R) : EvP (tCall sp dvs E tr) σ H R := fun H1 e Q q =>
  h H1 e _ fun vs H2 e2 hp => hs vs H2 (e.trans e2) hp H2 (Evl.Ex.refl H2) Q (fun v H3 e3 r => q v H3 (e2.trans e3) r) E
theorem ev_callA {sp : Sp} {dvs : List V} {E : XK} {P : List V → Hp → Prop} (h : EvAP tr σ H P) (hs : ∀ vs H1, Ex H H1 → P vs H1 → SpV sp (vs ++ dvs) H1 z) : Ev (tCall sp dvs E tr) σ H z := fun H1 e Q q =>
  h H1 e _ fun vs H2 e2 hp => hs vs H2 (e.trans e2) hp H2 (Evl.Ex.refl H2) Q (fun H3 e3 => q H3 (e2.trans e3)) E
/-- what a maker's promise gives -/
def MkP (sp : Sp) (C : Addr) (args : List V) (H : Hp) (R : Addr → Hp → Prop) : Prop :=
  ∀ H1, Ex H H1 → ∀ x dx, H x = none → H1 x = some (.ins C dx []) → ∀ (Q : VK) (E : XK), (∀ H2, Bt x H1 H2 → R x H2 → Q .non H2) → sp (.ref x :: args) H1 Q E
theorem evp_mkA {C : Addr} {sp : Sp} {dvs : List V} {E : XK} {P : List V → Hp → Prop} {R : Addr → Hp → Prop} (h : EvAP tr σ H P) (hs : ∀ vs H1, Ex H H1 → P vs H1 → MkP sp C (vs ++ dvs) H1 R) :
    EvP (tMake C sp dvs E tr) σ H fun v H' => ∃ x, v = .ref x ∧ H x = none ∧ R x H' := fun H1 e Q q =>
  h H1 e _ fun vs H2 e2 hp x dx hx hdx hne => by
    have e3 : Ex H2 (upd (upd H2 dx (.own x)) x (.ins C dx [])) := (Evl.Ex.new hdx).trans (Evl.Ex.new (by rw [upd_ne hne.symm]; exact hx))
    refine hs vs H2 (e.trans e2) hp _ e3 x dx hx upd_same _ E fun H3 b r => ⟨rfl, q _ H3 ?_ ⟨x, rfl, fresh_back (e.trans e2) hx, r⟩⟩
    exact e2.trans (b.ex e3 hx)
/-- a field that is new -/
def PutF (f : Str) (fs : List (Str × V)) (g : V → List (Str × V)) : Prop := ∀ v, putF f v fs = g v
theorem put0 {f : Str} : PutF f [] fun v => [(f, v)] := fun _ => rfl
theorem put1 {f g : Str} {x : V} {r : List (Str × V)} {r' : V → List (Str × V)} (h : (g == f) = false) (p : PutF f r r') : PutF f ((g, x) :: r) fun v => (g, x) :: r' v := fun v => by
  show (if g = f then (g, v) :: r else (g, x) :: putF f v r) = _
  rw [if_neg (by intro z; subst z; simp at h), p v]
theorem q_fld {C dx a : Addr} {fs : List (Str × V)} {f : Str} {R : V → Hp → Prop} {i : Nat} {g : V → List (Str × V)} (hx : H a = some (.ins C dx fs)) (hp : PutF f fs g) (hv : EvP tv σ H R) (ha : σ[i]? = some (some (.ref a))) (c : Cls K C) (n : NoAttr K C f) (hl : Nat.ble (fs.length + 1) 1000 = true)
    (k : ∀ v H1, Ex H H1 → R v H1 → tz D σ (upd H1 a (.ins C dx (g v)))) : tSeq (sFld K (tVar i) tv f) tz D σ H :=
  hv H (Evl.Ex.refl H) _ fun v H1 e1 r => ⟨_, ha, a, C, dx, fs, rfl, e1 _ _ hx, c, n, Nat.le_of_ble_eq_true hl, by rw [hp v]; exact k v H1 e1 r⟩
theorem s_fld {C dx a : Addr} {fs : List (Str × V)} {f : Str} {R : V → Hp → Prop} {i : Nat} {g : V → List (Str × V)} (hx : H a = some (.ins C dx fs)) (hp : PutF f fs g) (hv : EvP tv σ H R) (ha : σ[i]? = some (some (.ref a))) (c : Cls K C) (n : NoAttr K C f) (hl : Nat.ble (fs.length + 1) 1000 = true)
    (k : ∀ v H1, Ex H H1 → R v H1 → D.nx σ (upd H1 a (.ins C dx (g v)))) : sFld K (tVar i) tv f D σ H :=
  hv H (Evl.Ex.refl H) _ fun v H1 e1 r => ⟨_, ha, a, C, dx, fs, rfl, e1 _ _ hx, c, n, Nat.le_of_ble_eq_true hl, by rw [hp v]; exact k v H1 e1 r⟩
theorem s_asgP {i : Nat} {R : V → Hp → Prop} (h : EvP te σ H R) (k : ∀ v H1, Ex H H1 → R v H1 → D.nx (σ.set i (some v)) H1) : tAsg te (gName i) D σ H := h H (Evl.Ex.refl H) _ k
theorem q_par3 {i j l : Nat} {P : List V → Hp → Prop} (h : EvAP tr σ H P) (k : ∀ vs H1, Ex H H1 → P vs H1 → ∃ u v w, vs = [u, v, w] ∧ tz D (((σ.set i (some u)).set j (some v)).set l (some w)) H1) : tSeq (tPar3 i j l tr) tz D σ H := h H (Evl.Ex.refl H) _ k
theorem q_par2 {i j : Nat} {P : List V → Hp → Prop} (h : EvAP tr σ H P) (k : ∀ vs H1, Ex H H1 → P vs H1 → ∃ u v, vs = [u, v] ∧ tz D ((σ.set i (some u)).set j (some v)) H1) : tSeq (tPar i j tr) tz D σ H := h H (Evl.Ex.refl H) _ k
theorem q_dropP {R : V → Hp → Prop} (h : EvP te σ H R) (k : ∀ v H1, Ex H H1 → R v H1 → tz D σ H1) : tSeq (tDrop te) tz D σ H := h H (Evl.Ex.refl H) _ k
theorem s_dropP {R : V → Hp → Prop} (h : EvP te σ H R) (k : ∀ v H1, Ex H H1 → R v H1 → D.nx σ H1) : tDrop te D σ H := h H (Evl.Ex.refl H) _ k
theorem _root_.NW.pr_mapr' {α β γ : Type} {g : β → γ} {F : α → γ → Prop} : ∀ {xs : List α} {ys : List β}, Paired (fun a b => F a (g b)) xs ys → Paired F xs (ys.map g)
  | _, _, .nil => .nil
  | _, _, .cons r t => .cons r (pr_mapr' t)
theorem Bt.trans_ex {l : Addr} {H H1 H2 : Hp} (a : Bt l H H1) (b : Ex H1 H2) : Bt l H H2 := a.trans (Ex.bt b)
end
end NW
set_option maxHeartbeats 4000000
/-! Texts of links: Path, read_path, is_path_text. -/
namespace NW
open PySem PySem.Spec PyProof.Rows L2 Evl
def comps (z : Str) : List Str := Txt.split z "/"
def stepsOf (cs : List Str) : List Str := cs.filter fun c => !(decide (c = "") || decide (c = "."))
def dirC (l : Str) : Bool := decide (l = "") || (decide (l = ".") || decide (l = ".."))
def textB (z : Str) : Bool := !decide (z = "") && decide (z.length ≤ 1000) && z.cps.toList[0]?.isSome && decide ((comps z).length ≤ 100) &&
  ((comps z).all fun c => decide (c.length ≤ 1000) && (decide (c = "") || (decide (c = ".") || (decide (c = "..") || nameOk c)))) &&
  (match (comps z)[(comps z).length - 1]? with
    | none => false
    | some l => dirC l || match (stepsOf (comps z)).getLast? with | none => false | some m => !decide (m = ".."))
structure TextOk (z : Str) : Prop where
  ne : z ≠ ""
  len : z.length ≤ 1000
  fst : ∃ c, z.cps.toList[0]? = some c
  cl : (comps z).length ≤ 100
  ce : ∀ c ∈ comps z, c.length ≤ 1000 ∧ (c = "" ∨ c = "." ∨ c = ".." ∨ NameOk c)
  last : ∃ l, (comps z)[(comps z).length - 1]? = some l ∧ (dirC l = false → ∃ m, (stepsOf (comps z)).getLast? = some m ∧ m ≠ "..")
theorem textOk_of {z : Str} (h : textB z = true) : TextOk z := by
  unfold textB at h
  simp only [Bool.and_eq_true, Bool.not_eq_true', decide_eq_false_iff_not, decide_eq_true_eq, List.all_eq_true, Bool.or_eq_true, nameOk_iff] at h
  obtain ⟨⟨⟨⟨⟨h1, h2⟩, h3⟩, h4⟩, h5⟩, h6⟩ := h
  refine ⟨h1, h2, Option.isSome_iff_exists.mp h3, h4, h5, ?_⟩
  cases q : (comps z)[(comps z).length - 1]? with
  | none => rw [q] at h6; cases h6
  | some l =>
    rw [q] at h6
    refine ⟨l, rfl, fun hd => ?_⟩
    simp only [hd, Bool.or_eq_true, Bool.false_eq_true, false_or] at h6
    cases q2 : (stepsOf (comps z)).getLast? with
    | none => rw [q2] at h6; cases h6
    | some m =>
      rw [q2] at h6
      simp only [Bool.not_eq_true', decide_eq_false_iff_not] at h6
      exact ⟨m, rfl, h6⟩
theorem texts_ok : ∀ z ∈ texts, TextOk z := by
  have h : texts.all textB = true := by decide +kernel
  exact fun z hz => textOk_of (List.all_eq_true.mp h z hz)
/-! ### tuple(xs) -/
abbrev rTupOf (K : PySem.W.Frag) : List V → Hp → VK → Prop := fun xs H Q => ∃ p ys, xs = [.ref p] ∧ ((SqL K H p ys ∧ ∀ l, H l = none → Q (.ref l) (upd H l (.tup ys))) ∨ (SqT K H p ys ∧ Q (.ref p) H))
section
variable {K : PySem.W.Frag} {σ : L2.St} {H H' : Hp} {ta tb te tx tv : TE} {t u : TT} {x y z v : V} {r : R2} {D : Ends} {tu tw tz : TS} {tr : TA}
theorem eu_tupOf {p : Addr} {xs : List V} (ha : Ev ta σ H (.ref p)) (h : SqL K H p xs) : EvU (tCB (rTupOf K) (tCons ta tNil)) σ H xs := fun H1 e Q q =>
  ha H1 e _ fun H2 e2 => ⟨p, xs, rfl, .inl ⟨ex_l (e.trans e2) h, fun l hl => q l _ (fresh_back e2 hl) (e2.trans (Evl.Ex.new hl)) upd_same⟩⟩
theorem eu_tupOfN {xs : List V} (ha : EvL ta σ H xs) : EvU (tCB (rTupOf K) (tCons ta tNil)) σ H xs := fun H1 e Q q =>
  ha H1 e _ fun p H2 hp e2 h2 => ⟨p, xs, rfl, .inl ⟨sq_of h2, fun l hl => q l _ (fresh_back e2 hl) (e2.trans (Evl.Ex.new hl)) upd_same⟩⟩
theorem ev_tupOf {p : Addr} {xs : List V} (ha : Ev ta σ H (.ref p)) (h : SqT K H p xs) : Ev (tCB (rTupOf K) (tCons ta tNil)) σ H (.ref p) := fun H1 e Q q =>
  ha H1 e _ fun H2 e2 => ⟨p, xs, rfl, .inr ⟨ex_t (e.trans e2) h, q H2 e2⟩⟩
theorem atI_last {xs : List V} {x : V} (h : xs[xs.length - 1]? = some x) : atI xs (-1) = some x := by
  have hl : 0 < xs.length := by
    cases xs with
    | nil => cases h
    | cons a r => simp
  have e : ixN xs.length (-1) = some (xs.length - 1) := by
    unfold ixN
    rw [if_neg (by decide), if_pos (by omega)]
    exact congrArg some (by omega)
  unfold atI
  rw [e]
  exact h
end
/-! ### promises -/
def spPath (K : PySem.W.Frag) : Sp := fun vs H Q _ => ∃ (x l dx : Addr) (ss : List Str) (a f : Bool), vs = [.ref x, .ref l, .bl a, .bl f] ∧ H x = some (.ins (He.ga K "Path") dx []) ∧ H l = some (.lst (ss.map V.str)) ∧ ss.length ≤ 1000 ∧ (∀ s ∈ ss, s = ".." ∨ NameOk s) ∧
  (f = false → ∃ m, ss.getLast? = some m ∧ m ≠ "..") ∧ ∀ H', Bt x H H' → Q .non H'
def spText : Sp := fun vs H Q _ => ∃ z : Str, vs = [.str z] ∧ TextOk z ∧ ∀ v H', Ex H H' → Q v H'
def spIsText : Sp := fun vs H Q _ => ∃ z : Str, vs = [.str z] ∧ TextOk z ∧ ∀ H', Ex H H' → Q (.bl true) H'
theorem spIsText_v {H : Hp} {z : Str} (h : TextOk z) : SpV spIsText [.str z] H (.bl true) := fun H1 e Q q E => ⟨z, rfl, h, q⟩
theorem getLast_atI {xs : List V} {x : V} (h : xs.getLast? = some x) : atI xs (-1) = some x := atI_last (by rw [List.getLast?_eq_getElem?] at h; exact h)
section
variable {P : Program} {w : World} {K : PySem.W.Frag} {mg : Str → Option Value} {base : Heap}
theorem sc_Path_init : FnScope ["self", "steps", "absolute", "folder", "step"] ["self", "steps", "absolute", "folder"] (defScope s_Path_init) := ⟨rfl, rfl, rfl, by decide +kernel, rfl, by decide +kernel, by decide +kernel⟩
theorem k_Path (T : Txt K mg) : C8.Mak P w K mg base 2 "Path" (He.ga K "Path") (spPath K) [] := by
  refine mak_of (fd_Path_init T) (mk_Path T) (g_Path T) (fun _ _ _ _ _ _ us hl => match us, hl with | [_, _, _, _], _ => rfl) sc_Path_init (fun vs H Q E h => ?_) (fun cdv A outer s H vs Q E hr h => ?_)
  · obtain ⟨_, _, _, _, _, _, rfl, _⟩ := h; rfl
  · obtain ⟨x, l, dx, ss, a, f, rfl, hx, hl, hz, hs, hf, k⟩ := h
    refine ⟨_, (pss_cons (ps_fld (pv 0) (pe_callTy call_tuple_of (by rfl) (f_tuple T) b_tuple (pa_cons (pv 1) pa_nil)) rfl)
      (pss_cons (ps_fld (pv 0) (pv 2) rfl)
      (pss_cons (ps_fld (pv 0) (pv 3) rfl)
      (pss_cons (ps_if (pt_not (pt_val (pe_callB (cr_all rfl) (by rfl) (f_all T) b_all (pa_cons (pe_lc (own := [("step", 4)]) rfl sc_Path_init.nd (pi_tup (pe_fld (pv 0) rfl)) (blkOk_by (own := [("step", 4)]) (N := ["self", "steps", "absolute", "folder", "step"]) (sc := defScope s_Path_init) (by decide +kernel)) (fun _ _ _ _ _ => (pg_name (i := 4) sc_Path_init.nd rfl (Or.inl rfl) (.inr rfl))) (fun _ _ _ _ _ => pts_nil) (fun _ _ _ _ _ => (pe_or (C8.pe_c (c_is_name T) hr (by decide) rfl (pa_cons (pv 4) pa_nil)) (pe_one (pe_cmpR op_eq (pv 4) (C8.pe_gc rfl (v_UP T)) (nomark _)))))) pa_nil)))) (pss_one ps_never) pss_nil)
      (pss_one (ps_if (PW.pt (pw_and (pt_not (pt_val (pv 3))) (pw_and1 (PW.pt (pw_or (pt_cmpR (op_eqNilT (hu0_of hr)) (pe_fld (pv 0) rfl) (pe_tup pa_nil) (nomark _)) (pw_or1 (pt_cmpR op_eq (pe_ix ix_tup (pe_fld (pv 0) rfl) (pe_un un_neg pe_int) (fun _ _ => rfl)) (C8.pe_gc rfl (v_UP T)) (nomark _)))))))) (pss_one ps_never) pss_nil)))))), ?_⟩
    refine q_fld hx put0 (evu_p (eu_tupOf (ev_var rfl) (sq_of hl))) rfl (cl_Path T) (na_Path_steps T) rfl fun v H1 e1 r1 => ?_
    obtain ⟨t, rfl, ht, h1⟩ := r1
    have b1 := (Ex.bt (l := x) e1).trans (Bt.upd (o := .ins (He.ga K "Path") dx [("steps", .ref t)]))
    refine q_fld upd_same (put1 (by decide +kernel) put0) (ev_p (ev_var rfl)) rfl (cl_Path T) (na_Path_absolute T) rfl fun v H2 e2 r2 => ?_
    subst r2
    have b2 := (b1.trans_ex e2).trans (Bt.upd (o := .ins (He.ga K "Path") dx [("steps", .ref t), ("absolute", .bl a)]))
    refine q_fld upd_same (put1 (by decide +kernel) (put1 (by decide +kernel) put0)) (ev_p (ev_var rfl)) rfl (cl_Path T) (na_Path_folder T) rfl fun v H3 e3 r3 => ?_
    subst r3
    have b3 := (b2.trans_ex e3).trans (Bt.upd (o := .ins (He.ga K "Path") dx [("steps", .ref t), ("absolute", .bl a), ("folder", .bl f)]))
    have hne : t ≠ x := fun z => by subst z; rw [hx] at ht; cases ht
    have h3 : (upd H3 x (.ins (He.ga K "Path") dx [("steps", .ref t), ("absolute", .bl a), ("folder", .bl f)])) t = some (.tup (ss.map V.str)) := by
      rw [upd_ne hne]; refine e3 _ _ ?_; rw [upd_ne hne]; refine e2 _ _ ?_; rw [upd_ne hne]; exact h1
    have hst : ∀ H', Ex (upd H3 x (.ins (He.ga K "Path") dx [("steps", .ref t), ("absolute", .bl a), ("folder", .bl f)])) H' → Ev (tFld K (tVar 0) "steps") [some (.ref x), some (.ref l), some (.bl a), some (.bl f), none] H' (.ref t) := fun H' e' =>
      ev_fld (ev_var rfl) (e' _ _ upd_same) (cl_Path T) (na_Path_steps T) lk0
    refine q_when (b := false) (et_is (et_not (et_B (ev_allC (b := fun _ => true) (comp_val (wk_tup (hst _ (Evl.Ex.refl _)) (st_of h3)) (by rw [List.length_map]; omega) (fun _ => true) (fun _ => .bl true) (fun i y H4 hi e4 it Q' q' => ?_))))) (by rw [all_kept fun _ _ _ => rfl]; rfl)) (fun h => by cases h) fun _ H4 e4 => ?_
    · obtain ⟨c, hc, rfl⟩ : ∃ c, ss[i]? = some c ∧ V.str c = y := by
        have it : (ss.map V.str)[i]? = some y := it
        rw [List.getElem?_map] at it
        cases q : ss[i]? with
        | none => rw [q] at it; cases it
        | some c => rw [q] at it; exact ⟨c, rfl, Option.some.inj it⟩
      refine q' _ H4 (Evl.Ex.refl H4) rfl et_yes fun _ => ?_
      rcases hs c (List.mem_of_getElem? hc) with rfl | nk
      · exact ev_is (ev_orV (ev_call (dvs := []) (ea_cons (ev_var rfl) ea_nil) spName_u) fun _ => ev_op (ev_var rfl) ev_c (rv_eq rfl)) (by simp)
      · exact ev_is (ev_orV (b := true) (ev_call (dvs := []) (ea_cons (ev_var rfl) ea_nil) (spName_v nk)) fun h => by cases h) (by simp)
    · refine s_when (b := false) (et_is (et_and (b := false) (et_not (et_B (ev_var rfl))) fun hff => ?_) (by simp)) (fun h => by cases h) fun _ H5 e5 => k H5 ((b3.trans_ex e4).trans_ex e5)
      have hff : f = false := by simpa using hff
      obtain ⟨m, hm, hmu⟩ := hf hff
      have hne2 : (ss.map V.str).isEmpty = false := by
        cases ss with
        | nil => cases hm
        | cons a r => rfl
      refine et_is (et_or (et_test (ev_eqNilT (hst _ e4) (st_of (e4 _ _ h3)))) fun _ => et_test (ev_op (ev_op (hst _ e4) (ev_un ev_c ru_neg) (rv_ixT (v := .str m) (st_of (e4 _ _ h3)) (getLast_atI (by rw [List.getLast?_map, hm]; rfl)))) ev_c (rv_eq rfl))) ?_
      rw [hne2]
      simpa using hmu
theorem beqS {a b : Str} : (a == b) = decide (b = a) := by
  rw [Bool.eq_iff_iff, beq_iff_eq, decide_eq_true_iff]
  exact eq_comm
theorem stepsOf_ok {z : Str} (h : TextOk z) : ∀ s ∈ stepsOf (comps z), s = ".." ∨ NameOk s := fun s hs => by
  obtain ⟨h1, h2⟩ := List.mem_filter.mp hs
  simp only [Bool.not_eq_true', Bool.or_eq_false_iff, decide_eq_false_iff_not] at h2
  rcases (h.ce s h1).2 with r | r | r | r
  · exact absurd r h2.1
  · exact absurd r h2.2
  · exact .inl r
  · exact .inr r
theorem stepsOf_take {cs : List Str} {i : Nat} {c : Str} (h : cs[i]? = some c) : stepsOf (cs.take (i + 1)) = if c = "" ∨ c = "." then stepsOf (cs.take i) else stepsOf (cs.take i) ++ [c] := by
  unfold stepsOf
  rw [List.take_succ, h]
  show List.filter _ (cs.take i ++ [c]) = _
  rw [List.filter_append]
  by_cases q : c = "" ∨ c = "."
  · rw [if_pos q, List.filter_cons, if_neg (by rcases q with rfl | rfl <;> simp)]
    exact List.append_nil _
  · rw [if_neg q, List.filter_cons, if_pos (by simpa using q)]
    rfl
theorem sc_read_path : FnScope ["text", "components", "steps", "place", "component"] ["text"] (defScope s_read_path) := ⟨rfl, rfl, rfl, by decide +kernel, rfl, by decide +kernel, by decide +kernel⟩
theorem c_read_path (T : Txt K mg) : C8.Cal P w K mg base 4 "read_path" spText [] := by
  refine cal_of (fd_read_path T) (g_read_path T) (fun _ _ _ _ _ _ us hl => match us, hl with | [_], _ => rfl) sc_read_path (fun vs H Q E h => ?_) (fun cdv A outer s H vs Q E hr h => ?_)
  · obtain ⟨_, rfl, _⟩ := h; rfl
  · obtain ⟨z, rfl, tok, k⟩ := h
    refine ⟨_, (pss_cons (ps_if (PW.pt (pw_or (pt_not (pt_val (pe_callB call_isi (by rfl) (f_isinstance T) b_isinstance (pa_cons (pv 0) (pa_cons (pe_bltn (v := .ty "str") (by rfl) (f_str T) b_str rfl) pa_nil))))) (pw_or1 (pt_cmpR op_eq (pv 0) pe_str (nomark _))))) (pss_one ps_never) pss_nil)
      (pss_cons (ps_par3 (i := 1) (j := 2) (l := 3) rfl sc_read_path.nd rfl rfl rfl (by decide) (by decide) (by decide) rfl rfl rfl (pa_cons (pe_split (pv 0) pe_str) (pa_cons (pe_lst pa_nil) (pa_cons pe_int pa_nil))) (by rfl))
      (pss_cons (ps_for PassesOwn.never rfl (pi_list (pv 1)) (pg_name (i := 4) sc_read_path.nd rfl (Or.inl rfl)) (pss_cons (ps_if (pt_cmpR op_notIn_seq (pv 4) (pe_tup (pa_cons pe_str (pa_cons (C8.pe_gc rfl (v_HERE T)) pa_nil))) (by rfl)) (pss_cons (ps_if (PW.pt (pw_and (pt_cmpR op_ne (pv 4) (C8.pe_gc rfl (v_UP T)) (nomark _)) (pw_and1 (pt_not (pt_val (C8.pe_c (c_is_name T) hr (by decide) rfl (pa_cons (pv 4) pa_nil))))))) (pss_one ps_never) pss_nil)
      (pss_one (ps_expr (pe_bm PySem.F.plainAttrs_list PySem.F.slot_list_append PySem.F.type_list_append mt_append (pv 2) (pa_cons (pv 4) pa_nil))))) pss_nil)
      (pss_one (ps_set (i := 3) sc_read_path.nd rfl (Or.inl rfl) (pe_op op_add (pe_op op_add (pv 3) (pe_callB call_len_str (by rfl) (f_len T) b_len (pa_cons (pv 4) pa_nil))) pe_int)))))
      (pss_one (ps_ret (C8.pe_mk (k_Path T) hr (by decide) rfl (pa_cons (pv 2) (pa_cons (pe_cmpR op_eq (pe_ix ix_str (pv 0) pe_int (fun _ _ => rfl)) pe_str (nomark _)) (pa_cons (pe_cmpR op_in_seq (pe_ix ix_list (pv 1) (pe_un un_neg pe_int) (fun _ _ => rfl)) (pe_tup (pa_cons pe_str (pa_cons (C8.pe_gc rfl (v_HERE T)) (pa_cons (C8.pe_gc rfl (v_UP T)) pa_nil)))) (by rfl)) pa_nil))))))))), ?_⟩
    refine q_when (b := false) (et_is (et_or (et_not (et_B (ev_isStr (ev_var rfl)))) fun _ => et_test (ev_op (ev_var rfl) ev_c (rv_eq rfl))) (by simpa using tok.ne)) (fun h => by cases h) fun _ H1 e1 => ?_
    refine q_par3 (P := fun vs H' => ∃ c s, vs = [.ref c, .ref s, .int 0] ∧ H1 c = none ∧ H1 s = none ∧ c ≠ s ∧ H' c = some (.lst ((comps z).map V.str)) ∧ H' s = some (.lst [])) ?_ fun vs H2 e2 hv => ?_
    · refine eap_cons (R := fun v H' => ∃ p, v = .ref p ∧ H1 p = none ∧ H' p = some (.lst ((comps z).map V.str))) (fun H2 e2 Q q => ?_) fun v H2 e2 hv => ?_
      · exact ev_var (v := .str z) rfl H2 e2 _ fun H3 e3 => ⟨⟨z, rfl⟩, ev_c H3 (e2.trans e3) _ fun H4 e4 => ⟨z, _, rfl, rfl, rfl, sz_of (by have := tok.len; omega), fun p hp => q _ _ ((e3.trans e4).trans (Evl.Ex.new hp)) ⟨p, rfl, fresh_back ((e2.trans e3).trans e4) hp, upd_same⟩⟩⟩
      · obtain ⟨c, rfl, hc, h2⟩ := hv
        refine eap_cons (evl_p (el_lst ea_nil (Nat.zero_le _))) fun v H3 e3 hv => ?_
        obtain ⟨s, rfl, hs, h3⟩ := hv
        refine eap_cons (ev_p ev_c) fun v H4 e4 hv => ?_
        subst hv
        exact eap_nil fun H5 e5 => ⟨c, s, rfl, hc, fresh_back e2 hs, (fun zz => by rw [zz] at h2; rw [h2] at hs; cases hs), (e4.trans e5) _ _ (e3 _ _ h2), (e4.trans e5) _ _ h3⟩
    · obtain ⟨c, s, rfl, hc, hs, hcs, h2, h3⟩ := hv
      refine ⟨_, _, _, rfl, ?_⟩
      refine q_forLn (a := c) (ev_var rfl) (sq_of h2) (fun i σ' H' => Ex H1 H' ∧ H' c = some (.lst ((comps z).map V.str)) ∧ H' s = some (.lst ((stepsOf ((comps z).take i)).map V.str)) ∧ ∃ (pl : Int) (x4 : Option V), σ' = [some (.str z), some (.ref c), some (.ref s), some (.int pl), x4])
        (fun H3 e3 => ⟨e2.trans e3, e3 _ _ h2, e3 _ _ h3, 0, none, rfl⟩) (fun i σ' H' _ h => sq_of h.2.1) ?_ ?_
      · rintro i x σ' H' hx ⟨e, hc', hs', pl, x4, rfl⟩
        obtain ⟨cc, hcc, rfl⟩ : ∃ c, (comps z)[i]? = some c ∧ V.str c = x := by
          rw [List.getElem?_map] at hx
          cases q : (comps z)[i]? with
          | none => rw [q] at hx; cases hx
          | some c => rw [q] at hx; exact ⟨c, rfl, Option.some.inj hx⟩
        obtain ⟨cl, co⟩ := tok.ce cc (List.mem_of_getElem? hcc)
        have hst := stepsOf_take hcc
        have hlen : (stepsOf ((comps z).take i)).length ≤ 100 := by
          have h1 := List.length_filter_le (fun c : Str => !(decide (c = "") || decide (c = "."))) ((comps z).take i)
          have h2 := tok.cl
          rw [List.length_take] at h1
          show (List.filter _ _).length ≤ 100
          omega
        have fin : ∀ (σ1 : L2.St) H2, Ex H1 H2 → H2 c = some (.lst ((comps z).map V.str)) → H2 s = some (.lst ((stepsOf ((comps z).take (i + 1))).map V.str)) → σ1 = [some (.str z), some (.ref c), some (.ref s), some (.int pl), some (.str cc)] →
            ∀ D : Ends, (∀ H3, Ex H1 H3 → H3 c = some (.lst ((comps z).map V.str)) → H3 s = some (.lst ((stepsOf ((comps z).take (i + 1))).map V.str)) → D.nx [some (.str z), some (.ref c), some (.ref s), some (.int (pl + (cc.length : Int) + 1)), some (.str cc)] H3) →
            tAsg (tOp (rI0 fun i j => .int (i + j)) (tOp (rI0 fun i j => .int (i + j)) (tVar 3) (tCB (fun xs H Q => ∃ z, xs = [.str z] ∧ z.length ≤ sizeLine ∧ Q (.int z.length) H) (tCons (tVar 4) tNil))) (tC (.int 1))) (gName 3) D σ1 H2 := fun σ1 H2 a1 a2 a3 a4 D kk => by
          subst a4
          exact s_asg (ev_op (ev_op (ev_var rfl) (ev_lenS (ev_var rfl) (by omega)) rv_I0) ev_c rv_I0) fun H3 e3 => kk H3 (a1.trans e3) (e3 _ _ a2) (e3 _ _ a3)
        refine q_when (b := !(decide (cc = "") || decide (cc = "."))) (et_is (et_test (ev_niU (ev_var rfl) (eu_tup (ea_cons ev_c (ea_cons ev_c ea_nil)) (by decide)) rfl rfl)) ?_) (fun hb H2 e2 => ?_) fun hb H2 e2 => ?_
        · simp only [inV, List.any_cons, List.any_nil, eqV, Bool.or_false]
          rw [beqS, beqS]
        · have hb' : ¬ (cc = "" ∨ cc = ".") := by simpa only [Bool.not_eq_true', Bool.or_eq_false_iff, decide_eq_false_iff_not, not_or] using hb
          refine q_when (b := false) (et_is (et_and (et_test (ev_op (ev_var rfl) ev_c (rv_ne rfl))) (b := false) fun hu => et_is (et_not (et_B (ev_call (dvs := []) (ea_cons (ev_var rfl) ea_nil) (spName_v ?_)))) rfl) (by simp)) (fun h => by cases h) fun _ H3 e3 => ?_
          · have hu' : cc ≠ ".." := by simpa using hu
            rcases co with r | r | r | r
            · exact absurd (.inl r) hb'
            · exact absurd (.inr r) hb'
            · exact absurd r hu'
            · exact r
          · refine s_app ((e2.trans e3) _ _ hs') (ev_var rfl) (ev_var rfl) (by rw [List.length_map]; omega) fun H4 e4 => ?_
            refine fin _ _ ?_ ?_ ?_ rfl _ fun H5 a1 a2 a3 => ⟨a1, a2, a3, _, _, rfl⟩
            · exact Evl.Ex.mut (((e.trans e2).trans e3).trans e4) hs
            · rw [upd_ne hcs]; exact ((e2.trans e3).trans e4) _ _ hc'
            · rw [upd_same, hst, if_neg hb', List.map_append]; rfl
        · have hb' : cc = "" ∨ cc = "." := by simpa only [Bool.not_eq_false', Bool.or_eq_true, decide_eq_true_eq] using hb
          refine fin _ _ (e.trans e2) (e2 _ _ hc') ?_ rfl _ fun H5 a1 a2 a3 => ⟨a1, a2, a3, _, _, rfl⟩
          rw [hst, if_pos hb']
          exact e2 _ _ hs'
      · rintro σ' H' ⟨e, hc', hs', pl, x4, rfl⟩
        rw [show ((comps z).map V.str).length = (comps z).length from List.length_map .., List.take_length] at hs'
        obtain ⟨l, hl, hlast⟩ := tok.last
        obtain ⟨ch, hch⟩ := tok.fst
        have hml : atI ((comps z).map V.str) (-1) = some (.str l) := atI_last (by rw [List.length_map, List.getElem?_map, hl]; rfl)
        have ea : EvA (tCons (tVar 2) (tCons (tOp rEq (tOp rIxS (tVar 0) (tC (.int 0))) (tC (.str "/"))) (tCons (tOp (rIn K false) (tOp (rIxL K) (tVar 1) (tUn (rU fun i => .int (-i)) (tC (.int 1)))) (tTup (tCons (tC (.str "")) (tCons (tC (.str ".")) (tCons (tC (.str "..")) tNil))))) tNil)))
            [some (.str z), some (.ref c), some (.ref s), some (.int pl), x4] H' [.ref s, .bl (decide (V.str ⟨#[ch]⟩ = .str "/")), .bl (inV (.str l) [.str "", .str ".", .str ".."])] :=
          ea_cons (ev_var rfl) (ea_cons (ev_op (ev_op (ev_var rfl) ev_c (rv_ixS (by have := tok.len; omega) (atI_nat (j := 0) hch))) ev_c (rv_eq rfl)) (ea_cons (ev_inU (ev_op (ev_var rfl) (ev_un ev_c ru_neg) (rv_ixL (sq_of hc') hml)) (eu_tup (ea_cons ev_c (ea_cons ev_c (ea_cons ev_c ea_nil))) (by decide)) rfl rfl) ea_nil))
        refine s_retP (evp_mkA (dvs := []) (R := fun _ _ => True) (EvA.p ea) fun vs H1 e1 hvs => ?_) fun v H3 e3 _ => k v H3 ((e1.trans e).trans e3)
        subst hvs
        refine fun H2 e2' x dx hx0 hx Q E k' => ⟨x, s, dx, stepsOf (comps z), _, _, rfl, hx, (e1.trans e2') _ _ hs', ?_, stepsOf_ok tok, fun hf => ?_, fun H3 b => k' H3 b trivial⟩
        · have h1 := List.length_filter_le (fun c : Str => !(decide (c = "") || decide (c = "."))) (comps z)
          have h2 := tok.cl
          show (List.filter _ _).length ≤ 1000
          omega
        · refine hlast ?_
          rw [← hf]
          unfold dirC
          simp only [inV, List.any_cons, List.any_nil, eqV, Bool.or_false]
          rw [beqS, beqS, beqS]
theorem sc_is_path_text : FnScope ["thing"] ["thing"] (defScope s_is_path_text) := ⟨rfl, rfl, rfl, by decide +kernel, rfl, by decide +kernel, by decide +kernel⟩
theorem c_is_path_text (T : Txt K mg) : C8.Cal P w K mg base 5 "is_path_text" spIsText [] := by
  refine cal_of (fd_is_path_text T) (g_is_path_text T) (fun _ _ _ _ _ _ us hl => match us, hl with | [_], _ => rfl) sc_is_path_text (fun vs H Q E h => ?_) (fun cdv A outer s H vs Q E hr h => ?_)
  · obtain ⟨_, rfl, _⟩ := h; rfl
  · obtain ⟨z, rfl, tok, k⟩ := h
    refine ⟨_, (pss_cons (ps_try_thru0 (pss_one (ps_expr (C8.pe_c (c_read_path T) hr (by decide) rfl (pa_cons (pv 0) pa_nil)))))
      (pss_one (ps_ret pe_bl))), ?_⟩
    refine q_dropP (R := fun _ _ => True) (evp_call (dvs := []) (vs := [.str z]) (ea_cons (ev_var rfl) ea_nil) fun H1 e1 Q q E => ⟨z, rfl, tok, fun v H2 e2 => q v H2 e2 trivial⟩) fun v H1 e1 _ => ?_
    exact s_ret ev_c fun H2 e2 => k H2 (e1.trans e2)
end
end NW
set_option maxHeartbeats 4000000
/-! Entries by their names. -/
namespace NW
open PySem
theorem nlt_irrefl (a : Str) : ¬ nlt a a := List.lt_irrefl _
theorem nlt_trans {a b c : Str} (h : nlt a b) (k : nlt b c) : nlt a c := List.lt_trans h k
theorem nlt_asymm {a b : Str} (h : nlt a b) (k : nlt b a) : False := nlt_irrefl _ (nlt_trans h k)
theorem str_ext {a b : Str} (h : a.cps.toList = b.cps.toList) : a = b := by
  cases a; cases b
  simp only [Str.mk.injEq]
  exact Array.toList_inj.mp h
theorem nlt_tri (a b : Str) : nlt a b ∨ a = b ∨ nlt b a := by
  by_cases h : nlt a b
  · exact .inl h
  · by_cases k : nlt b a
    · exact .inr (.inr k)
    · refine .inr (.inl (str_ext ?_))
      exact List.le_antisymm (List.not_lt.mp k) (List.not_lt.mp h)
instance (a b : Str) : Decidable (nlt a b) := inferInstanceAs (Decidable (a.cps.toList < b.cps.toList))
theorem srt_unique : ∀ {xs ys : Ents}, xs.Perm ys → SrtE xs → SrtE ys → xs = ys
  | [], ys, p, _, _ => p.nil_eq
  | x :: xs, [], p, _, _ => p.symm.nil_eq.symm
  | x :: xs, y :: ys, p, hx, hy => by
    have e : x = y := by
      rcases List.mem_cons.mp (p.subset List.mem_cons_self : x ∈ y :: ys) with h | h
      · exact h
      · rcases List.mem_cons.mp (p.symm.subset List.mem_cons_self : y ∈ x :: xs) with k | k
        · exact k.symm
        · exact (nlt_asymm ((List.pairwise_cons.mp hx).1 y k) ((List.pairwise_cons.mp hy).1 x h)).elim
    subst e
    rw [srt_unique p.cons_inv (List.pairwise_cons.mp hx).2 (List.pairwise_cons.mp hy).2]
def insE (e : Str × Nat) : Ents → Ents
  | [] => [e]
  | x :: r => if nlt e.1 x.1 then e :: x :: r else x :: insE e r
def sortE : Ents → Ents
  | [] => []
  | x :: r => insE x (sortE r)
theorem insE_perm (e : Str × Nat) : ∀ es : Ents, (insE e es).Perm (e :: es)
  | [] => .refl _
  | x :: r => by
    unfold insE
    split
    · exact .refl _
    · exact ((insE_perm e r).cons x).trans (List.Perm.swap e x r)
theorem sortE_perm : ∀ es : Ents, (sortE es).Perm es
  | [] => .refl _
  | x :: r => (insE_perm x _).trans ((sortE_perm r).cons x)
theorem insE_srt {e : Str × Nat} : ∀ {es : Ents}, SrtE es → (∀ x ∈ es, x.1 ≠ e.1) → SrtE (insE e es)
  | [], _, _ => List.pairwise_singleton ..
  | x :: r, h, hn => by
    unfold insE
    obtain ⟨h1, h2⟩ := List.pairwise_cons.mp h
    split
    · rename_i q
      refine List.pairwise_cons.mpr ⟨fun y hy => ?_, h⟩
      rcases List.mem_cons.mp hy with rfl | hy
      · exact q
      · exact nlt_trans q (h1 y hy)
    · rename_i q
      refine List.pairwise_cons.mpr ⟨fun y hy => ?_, insE_srt h2 fun y hy => hn y (List.mem_cons_of_mem _ hy)⟩
      rcases List.mem_cons.mp ((insE_perm e r).subset hy) with rfl | hy
      · rcases nlt_tri x.1 y.1 with z | z | z
        · exact z
        · exact absurd z (hn x List.mem_cons_self)
        · exact absurd z q
      · exact h1 y hy
def NamesOnce (es : Ents) : Prop := (es.map (·.1)).Nodup
theorem sortE_srt : ∀ {es : Ents}, NamesOnce es → SrtE (sortE es)
  | [], _ => List.Pairwise.nil
  | x :: r, h => by
    unfold NamesOnce at h
    rw [List.map_cons, List.nodup_cons] at h
    refine insE_srt (sortE_srt h.2) fun y hy z => h.1 ?_
    rw [← z]
    exact List.mem_map_of_mem ((sortE_perm r).subset hy)
theorem SrtE.once {es : Ents} (h : SrtE es) : NamesOnce es := by
  unfold NamesOnce List.Nodup
  rw [List.pairwise_map]
  exact h.imp fun q z => by rw [z] at q; exact nlt_irrefl _ q
theorem sortE_eq {es es' : Ents} (p : es'.Perm es) (h : SrtE es') : es' = sortE es :=
  srt_unique (p.trans (sortE_perm es).symm) h (sortE_srt ((p.map (fun e : Str × Nat => e.1)).nodup_iff.mp h.once))
theorem once_filter {es : Ents} (h : NamesOnce es) {e : Str × Nat} (he : e ∈ es) : (es.filter fun x => decide (x.1 = e.1)) = [e] := by
  induction es with
  | nil => cases he
  | cons x r ih =>
    unfold NamesOnce at h
    rw [List.map_cons, List.nodup_cons] at h
    rcases List.mem_cons.mp he with rfl | he
    · rw [List.filter_cons, if_pos (decide_eq_true rfl)]
      congr 1
      refine List.filter_eq_nil_iff.mpr fun y hy z => h.1 ?_
      rw [← of_decide_eq_true z]
      exact List.mem_map_of_mem hy
    · rw [List.filter_cons, if_neg, ih h.2 he]
      intro z
      have z : x.1 = e.1 := of_decide_eq_true z
      exact h.1 (by rw [z]; exact List.mem_map_of_mem he)
open PyProof.Rows PySem.Spec in
theorem strict_of_sorted {ys : List Str} (h : sortedS ys = true) (nd : ys.Nodup) : ys.Pairwise nlt := by
  have rise : ∀ (p : Str) (l : List Str), risingS p l = true → (p :: l).Pairwise fun a b => ¬ nlt b a := by
    intro p l
    induction l generalizing p with
    | nil => intro _; exact List.pairwise_singleton ..
    | cons x r ih =>
      intro h
      have h' : (!ltCps x.cps.toList p.cps.toList && risingS x r) = true := h
      simp only [Bool.and_eq_true, Bool.not_eq_true'] at h'
      have q := ih x h'.2
      have hxp : ¬ nlt x p := by
        have := h'.1
        rw [ltCps_eq] at this
        exact of_decide_eq_false this
      refine List.pairwise_cons.mpr ⟨fun y hy => ?_, q⟩
      rcases List.mem_cons.mp hy with rfl | hy
      · exact hxp
      · intro hyp
        have hyx := (List.pairwise_cons.mp q).1 y hy
        rcases nlt_tri x p with z | z | z
        · exact hxp z
        · exact hyx (by rw [z]; exact hyp)
        · exact hyx (nlt_trans hyp z)
  have pw : ys.Pairwise fun a b => ¬ nlt b a := by
    cases ys with
    | nil => exact .nil
    | cons x r => exact rise x r h
  refine (pw.and nd).imp fun {a b} ⟨h1, h2⟩ => ?_
  rcases nlt_tri a b with z | z | z
  · exact z
  · exact absurd z h2
  · exact absurd z h1
end NW
set_option maxHeartbeats 4000000
/-! found_nodes, by_names, the four kinds of nodes. -/
namespace NW
open PySem PySem.Spec PyProof.Rows L2 Evl
/-! ### a list or a tuple, as told ahead -/
def iOr (w1 w2 : TI) : TI := fun σ H R => w1 σ H R ∨ w2 σ H R
theorem pi_or {X : Cx} {tg it : Expr} {w1 w2 : TI} (h1 : PI X tg it w1) (h2 : PI X tg it w2) : PI X tg it (iOr w1 w2) :=
  ⟨fun pins s σ H R I h => h.elim (h1.run pins s σ H R I) (h2.run pins s σ H R I)⟩
theorem wk_inl {σ : L2.St} {H : Hp} {w1 w2 : TI} {n : Nat} {It' : Nat → V → Hp → Prop} (h : Wk w1 σ H n It') : Wk (iOr w1 w2) σ H n It' := fun H1 e R r => .inl (h H1 e R r)
theorem wk_inr {σ : L2.St} {H : Hp} {w1 w2 : TI} {n : Nat} {It' : Nat → V → Hp → Prop} (h : Wk w2 σ H n It') : Wk (iOr w1 w2) σ H n It' := fun H1 e R r => .inr (h H1 e R r)
section
variable {K : PySem.W.Frag} {σ : L2.St} {H H' : Hp} {wi : TI} {tt : TT} {ta tb te : TE} {tr : TA} {vs : List Nat} {i j : Nat} {es : Ents} {z : V}
theorem el_one {xs : List V} (h : Wk wi σ H xs.length (ItOf xs)) (hz : xs.length ≤ 40000) (f : V → Bool) (v : V → V)
    (hw : ∀ a, wipe ((wipe σ vs).set i (some a)) vs = wipe σ vs)
    (ht : ∀ x ∈ xs, ∀ H1, Ex H H1 → EvT tt ((wipe σ vs).set i (some x)) H1 (f x))
    (he : ∀ x ∈ xs, ∀ H1, Ex H H1 → f x = true → Ev te ((wipe σ vs).set i (some x)) H1 (v x)) :
    EvL (tLc wi (gName i) tt te vs) σ H ((xs.filter f).map v) := by
  have hk := kept_map (es := xs) (f := f) (v := v) (f' := fun k => match xs[k]? with | some e => f e | none => false) (v' := fun k => match xs[k]? with | some e => v e | none => .non)
    (fun k e q => by simp only [q]) (fun k e q => by simp only [q])
  rw [← hk]
  refine comp_val h hz _ _ fun k x H1 hi e1 it Q q => ?_
  have it : xs[k]? = some x := it
  have hm : x ∈ xs := List.mem_of_getElem? it
  refine q _ H1 (Evl.Ex.refl H1) (hw _) ?_ fun hf => ?_
  · simp only [it]
    exact ht x hm H1 e1
  · simp only [it] at hf ⊢
    exact he x hm H1 e1 hf
theorem el_prs1 (h : Wk wi σ H es.length (PrOf es)) (hz : es.length ≤ 40000) (f : Str × Nat → Bool) (v : Str × Nat → V)
    (hw : ∀ a, wipe ((wipe σ vs).set i (some a)) vs = wipe σ vs)
    (ht : ∀ e ∈ es, ∀ a H1, Ex H H1 → entV a H1 e → EvT tt ((wipe σ vs).set i (some (.ref a))) H1 (f e))
    (he : ∀ e ∈ es, ∀ a H1, Ex H H1 → entV a H1 e → f e = true → Ev te ((wipe σ vs).set i (some (.ref a))) H1 (v e)) :
    EvL (tLc wi (gName i) tt te vs) σ H ((es.filter f).map v) := by
  have hk := kept_map (es := es) (f := f) (v := v) (f' := fun k => match es[k]? with | some e => f e | none => false) (v' := fun k => match es[k]? with | some e => v e | none => .non)
    (fun k e q => by simp only [q]) (fun k e q => by simp only [q])
  rw [← hk]
  refine comp_val h hz _ _ fun k x H1 hi e1 it Q q => ?_
  obtain ⟨a, e, rfl, hek, hv⟩ := it
  have hm : e ∈ es := List.mem_of_getElem? hek
  refine q _ H1 (Evl.Ex.refl H1) (hw _) ?_ fun hf => ?_
  · simp only [hek]
    exact ht e hm a H1 e1 hv
  · simp only [hek] at hf ⊢
    exact he e hm a H1 e1 hv hf
theorem ev_bmL {r : V → List V → Hp → VK → Prop} {l : Addr} {xs vs : List V} (hl : SqL K H l xs) (ha : Ev ta σ H (.ref l)) (h : EvA tr σ H vs) (hr : ∀ H1, Ex H H1 → ∀ Q : VK, (∀ H2, Ex H1 H2 → Q z H2) → r (.ref l) vs H1 Q) : Ev (tBM K "list" r ta tr) σ H z := fun H1 e Q q =>
  ha H1 e _ fun H2 e2 => ⟨Or.inl ⟨rfl, xs, ex_l (e.trans e2) hl⟩, h H2 (e.trans e2) _ fun H3 e3 => hr H3 ((e.trans e2).trans e3) Q fun H4 e4 => q H4 ((e2.trans e3).trans e4)⟩
theorem evp_cbL {r : List V → Hp → VK → Prop} {xs : List V} {R : V → Hp → Prop} (h : EvL te σ H xs) (k : ∀ p H1, Ex H H1 → H1 p = some (.lst xs) → ∀ Q : VK, (∀ v H2, Ex H1 H2 → R v H2 → Q v H2) → r [.ref p] H1 Q) : EvP (tCB r (tCons te tNil)) σ H R := fun H1 e Q q =>
  h H1 e _ fun p H2 hp e2 h2 => k p H2 (e.trans e2) h2 Q fun v H3 e3 r => q v H3 (e2.trans e3) r
theorem rv_sub {a b : Int} : RV (rI0 fun i j => .int (i - j)) (.int a) (.int b) H (.int (a - b)) := rv_I0
end
theorem cut_to {xs : List V} {k : Nat} : cutV xs none (some (k : Int)) = xs.take k := by
  unfold cutV
  rw [HT.sIx_none, HT.sIx_nat, List.drop_zero, Nat.sub_zero, ← List.take_take, List.take_length]
/-! ### entries, a list or a tuple of pairs -/
def EntsLT (K : PySem.W.Frag) (H : Hp) (l : Addr) (es : Ents) : Prop := ∃ as : List Addr, (H l = some (.lst (as.map V.ref)) ∨ H l = some (.tup (as.map V.ref))) ∧ Paired (fun a e => entV a H e) as es
theorem EntsLT.mono {K : PySem.W.Frag} {H H' : Hp} {l : Addr} {es : Ents} (e : Ex H H') (h : EntsLT K H l es) : EntsLT K H' l es := by
  obtain ⟨as, h1, h2⟩ := h
  exact ⟨as, h1.imp (e _ _) (e _ _), h2.mon fun _ _ q => e _ _ q⟩
theorem EntsAt.monoT {H H' : Hp} {t : Addr} {es : Ents} (e : ∀ b xs, H b = some (.tup xs) → H' b = some (.tup xs)) (h : EntsAt H t es) : EntsAt H' t es := by
  obtain ⟨as, h1, h2⟩ := h
  exact ⟨as, e _ _ h1, h2.mon fun _ _ q => e _ _ q⟩
theorem updT {H : Hp} {x : Addr} {o o' : HO} (h : H x = some o) (n : ∀ xs, o ≠ .tup xs) : ∀ b xs, H b = some (.tup xs) → upd H x o' b = some (.tup xs) := fun b xs q => by
  have : b ≠ x := fun z => by subst z; rw [h] at q; exact n xs (Option.some.inj q)
  rw [upd_ne this]
  exact q
theorem pr_refs {α : Type} {F : Addr → α → Prop} : ∀ {ms : List α} {zs : List V}, Paired (fun m y => ∃ a, y = V.ref a ∧ F a m) ms zs → ∃ as : List Addr, zs = as.map V.ref ∧ Paired F as ms
  | _, _, .nil => ⟨[], rfl, .nil⟩
  | _, _, .cons r t => by
    obtain ⟨a, rfl, h⟩ := r
    obtain ⟨as, rfl, q⟩ := pr_refs t
    exact ⟨a :: as, rfl, .cons h q⟩
def nodeOf (es : Ents) (m : Str) : Nat := (lookE es m).getD 0
theorem nodeOf_mem {es : Ents} (h : NamesOnce es) {e : Str × Nat} (he : e ∈ es) : nodeOf es e.1 = e.2 := by
  unfold nodeOf lookE
  rw [once_filter h he]
  rfl
theorem byNames {es : Ents} (h : NamesOnce es) {ys : List Str} (p : ys.Perm (es.map (·.1))) (hs : ys.Pairwise nlt) : ys.map (fun m => (m, nodeOf es m)) = sortE es := by
  refine sortE_eq ?_ ?_
  · refine (p.map _).trans ?_
    rw [List.map_map]
    have e : es.map ((fun m => (m, nodeOf es m)) ∘ fun x => x.1) = es.map id := List.map_congr_left fun e he => by
      show (e.1, nodeOf es e.1) = e
      rw [nodeOf_mem h he]
    rw [e, List.map_id]
  · unfold SrtE
    rw [List.pairwise_map]
    exact hs
/-! ### promises -/
def spFN (K : PySem.W.Frag) : Sp := fun vs H Q _ => ∃ (l p : Addr) (as : List Addr) (es : Ents) (ys : List Str) (m : Str) (n : Nat), vs = [.ref l, .ref p] ∧ H l = some (.lst (as.map V.ref)) ∧ Paired (fun a e => entV a H e) as es ∧ es.length ≤ 40000 ∧
  H p = some (.lst (ys.map V.str)) ∧ ys.getLast? = some m ∧ ys.count m = 1 ∧ (es.filter fun e => decide (e.1 = m)) = [(m, n)] ∧ ∀ H', Ex H H' → Q (.int (n : Int)) H'
def spByNames (K : PySem.W.Frag) : Sp := fun vs H Q _ => ∃ (l : Addr) (es : Ents), vs = [.ref l] ∧ EntsLT K H l es ∧ NamesOnce es ∧ es.length < 64 ∧ ∀ p H', H p = none → Ex H H' → EntsAt H' p (sortE es) → Q (.ref p) H'
def spFolder (K : PySem.W.Frag) : Sp := fun vs H Q _ => ∃ (x dx l : Addr) (o : Nat) (es : Ents), vs = [.ref x, .int (o : Int), .ref l] ∧ H x = some (.ins (He.ga K "Folder") dx []) ∧ EntsLT K H l es ∧ NamesOnce es ∧ es.length < 64 ∧ ∀ H', Bt x H H' → NdAt K H' x (.fol o (sortE es)) → Q .non H'
def spFile (K : PySem.W.Frag) : Sp := fun vs H Q _ => ∃ (x dx : Addr) (o : Nat), vs = [.ref x, .int (o : Int)] ∧ H x = some (.ins (He.ga K "File") dx []) ∧ ∀ H', Bt x H H' → NdAt K H' x (.fil o) → Q .non H'
def spLink (K : PySem.W.Frag) : Sp := fun vs H Q _ => ∃ (x dx : Addr) (o : Nat) (z : Str), vs = [.ref x, .int (o : Int), .str z] ∧ H x = some (.ins (He.ga K "Link") dx []) ∧ ∀ H', Bt x H H' → NdAt K H' x (.lnk o z) → Q .non H'
def spGone (K : PySem.W.Frag) : Sp := fun vs H Q _ => ∃ (x dx : Addr) (o b : Nat), vs = [.ref x, .int (o : Int), .int (b : Int)] ∧ H x = some (.ins (He.ga K "Gone") dx []) ∧ ∀ H', Bt x H H' → NdAt K H' x (.gon o b) → Q .non H'
theorem mkFolder {K : PySem.W.Frag} {H : Hp} {l : Addr} {o : Nat} {es : Ents} (h : EntsLT K H l es) (n : NamesOnce es) (z : es.length < 64) : MkP (spFolder K) (He.ga K "Folder") [.int (o : Int), .ref l] H fun x H' => NdAt K H' x (.fol o (sortE es)) :=
  fun H1 e x dx hx0 hx Q E k => ⟨x, dx, l, o, es, rfl, hx, h.mono e, n, z, k⟩
theorem mkFile {K : PySem.W.Frag} {H : Hp} {o : Nat} : MkP (spFile K) (He.ga K "File") [.int (o : Int)] H fun x H' => NdAt K H' x (.fil o) := fun H1 e x dx hx0 hx Q E k => ⟨x, dx, o, rfl, hx, k⟩
theorem mkLink {K : PySem.W.Frag} {H : Hp} {o : Nat} {z : Str} : MkP (spLink K) (He.ga K "Link") [.int (o : Int), .str z] H fun x H' => NdAt K H' x (.lnk o z) := fun H1 e x dx hx0 hx Q E k => ⟨x, dx, o, z, rfl, hx, k⟩
theorem mkGone {K : PySem.W.Frag} {H : Hp} {o b : Nat} : MkP (spGone K) (He.ga K "Gone") [.int (o : Int), .int (b : Int)] H fun x H' => NdAt K H' x (.gon o b) := fun H1 e x dx hx0 hx Q E k => ⟨x, dx, o, b, rfl, hx, k⟩
theorem count_flat {ys : List Str} {m : Str} : ((ys.map V.str).countP fun y => eqV y (.str m)) = ys.count m := by
  rw [List.countP_map]
  unfold List.count
  refine List.countP_congr fun y _ => ?_
  show (y == m) = true ↔ (y == m) = true
  exact Iff.rfl
theorem strs_flat (ys : List Str) : (ys.map V.str).all flatV = true := List.all_eq_true.mpr fun v hv => by
  obtain ⟨y, _, rfl⟩ := List.mem_map.mp hv
  rfl
section
variable {P : Program} {w : World} {K : PySem.W.Frag} {mg : Str → Option Value} {base : Heap}
theorem sc_found_nodes : FnScope ["entries", "names", "some", "name", "node"] ["entries", "names"] (defScope s_found_nodes) := ⟨rfl, rfl, rfl, by decide +kernel, rfl, by decide +kernel, by decide +kernel⟩
theorem c_found_nodes (T : Txt K mg) : C8.Cal P w K mg base 1 "found_nodes" (spFN K) [] := by
  refine cal_of (fd_found_nodes T) (g_found_nodes T) (fun _ _ _ _ _ _ us hl => match us, hl with | [_, _], _ => rfl) sc_found_nodes (fun vs H Q E h => ?_) (fun cdv A outer s H vs Q E hr h => ?_)
  · obtain ⟨_, _, _, _, _, _, _, rfl, _⟩ := h; rfl
  · obtain ⟨l, p, as, es, ys, m, n, rfl, hl, pr, hz, hp, hm, hc, hf, k⟩ := h
    refine ⟨_, (pss_cons (ps_setLc (i := 2) (own := [("name", 3), ("node", 4)]) rfl sc_found_nodes.nd rfl rfl (sw_true rfl rfl rfl (by decide +kernel)) (pi_list (pv 0)) (blkOk_by (own := [("name", 3), ("node", 4)]) (N := ["entries", "names", "some", "name", "node"]) (sc := defScope s_found_nodes) (by decide +kernel)) (fun _ _ _ _ _ => (k_pgt (K := K) (n := 2) rfl rfl (pgs_cons (pg_name (i := 3) sc_found_nodes.nd rfl (Or.inl rfl) (.inr rfl)) (pgs_cons (pg_name (i := 4) sc_found_nodes.nd rfl (Or.inl rfl) (.inr rfl)) pgs_nil)) rfl rfl)) (fun _ _ _ _ _ => (pts_one (pt_cmpR op_eq (pv 3) (pe_ix (k_ixl (K := K) rfl) (pv 1) (pe_un un_neg pe_int) (fun _ _ => rfl)) (nomark _)))) (fun _ _ _ _ _ => (pv 4)))
      (pss_one (ps_ret (pe_ix ix_list (pv 2) (pe_op op_sub (pe_bm PySem.F.plainAttrs_list PySem.F.slot_list_count PySem.F.type_list_count mt_countV (pv 1) (pa_cons (pe_ix ix_list (pv 1) (pe_un un_neg pe_int) (fun _ _ => rfl)) pa_nil)) pe_int) (fun _ _ => rfl))))), ?_⟩
    have hml : atI (ys.map V.str) (-1) = some (.str m) := getLast_atI (by rw [List.getLast?_map, hm]; rfl)
    refine q_asgL (el_prs (wk_prs (wk_list (ev_var rfl) (sq_of hl)) pr) hz (fun e => decide (e.1 = m)) (fun e => .int (e.2 : Int)) (fun _ _ => rfl)
      (fun e he H2 e2 => et_is (et_test (ev_op (ev_var rfl) (ev_op (ev_var rfl) (ev_un ev_c ru_neg) (rv_ixL (sq_of (e2 _ _ hp)) hml)) (rv_eq rfl))) (by simp)) (fun e he H2 e2 _ => ev_var rfl)) fun q H2 hq e2 h2 => ?_
    rw [hf] at h2
    refine s_ret (ev_op (ev_var rfl) (ev_op (ev_bmL (sq_of (e2 _ _ hp)) (ev_var rfl) (ea_cons (ev_op (ev_var rfl) (ev_un ev_c ru_neg) (rv_ixL (sq_of (e2 _ _ hp)) hml)) ea_nil) fun H3 e3 Q q => ⟨p, _, _, rfl, rfl, sq_of ((e2.trans e3) _ _ hp), rfl, strs_flat ys, q H3 (Evl.Ex.refl H3)⟩) ev_c rv_sub)
      (rv_ixL (v := .int (n : Int)) (sq_of h2) ?_)) fun H3 e3 => k H3 (e2.trans e3)
    rw [count_flat, hc]
    exact at0
theorem sc_by_names : FnScope ["entries", "found", "names", "entry", "index", "name"] ["entries"] (defScope s_by_names) := ⟨rfl, rfl, rfl, by decide +kernel, rfl, by decide +kernel, by decide +kernel⟩
theorem c_by_names (T : Txt K mg) : C8.Cal P w K mg base 2 "by_names" (spByNames K) [] := by
  refine cal_of (fd_by_names T) (g_by_names T) (fun _ _ _ _ _ _ us hl => match us, hl with | [_], _ => rfl) sc_by_names (fun vs H Q E h => ?_) (fun cdv A outer s H vs Q E hr h => ?_)
  · obtain ⟨_, _, rfl, _⟩ := h; rfl
  · obtain ⟨l, es, rfl, ⟨as, hl, pr⟩, ho, hz, k⟩ := h
    refine ⟨_, (pss_cons (ps_set (i := 1) sc_by_names.nd rfl (Or.inr rfl) (pe_lc (own := [("entry", 3)]) rfl sc_by_names.nd (pi_or (pi_list (pv 0)) (pi_tup (pv 0))) (blkOk_by (own := [("entry", 3)]) (N := ["entries", "found", "names", "entry", "index", "name"]) (sc := defScope s_by_names) (by decide +kernel)) (fun _ _ _ _ _ => (pg_name (i := 3) sc_by_names.nd rfl (Or.inl rfl) (.inr rfl))) (fun _ _ _ _ _ => pts_nil) (fun _ _ _ _ _ => (pe_callTy (k_tup (K := K) rfl) (by rfl) (f_tuple T) b_tuple (pa_cons (pv 3) pa_nil)))))
      (pss_cons (ps_if (pt_val (pe_callB (cr_all rfl) (by rfl) (f_all T) b_all (pa_cons (pe_lc (own := [("entry", 3)]) rfl sc_by_names.nd (pi_list (pv 1)) (blkOk_by (own := [("entry", 3)]) (N := ["entries", "found", "names", "entry", "index", "name"]) (sc := defScope s_by_names) (by decide +kernel)) (fun _ _ _ _ _ => (pg_name (i := 3) sc_by_names.nd rfl (Or.inl rfl) (.inr rfl))) (fun _ _ _ _ _ => pts_nil) (fun _ _ _ _ _ => (pe_callB (k_isi (K := K) rfl) (by rfl) (f_isinstance T) b_isinstance (pa_cons (pe_ix (k_ixt (K := K) rfl) (pv 3) pe_int (fun _ _ => rfl)) (pa_cons (pe_bltn (v := .ty "str") (by rfl) (f_str T) b_str rfl) pa_nil))))) pa_nil))) (pss_cons (ps_set (i := 2) sc_by_names.nd rfl (Or.inr rfl) (pe_callB cr_sortedS (by rfl) (f_sorted T) b_sorted (pa_cons (pe_lc (own := [("entry", 3)]) rfl sc_by_names.nd (pi_list (pv 1)) (blkOk_by (own := [("entry", 3)]) (N := ["entries", "found", "names", "entry", "index", "name"]) (sc := defScope s_by_names) (by decide +kernel)) (fun _ _ _ _ _ => (pg_name (i := 3) sc_by_names.nd rfl (Or.inl rfl) (.inr rfl))) (fun _ _ _ _ _ => pts_nil) (fun _ _ _ _ _ => (pe_ix (k_ixt (K := K) rfl) (pv 3) pe_int (fun _ _ => rfl)))) pa_nil)))
      (pss_one (ps_set (i := 1) sc_by_names.nd rfl (Or.inr rfl) (pe_lc (own := [("index", 4), ("name", 5)]) rfl sc_by_names.nd (pi_enum (by rfl) (f_enumerate T) (pa_cons (pv 2) pa_nil)) (blkOk_by (own := [("index", 4), ("name", 5)]) (N := ["entries", "found", "names", "entry", "index", "name"]) (sc := defScope s_by_names) (by decide +kernel)) (fun _ _ _ _ _ => (k_pgt (K := K) (n := 2) rfl rfl (pgs_cons (pg_name (i := 4) sc_by_names.nd rfl (Or.inl rfl) (.inr rfl)) (pgs_cons (pg_name (i := 5) sc_by_names.nd rfl (Or.inl rfl) (.inr rfl)) pgs_nil)) rfl rfl)) (fun _ _ _ _ _ => pts_nil) (fun _ _ _ _ _ => (pe_tup (pa_cons (pv 5) (pa_cons (C8.pe_c (c_found_nodes T) hr (by decide) rfl (pa_cons (pv 1) (pa_cons (pe_slice (k_sll (K := K) rfl) (pv 2) po_none (po_some (pe_op op_add (pv 4) pe_int))) pa_nil))) pa_nil)))))))) pss_nil)
      (pss_one (ps_ret (pe_callTy call_tuple_of (by rfl) (f_tuple T) b_tuple (pa_cons (pv 1) pa_nil)))))), ?_⟩
    have hlen : as.length = es.length := pr.len
    have hlm : (as.map V.ref).length = as.length := List.length_map ..
    refine q_asgL (xs := as.map V.ref) ?_ fun l1 H1 hl1 e1 h1 => ?_
    · have q := el_one (i := 3) (vs := [3]) (te := tCB (rTupOf K) (tCons (tVar 3) tNil)) (tt := tYes) (σ := [some (.ref l), none, none, none, none, none]) (H := H) (xs := as.map V.ref) (wi := iOr (iList K (tVar 0)) (iTup K (tVar 0)))
        (hl.elim (fun h => wk_inl (wk_list (ev_var rfl) (sq_of h))) (fun h => wk_inr (wk_tup (ev_var rfl) (st_of h)))) (by omega) (fun _ => true) id (fun _ => rfl) (fun _ _ _ _ => et_yes) (fun x hx H1 e1 _ => by
          obtain ⟨a, ha, rfl⟩ := List.mem_map.mp hx
          obtain ⟨i, hi⟩ := List.getElem?_of_mem ha
          obtain ⟨e, he, hv⟩ := pr.at1 hi
          exact ev_tupOf (ev_var rfl) (st_of (e1 _ _ hv)))
      rw [List.filter_eq_self.mpr fun _ _ => rfl, List.map_id] at q
      exact q
    · have pr1 : Paired (fun a e => entV a H1 e) as es := pr.mon fun _ _ q => e1 _ _ q
      refine q_when (b := true) (et_B (ev_is (ev_allL (bs := es.map fun _ => true) ?_) ?_)) (fun _ H2 e2 => ?_) (fun h => by cases h)
      · have q := el_prs1 (i := 3) (vs := [3]) (te := tCB (rIsi K) (tCons (tOp (rIxT K) (tVar 3) (tC (.int 0))) (tCons (tC (.ty "str")) tNil))) (tt := tYes) (σ := [some (.ref l), some (.ref l1), none, none, none, none]) (H := H1) (es := es) (wi := iList K (tVar 1))
          (wk_prs (wk_list (ev_var rfl) (sq_of h1)) pr1) (by omega) (fun _ => true) (fun _ => .bl true) (fun _ => rfl) (fun _ _ _ _ _ _ => et_yes) (fun e he a H2 e2 hv _ => ev_isStr (ev_op (ev_var rfl) ev_c (rv_ixT (v := .str e.1) (st_of hv) at0)))
        rw [List.filter_eq_self.mpr fun _ _ => rfl] at q
        rw [List.map_map]
        exact q
      · congr 1
        rw [List.all_map]
        exact List.all_eq_true.mpr fun _ _ => rfl
      · have pr2 : Paired (fun a e => entV a H2 e) as es := pr1.mon fun _ _ q => e2 _ _ q
        have h2 := e2 _ _ h1
        have hnames : EvL (tLc (iList K (tVar 1)) (gName 3) tYes (tOp (rIxT K) (tVar 3) (tC (.int 0))) [3]) [some (.ref l), some (.ref l1), none, none, none, none] H2 ((es.map (·.1)).map V.str) := by
          have q := el_prs1 (i := 3) (vs := [3]) (te := tOp (rIxT K) (tVar 3) (tC (.int 0))) (tt := tYes) (σ := [some (.ref l), some (.ref l1), none, none, none, none]) (H := H2) (es := es) (wi := iList K (tVar 1))
            (wk_prs (wk_list (ev_var rfl) (sq_of h2)) pr2) (by omega) (fun _ => true) (fun e => .str e.1) (fun _ => rfl) (fun _ _ _ _ _ _ => et_yes) (fun e he a H2 e2 hv _ => ev_op (ev_var rfl) ev_c (rv_ixT (v := .str e.1) (st_of hv) at0))
          rw [List.filter_eq_self.mpr fun _ _ => rfl] at q
          rw [List.map_map]
          exact q
        refine q_asgP (R := fun v H3 => ∃ p ys, v = .ref p ∧ ys.Perm (es.map (·.1)) ∧ sortedS ys = true ∧ H3 p = some (.lst (ys.map V.str))) ?_ fun v H3 e3 hv => ?_
        · exact evp_cbL hnames fun p H4 e4 h4 Q q => ⟨p, _, rfl, sq_of h4, by rw [List.length_map]; omega, fun ys p2 hperm hsrt hp2 => q _ _ (Evl.Ex.new hp2) ⟨p2, ys, rfl, hperm, hsrt, upd_same⟩⟩
        · obtain ⟨p, ys, rfl, hperm, hsrt, h3⟩ := hv
          have hnd : ys.Nodup := hperm.nodup_iff.mpr ho
          have hst := strict_of_sorted hsrt hnd
          have hyl : ys.length = es.length := by rw [hperm.length_eq, List.length_map]
          have pr3 : Paired (fun a e => entV a H3 e) as es := pr2.mon fun _ _ q => e3 _ _ q
          have hl3 := e3 _ _ h2
          refine s_asgP (R := fun v H4 => ∃ p4 as4, v = .ref p4 ∧ H4 p4 = some (.lst (as4.map V.ref)) ∧ Paired (fun a e => entV a H4 e) as4 (sortE es)) ?_ fun v H4 e4 hv => ?_
          · refine EvP.imp (evlp_p (EvLP.imp (P' := fun zs H' => Paired (fun m y => ∃ a, y = V.ref a ∧ entV a H' (m, nodeOf es m)) ys zs) (comp_gen (wk_enum (ea_cons (ev_var rfl) ea_nil) (sq_of h3)) (by rw [List.length_map]; omega) (fun _ => true) (fun i => optR (fun m y H' => ∃ a, y = V.ref a ∧ entV a H' (m, nodeOf es m)) ys[i]?) ?_ ?_) ?_)) ?_
            · intro i v Ha Hb e r
              cases c : ys[i]? with
              | none => rw [c] at r; exact r
              | some x =>
                rw [c] at r
                obtain ⟨a, h1, h2⟩ := r
                exact ⟨a, h1, e _ _ trivial h2⟩
            · intro i x H4 hi e4 it Q' q'
              obtain ⟨Tp, y, rfl, hTp, hy⟩ := it
              rw [List.getElem?_map] at hy
              cases c : ys[i]? with
              | none => rw [c] at hy; cases hy
              | some m =>
                rw [c] at hy
                obtain rfl : V.str m = y := Option.some.inj hy
                refine ⟨Tp, _, rfl, st_of hTp, rfl, .int (i : Int), [.str m], rfl, .str m, [], rfl, rfl, ?_⟩
                refine q' _ H4 (Evl.Ex.refl H4) rfl et_yes fun _ => ?_
                have hi' : i < ys.length := (List.getElem?_eq_some_iff.mp c).1
                have hmem : m ∈ es.map (·.1) := hperm.subset (List.mem_of_getElem? c)
                obtain ⟨e, he, rfl⟩ := List.mem_map.mp hmem
                have htk : ys.take (i + 1) = ys.take i ++ [e.1] := by rw [List.take_succ, c]; rfl
                have hsub : (ys.take (i + 1)).Nodup := (List.take_sublist _ _).nodup hnd
                have hcnt : (ys.take (i + 1)).count e.1 = 1 := by
                  rw [htk] at hsub ⊢
                  rw [List.count_append, List.count_eq_zero.mpr, List.count_singleton_self]
                  intro hin
                  exact (List.nodup_append.mp hsub).2.2 _ hin _ (List.mem_singleton.mpr rfl) rfl
                have hcut : cutV (ys.map V.str) none (some ((i : Int) + 1)) = (ys.take (i + 1)).map V.str := (cut_to (k := i + 1)).trans (List.map_take ..).symm
                have hcall : Ev (tCall (spFN K) [] C8.E0 (tCons (tVar 1) (tCons (tSl (rSlL K) (tVar 2) tNoPart (tPart (tOp (rI0 fun i j => .int (i + j)) (tVar 4) (tC (.int 1))))) tNil)))
                    [some (.ref l), some (.ref l1), some (.ref p), none, some (.int (i : Int)), some (.str e.1)] H4 (.int (nodeOf es e.1 : Int)) := by
                  refine ev_callA (P := fun ws H5 => ∃ q, ws = [.ref l1, .ref q] ∧ H5 q = some (.lst ((ys.take (i + 1)).map V.str))) (eap_cons (ev_p (ev_var rfl)) fun v H5 e5 hv => ?_) fun ws H5 e5 hws => ?_
                  · subst hv
                    have e35 := e4.trans e5
                    refine eap_cons (evl_p (el_sl (ev_var rfl) eo_none (eo_some (ev_op (ev_var rfl) ev_c rv_I0)) (sq_of (e35 _ _ h3)))) fun v H6 e6 hv => ?_
                    obtain ⟨q, rfl, _, h6⟩ := hv
                    exact eap_nil fun H7 e7 => ⟨q, rfl, by rw [← hcut]; exact e7 _ _ h6⟩
                  · obtain ⟨q, rfl, h5⟩ := hws
                    have e35 := e4.trans e5
                    refine fun H6 e6 Q q' E => ⟨l1, q, as, es, _, e.1, nodeOf es e.1, rfl, (e35.trans e6) _ _ hl3, pr3.mon fun _ _ q => (e35.trans e6) _ _ q, by omega, e6 _ _ h5, by rw [htk]; simp, hcnt, ?_, q'⟩
                    rw [once_filter ho he, nodeOf_mem ho he]
                exact EvP.imp (evp_tup (ea_cons (ev_var rfl) (ea_cons hcall ea_nil)) (by simp)) fun v H' hv => by simp only [c]; exact hv
            · intro zs H' r
              rw [show (ys.map V.str).length = ys.length from List.length_map ..] at r
              have q := kept_pr (f := fun _ => true) (fun k e c => rfl) r
              rw [List.filter_eq_self.mpr fun _ _ => rfl] at q
              exact q
            · rintro v H' ⟨p4, zs, rfl, _, h4, r⟩
              obtain ⟨as4, rfl, q⟩ := pr_refs (F := fun a m => entV a H' (m, nodeOf es m)) r
              refine ⟨p4, as4, rfl, h4, ?_⟩
              rw [← byNames ho hperm hst]
              exact pr_mapr' q
          · obtain ⟨p4, as4, rfl, h4, pr4⟩ := hv
            refine s_retU (eu_tupOf (ev_var rfl) (sq_of h4)) fun t H5 ht e5 h5 => k t H5 ?_ ?_ ⟨as4, h5, pr4.mon fun _ _ q => e5 _ _ q⟩
            · exact fresh_back (((e1.trans e2).trans e3).trans e4) ht
            · exact (((e1.trans e2).trans e3).trans e4).trans e5
theorem sc_Folder_init : FnScope ["self", "owner", "entries"] ["self", "owner", "entries"] (defScope s_Folder_init) := ⟨rfl, rfl, rfl, by decide +kernel, rfl, by decide +kernel, by decide +kernel⟩
theorem k_Folder (T : Txt K mg) : C8.Mak P w K mg base 3 "Folder" (He.ga K "Folder") (spFolder K) [] := by
  refine mak_of (fd_Folder_init T) (mk_Folder T) (g_Folder T) (fun _ _ _ _ _ _ us hl => match us, hl with | [_, _, _], _ => rfl) sc_Folder_init (fun vs H Q E h => ?_) (fun cdv A outer s H vs Q E hr h => ?_)
  · obtain ⟨_, _, _, _, _, rfl, _⟩ := h; rfl
  · obtain ⟨x, dx, l, o, es, rfl, hx, hE, ho, hz, k⟩ := h
    refine ⟨_, (pss_cons (ps_fld (pv 0) (pv 1) rfl)
      (pss_one (ps_fld (pv 0) (C8.pe_c (c_by_names T) hr (by decide) rfl (pa_cons (pv 2) pa_nil)) rfl))), ?_⟩
    refine q_fld hx put0 (ev_p (ev_var rfl)) rfl (cl_Folder T) (na_Folder_owner T) rfl fun v H1 e1 r1 => ?_
    subst r1
    have b1 := (Ex.bt (l := x) e1).trans (Bt.upd (o := .ins (He.ga K "Folder") dx [("owner", .int (o : Int))]))
    have hlx : l ≠ x := fun z => by
      subst z
      obtain ⟨as, q | q, _⟩ := hE <;> rw [hx] at q <;> cases q
    have hE1 : EntsLT K (upd H1 x (.ins (He.ga K "Folder") dx [("owner", .int (o : Int))])) l es := by
      obtain ⟨as, q, r⟩ := hE
      have i : ExI H (upd H1 x (.ins (He.ga K "Folder") dx [("owner", .int (o : Int))])) := b1.exI fun u hu => by rw [hx] at hu; cases hu; exact id
      exact ⟨as, q.imp (b1 _ _ hlx) (b1 _ _ hlx), r.mon fun _ _ z => i _ _ trivial z⟩
    refine s_fld upd_same (put1 (by decide +kernel) put0) (evp_call (dvs := []) (R := fun v H' => ∃ p, v = .ref p ∧ EntsAt H' p (sortE es)) (ea_cons (ev_var rfl) ea_nil) fun H2 e2 Q q E => ⟨l, es, rfl, hE1.mono e2, ho, hz, fun p H3 hp e3 h3 => q _ H3 e3 ⟨p, rfl, h3⟩⟩) rfl (cl_Folder T) (na_Folder_entries T) rfl fun v H2 e2 hv => ?_
    obtain ⟨t, rfl, ht⟩ := hv
    exact k _ ((b1.trans_ex e2).trans Bt.upd) ⟨dx, t, upd_same, ht.monoT (updT (e2 _ _ upd_same) (fun _ z => by cases z))⟩
theorem sc_File_init : FnScope ["self", "owner"] ["self", "owner"] (defScope s_File_init) := ⟨rfl, rfl, rfl, by decide +kernel, rfl, by decide +kernel, by decide +kernel⟩
theorem k_File (T : Txt K mg) : C8.Mak P w K mg base 1 "File" (He.ga K "File") (spFile K) [] := by
  refine mak_of (fd_File_init T) (mk_File T) (g_File T) (fun _ _ _ _ _ _ us hl => match us, hl with | [_, _], _ => rfl) sc_File_init (fun vs H Q E h => ?_) (fun cdv A outer s H vs Q E hr h => ?_)
  · obtain ⟨_, _, _, rfl, _⟩ := h; rfl
  · obtain ⟨x, dx, o, rfl, hx, k⟩ := h
    refine ⟨_, (pss_one (ps_fld (pv 0) (pv 1) rfl)), ?_⟩
    refine s_fld hx put0 (ev_p (ev_var rfl)) rfl (cl_File T) (na_File_owner T) rfl fun v H1 e1 r1 => ?_
    subst r1
    exact k _ ((Ex.bt (l := x) e1).trans Bt.upd) ⟨dx, upd_same⟩
theorem sc_Link_init : FnScope ["self", "owner", "text"] ["self", "owner", "text"] (defScope s_Link_init) := ⟨rfl, rfl, rfl, by decide +kernel, rfl, by decide +kernel, by decide +kernel⟩
theorem k_Link (T : Txt K mg) : C8.Mak P w K mg base 1 "Link" (He.ga K "Link") (spLink K) [] := by
  refine mak_of (fd_Link_init T) (mk_Link T) (g_Link T) (fun _ _ _ _ _ _ us hl => match us, hl with | [_, _, _], _ => rfl) sc_Link_init (fun vs H Q E h => ?_) (fun cdv A outer s H vs Q E hr h => ?_)
  · obtain ⟨_, _, _, _, rfl, _⟩ := h; rfl
  · obtain ⟨x, dx, o, z, rfl, hx, k⟩ := h
    refine ⟨_, (pss_cons (ps_fld (pv 0) (pv 1) rfl)
      (pss_one (ps_fld (pv 0) (pv 2) rfl))), ?_⟩
    refine q_fld hx put0 (ev_p (ev_var rfl)) rfl (cl_Link T) (na_Link_owner T) rfl fun v H1 e1 r1 => ?_
    subst r1
    refine s_fld upd_same (put1 (by decide +kernel) put0) (ev_p (ev_var rfl)) rfl (cl_Link T) (na_Link_text T) rfl fun v H2 e2 r2 => ?_
    subst r2
    exact k _ ((((Ex.bt (l := x) e1).trans Bt.upd).trans_ex e2).trans Bt.upd) ⟨dx, upd_same⟩
theorem sc_Gone_init : FnScope ["self", "owner", "above"] ["self", "owner", "above"] (defScope s_Gone_init) := ⟨rfl, rfl, rfl, by decide +kernel, rfl, by decide +kernel, by decide +kernel⟩
theorem k_Gone (T : Txt K mg) : C8.Mak P w K mg base 1 "Gone" (He.ga K "Gone") (spGone K) [] := by
  refine mak_of (fd_Gone_init T) (mk_Gone T) (g_Gone T) (fun _ _ _ _ _ _ us hl => match us, hl with | [_, _, _], _ => rfl) sc_Gone_init (fun vs H Q E h => ?_) (fun cdv A outer s H vs Q E hr h => ?_)
  · obtain ⟨_, _, _, _, rfl, _⟩ := h; rfl
  · obtain ⟨x, dx, o, b, rfl, hx, k⟩ := h
    refine ⟨_, (pss_cons (ps_fld (pv 0) (pv 1) rfl)
      (pss_one (ps_fld (pv 0) (pv 2) rfl))), ?_⟩
    refine q_fld hx put0 (ev_p (ev_var rfl)) rfl (cl_Gone T) (na_Gone_owner T) rfl fun v H1 e1 r1 => ?_
    subst r1
    refine s_fld upd_same (put1 (by decide +kernel) put0) (ev_p (ev_var rfl)) rfl (cl_Gone T) (na_Gone_above T) rfl fun v H2 e2 r2 => ?_
    subst r2
    exact k _ ((((Ex.bt (l := x) e1).trans Bt.upd).trans_ex e2).trans Bt.upd) ⟨dx, upd_same⟩
end
end NW
set_option maxHeartbeats 4000000
/-! wrong_with_entries, wrong_with. -/
namespace NW
open PySem PySem.Spec PyProof.Rows L2 Evl
/-- a tuple of nodes -/
structure NdsAt (K : PySem.W.Frag) (H : Hp) (t : Addr) (as : List Addr) (T : Tr) : Prop where
  tup : H t = some (.tup (as.map V.ref))
  nds : Paired (NdAt K H) as T
theorem TrA.nd {K : PySem.W.Frag} {H : Hp} {a t : Addr} {as : List Addr} {T : Tr} (h : TrA K H a t as T) : NdsAt K H t as T := ⟨h.tup, h.nds⟩
theorem NdsAt.mono {K : PySem.W.Frag} {H H' : Hp} {t : Addr} {as : List Addr} {T : Tr} (e : ExI H H') (h : NdsAt K H t as T) : NdsAt K H' t as T := ⟨e _ _ trivial h.tup, h.nds.mon fun _ _ q => q.mono e⟩
def spWWE (K : PySem.W.Frag) : Sp := fun vs H Q _ => ∃ (t u : Addr) (as : List Addr) (T : Tr) (es : Ents), vs = [.ref t, .ref u] ∧ NdsAt K H t as T ∧ EntsAt H u es ∧ EsOk T es ∧ ∀ H', Ex H H' → Q .non H'
theorem spWWE_v {K : PySem.W.Frag} {H : Hp} {t u : Addr} {as : List Addr} {T : Tr} {es : Ents} (h : NdsAt K H t as T) (hu : EntsAt H u es) (ok : EsOk T es) : SpV (spWWE K) [.ref t, .ref u] H .non := fun H1 e Q q E => ⟨t, u, as, T, es, rfl, h.mono (Ex.i e), hu.mono (Ex.i e), ok, q⟩
def spWW (K : PySem.W.Frag) : Sp := fun vs H Q _ => ∃ (t : Addr) (as : List Addr) (T : Tr) (i : Nat) (n : Nd), vs = [.ref t, .int (i : Int)] ∧ NdsAt K H t as T ∧ T[i]? = some n ∧ NdOk T i n ∧ (i = 0 → n.isFol = true) ∧ ∀ H', Ex H H' → Q .non H'
theorem spWW_v {K : PySem.W.Frag} {H : Hp} {t : Addr} {as : List Addr} {T : Tr} {i : Nat} {n : Nd} (h : NdsAt K H t as T) (hi : T[i]? = some n) (ok : NdOk T i n) (h0 : i = 0 → n.isFol = true) : SpV (spWW K) [.ref t, .int (i : Int)] H .non := fun H1 e Q q E => ⟨t, as, T, i, n, rfl, h.mono (Ex.i e), hi, ok, h0, q⟩
theorem kept_none (n : Nat) : kept n (fun _ => false) = [] := by
  unfold kept
  exact List.filter_eq_nil_iff.mpr fun _ _ h => by cases h
theorem isG_nd {T : Tr} {f : Nat} {n : Nd} (h : T[f]? = some n) : isG T f = n.isGon := by unfold isG; rw [h]
theorem bl_true {b : Bool} (h : b = true) : V.bl b = .bl true := by rw [h]
section
variable {K : PySem.W.Frag} {σ : L2.St} {H : Hp} {ta tb : TE} {b t : Addr} {as : List Addr} {T : Tr} {i : Nat}
theorem ev_ndT (h : Ev ta σ H (.ref t)) (q : NdsAt K H t as T) (hi : Ev tb σ H (.int (i : Int))) (hb : as[i]? = some b) : Ev (tOp (rIxT K) ta tb) σ H (.ref b) :=
  ev_op h hi (rv_ixT (st_of q.tup) (atI_nat (by rw [List.getElem?_map, hb]; rfl)))
theorem ev_lenT' (h : Ev ta σ H (.ref t)) (q : NdsAt K H t as T) : Ev (tCB (rLenS K) (tCons ta tNil)) σ H (.int (T.length : Int)) :=
  ev_is (ev_lenT h (st_of q.tup)) (by rw [List.length_map, q.nds.len])
theorem et_rngLt {tl th : TE} {n : Nat} (h : Ev tl σ H (.int (i : Int))) (hl : Ev th σ H (.int (n : Int))) (h0 : 0 < i) (h1 : i < n) : EvT (tTest (tChain (rI0 fun i j => .bl (decide (i < j))) (rI0 fun i j => .bl (decide (i < j))) (tC (.int 0)) tl th)) σ H true := by
  have h1' : (i : Int) < (n : Int) := by omega
  have h0' : (0 : Int) < (i : Int) := by omega
  exact et_test (ev_chain (z' := .bl true) ev_c h rv_I0 (fun _ => hl) (fun _ => (by rw [← decide_eq_true h1']; exact rv_I0)) (fun h => absurd h0' (of_decide_eq_false h)))
theorem et_rngLe {tl th : TE} {n : Nat} (h : Ev tl σ H (.int (i : Int))) (hl : Ev th σ H (.int (n : Int))) (h1 : i < n) : EvT (tTest (tChain (rI0 fun i j => .bl (decide (i ≤ j))) (rI0 fun i j => .bl (decide (i < j))) (tC (.int 0)) tl th)) σ H true := by
  have h1' : (i : Int) < (n : Int) := by omega
  have h0' : (0 : Int) ≤ (i : Int) := by omega
  exact et_test (ev_chain (z' := .bl true) ev_c h rv_I0 (fun _ => hl) (fun _ => (by rw [← decide_eq_true h1']; exact rv_I0)) (fun h => absurd h0' (of_decide_eq_false h)))
end
section
variable {P : Program} {w : World} {K : PySem.W.Frag} {mg : Str → Option Value} {base : Heap}
theorem sc_wrong_with_entries : FnScope ["nodes", "entries", "names", "name", "node", "index"] ["nodes", "entries"] (defScope s_wrong_with_entries) := ⟨rfl, rfl, rfl, by decide +kernel, rfl, by decide +kernel, by decide +kernel⟩
theorem c_wrong_with_entries (T : Txt K mg) : C8.Cal P w K mg base 2 "wrong_with_entries" (spWWE K) [] := by
  refine cal_of (fd_wrong_with_entries T) (g_wrong_with_entries T) (fun _ _ _ _ _ _ us hl => match us, hl with | [_, _], _ => rfl) sc_wrong_with_entries (fun vs H Q E h => ?_) (fun cdv A outer s H vs Q E hr h => ?_)
  · obtain ⟨_, _, _, _, _, rfl, _⟩ := h; rfl
  · obtain ⟨t, u, as, Tr, es, rfl, hT, hE, ok, k⟩ := h
    refine ⟨_, (pss_cons (ps_set (i := 2) sc_wrong_with_entries.nd rfl (Or.inr rfl) (pe_lc (own := [("name", 3), ("node", 4)]) rfl sc_wrong_with_entries.nd (pi_tup (pv 1)) (blkOk_by (own := [("name", 3), ("node", 4)]) (N := ["nodes", "entries", "names", "name", "node", "index"]) (sc := defScope s_wrong_with_entries) (by decide +kernel)) (fun _ _ _ _ _ => (k_pgt (K := K) (n := 2) rfl rfl (pgs_cons (pg_name (i := 3) sc_wrong_with_entries.nd rfl (Or.inl rfl) (.inr rfl)) (pgs_cons (pg_name (i := 4) sc_wrong_with_entries.nd rfl (Or.inl rfl) (.inr rfl)) pgs_nil)) rfl rfl)) (fun _ _ _ _ _ => pts_nil) (fun _ _ _ _ _ => (pv 3))))
      (pss_cons (ps_if (pt_not (pt_val (pe_callB (cr_all rfl) (by rfl) (f_all T) b_all (pa_cons (pe_lc (own := [("name", 3)]) rfl sc_wrong_with_entries.nd (pi_list (pv 2)) (blkOk_by (own := [("name", 3)]) (N := ["nodes", "entries", "names", "name", "node", "index"]) (sc := defScope s_wrong_with_entries) (by decide +kernel)) (fun _ _ _ _ _ => (pg_name (i := 3) sc_wrong_with_entries.nd rfl (Or.inl rfl) (.inr rfl))) (fun _ _ _ _ _ => pts_nil) (fun _ _ _ _ _ => (C8.pe_c (c_is_name T) hr (by decide) rfl (pa_cons (pv 3) pa_nil)))) pa_nil)))) (pss_one (ps_ret pe_str)) pss_nil)
      (pss_cons (ps_if (pt_cmpR (op_neNilL (hu0_of hr)) (pe_lc (own := [("index", 5), ("name", 3)]) rfl sc_wrong_with_entries.nd (pi_enum (by rfl) (f_enumerate T) (pa_cons (pv 2) pa_nil)) (blkOk_by (own := [("index", 5), ("name", 3)]) (N := ["nodes", "entries", "names", "name", "node", "index"]) (sc := defScope s_wrong_with_entries) (by decide +kernel)) (fun _ _ _ _ _ => (k_pgt (K := K) (n := 2) rfl rfl (pgs_cons (pg_name (i := 5) sc_wrong_with_entries.nd rfl (Or.inl rfl) (.inr rfl)) (pgs_cons (pg_name (i := 3) sc_wrong_with_entries.nd rfl (Or.inl rfl) (.inr rfl)) pgs_nil)) rfl rfl)) (fun _ _ _ _ _ => (pts_one (pt_cmpR (k_in (K := K) rfl) (pv 3) (pe_slice (k_sll (K := K) rfl) (pv 2) po_none (po_some (pv 5))) (by rfl)))) (fun _ _ _ _ _ => (pv 3))) (pe_lst pa_nil) (nomark _)) (pss_one (ps_ret pe_str)) pss_nil)
      (pss_cons (ps_for PassesOwn.never rfl (pi_tup (pv 1)) (pg_tup rfl (pgs_cons (pg_name (i := 3) sc_wrong_with_entries.nd rfl (Or.inl rfl)) (pgs_cons (pg_name (i := 4) sc_wrong_with_entries.nd rfl (Or.inl rfl)) pgs_nil))) (pss_one (ps_if (PW.pt (pw_or (pt_not (pt_val (C8.pe_c (c_is_number T) hr (by decide) rfl (pa_cons (pv 4) pa_nil)))) (pw_or (pt_not (pt_chain op_lt op_lt pe_int (pv 4) (pe_callB call_len_seq (by rfl) (f_len T) b_len (pa_cons (pv 0) pa_nil)))) (pw_or1 (pt_val (pe_callB call_isi (by rfl) (f_isinstance T) b_isinstance (pa_cons (pe_ix ix_tup (pv 0) (pv 4) (fun _ _ => rfl)) (pa_cons (pe_glob (v := .ref (He.ga K "Gone")) rfl (g_Gone T) rfl) pa_nil)))))))) (pss_one (ps_ret pe_str)) pss_nil)))
      (pss_one (ps_ret pe_non)))))), ?_⟩
    obtain ⟨eas, hu, pr⟩ := hE
    have hlen := ok.len
    refine q_asgL (xs := (es.map (·.1)).map V.str) ?_ fun p H1 hp e1 h1 => ?_
    · have q := el_prs (K := K) (i := 3) (j := 4) (vs := [3, 4]) (te := tVar 3) (tt := tYes) (σ := [some (.ref t), some (.ref u), none, none, none, none]) (H := H) (es := es) (wi := iTup K (tVar 1))
        (wk_prs (wk_tup (ev_var rfl) (st_of hu)) pr) (by omega) (fun _ => true) (fun e => .str e.1) (fun _ _ => rfl) (fun _ _ _ _ => et_yes) (fun e he H2 e2 _ => ev_var rfl)
      rw [List.filter_eq_self.mpr fun _ _ => rfl] at q
      rw [List.map_map]
      exact q
    · have hpl : ((es.map (·.1)).map V.str).length = es.length := by rw [List.length_map, List.length_map]
      refine q_when (b := false) (et_is (et_not (et_B (ev_allL (bs := es.map fun _ => true) ?_))) ?_) (fun h => by cases h) fun _ H2 e2 => ?_
      · have q := el_one (i := 3) (vs := [3]) (te := tCall spName [] C8.E0 (tCons (tVar 3) tNil)) (tt := tYes) (σ := [some (.ref t), some (.ref u), some (.ref p), none, none, none]) (H := H1) (xs := (es.map (·.1)).map V.str) (wi := iList K (tVar 2))
          (wk_list (ev_var rfl) (sq_of h1)) (by omega) (fun _ => true) (fun _ => .bl true) (fun _ => rfl) (fun _ _ _ _ => et_yes) (fun x hx H2 e2 _ => by
            obtain ⟨m, hm, rfl⟩ := List.mem_map.mp hx
            obtain ⟨e, he, rfl⟩ := List.mem_map.mp hm
            exact ev_call (dvs := []) (ea_cons (ev_var rfl) ea_nil) (spName_v (ok.ok e he).1))
        rw [List.filter_eq_self.mpr fun _ _ => rfl, List.map_map, List.map_map] at q
        rw [List.map_map]
        exact q
      · rw [List.all_map]
        have q : (List.all es (id ∘ fun _ => true)) = true := List.all_eq_true.mpr fun _ _ => rfl
        rw [q]; rfl
      · have hnd : (es.map (·.1)).Nodup := ok.srt.once
        refine q_when (b := false) (et_is (et_test (ev_neNilN (xs := (kept ((es.map (·.1)).map V.str).length (fun _ => false)).map fun _ => V.non) ?_)) (by rw [kept_none]; rfl)) (fun h => by cases h) fun _ H3 e3 => ?_
        · skip
          refine comp_val (wk_enum (ea_cons (ev_var rfl) ea_nil) (sq_of (e2 _ _ h1))) (by omega) (fun _ => false) (fun _ => .non) fun i x H3 hi e3 it Q' q' => ?_
          obtain ⟨Tp, y, rfl, hTp, hy⟩ := it
          rw [List.getElem?_map] at hy
          cases c : (es.map (·.1))[i]? with
          | none => rw [c] at hy; cases hy
          | some m =>
            rw [c] at hy
            obtain rfl : V.str m = y := Option.some.inj hy
            refine ⟨Tp, _, rfl, st_of hTp, rfl, .int (i : Int), [.str m], rfl, .str m, [], rfl, rfl, ?_⟩
            refine q' _ H3 (Evl.Ex.refl H3) rfl ?_ fun h => by cases h
            refine et_is (et_test (ev_opL (ev_var rfl) (el_sl (ev_var rfl) eo_none (eo_some (ev_var rfl)) (sq_of ((e2.trans e3) _ _ h1))) fun p H4 h4 e4 => rv_isL (x := .str m) (sq_of h4) rfl ?_)) ?_
            · rw [cut_to, ← List.map_take]
              exact strs_flat _
            · rw [cut_to, ← List.map_take, Bool.eq_false_iff]
              intro hin
              obtain ⟨v, hv, he⟩ := List.any_eq_true.mp hin
              obtain ⟨m', hm', rfl⟩ := List.mem_map.mp hv
              have : m' = m := by
                have he : (m' == m) = true := he
                exact beq_iff_eq.mp he
              subst this
              obtain ⟨j, hj⟩ := List.getElem?_of_mem hm'
              rw [List.getElem?_take] at hj
              split at hj
              · rename_i hji
                have hlt := (List.getElem?_eq_some_iff.mp c).1
                exact absurd ((List.getElem?_inj hlt hnd).mp (c.trans hj.symm)) (by omega)
              · cases hj
        · have hT3 : NdsAt K H3 t as Tr := hT.mono (Ex.i ((e1.trans e2).trans e3))
          refine q_forT (a := u) (xs := eas.map V.ref) (ev_var rfl) (st_of (((e1.trans e2).trans e3) _ _ hu)) (fun i σ' H' => Ex H H' ∧ ∃ x3 x4, σ' = [some (.ref t), some (.ref u), some (.ref p), x3, x4, none]) (fun H4 e4 => ⟨((e1.trans e2).trans e3).trans e4, none, none, rfl⟩)
            (fun i σ' H' _ h => st_of (h.1 _ _ hu)) ?_ fun σ' H' h => ?_
          · rintro i x σ' H' hx ⟨e, x3, x4, rfl⟩
            rw [List.getElem?_map] at hx
            cases c : eas[i]? with
            | none => rw [c] at hx; cases hx
            | some a =>
              rw [c] at hx
              obtain rfl : V.ref a = x := Option.some.inj hx
              obtain ⟨en, hen, hv⟩ := pr.at1 c
              obtain ⟨h1, h2, h3, h4⟩ := ok.ok en (List.mem_of_getElem? hen)
              refine ⟨a, _, rfl, st_of (e _ _ hv), rfl, .str en.1, [.int (en.2 : Int)], rfl, .int (en.2 : Int), [], rfl, rfl, ?_⟩
              obtain ⟨n, hn⟩ : ∃ n, Tr[en.2]? = some n := ⟨_, List.getElem?_eq_getElem h3⟩
              obtain ⟨b, hb, nb⟩ := hT.nds.at2 hn
              rw [isG_nd hn] at h4
              have hT' := hT.mono (Ex.i e)
              refine s_when (b := false) (et_is (et_or (et_not (et_B (ev_call (dvs := []) (ea_cons (ev_var rfl) ea_nil) spNum_v))) fun _ => et_or (et_not (et_rngLt (ev_var rfl) (ev_lenT' (ev_var rfl) hT') h2 h3)) fun _ => et_B (ev_isGon T (ev_ndT (ev_var rfl) hT' (ev_var rfl) hb) (nb.mono (Ex.i e)))) (by rw [h4]; rfl)) (fun h => by cases h) fun _ H4 e4 => ⟨e.trans e4, _, _, rfl⟩
          · obtain ⟨e, x3, x4, rfl⟩ := h
            exact s_ret ev_c fun H4 e4 => k H4 (e.trans e4)
theorem sc_wrong_with : FnScope ["nodes", "index", "node", "goal"] ["nodes", "index"] (defScope s_wrong_with) := ⟨rfl, rfl, rfl, by decide +kernel, rfl, by decide +kernel, by decide +kernel⟩
theorem c_wrong_with (T : Txt K mg) : C8.Cal P w K mg base 6 "wrong_with" (spWW K) [] := by
  refine cal_of (fd_wrong_with T) (g_wrong_with T) (fun _ _ _ _ _ _ us hl => match us, hl with | [_, _], _ => rfl) sc_wrong_with (fun vs H Q E h => ?_) (fun cdv A outer s H vs Q E hr h => ?_)
  · obtain ⟨_, _, _, _, _, rfl, _⟩ := h; rfl
  · obtain ⟨t, as, Tr, i, n, rfl, hT, hn, ok, h0, k⟩ := h
    refine ⟨_, (pss_cons (ps_set (i := 2) sc_wrong_with.nd rfl (Or.inl rfl) (pe_ix ix_tup (pv 0) (pv 1) (fun _ _ => rfl)))
      (pss_cons (ps_if (PW.pt (pw_and (pt_cmpR op_eq (pv 1) pe_int (nomark _)) (pw_and1 (pt_not (pt_val (pe_callB call_isi (by rfl) (f_isinstance T) b_isinstance (pa_cons (pv 2) (pa_cons (pe_glob (v := .ref (He.ga K "Folder")) rfl (g_Folder T) rfl) pa_nil)))))))) (pss_one (ps_ret pe_str)) pss_nil)
      (pss_cons (ps_if (pt_not (pt_val (C8.pe_c (c_is_owner T) hr (by decide) rfl (pa_cons (pe_fld (pv 2) rfl) pa_nil)))) (pss_one (ps_ret pe_str)) pss_nil)
      (pss_cons (ps_if (pt_val (pe_callB call_isi (by rfl) (f_isinstance T) b_isinstance (pa_cons (pv 2) (pa_cons (pe_glob (v := .ref (He.ga K "Folder")) rfl (g_Folder T) rfl) pa_nil)))) (pss_one (ps_ret (C8.pe_c (c_wrong_with_entries T) hr (by decide) rfl (pa_cons (pv 0) (pa_cons (pe_fld (pv 2) rfl) pa_nil))))) pss_nil)
      (pss_cons (ps_if (PW.pt (pw_and (pt_val (pe_callB call_isi (by rfl) (f_isinstance T) b_isinstance (pa_cons (pv 2) (pa_cons (pe_glob (v := .ref (He.ga K "Link")) rfl (g_Link T) rfl) pa_nil)))) (pw_and1 (pt_not (pt_val (C8.pe_c (c_is_path_text T) hr (by decide) rfl (pa_cons (pe_fld (pv 2) rfl) pa_nil))))))) (pss_one (ps_ret pe_str)) pss_nil)
      (pss_cons (ps_if (pt_val (pe_callB call_isi (by rfl) (f_isinstance T) b_isinstance (pa_cons (pv 2) (pa_cons (pe_glob (v := .ref (He.ga K "Gone")) rfl (g_Gone T) rfl) pa_nil)))) (pss_cons (ps_set (i := 3) sc_wrong_with.nd rfl (Or.inl rfl) (pe_fld (pv 2) rfl))
      (pss_cons (ps_if (PW.pt (pw_or (pt_not (pt_val (C8.pe_c (c_is_number T) hr (by decide) rfl (pa_cons (pv 3) pa_nil)))) (pw_or (pt_not (pt_chain op_le op_lt pe_int (pv 3) (pe_callB call_len_seq (by rfl) (f_len T) b_len (pa_cons (pv 0) pa_nil)))) (pw_or1 (pt_cmpR op_eq (pv 3) (pv 1) (nomark _)))))) (pss_one (ps_ret pe_str)) pss_nil)
      (pss_one (ps_ret (pe_ifExp (pt_val (pe_callB call_isiT (by rfl) (f_isinstance T) b_isinstance (pa_cons (pe_ix ix_tup (pv 0) (pv 3) (fun _ _ => rfl)) (pa_cons (pe_tup (pa_cons (pe_glob (v := .ref (He.ga K "Folder")) rfl (g_Folder T) rfl) (pa_cons (pe_glob (v := .ref (He.ga K "Gone")) rfl (g_Gone T) rfl) pa_nil))) pa_nil)))) pe_non pe_str))))) pss_nil)
      (pss_one (ps_ret pe_non)))))))), ?_⟩
    obtain ⟨b, hb, nb⟩ := hT.nds.at2 hn
    refine q_asg (ev_ndT (ev_var rfl) hT (ev_var rfl) hb) fun H1 e1 => ?_
    have nb1 := nb.mono (Ex.i e1)
    refine q_when (b := false) (et_is (et_and (et_test (ev_op (ev_var rfl) ev_c (rv_eq rfl))) fun _ => et_not (et_B (ev_isFol T (ev_var rfl) nb1))) ?_) (fun h => by cases h) fun _ H2 e2 => ?_
    · by_cases hi : i = 0
      · rw [h0 hi]; simp
      · rw [show decide (V.int (i : Int) = .int 0) = decide (i = 0) from int_eq (b := 0), decide_eq_false hi]; rfl
    have nb2 := nb1.mono (Ex.i e2)
    refine q_when (b := false) (et_is (et_not (et_B (ev_call (dvs := []) (ea_cons (ev_owner T (ev_var rfl) nb2) ea_nil) spOwn_v))) rfl) (fun h => by cases h) fun _ H3 e3 => ?_
    have nb3 := nb2.mono (Ex.i e3)
    have hT3 := hT.mono (Ex.i ((e1.trans e2).trans e3))
    cases n with
    | fol o es =>
      refine q_when (b := true) (et_B (ev_isFol T (ev_var rfl) nb3)) (fun _ H4 e4 => ?_) (fun h => by cases h)
      obtain ⟨dx, u, hF, hE⟩ := nb3.mono (Ex.i e4)
      exact s_ret (ev_call (dvs := []) (ea_cons (ev_var rfl) (ea_cons (ev_ents T (ev_var rfl) hF) ea_nil)) (spWWE_v (hT3.mono (Ex.i e4)) hE ok)) fun H5 e5 => k H5 ((((e1.trans e2).trans e3).trans e4).trans e5)
    | fil o =>
      refine q_when (b := false) (et_B (ev_isFol T (ev_var rfl) nb3)) (fun h => by cases h) fun _ H4 e4 => ?_
      refine q_when (b := false) (et_is (et_and (et_B (ev_isLnk T (ev_var rfl) (nb3.mono (Ex.i e4)))) (b := false) fun h => by cases h) rfl) (fun h => by cases h) fun _ H5 e5 => ?_
      refine q_when (b := false) (et_B (ev_isGon T (ev_var rfl) (nb3.mono (Ex.i (e4.trans e5))))) (fun h => by cases h) fun _ H6 e6 => ?_
      exact s_ret ev_c fun H7 e7 => k H7 ((((((e1.trans e2).trans e3).trans e4).trans e5).trans e6).trans e7)
    | lnk o z =>
      refine q_when (b := false) (et_B (ev_isFol T (ev_var rfl) nb3)) (fun h => by cases h) fun _ H4 e4 => ?_
      refine q_when (b := false) (et_is (et_and (et_B (ev_isLnk T (ev_var rfl) (nb3.mono (Ex.i e4)))) fun _ => et_not (et_B (ev_call (dvs := []) (ea_cons (ev_text T (ev_var rfl) (nb3.mono (Ex.i e4))) ea_nil) (spIsText_v (texts_ok z ok))))) rfl) (fun h => by cases h) fun _ H5 e5 => ?_
      refine q_when (b := false) (et_B (ev_isGon T (ev_var rfl) (nb3.mono (Ex.i (e4.trans e5))))) (fun h => by cases h) fun _ H6 e6 => ?_
      exact s_ret ev_c fun H7 e7 => k H7 ((((((e1.trans e2).trans e3).trans e4).trans e5).trans e6).trans e7)
    | gon o g =>
      obtain ⟨hg, hgi, hfg⟩ := ok
      refine q_when (b := false) (et_B (ev_isFol T (ev_var rfl) nb3)) (fun h => by cases h) fun _ H4 e4 => ?_
      refine q_when (b := false) (et_is (et_and (et_B (ev_isLnk T (ev_var rfl) (nb3.mono (Ex.i e4)))) (b := false) fun h => by cases h) rfl) (fun h => by cases h) fun _ H5 e5 => ?_
      refine q_when (b := true) (et_B (ev_isGon T (ev_var rfl) (nb3.mono (Ex.i (e4.trans e5))))) (fun _ H6 e6 => ?_) (fun h => by cases h)
      refine q_asg (ev_above T (ev_var rfl) (nb3.mono (Ex.i ((e4.trans e5).trans e6)))) fun H7 e7 => ?_
      have hT7 := hT3.mono (Ex.i (((e4.trans e5).trans e6).trans e7))
      refine q_when (b := false) (et_is (et_or (et_not (et_B (ev_call (dvs := []) (ea_cons (ev_var rfl) ea_nil) spNum_v))) fun _ => et_or (et_not (et_rngLe (ev_var rfl) (ev_lenT' (ev_var rfl) hT7) hg)) fun _ => et_is (et_test (ev_op (ev_var rfl) (ev_var rfl) (rv_eq rfl))) int_eq) (by rw [decide_eq_false hgi]; rfl)) (fun h => by cases h) fun _ H8 e8 => ?_
      have hT8 := hT7.mono (Ex.i e8)
      obtain ⟨m, hm⟩ : ∃ m, Tr[g]? = some m := ⟨_, List.getElem?_eq_getElem hg⟩
      obtain ⟨c, hc, nc⟩ := hT8.nds.at2 hm
      refine s_ret (v := .non) (ev_if (b := true) (et_B (ev_isiT (us := [.ref (He.ga K "Folder"), .ref (He.ga K "Gone")]) (ev_ndT (ev_var rfl) hT8 (ev_var rfl) hc) (ea_cons ev_c (ea_cons ev_c ea_nil)) (by simp) (.cons (.own _) (.cons (.own _) .nil)) (nc.ty T) ?_)) (fun _ => ev_c) (fun h => by cases h)) fun H9 e9 => k H9 ((((((((e1.trans e2).trans e3).trans e4).trans e5).trans e6).trans e7).trans e8).trans e9)
      rw [isF_nd hm, isG_nd hm] at hfg
      show PySem.W.kitAny K _ _ = some true
      have h1 := kit_fol T m
      have h2 := kit_gon T m
      cases m with
      | fol _ _ => simp only [PySem.W.kitAny, h1, Nd.isFol]
      | gon _ _ => simp only [PySem.W.kitAny, h1, h2, Nd.isFol, Nd.isGon]
      | fil _ => rcases hfg with h | h <;> cases h
      | lnk _ _ => rcases hfg with h | h <;> cases h
end
end NW
set_option maxHeartbeats 4000000
/-! Tree(nodes): check_folders. -/
namespace NW
open PySem PySem.Spec PyProof.Rows L2 Evl
section
variable {K : PySem.W.Frag} {σ : L2.St} {H H' : Hp} {ta tb te tl : TE} {D : Ends} {tu tz : TS} {g : TG} {x : V}
theorem go_op {r : R2} {Q : VK} (ha : Ev ta σ H x) (k : ∀ H1, Ex H H1 → tb σ H1 fun y H2 => r x y H2 Q) : tOp r ta tb σ H Q := ha H (Evl.Ex.refl H) _ k
theorem go_fld {f : Str} {Q : VK} (h : ta σ H fun x H1 => ∃ a C dx fs v, x = .ref a ∧ H1 a = some (.ins C dx fs) ∧ Cls K C ∧ NoAttr K C f ∧ fs.lookup f = some v ∧ Q v H1) : tFld K ta f σ H Q := h
theorem go_pop {l : Addr} {xs : List V} {y : V} {Q : VK} (ha : Ev ta σ H (.ref l)) (hl : H l = some (.lst xs)) (hy : xs[xs.length - 1]? = some y) (k : ∀ H1, Ex H H1 → Q y (upd H1 l (.lst xs.dropLast))) : tBM0 K "list" rPop ta σ H Q :=
  ha H (Evl.Ex.refl H) _ fun H1 e => ⟨Or.inl ⟨rfl, xs, sq_of (e _ _ hl)⟩, l, xs, y, rfl, rfl, e _ _ hl, hy, k H1 e⟩
theorem s_forTe (h : tl σ H fun x H1 => tFor (iTup K (tC x)) g tu D σ H1) : tFor (iTup K tl) g tu D σ H := h
/-- for name, node in the entries -/
theorem s_forEnts {u : Addr} {es : Ents} {i j : Nat} (h : Ev tl σ H (.ref u)) (hE : EntsAt H u es) (Pv : Nat → L2.St → Hp → Prop) (kp : ∀ k σ' H', Pv k σ' H' → ExI H H') (h0 : ∀ H1, Ex H H1 → Pv 0 σ H1)
    (hs : ∀ k e σ' H', es[k]? = some e → Pv k σ' H' → tu { D with nx := Pv (k + 1), ct := Pv (k + 1), bk := D.nx } ((σ'.set i (some (.str e.1))).set j (some (.int (e.2 : Int)))) H') (hd : ∀ σ' H', Pv es.length σ' H' → D.nx σ' H') :
    tFor (iTup K tl) (gTup K 2 (gCons (gName i) (gCons (gName j) gNil))) tu D σ H := by
  obtain ⟨as, hu, pr⟩ := hE
  have hl : (as.map V.ref).length = es.length := by rw [List.length_map, pr.len]
  refine s_forT h (st_of hu) Pv h0 (fun k σ' H' _ p => st_of (kp k σ' H' p _ _ trivial hu)) (fun k x σ' H' hx p => ?_) (fun σ' H' p => hd σ' H' (hl ▸ p))
  rw [List.getElem?_map] at hx
  cases c : as[k]? with
  | none => rw [c] at hx; cases hx
  | some a =>
    rw [c] at hx
    obtain rfl : V.ref a = x := Option.some.inj hx
    obtain ⟨e, he, hv⟩ := pr.at1 c
    exact ⟨a, _, rfl, st_of (kp k σ' H' p _ _ trivial hv), rfl, .str e.1, [.int (e.2 : Int)], rfl, .int (e.2 : Int), [], rfl, rfl, hs k e σ' H' he p⟩
theorem q_forEnts {u : Addr} {es : Ents} {i j : Nat} (h : Ev tl σ H (.ref u)) (hE : EntsAt H u es) (Pv : Nat → L2.St → Hp → Prop) (kp : ∀ k σ' H', Pv k σ' H' → ExI H H') (h0 : ∀ H1, Ex H H1 → Pv 0 σ H1)
    (hs : ∀ k e σ' H', es[k]? = some e → Pv k σ' H' → tu { D with nx := Pv (k + 1), ct := Pv (k + 1), bk := tz D } ((σ'.set i (some (.str e.1))).set j (some (.int (e.2 : Int)))) H') (hd : ∀ σ' H', Pv es.length σ' H' → tz D σ' H') :
    tSeq (tFor (iTup K tl) (gTup K 2 (gCons (gName i) (gCons (gName j) gNil))) tu) tz D σ H := s_forEnts (D := { D with nx := tz D }) h hE Pv kp h0 hs hd
/-- for n in a new list of numbers -/
theorem q_forNats {F : List Nat} {j : Nat} (h : EvL tl σ H (intsV F)) (Pv : Addr → Nat → L2.St → Hp → Prop) (h0 : ∀ p H1, H p = none → Ex H H1 → H1 p = some (.lst (intsV F)) → Pv p 0 σ H1) (hl : ∀ p i σ' H', Pv p i σ' H' → H' p = some (.lst (intsV F)))
    (hs : ∀ (p : Addr) (i f : Nat) (σ' : L2.St) (H' : Hp), F[i]? = some f → Pv p i σ' H' → tu { D with nx := Pv p (i + 1), ct := Pv p (i + 1), bk := tz D } (σ'.set j (some (.int (f : Int)))) H') (hd : ∀ p σ' H', Pv p F.length σ' H' → tz D σ' H') : tSeq (tFor (iList K tl) (gName j) tu) tz D σ H := by
  refine q_forNLn h Pv h0 (fun p i σ' H' _ q => sq_of (hl p i σ' H' q)) (fun p i x σ' H' hx q => ?_) fun p σ' H' q => hd p σ' H' (by rw [show (intsV F).length = F.length from List.length_map ..] at q; exact q)
  rw [List.getElem?_map] at hx
  cases c : F[i]? with
  | none => rw [c] at hx; cases hx
  | some f =>
    rw [c] at hx
    obtain rfl : V.int (f : Int) = x := Option.some.inj hx
    exact hs p i f σ' H' c q
theorem s_forNats {F : List Nat} {j : Nat} (h : EvL tl σ H (intsV F)) (Pv : Addr → Nat → L2.St → Hp → Prop) (h0 : ∀ p H1, H p = none → Ex H H1 → H1 p = some (.lst (intsV F)) → Pv p 0 σ H1) (hl : ∀ p i σ' H', Pv p i σ' H' → H' p = some (.lst (intsV F)))
    (hs : ∀ (p : Addr) (i f : Nat) (σ' : L2.St) (H' : Hp), F[i]? = some f → Pv p i σ' H' → tu { D with nx := Pv p (i + 1), ct := Pv p (i + 1), bk := D.nx } (σ'.set j (some (.int (f : Int)))) H') (hd : ∀ p σ' H', Pv p F.length σ' H' → D.nx σ' H') : tFor (iList K tl) (gName j) tu D σ H :=
  q_forNats (tz := fun D => D.nx) (D := D) h Pv h0 hl hs hd
theorem el_rep {xs : List V} {k : Nat} (ha : EvL ta σ H xs) (hb : ∀ H1, Ex H H1 → Ev tb σ H1 (.int (k : Int))) (hk : k ≤ 100000) (hz : xs.length * k ≤ 100000) : EvL (tOp rRep ta tb) σ H (List.replicate k xs).flatten := fun H1 e Q q =>
  ha H1 e _ fun p H2 hp e2 h2 => hb H2 (e.trans e2) H2 (Evl.Ex.refl H2) _ fun H3 e3 => ⟨p, (k : Int), xs, rfl, rfl, e3 _ _ h2, by omega, by omega, sz_of (by rw [Int.toNat_natCast]; exact hz), fun l hl => by
    rw [Int.toNat_natCast]
    exact q l _ (fresh_back (e2.trans e3) hl) ((e2.trans e3).trans (Evl.Ex.new hl)) upd_same⟩
end
/-! ### a dict of numbers, each True -/
abbrev setD (ms : List Nat) : List (L2.Key × V) := ms.map fun m : Nat => ((Sum.inl (m : Int) : L2.Key), V.bl true)
theorem setD_get (ms : List Nat) (n : Nat) : (valV (setD ms) (Sum.inl (n : Int))).isSome = decide (n ∈ ms) := by
  rw [← valV_any, List.any_map, Bool.eq_iff_iff, List.any_eq_true, decide_eq_true_iff]
  constructor
  · rintro ⟨m, hm, h⟩
    have h : (Sum.inl (m : Int) : L2.Key) = Sum.inl (n : Int) := of_decide_eq_true h
    have h : m = n := Int.ofNat.inj (Sum.inl.inj h)
    exact h ▸ hm
  · exact fun h => ⟨n, h, decide_eq_true rfl⟩
theorem setD_put {ms : List Nat} {n : Nat} (h : n ∉ ms) : putK (setD ms) (Sum.inl (n : Int)) (.bl true) = setD (ms ++ [n]) := by
  have q := setD_get ms n
  rw [decide_eq_false h] at q
  rw [putK_new _ (Option.isNone_iff_eq_none.mp (by rw [← Option.not_isSome, q]; rfl)), setD, setD, List.map_append]
  rfl
section
variable {K : PySem.W.Frag} {σ : L2.St} {H H' : Hp} {ta tb te tl td : TE} {D : Ends} {tu tz : TS} {d : Addr} {ms : List Nat} {n : Nat}
theorem ev_notinD (hy : Ev ta σ H (.int (n : Int))) (hd : Ev td σ H (.ref d)) (h : H d = some (.dK (setD ms))) : Ev (tDNotIn ta td) σ H (.bl (!decide (n ∈ ms))) := fun H1 e Q q =>
  hy H1 e _ fun H2 e2 => hd H2 (e.trans e2) _ fun H3 e3 => ⟨d, _, rfl, DGet.k (k := Sum.inl (n : Int)) (((e.trans e2).trans e3) _ _ h), by rw [setD_get]; exact q H3 (e2.trans e3)⟩
theorem q_putD (hd : Ev td σ H (.ref d)) (hy : Ev ta σ H (.int (n : Int))) (hv : Ev te σ H (.bl true)) (h : H d = some (.dK (setD ms))) (hn : n ∉ ms) (hz : ms.length < 100000) (k : ∀ H1, Ex H H1 → tz D σ (upd H1 d (.dK (setD (ms ++ [n]))))) : tSeq (sDPut td ta te) tz D σ H :=
  hv H (Evl.Ex.refl H) _ fun H1 e1 => hd H1 e1 _ fun H2 e2 => hy H2 (e1.trans e2) _ fun H3 e3 => ⟨d, _, rfl, DPut.k (k := Sum.inl (n : Int)) (((e1.trans e2).trans e3) _ _ h) (sz_lt (by rw [List.length_map]; exact hz)), by
    rw [setD_put hn]
    exact k H3 ((e1.trans e2).trans e3)⟩
end
/-! ### counts -/
def cntV (L : List Nat) (N : Nat) : List V := (List.range N).map fun k => V.int ((L.count k : Nat) : Int)
theorem cntV_nil (N : Nat) : (List.replicate N [V.int 0]).flatten = cntV [] N := by
  unfold cntV
  rw [List.flatten_replicate_singleton]
  refine List.ext_getElem? fun i => ?_
  rw [List.getElem?_map, List.getElem?_replicate]
  by_cases h : i < N
  · rw [if_pos h, List.getElem?_range h]; rfl
  · rw [if_neg h, List.getElem?_eq_none (by rw [List.length_range]; omega)]; rfl
theorem cntV_len (L : List Nat) (N : Nat) : (cntV L N).length = N := by unfold cntV; rw [List.length_map, List.length_range]
theorem cntV_at {L : List Nat} {N n : Nat} (h : n < N) : (cntV L N)[n]? = some (V.int ((L.count n : Nat) : Int)) := by unfold cntV; rw [List.getElem?_map, List.getElem?_range h]; rfl
theorem cntV_set {L : List Nat} {N n : Nat} (h : n < N) : (cntV L N).set n (V.int (((L.count n : Nat) : Int) + 1)) = cntV (L ++ [n]) N := by
  refine List.ext_getElem? fun i => ?_
  rw [List.getElem?_set, cntV_len]
  by_cases hi : i < N
  · rw [cntV_at hi]
    by_cases e : n = i
    · subst e
      rw [if_pos rfl, if_pos hi, cntV_at hi, List.count_append, List.count_singleton_self]
      rfl
    · rw [if_neg e, cntV_at hi, List.count_append, List.count_singleton, if_neg (by simpa using e)]
      rfl
  · rw [List.getElem?_eq_none (l := cntV (L ++ [n]) N) (by rw [cntV_len]; omega), if_neg (by omega), List.getElem?_eq_none (l := cntV L N) (by rw [cntV_len]; omega)]
def outs (T : Tr) (fs : List Nat) : List Nat := fs.flatMap fun f => (ents T f).map (·.2)
theorem outs_count (T : Tr) (n : Nat) : (outs T (fols T)).count n = (entsTo T n).length := by
  unfold outs entsTo
  induction fols T with
  | nil => rfl
  | cons f r ih =>
    rw [List.flatMap_cons, List.flatMap_cons, List.count_append, List.length_append, ih, List.length_map]
    congr 1
    unfold List.count
    rw [List.countP_map, List.countP_eq_length_filter]
    congr 1
/-! ### the walk from the root -/
def bm (N : Nat) (ms ws : List Nat) : Nat := ws.length + 2 * (N - ms.length)
structure Bfs (T : Tr) (ms ws : List Nat) : Prop where
  nd : ms.Nodup
  fol : ∀ m ∈ ms, isF T m = true
  root : 0 ∈ ms
  sub : ∀ x ∈ ws, x ∈ ms
def Clo (T : Tr) (ms : List Nat) (f : Nat) : Prop := ∀ e ∈ ents T f, isF T e.2 = true → e.2 ∈ ms
theorem nodup_le {l : List Nat} (nd : l.Nodup) {N : Nat} (h : ∀ x ∈ l, x < N) : l.length ≤ N := by
  have q := List.Nodup.length_le_of_subset (l₂ := List.range N) nd fun x hx => List.mem_range.mpr (h x hx)
  rw [List.length_range] at q
  exact q
theorem Bfs.le {T : Tr} {ms ws : List Nat} (G : Good T) (b : Bfs T ms ws) : ms.length ≤ T.length := nodup_le b.nd fun x hx => G.lt (b.fol x hx)
theorem Bfs.done {T : Tr} {ms : List Nat} (G : Good T) (b : Bfs T ms []) (cl : ∀ f ∈ ms, Clo T ms f) : ∀ n, isF T n = true → n ∈ ms := by
  obtain ⟨rk, hrk⟩ := G.rk
  intro n
  induction h : rk n using Nat.strongRecOn generalizing n with
  | _ m ih =>
    subst h
    intro hn
    by_cases h0 : n = 0
    · subst h0
      exact b.root
    · obtain ⟨f, nm, _, hf, hm, _⟩ := G.entry hn h0
      exact cl f (ih _ (hrk f nm n hm hn) f rfl hf) (nm, n) hm hn
/-! ### promises -/
def spCF (K : PySem.W.Frag) : Sp := fun vs H Q _ => ∃ (a t : Addr) (as : List Addr) (T : Tr), vs = [.ref a] ∧ TrA K H a t as T ∧ Good T ∧ ∀ H', Ex H H' → Q .non H'
def spTree (K : PySem.W.Frag) : Sp := fun vs H Q _ => ∃ (x dx l : Addr) (as : List Addr) (T : Tr), vs = [.ref x, .ref l] ∧ H x = some (.ins (He.ga K "Tree") dx []) ∧ H l = some (.lst (as.map V.ref)) ∧ Paired (NdAt K H) as T ∧ Good T ∧
  ∀ H' t, Bt x H H' → TrA K H' x t as T → Q .non H'
theorem mkTree {K : PySem.W.Frag} {H : Hp} {l : Addr} {as : List Addr} {T : Tr} (h : H l = some (.lst (as.map V.ref))) (p : Paired (NdAt K H) as T) (G : Good T) : MkP (spTree K) (He.ga K "Tree") [.ref l] H fun x H' => ∃ t, TrA K H' x t as T :=
  fun H1 e x dx hx0 hx Q E k => ⟨x, dx, l, as, T, rfl, hx, e _ _ h, p.mon fun _ _ q => q.mono (Ex.i e), G, fun H' t b r => k H' b ⟨t, r⟩⟩
section
variable {P : Program} {w : World} {K : PySem.W.Frag} {mg : Str → Option Value} {base : Heap}
theorem sc_Tree_check_folders : FnScope ["self", "counts", "index", "name", "node", "met", "waiting"] ["self"] (defScope s_Tree_check_folders) := ⟨rfl, rfl, rfl, by decide +kernel, rfl, by decide +kernel, by decide +kernel⟩
theorem m_Tree_check_folders (T : Txt K mg) : C8.Met P w K mg base 2 (He.ga K "Tree") "check_folders" (spCF K) [] := by
  refine met_of (fd_Tree_check_folders T) (cl_Tree T) (me_Tree_check_folders T) (fun _ _ _ _ _ _ us hl => match us, hl with | [_], _ => rfl) sc_Tree_check_folders (fun vs H Q E h => ?_) (fun cdv A outer s H vs Q E hr h => ?_)
  · obtain ⟨_, _, _, _, rfl, _⟩ := h; rfl
  · obtain ⟨a, t, as, Tr, rfl, hT, G, k⟩ := h
    have hu := hu_of hr
    refine ⟨_, (pss_cons (ps_set (i := 1) sc_Tree_check_folders.nd rfl (Or.inl rfl) (pe_op op_rep (pe_lst (pa_cons pe_int pa_nil)) (pe_callB call_len_seq (by rfl) (f_len T) b_len (pa_cons (pe_fld (pv 0) rfl) pa_nil))))
      (pss_cons (ps_for PassesOwn.never rfl (pi_list (C8.pe_mt0 (m_Tree_folder_numbers T) hr (by decide) (pv 0))) (pg_name (i := 2) sc_Tree_check_folders.nd rfl (Or.inl rfl)) (pss_one (ps_for PassesOwn.never rfl (pi_tup (pe_fld (pe_ix ix_tup (pe_fld (pv 0) rfl) (pv 2) (fun _ _ => rfl)) rfl)) (pg_tup rfl (pgs_cons (pg_name (i := 3) sc_Tree_check_folders.nd rfl (Or.inl rfl)) (pgs_cons (pg_name (i := 4) sc_Tree_check_folders.nd rfl (Or.inl rfl)) pgs_nil))) (pss_one (ps_asg (pe_op op_add (pe_ix ix_list (pv 1) (pv 4) (fun _ _ => rfl)) pe_int) (pg_sub (pv 1) (pv 4) set_list))))))
      (pss_cons (ps_for PassesOwn.never rfl (pi_list (C8.pe_mt0 (m_Tree_folder_numbers T) hr (by decide) (pv 0))) (pg_name (i := 2) sc_Tree_check_folders.nd rfl (Or.inl rfl)) (pss_one (ps_if (PW.pt (pw_and (pt_cmpR op_ne (pv 2) pe_int (nomark _)) (pw_and1 (pt_cmpR op_ne (pe_ix ix_list (pv 1) (pv 2) (fun _ _ => rfl)) pe_int (nomark _))))) (pss_one ps_never) pss_nil)))
      (pss_cons (ps_par (i := 5) (j := 6) rfl sc_Tree_check_folders.nd rfl rfl (by decide) rfl rfl (pa_cons (pe_disp (pps_cons pe_int pe_bl pps_nil) (by rfl) (by rfl) (fun z => by cases z) (by decide)) (pa_cons (pe_lst (pa_cons pe_int pa_nil)) pa_nil)) (by rfl))
      (pss_cons (ps_while PassesOwn.never (pt_cmpR (op_neNilL (hu0_of hr)) (pv 6) (pe_lst pa_nil) (nomark _)) (pss_one (ps_for PassesOwn.never rfl (pi_tup (pe_fld (pe_ix ix_tup (pe_fld (pv 0) rfl) (pe_bm0 PySem.F.plainAttrs_list PySem.F.slot_list_pop PySem.F.type_list_pop mt_pop (pv 6)) (fun _ _ => rfl)) rfl)) (pg_tup rfl (pgs_cons (pg_name (i := 3) sc_Tree_check_folders.nd rfl (Or.inl rfl)) (pgs_cons (pg_name (i := 4) sc_Tree_check_folders.nd rfl (Or.inl rfl)) pgs_nil))) (pss_one (ps_if (PW.pt (pw_and (pt_cmp (pc_dnotin hu (pv 4) (pv 5)) (by first | exact nobehind _ (by decide) (by decide) | rfl)) (pw_and1 (pt_val (pe_callB call_isi (by rfl) (f_isinstance T) b_isinstance (pa_cons (pe_ix ix_tup (pe_fld (pv 0) rfl) (pv 4) (fun _ _ => rfl)) (pa_cons (pe_glob (v := .ref (He.ga K "Folder")) rfl (g_Folder T) rfl) pa_nil))))))) (pss_cons (ps_dput hu (pv 5) (pv 4) pe_bl rfl)
      (pss_one (ps_expr (pe_bm PySem.F.plainAttrs_list PySem.F.slot_list_append PySem.F.type_list_append mt_append (pv 6) (pa_cons (pv 4) pa_nil))))) pss_nil)))))
      (pss_one (ps_for PassesOwn.never rfl (pi_list (C8.pe_mt0 (m_Tree_folder_numbers T) hr (by decide) (pv 0))) (pg_name (i := 2) sc_Tree_check_folders.nd rfl (Or.inl rfl)) (pss_one (ps_if (pt_cmp (pc_dnotin hu (pv 2) (pv 5)) (by first | exact nobehind _ (by decide) (by decide) | rfl)) (pss_one ps_never) pss_nil))))))))), ?_⟩
    have hlen := G.len
    have eF : ∀ (σ : L2.St) (H' : Hp), σ[0]? = some (some (.ref a)) → Ex H H' → ∀ EE : XK, EvL (tMeth (He.ga K "Tree") "folder_numbers" (spFols K) [] EE (tVar 0) tNil) σ H' (intsV (fols Tr)) := fun σ H' h0 e EE => el_fols (mg := mg) (ev_var h0) (hT.mono (Ex.i e)) (by omega)
    refine q_asgL (xs := cntV [] Tr.length) ?_ fun l H1 hl e1 h1 => ?_
    · rw [← cntV_nil]
      exact el_rep (el_lst (ea_cons ev_c ea_nil) (by simp)) (fun H1 e1 => ev_lenNodes T (ev_var rfl) (hT.mono (Ex.i e1))) (by omega) (by rw [List.length_singleton]; omega)
    refine q_forNats (eF _ _ rfl e1 _) (fun p i σ' H' => Ex H H' ∧ H' p = some (.lst (intsV (fols Tr))) ∧ p ≠ l ∧ H' l = some (.lst (cntV (outs Tr ((fols Tr).take i)) Tr.length)) ∧ ∃ x2 x3 x4, σ' = [some (.ref a), some (.ref l), x2, x3, x4, none, none])
      (fun p H2 hp e2 h2 => ⟨e1.trans e2, h2, (fun z => by subst z; rw [h1] at hp; cases hp), e2 _ _ h1, none, none, none, rfl⟩) (fun p i σ' H' q => q.2.1) ?_ ?_
    · rintro p i f σ' H' hf ⟨e, hp, hpl, hc, x2, x3, x4, rfl⟩
      obtain ⟨o, es, hfe⟩ := isF_of (mem_fols.mp (List.mem_of_getElem? hf))
      have hT' := hT.mono (Ex.i e)
      obtain ⟨b, hb, nb⟩ := hT'.nds.at2 hfe
      obtain ⟨dx, te, hF, hE⟩ := id nb
      have hes : ents Tr f = es := ents_of hfe
      have ok := G.nd f _ hfe
      refine s_forEnts (ev_ents T (ev_node T (ev_var rfl) hT' (ev_var rfl) hb) hF) hE (fun j σ' H2 => Ex H H2 ∧ ExI H' H2 ∧ H2 p = some (.lst (intsV (fols Tr))) ∧ H2 l = some (.lst (cntV (outs Tr ((fols Tr).take i) ++ (es.take j).map (·.2)) Tr.length)) ∧ ∃ x2 x3 x4, σ' = [some (.ref a), some (.ref l), x2, x3, x4, none, none])
        (fun _ _ _ q => q.2.1) (fun H2 e2 => ⟨e.trans e2, Ex.i e2, e2 _ _ hp, by rw [List.take_zero, List.map_nil, List.append_nil]; exact e2 _ _ hc, _, _, _, rfl⟩) ?_ ?_
      · rintro j en σ' H2 hen ⟨e2, i2, hp2, hc2, y2, y3, y4, rfl⟩
        obtain ⟨_, _, hlt, _⟩ := ok.ok en (List.mem_of_getElem? hen)
        refine s_setL hc2 (ev_op (ev_op (ev_var rfl) (ev_var rfl) (rv_ixL (sq_of hc2) (atI_nat (cntV_at hlt)))) ev_c rv_I0) (ev_var rfl) (ev_var rfl) (by rw [cntV_len]; exact hlt) fun H3 e3 => ?_
        have hc3 := e3 _ _ hc2
        refine ⟨(e2.trans e3).mut hl, (i2.trans (Ex.i e3)).trans (ExI.lst hc3), by rw [upd_ne hpl]; exact e3 _ _ hp2, ?_, _, _, _, rfl⟩
        rw [upd_same, cntV_set hlt, List.take_succ, hen, List.append_assoc, List.map_append]
        rfl
      · rintro σ' H2 ⟨e2, i2, hp2, hc2, y2, y3, y4, rfl⟩
        refine ⟨e2, hp2, hpl, ?_, _, _, _, rfl⟩
        rw [List.take_length] at hc2
        rw [hc2, List.take_succ, hf]
        unfold outs
        rw [List.flatMap_append]
        show _ = some (HO.lst (cntV (_ ++ List.flatMap _ [f]) _))
        rw [List.flatMap_cons, List.flatMap_nil, List.append_nil, hes]
    · rintro p σ' H2 ⟨e2, _, _, hc2, x2, x3, x4, rfl⟩
      rw [List.take_length] at hc2
      refine q_forNats (eF _ _ rfl e2 _) (fun p i σ' H' => Ex H2 H' ∧ H' p = some (.lst (intsV (fols Tr))) ∧ ∃ x2 x3 x4, σ' = [some (.ref a), some (.ref l), x2, x3, x4, none, none]) (fun p H3 hp e3 h3 => ⟨e3, h3, _, _, _, rfl⟩) (fun p i σ' H' q => q.2.1) ?_ ?_
      · rintro p i f σ' H' hf ⟨e, hp, y2, y3, y4, rfl⟩
        have hff := mem_fols.mp (List.mem_of_getElem? hf)
        have hc' := e _ _ hc2
        refine s_when (b := false) (et_is (et_and (et_test (ev_op (ev_var rfl) ev_c (rv_ne rfl))) fun h0 => et_test (ev_op (ev_op (ev_var rfl) (ev_var rfl) (rv_ixL (sq_of hc') (atI_nat (cntV_at (G.lt hff))))) ev_c (rv_ne rfl))) ?_) (fun h => by cases h) fun _ H3 e3 => ⟨e.trans e3, e3 _ _ hp, _, _, _, rfl⟩
        rw [show decide (V.int (f : Int) = .int 0) = decide (f = 0) from int_eq (b := 0), outs_count]
        by_cases h0 : f = 0
        · rw [decide_eq_true h0]; rfl
        · rw [G.one f hff h0]; simp
      · rintro p σ' H3 ⟨e3, _, y2, y3, y4, rfl⟩
        have e03 := e2.trans e3
        refine q_par2 (P := fun vs H' => ∃ d wt, vs = [.ref d, .ref wt] ∧ H3 d = none ∧ H3 wt = none ∧ d ≠ wt ∧ H' d = some (.dK (setD [0])) ∧ H' wt = some (.lst (intsV [0]))) ?_ fun vs H4 e4 hv => ?_
        · refine eap_cons (R := fun v H' => ∃ d, v = .ref d ∧ H3 d = none ∧ H' d = some (.dK (setD [0]))) (fun H4 e4 Q q p hp => ⟨upd_same, [(Sum.inl 0, .bl true)], rfl, by decide, q _ _ ((Evl.Ex.new hp).mut hp) ⟨p, rfl, fresh_back e4 hp, upd_same⟩⟩) fun v H4 e4 hv => ?_
          obtain ⟨d, rfl, hd, h4⟩ := hv
          refine eap_cons (evl_p (el_lst (ea_cons ev_c ea_nil) (by simp))) fun v H5 e5 hv => ?_
          obtain ⟨wt, rfl, hwt, h5⟩ := hv
          exact eap_nil fun H6 e6 => ⟨d, wt, rfl, hd, fresh_back e4 hwt, (fun z => by subst z; rw [h4] at hwt; cases hwt), (e5.trans e6) _ _ h4, e6 _ _ h5⟩
        · obtain ⟨d, wt, rfl, hd, hwt, hdw, hd4, hw4⟩ := hv
          refine ⟨_, _, rfl, ?_⟩
          refine q_while (fun m σ' H' => ∃ ms ws x2 x3 x4, σ' = [some (.ref a), some (.ref l), x2, x3, x4, some (.ref d), some (.ref wt)] ∧ Ex H3 H' ∧ H' d = some (.dK (setD ms)) ∧ H' wt = some (.lst (intsV ws)) ∧ Bfs Tr ms ws ∧ (∀ f ∈ ms, f ∉ ws → Clo Tr ms f) ∧ bm Tr.length ms ws ≤ 1000 ∧ m = bm Tr.length ms ws)
            (bm Tr.length [0] [0]) ⟨[0], [0], _, _, _, rfl, e4, hd4, hw4, ⟨(by simp), fun m hm => by rw [List.mem_singleton.mp hm]; exact G.root, List.mem_singleton.mpr rfl, fun x hx => hx⟩, fun f hf hn => absurd hf hn, (by unfold bm; simp; omega), rfl⟩ ?_
          rintro m σ' H' ⟨ms, ws, z2, z3, z4, rfl, e, hdm, hww, bf, cl, hm0, rfl⟩
          refine ⟨_, et_test (ev_neNil (ev_var rfl) (sq_of hww)), fun hb H5 e5 => ?_, fun hb H5 e5 => ?_⟩
          · have hne : ws ≠ [] := fun z => by subst z; cases hb
            obtain ⟨ws', f, rfl⟩ : ∃ ws' f, ws = ws' ++ [f] := ⟨ws.dropLast, ws.getLast hne, (List.dropLast_concat_getLast hne).symm⟩
            have hfm : f ∈ ms := bf.sub f (by simp)
            obtain ⟨o, es, hfe⟩ := isF_of (bf.fol f hfm)
            have hT5 := hT.mono (Ex.i ((e03.trans e).trans e5))
            obtain ⟨b, hb', nb⟩ := hT5.nds.at2 hfe
            obtain ⟨dx, te, hF, hE⟩ := id nb
            have hes : ents Tr f = es := ents_of hfe
            have ok := G.nd f _ hfe
            have hw5 := e5 _ _ hww
            have hd5 := e5 _ _ hdm
            refine ⟨fun σ2 H2 => ∃ m', m' < bm Tr.length ms (ws' ++ [f]) ∧ ∃ ms ws x2 x3 x4, σ2 = [some (.ref a), some (.ref l), x2, x3, x4, some (.ref d), some (.ref wt)] ∧ Ex H3 H2 ∧ H2 d = some (.dK (setD ms)) ∧ H2 wt = some (.lst (intsV ws)) ∧ Bfs Tr ms ws ∧ (∀ f ∈ ms, f ∉ ws → Clo Tr ms f) ∧ bm Tr.length ms ws ≤ 1000 ∧ m' = bm Tr.length ms ws,
              fun σ2 H2 q => q, ?_⟩
            refine s_forTe ?_
            have hixe : ixN as.length (f : Int) = some f := ixN_nat (List.getElem?_eq_some_iff.mp hb').1
            have hlast : (intsV (ws' ++ [f]))[(intsV (ws' ++ [f])).length - 1]? = some (.int (f : Int)) := by
              rw [intsV, List.length_map, List.getElem?_map, List.length_append, List.length_singleton, Nat.add_sub_cancel, List.getElem?_append_right (Nat.le_refl _), Nat.sub_self]
              rfl
            refine go_fld (go_op (ev_nodes T (ev_var rfl) hT5) fun H6' e6' => go_pop (l := wt) (ev_var rfl) (e6' _ _ hw5) hlast fun H6 e6'' => ?_)
            have e6 := e6'.trans e6''
            have hw6 := e6 _ _ hw5
            have hd6 := e6 _ _ hd5
            have i6 : ExI H5 (upd H6 wt (.lst (intsV (ws' ++ [f])).dropLast)) := (Ex.i e6).trans (ExI.lst hw6)
            have hT6 := hT5.mono i6
            have hF6 := i6 _ (.ins (He.ga K "Folder") dx (fFol o te)) trivial hF
            refine ⟨t, as.map V.ref, (f : Int), .ref b, rfl, rfl, st_of hT6.tup, atI_nat (by rw [List.getElem?_map, hb']; rfl), b, _, dx, _, .ref te, rfl, hF6, cl_Folder T, na_Folder_entries T, (lk1 (by decide +kernel)).trans lk0, ?_⟩
            have ex6 : Ex H3 (upd H6 wt (.lst (intsV (ws' ++ [f])).dropLast)) := ((e.trans e5).trans e6).mut hwt
            have hdl : (intsV (ws' ++ [f])).dropLast = intsV ws' := by rw [intsV, List.map_append]; exact List.dropLast_concat
            rw [hdl] at i6 ex6 ⊢
            refine s_forEnts ev_c (hE.mono i6) (fun j σ' H' => ExI (upd H6 wt (.lst (intsV ws'))) H' ∧ ∃ ms1 ws1 x2 x3 x4, σ' = [some (.ref a), some (.ref l), x2, x3, x4, some (.ref d), some (.ref wt)] ∧ Ex H3 H' ∧ H' d = some (.dK (setD ms1)) ∧ H' wt = some (.lst (intsV ws1)) ∧ Bfs Tr ms1 ws1 ∧ f ∈ ms1 ∧
                (∀ g ∈ ms1, g ∉ ws1 → g ≠ f → Clo Tr ms1 g) ∧ (∀ e ∈ es.take j, isF Tr e.2 = true → e.2 ∈ ms1) ∧ bm Tr.length ms1 ws1 < bm Tr.length ms (ws' ++ [f])) (fun _ _ _ q => q.1) ?_ ?_ ?_
            · intro H7 e7
              refine ⟨Ex.i e7, ms, ws', _, _, _, rfl, ex6.trans e7, e7 _ _ (by rw [upd_ne hdw]; exact hd6), e7 _ _ upd_same, ⟨bf.nd, bf.fol, bf.root, fun x hx => bf.sub x (by simp [hx])⟩, hfm, fun g hg hgw hgf => cl g hg (by simp [hgw, hgf]), fun e he => by simp at he, ?_⟩
              unfold bm
              rw [List.length_append, List.length_singleton]
              omega
            · rintro j en σ' H7 hen ⟨i7, ms1, ws1, u2, u3, u4, rfl, e7, hd7, hw7, bf1, hf1, cl1, pre, hm⟩
              have hT7 : TrA K H7 a t as Tr := hT.mono (Ex.i (e03.trans e7))
              obtain ⟨_, _, hlt, _⟩ := ok.ok en (List.mem_of_getElem? hen)
              obtain ⟨n2, hn2⟩ : ∃ n, Tr[en.2]? = some n := ⟨_, List.getElem?_eq_getElem hlt⟩
              obtain ⟨b2, hb2, nb2⟩ := hT7.nds.at2 hn2
              have htk : es.take (j + 1) = es.take j ++ [en] := by rw [List.take_succ, hen]; rfl
              refine s_when (et_and (et_test (ev_notinD (ev_var rfl) (ev_var rfl) hd7)) fun _ => et_B (ev_isFol T (ev_node T (ev_var rfl) hT7 (ev_var rfl) hb2) nb2)) (fun hb H8 e8 => ?_) fun hb H8 e8 => ?_
              · simp only [Bool.and_eq_true, Bool.not_eq_true', decide_eq_false_iff_not] at hb
                have hd8 := e8 _ _ hd7
                have hfn : isF Tr en.2 = true := by rw [isF_nd hn2]; exact hb.2
                have hle := bf1.le G
                refine q_putD (ev_var rfl) (ev_var rfl) ev_c hd8 hb.1 (by omega) fun H9 e9 => ?_
                have hd9 := e9 _ _ hd8
                refine s_app (l := wt) (xs := intsV ws1) (by rw [upd_ne hdw.symm]; exact (e8.trans e9) _ _ hw7) (ev_var rfl) (ev_var rfl) ?_ fun H10 e10 => ?_
                · have hle2 : ws1.length < 100000 := by
                    have h1 : bm Tr.length ms1 ws1 < bm Tr.length ms (ws' ++ [f]) := hm
                    have h2 : ws1.length ≤ bm Tr.length ms1 ws1 := Nat.le_add_right _ _
                    omega
                  rw [List.length_map]; exact hle2
                · have hbf : Bfs Tr (ms1 ++ [en.2]) (ws1 ++ [en.2]) := ⟨List.nodup_append.mpr ⟨bf1.nd, (by simp), fun x hx y hy => by rw [List.mem_singleton.mp hy]; exact fun z => hb.1 (z ▸ hx)⟩, fun m hm => by
                      rcases List.mem_append.mp hm with h | h
                      · exact bf1.fol m h
                      · rw [List.mem_singleton.mp h]; exact hfn, List.mem_append_left _ bf1.root, fun x hx => by
                      rcases List.mem_append.mp hx with h | h
                      · exact List.mem_append_left _ (bf1.sub x h)
                      · exact List.mem_append_right _ h⟩
                  have hle2 := hbf.le G
                  rw [List.length_append, List.length_singleton] at hle2
                  refine ⟨?_, ms1 ++ [en.2], ws1 ++ [en.2], _, _, _, rfl, ?_, ?_, ?_, hbf, List.mem_append_left _ hf1, ?_, ?_, ?_⟩
                  · refine (((i7.trans (Ex.i (e8.trans e9))).trans (ExI.dk hd9)).trans (Ex.i e10)).trans (ExI.lst (xs := intsV ws1) ?_)
                    refine e10 _ _ ?_
                    rw [upd_ne hdw.symm]; exact (e8.trans e9) _ _ hw7
                  · exact ((((e7.trans e8).trans e9).mut hd).trans e10).mut hwt
                  · rw [upd_ne hdw]; exact e10 _ _ upd_same
                  · rw [upd_same, intsV, intsV, List.map_append]; rfl
                  · intro g hg hgw hgf en' he' hf'
                    rcases List.mem_append.mp hg with h | h
                    · exact List.mem_append_left _ (cl1 g h (fun z => hgw (List.mem_append_left _ z)) hgf en' he' hf')
                    · exact absurd (List.mem_append_right _ h) hgw
                  · intro e' he' hf'
                    rw [htk] at he'
                    rcases List.mem_append.mp he' with h | h
                    · exact List.mem_append_left _ (pre e' h hf')
                    · rw [List.mem_singleton.mp h]; exact List.mem_append_right _ (List.mem_singleton.mpr rfl)
                  · unfold bm at hm ⊢
                    simp only [List.length_append, List.length_singleton] at hm ⊢
                    omega
              · refine ⟨i7.trans (Ex.i e8), ms1, ws1, _, _, _, rfl, e7.trans e8, e8 _ _ hd7, e8 _ _ hw7, bf1, hf1, cl1, fun e' he' hf' => ?_, hm⟩
                rw [htk] at he'
                rcases List.mem_append.mp he' with h | h
                · exact pre e' h hf'
                · rw [List.mem_singleton.mp h] at hf' ⊢
                  rw [isF_nd hn2] at hf'
                  rw [hf', Bool.and_true, Bool.not_eq_false', decide_eq_true_eq] at hb
                  exact hb
            · rintro σ' H7 ⟨i7, ms1, ws1, u2, u3, u4, rfl, e7, hd7, hw7, bf1, hf1, cl1, pre, hm⟩
              refine ⟨_, hm, ms1, ws1, _, _, _, rfl, e7, hd7, hw7, bf1, fun g hg hgw => ?_, by omega, rfl⟩
              by_cases hgf : g = f
              · subst hgf
                intro e' he' hf'
                rw [hes] at he'
                exact pre e' (by rw [List.take_length]; exact he') hf'
              · exact cl1 g hg hgw hgf
          · have hws : ws = [] := by
              cases ws with
              | nil => rfl
              | cons x r => cases hb
            subst hws
            have all := bf.done G fun f hf => cl f hf (by simp)
            refine s_forNats (eF _ _ rfl ((e03.trans e).trans e5) _) (fun p i σ' H' => Ex H5 H' ∧ H' p = some (.lst (intsV (fols Tr))) ∧ ∃ x2 x3 x4, σ' = [some (.ref a), some (.ref l), x2, x3, x4, some (.ref d), some (.ref wt)]) (fun p H6 hp e6 h6 => ⟨e6, h6, _, _, _, rfl⟩) (fun p i σ' H' q => q.2.1) ?_ ?_
            · rintro p i f σ' H6 hf ⟨e6, hp, v2, v3, v4, rfl⟩
              refine s_when (b := false) (et_is (et_test (ev_notinD (ev_var rfl) (ev_var rfl) ((e5.trans e6) _ _ hdm))) ?_) (fun h => by cases h) fun _ H7 e7 => ⟨e6.trans e7, e7 _ _ hp, _, _, _, rfl⟩
              rw [decide_eq_true (all f (mem_fols.mp (List.mem_of_getElem? hf)))]
              rfl
            · rintro p σ' H6 ⟨e6, hp, v2, v3, v4, rfl⟩
              exact k H6 (((e03.trans e).trans e5).trans e6)
theorem sc_Tree_init : FnScope ["self", "nodes", "index", "why"] ["self", "nodes"] (defScope s_Tree_init) := ⟨rfl, rfl, rfl, by decide +kernel, rfl, by decide +kernel, by decide +kernel⟩
theorem k_Tree (T : Txt K mg) : C8.Mak P w K mg base 7 "Tree" (He.ga K "Tree") (spTree K) [] := by
  refine mak_of (fd_Tree_init T) (mk_Tree T) (g_Tree T) (fun _ _ _ _ _ _ us hl => match us, hl with | [_, _], _ => rfl) sc_Tree_init (fun vs H Q E h => ?_) (fun cdv A outer s H vs Q E hr h => ?_)
  · obtain ⟨_, _, _, _, _, rfl, _⟩ := h; rfl
  · obtain ⟨x, dx, l, as, Tr, rfl, hx, hl, pr, G, k⟩ := h
    refine ⟨_, (pss_cons (ps_fld (pv 0) (pe_callTy call_tuple_of (by rfl) (f_tuple T) b_tuple (pa_cons (pv 1) pa_nil)) rfl)
      (pss_cons (ps_if (pt_cmpR (op_eqNilT (hu0_of hr)) (pe_fld (pv 0) rfl) (pe_tup pa_nil) (nomark _)) (pss_one ps_never) pss_nil)
      (pss_cons (ps_for PassesOwn.never rfl (pi_range1 rfl (f_range T) (pa_cons (pe_callB call_len_seq (by rfl) (f_len T) b_len (pa_cons (pe_fld (pv 0) rfl) pa_nil)) pa_nil)) (pg_name (i := 2) sc_Tree_init.nd rfl (Or.inl rfl)) (pss_cons (ps_set (i := 3) sc_Tree_init.nd rfl (Or.inl rfl) (C8.pe_c (c_wrong_with T) hr (by decide) rfl (pa_cons (pe_fld (pv 0) rfl) (pa_cons (pv 2) pa_nil))))
      (pss_one (ps_if (pt_cmpR op_notN (pv 3) pe_non (nomark _)) (pss_one ps_never) pss_nil))))
      (pss_one (ps_expr (C8.pe_mt0 (m_Tree_check_folders T) hr (by decide) (pv 0))))))), ?_⟩
    have hlen := G.len
    have hpos := G.pos
    refine q_fld hx put0 (evu_p (eu_tupOf (ev_var rfl) (sq_of hl))) rfl (cl_Tree T) (na_Tree_nodes T) rfl fun v H1 e1 r1 => ?_
    obtain ⟨t, rfl, ht, h1⟩ := r1
    have b1 := (Ex.bt (l := x) e1).trans (Bt.upd (o := .ins (He.ga K "Tree") dx [("nodes", .ref t)]))
    have i1 := b1.exI fun u hu => by rw [hx] at hu; cases hu; exact id
    have htx : t ≠ x := fun z => by subst z; rw [hx] at ht; cases ht
    have hT : TrA K (upd H1 x (.ins (He.ga K "Tree") dx [("nodes", .ref t)])) x t as Tr := ⟨⟨dx, upd_same⟩, by rw [upd_ne htx]; exact h1, pr.mon fun _ _ q => q.mono i1⟩
    have hN := hT.nd
    refine q_when (b := false) (et_is (et_test (ev_eqNilT (ev_nodes T (ev_var rfl) hT) (st_of hT.tup))) ?_) (fun h => by cases h) fun _ H2 e2 => ?_
    · have : as.length = Tr.length := pr.len
      cases as with
      | nil => rw [← this] at hpos; exact absurd hpos (Nat.lt_irrefl _)
      | cons _ _ => rfl
    refine q_forR1 (n := (Tr.length : Int)) (ea_cons (ev_lenNodes T (ev_var rfl) (hT.mono (Ex.i e2))) ea_nil) (by omega) (fun i σ' H' => Ex (upd H1 x (.ins (He.ga K "Tree") dx [("nodes", .ref t)])) H' ∧ ∃ x2 x3, σ' = [some (.ref x), some (.ref l), x2, x3]) (fun H3 e3 => ⟨e2.trans e3, none, none, rfl⟩) ?_ ?_
    · rintro i σ' H3 hi ⟨e3, x2, x3, rfl⟩
      have hi' : i < Tr.length := by omega
      have hn := List.getElem?_eq_getElem hi'
      have hT3 := hT.mono (Ex.i e3)
      refine q_asg (ev_call (dvs := []) (ea_cons (ev_nodes T (ev_var rfl) hT3) (ea_cons (ev_var rfl) ea_nil)) (spWW_v hT3.nd hn (G.nd i _ hn) fun z => by
        have hr0 := G.root
        subst z
        rw [isF_nd hn] at hr0
        exact hr0)) fun H4 e4 => ?_
      refine s_when (b := false) (et_is (et_test (ev_notN (ev_var rfl))) rfl) (fun h => by cases h) fun _ H5 e5 => ⟨(e3.trans e4).trans e5, _, _, rfl⟩
    · rintro σ' H3 ⟨e3, x2, x3, rfl⟩
      obtain ⟨dx', ho⟩ := (hT.mono (Ex.i e3)).ob
      refine s_drop (ev_meth (ev_var rfl) ho rfl ea_nil (z := .non) fun H4 e4 Q q E => ⟨x, t, as, Tr, rfl, hT.mono (Ex.i (e3.trans e4)), G, q⟩) fun H4 e4 => ?_
      exact k H4 t ((b1.trans_ex e3).trans_ex e4) (hT.mono (Ex.i (e3.trans e4)))
end
end NW
set_option maxHeartbeats 4000000
/-! A move, in plain Lean. -/
namespace NW
open PySem
def setEs (T : Tr) (f : Nat) (es : Ents) : Tr := match T[f]? with
  | some (.fol o _) => T.set f (.fol o es)
  | _ => T
def delE (es : Ents) (old : Str) : Ents := es.filter fun e => !decide (e.1 = old)
def addE (es : Ents) (q : Str) (n : Nat) : Ents := sortE (es ++ [(q, n)])
def moveT (T : Tr) (f : Nat) (old : Str) (g : Nat) (q : Str) (n : Nat) : Tr :=
  setEs (setEs T f (delE (ents T f) old)) g (addE (ents (setEs T f (delE (ents T f) old)) g) q n)
/-- a move that is told by its node: the entry stands, the new name is free -/
structure MvOk (T : Tr) (F : List Nat) (f : Nat) (old : Str) (g : Nat) (q : Str) (n : Nat) : Prop where
  ff : isF T f = true
  gf : isF T g = true
  FF : ∀ x ∈ F, isF T x = true
  Fl : F.length ≤ 100
  fF : f ∈ F
  gF : g ∈ F
  hn : (old, n) ∈ ents T f
  nok : NameOk old
  qok : NameOk q
  fresh : ∀ e ∈ ents T g, e.1 ≠ q
  nF : isF T n = true → n ∈ F
theorem setEs_fol {T : Tr} {f o : Nat} {es es' : Ents} (h : T[f]? = some (.fol o es)) : setEs T f es' = T.set f (.fol o es') := by unfold setEs; rw [h]
theorem setEs_at {T : Tr} {f o : Nat} {es es' : Ents} (h : T[f]? = some (.fol o es)) : (setEs T f es')[f]? = some (.fol o es') := by
  rw [setEs_fol h, List.getElem?_set_self (List.getElem?_eq_some_iff.mp h).1]
theorem setEs_ne {T : Tr} {f g : Nat} {es : Ents} (h : f ≠ g) : (setEs T f es)[g]? = T[g]? := by
  unfold setEs
  split
  · rw [List.getElem?_set_ne h]
  · rfl
theorem setEs_len (T : Tr) (f : Nat) (es : Ents) : (setEs T f es).length = T.length := by
  unfold setEs
  split
  · rw [List.length_set]
  · rfl
theorem setEs_fol2 {T : Tr} {f g o : Nat} {es es' : Ents} (hg : isF T g = true) (h : T[g]? = some (.fol o es)) : ∃ es2, (setEs T f es')[g]? = some (.fol o es2) := by
  by_cases e : f = g
  · subst e
    exact ⟨_, setEs_at h⟩
  · rw [setEs_ne e]
    exact ⟨_, h⟩
theorem setEs_isF (T : Tr) (f g : Nat) (es : Ents) : isF (setEs T f es) g = isF T g := by
  by_cases e : f = g
  · subst e
    cases h : T[f]? with
    | none => unfold setEs; rw [h]
    | some n =>
      cases n with
      | fol o es' => rw [isF_at (setEs_at h), isF_at h]
      | _ => unfold setEs; rw [h]
  · unfold isF
    rw [setEs_ne e]
theorem setEs_isG (T : Tr) (f g : Nat) (es : Ents) : isG (setEs T f es) g = isG T g := by
  by_cases e : f = g
  · subst e
    cases h : T[f]? with
    | none => unfold setEs; rw [h]
    | some n =>
      cases n with
      | fol o es' => rw [isG_nd (setEs_at h), isG_nd h]; rfl
      | _ => unfold setEs; rw [h]
  · unfold isG
    rw [setEs_ne e]
theorem setEs_ents {T : Tr} {f : Nat} (es : Ents) (hf : isF T f = true) : ents (setEs T f es) f = es := by
  obtain ⟨o, es', h⟩ := isF_of hf
  exact ents_of (setEs_at h)
theorem setEs_ents_ne {T : Tr} {f g : Nat} (es : Ents) (h : f ≠ g) : ents (setEs T f es) g = ents T g := by
  unfold ents
  rw [setEs_ne h]
theorem delE_srt {es : Ents} {old : Str} (h : SrtE es) : SrtE (delE es old) := List.Pairwise.filter _ h
theorem delE_self {es : Ents} {old : Str} (h : SrtE es) : sortE (delE es old) = delE es old := (sortE_eq (.refl _) (delE_srt h)).symm
theorem mem_delE {es : Ents} {old : Str} {e : Str × Nat} : e ∈ delE es old ↔ e ∈ es ∧ e.1 ≠ old := by
  unfold delE
  rw [List.mem_filter]
  simp
theorem add_once {es : Ents} {q : Str} {n : Nat} (h : NamesOnce es) (hq : ∀ e ∈ es, e.1 ≠ q) : NamesOnce (es ++ [(q, n)]) := by
  unfold NamesOnce
  rw [List.map_append]
  refine List.nodup_append.mpr ⟨h, by simp, fun a ha b hb z => ?_⟩
  obtain ⟨e, he, rfl⟩ := List.mem_map.mp ha
  obtain rfl : b = q := by simpa using hb
  exact hq e he z
theorem addE_srt {es : Ents} {q : Str} {n : Nat} (h : NamesOnce es) (hq : ∀ e ∈ es, e.1 ≠ q) : SrtE (addE es q n) := sortE_srt (add_once h hq)
theorem mem_addE {es : Ents} {q : Str} {n : Nat} {e : Str × Nat} : e ∈ addE es q n ↔ e ∈ es ∨ e = (q, n) := by
  unfold addE
  rw [(sortE_perm _).mem_iff, List.mem_append, List.mem_singleton]
/-- the move's nodes -/
theorem mv_ents {T : Tr} {f g n : Nat} {old q : Str} (ff : isF T f = true) (gf : isF T g = true) (x : Nat) :
    ents (moveT T f old g q n) x = if x = g then addE (if g = f then delE (ents T f) old else ents T g) q n else if x = f then delE (ents T f) old else ents T x := by
  unfold moveT
  have gf' : isF (setEs T f (delE (ents T f) old)) g = true := by rw [setEs_isF]; exact gf
  by_cases h : x = g
  · subst h
    rw [if_pos rfl, setEs_ents _ gf']
    by_cases k : x = f
    · subst k
      rw [if_pos rfl, setEs_ents _ ff]
    · rw [if_neg k, setEs_ents_ne _ (fun z => k z.symm)]
  · rw [if_neg h, setEs_ents_ne _ (fun z => h z.symm)]
    by_cases k : x = f
    · subst k
      rw [if_pos rfl, setEs_ents _ ff]
    · rw [if_neg k, setEs_ents_ne _ (fun z => k z.symm)]
theorem mv_isF (T : Tr) (f g n : Nat) (old q : Str) (x : Nat) : isF (moveT T f old g q n) x = isF T x := by
  unfold moveT
  rw [setEs_isF, setEs_isF]
theorem mv_isG (T : Tr) (f g n : Nat) (old q : Str) (x : Nat) : isG (moveT T f old g q n) x = isG T x := by
  unfold moveT
  rw [setEs_isG, setEs_isG]
theorem mv_len (T : Tr) (f g n : Nat) (old q : Str) : (moveT T f old g q n).length = T.length := by
  unfold moveT
  rw [setEs_len, setEs_len]
end NW
set_option maxHeartbeats 4000000
/-! Deeds: Move, Others, wrong_deed, done, may. -/
namespace NW
open PySem PySem.Spec PyProof.Rows L2 Evl
/-- what no run comes to -/
theorem pe_dead {X : Cx} {e : Expr} : PE X e (fun _ _ _ => False) := ⟨fun pins s σ H Q I h => h.elim⟩
section
variable {K : PySem.W.Frag} {σ : L2.St} {H H' : Hp} {ta tb te tl : TE} {tr : TA} {D : Ends} {tu tz : TS} {x : V}
theorem elp_prs1 {wi : TI} {tt : TT} {vs : List Nat} {i : Nat} {es : Ents} (h : Wk wi σ H es.length (PrOf es)) (hz : es.length ≤ 40000) (f : Str × Nat → Bool) (R : Str × Nat → V → Hp → Prop)
    (hm : ∀ e v H H', ExI H H' → R e v H → R e v H') (hw : ∀ a, wipe ((wipe σ vs).set i (some a)) vs = wipe σ vs)
    (ht : ∀ e ∈ es, ∀ a H1, Ex H H1 → entV a H1 e → EvT tt ((wipe σ vs).set i (some (.ref a))) H1 (f e))
    (he : ∀ e ∈ es, ∀ a H1, Ex H H1 → entV a H1 e → f e = true → EvP te ((wipe σ vs).set i (some (.ref a))) H1 (R e)) :
    EvLP (tLc wi (gName i) tt te vs) σ H fun ys H' => Paired (fun e y => R e y H') (es.filter f) ys := by
  have q := comp_gen (te := te) (tt := tt) (g := gName i) (vs := vs) h hz (fun k => match es[k]? with | some e => f e | none => false) (fun k => optR R es[k]?)
    (fun k v H1 H2 e r => by
      cases c : es[k]? with
      | none => rw [c] at r; exact r
      | some x => rw [c] at r; exact hm x v H1 H2 e r)
    (fun k x H1 hi e1 it Q q => by
      obtain ⟨a, e, rfl, hek, hv⟩ := it
      have hm : e ∈ es := List.mem_of_getElem? hek
      refine q _ H1 (Evl.Ex.refl H1) (hw _) ?_ fun hf => ?_
      · simp only [hek]
        exact ht e hm a H1 e1 hv
      · simp only [hek] at hf ⊢
        exact he e hm a H1 e1 hv hf)
  exact EvLP.imp q fun ys H' r => kept_pr (fun k e c => by simp only [c]) r
theorem s_setLP {l : Addr} {xs : List V} {i j k : Nat} {R : V → Hp → Prop} (hl : H l = some (.lst xs)) (h : EvP te σ H R) (hi : σ[i]? = some (some (.ref l))) (hj : σ[j]? = some (some (.int (k : Int)))) (hk : k < xs.length)
    (kk : ∀ v H1, Ex H H1 → R v H1 → D.nx σ (upd H1 l (.lst (xs.set k v)))) : tAsg te (gSub (tVar i) (tVar j) rSetL) D σ H := h H (Evl.Ex.refl H) _ fun v H1 e1 r =>
  ⟨_, hi, _, hj, l, xs, (k : Int), k, rfl, rfl, e1 _ _ hl, ixN_nat hk, kk v H1 e1 r⟩
/-- two tuples, one after the other -/
theorem eu_cat {xs ys : List V} {p : Addr} (ha : Ev ta σ H (.ref p)) (hp : H p = some (.tup xs)) (hb : EvU tb σ H ys) (hz : xs.length + ys.length ≤ 100000) : EvP (tOp (rCatA K) ta tb) σ H fun v H' => ∃ q, v = .ref q ∧ H' q = some (.tup (xs ++ ys)) := fun H1 e Q q =>
  ha H1 e _ fun H2 e2 => hb H2 (e.trans e2) _ fun b H3 hb e3 h3 => by
    have hp3 := ((e.trans e2).trans e3) _ _ hp
    refine ⟨p, b, xs, ys, rfl, rfl, st_of hp3, st_of h3, sz_of hz, fun z => ?_, fun _ z => ?_, fun _ _ l hl => ?_⟩
    · subst z
      exact q _ H3 (e2.trans e3) ⟨b, rfl, h3⟩
    · subst z
      exact q _ H3 (e2.trans e3) ⟨p, rfl, by rw [List.append_nil]; exact hp3⟩
    · exact q _ _ ((e2.trans e3).trans (Evl.Ex.new hl)) ⟨l, rfl, upd_same⟩
theorem evp_opRP {r : R2} {R R' : V → Hp → Prop} (ha : Ev ta σ H x) (hb : EvP tb σ H R) (k : ∀ y H1, Ex H H1 → R y H1 → ∀ Q : VK, (∀ v H2, Ex H1 H2 → R' v H2 → Q v H2) → r x y H1 Q) : EvP (tOp r ta tb) σ H R' := fun H1 e Q q =>
  ha H1 e _ fun H2 e2 => hb H2 (e.trans e2) _ fun y H3 e3 hy => k y H3 ((e.trans e2).trans e3) hy Q fun v H4 e4 r => q v H4 ((e2.trans e3).trans e4) r
theorem eup_tup {P : List V → Hp → Prop} (h : EvAP tr σ H P) (hl : ∀ vs H1, P vs H1 → vs.length ≤ 100000) (hm : ∀ vs H1 H2, Ex H1 H2 → P vs H1 → P vs H2) : EvP (tTup tr) σ H fun v H' => ∃ p vs, v = .ref p ∧ H' p = some (.tup vs) ∧ P vs H' := fun H1 e Q q =>
  h H1 e _ fun vs H2 e2 hp => ⟨sz_of (hl vs H2 hp), fun p hp2 => q _ _ (e2.trans (Evl.Ex.new hp2)) ⟨p, vs, rfl, upd_same, hm _ _ _ (Evl.Ex.new hp2) hp⟩⟩
end
theorem pr_set {α β : Type} {F : α → β → Prop} : ∀ {xs : List α} {ys : List β} {i : Nat} {a : α} {b : β}, Paired F xs ys → F a b → Paired F (xs.set i a) (ys.set i b)
  | _, _, _, _, _, .nil, _ => .nil
  | _, _, 0, _, _, .cons r t, h => .cons h t
  | _, _, i + 1, _, _, .cons r t, h => .cons r (pr_set t h)
/-! ### promises -/
def spMove (K : PySem.W.Frag) : Sp := fun vs H Q _ => ∃ (x dx : Addr) (f g : Nat) (n q : Str), vs = [.ref x, .int (f : Int), .str n, .int (g : Int), .str q] ∧ H x = some (.ins (He.ga K "Move") dx []) ∧ ∀ H', Bt x H H' → MovAt K H' x f n g q → Q .non H'
theorem mkMove {K : PySem.W.Frag} {H : Hp} {f g : Nat} {n q : Str} : MkP (spMove K) (He.ga K "Move") [.int (f : Int), .str n, .int (g : Int), .str q] H fun x H' => MovAt K H' x f n g q := fun H1 e x dx hx0 hx Q E k => ⟨x, dx, f, g, n, q, rfl, hx, k⟩
def spOthers (K : PySem.W.Frag) : Sp := fun vs H Q _ => ∃ (x dx l : Addr) (o : Nat) (F : List Nat), vs = [.ref x, .int (o : Int), .ref l] ∧ H x = some (.ins (He.ga K "Others") dx []) ∧ H l = some (.lst (intsV F)) ∧ ∀ H', Bt x H H' → OthAt K H' x o F → Q .non H'
theorem mkOthers {K : PySem.W.Frag} {H : Hp} {o : Nat} {l : Addr} {F : List Nat} (h : H l = some (.lst (intsV F))) : MkP (spOthers K) (He.ga K "Others") [.int (o : Int), .ref l] H fun x H' => OthAt K H' x o F := fun H1 e x dx hx0 hx Q E k => ⟨x, dx, l, o, F, rfl, hx, e _ _ h, k⟩
def spMade (K : PySem.W.Frag) : Sp := fun vs H Q _ => ∃ (d : Addr) (f g : Nat) (n q : Str), vs = [.ref d] ∧ MovAt K H d f n g q ∧ ∀ H', Ex H H' → Q .non H'
def spWN (K : PySem.W.Frag) : Sp := fun vs H Q _ => ∃ (a d t : Addr) (as : List Addr) (T : Tr) (f g : Nat) (n q : Str), vs = [.ref a, .ref d] ∧ TrA K H a t as T ∧ MovAt K H d f n g q ∧ isF T f = true ∧ isF T g = true ∧ NameOk n ∧ NameOk q ∧ ∀ H', Ex H H' → Q .non H'
def belowV (b : Bool) : V := if b then .str "below" else .non
/-- whether the move would put a folder below itself -/
def Deep (T : Tr) (n g : Nat) (b : Bool) : Prop := b = true ↔ (isF T n = true ∧ Below T n g)
def spWM (K : PySem.W.Frag) : Sp := fun vs H Q _ => ∃ (a d t : Addr) (as : List Addr) (T : Tr) (F : List Nat) (f g m : Nat) (n q : Str) (b : Bool), vs = [.ref a, .ref d, .int (m : Int)] ∧ TrA K H a t as T ∧ MovAt K H d f n g q ∧ Good T ∧ MvOk T F f n g q m ∧ Deep T m g b ∧ ∀ H', Ex H H' → Q (belowV b) H'
def spWD (K : PySem.W.Frag) : Sp := fun vs H Q _ => ∃ (a d t : Addr) (as : List Addr) (T : Tr) (F : List Nat) (f g m : Nat) (n q : Str) (b : Bool), vs = [.ref a, .ref d] ∧ TrA K H a t as T ∧ MovAt K H d f n g q ∧ Good T ∧ MvOk T F f n g q m ∧ Deep T m g b ∧ ∀ H', Ex H H' → Q (belowV b) H'
theorem spWD_v {K : PySem.W.Frag} {H : Hp} {a d t : Addr} {as : List Addr} {T : Tr} {F : List Nat} {f g m : Nat} {n q : Str} {b : Bool} (hT : TrA K H a t as T) (hd : MovAt K H d f n g q) (G : Good T) (ok : MvOk T F f n g q m) (hb : Deep T m g b) :
    SpV (spWD K) [.ref a, .ref d] H (belowV b) := fun H1 e Q q' E => ⟨a, d, t, as, T, F, f, g, m, n, q, b, rfl, hT.mono (Ex.i e), hd.mono (Ex.i e), G, ok, hb, q'⟩
/-- one folder's entries are new -/
def spWithE (K : PySem.W.Frag) : Sp := fun vs H Q _ => ∃ (l : Addr) (as : List Addr) (T : Tr) (f o n : Nat) (es : Ents) (q : Str), vs = [.ref l, .int (f : Int), .str q, .int (n : Int)] ∧ H l = some (.lst (as.map V.ref)) ∧ Paired (NdAt K H) as T ∧ T[f]? = some (.fol o es) ∧
  NamesOnce (es ++ [(q, n)]) ∧ es.length < 63 ∧ ∀ H' as', Bt l H H' → H' l = some (.lst (as'.map V.ref)) → Paired (NdAt K H') as' (setEs T f (addE es q n)) → (∀ i, i ≠ f → as'[i]? = as[i]?) → Q .non H'
def spWithoutE (K : PySem.W.Frag) : Sp := fun vs H Q _ => ∃ (l : Addr) (as : List Addr) (T : Tr) (f o : Nat) (es : Ents) (q : Str), vs = [.ref l, .int (f : Int), .str q] ∧ H l = some (.lst (as.map V.ref)) ∧ Paired (NdAt K H) as T ∧ T[f]? = some (.fol o es) ∧
  SrtE es ∧ es.length < 64 ∧ ∀ H' as', Bt l H H' → H' l = some (.lst (as'.map V.ref)) → Paired (NdAt K H') as' (setEs T f (delE es q)) → (∀ i, i ≠ f → as'[i]? = as[i]?) → Q .non H'
def spDone (K : PySem.W.Frag) : Sp := fun vs H Q _ => ∃ (a d t : Addr) (as : List Addr) (T : Tr) (F : List Nat) (f g m : Nat) (n q : Str), vs = [.ref a, .ref d] ∧ TrA K H a t as T ∧ MovAt K H d f n g q ∧ Good T ∧ MvOk T F f n g q m ∧ ¬ (isF T m = true ∧ Below T m g) ∧ Good (moveT T f n g q m) ∧
  ∀ H' x t2 as2, Ex H H' → TrA K H' x t2 as2 (moveT T f n g q m) → (∀ i, i ≠ f → i ≠ g → as2[i]? = as[i]?) → Q (.ref x) H'
theorem spDone_p {K : PySem.W.Frag} {H : Hp} {a d t : Addr} {as : List Addr} {T : Tr} {F : List Nat} {f g m : Nat} {n q : Str} (hT : TrA K H a t as T) (hd : MovAt K H d f n g q) (G : Good T) (ok : MvOk T F f n g q m) (hb : ¬ (isF T m = true ∧ Below T m g)) (G2 : Good (moveT T f n g q m)) :
    SpP (spDone K) [.ref a, .ref d] H fun v H' => ∃ x t2 as2, v = .ref x ∧ TrA K H' x t2 as2 (moveT T f n g q m) ∧ ∀ i, i ≠ f → i ≠ g → as2[i]? = as[i]? := fun H1 e Q q' E => ⟨a, d, t, as, T, F, f, g, m, n, q, rfl, hT.mono (Ex.i e), hd.mono (Ex.i e), G, ok, hb, G2, fun H' x t2 as2 e2 h h2 => q' _ H' e2 ⟨x, t2, as2, rfl, h, h2⟩⟩
def spChkO (K : PySem.W.Frag) : Sp := fun vs H Q _ => ∃ (a ob t : Addr) (as : List Addr) (T : Tr) (o : Nat) (F : List Nat), vs = [.ref a, .ref ob] ∧ TrA K H a t as T ∧ OthAt K H ob o F ∧ (∀ x ∈ F, isF T x = true) ∧ ∀ H', Ex H H' → Q .non H'
theorem spChkO_v {K : PySem.W.Frag} {H : Hp} {a ob t : Addr} {as : List Addr} {T : Tr} {o : Nat} {F : List Nat} (hT : TrA K H a t as T) (ho : OthAt K H ob o F) (h : ∀ x ∈ F, isF T x = true) : SpV (spChkO K) [.ref a, .ref ob] H .non := fun H1 e Q q E => ⟨a, ob, t, as, T, o, F, rfl, hT.mono (Ex.i e), ho.mono (Ex.i e), h, q⟩
def spAllow (K : PySem.W.Frag) : Sp := fun vs H Q _ => ∃ (a ob d t : Addr) (as : List Addr) (T : Tr) (o : Nat) (F : List Nat) (f g m : Nat) (n q : Str), vs = [.ref a, .ref ob, .ref d] ∧ TrA K H a t as T ∧ OthAt K H ob o F ∧ MovAt K H d f n g q ∧ Good T ∧ MvOk T F f n g q m ∧ ∀ H', Ex H H' → Q (.bl true) H'
def spMay (K : PySem.W.Frag) : Sp := fun vs H Q _ => ∃ (a ob d t : Addr) (as : List Addr) (T : Tr) (o : Nat) (F : List Nat) (f g m : Nat) (n q : Str) (b : Bool), vs = [.ref a, .ref ob, .ref d] ∧ TrA K H a t as T ∧ OthAt K H ob o F ∧ MovAt K H d f n g q ∧ Good T ∧ MvOk T F f n g q m ∧ Deep T m g b ∧
  ∀ H', Ex H H' → Q (.bl (!b)) H'
theorem spMay_v {K : PySem.W.Frag} {H : Hp} {a ob d t : Addr} {as : List Addr} {T : Tr} {o : Nat} {F : List Nat} {f g m : Nat} {n q : Str} {b : Bool} (hT : TrA K H a t as T) (ho : OthAt K H ob o F) (hd : MovAt K H d f n g q) (G : Good T) (ok : MvOk T F f n g q m) (hb : Deep T m g b) :
    SpV (spMay K) [.ref a, .ref ob, .ref d] H (.bl (!b)) := fun H1 e Q q' E => ⟨a, ob, d, t, as, T, o, F, f, g, m, n, q, b, rfl, hT.mono (Ex.i e), ho.mono (Ex.i e), hd.mono (Ex.i e), G, ok, hb, q'⟩
theorem inV_ints {F : List Nat} {n : Nat} : inV (.int (n : Int)) (intsV F) = decide (n ∈ F) := by
  rw [Bool.eq_iff_iff, decide_eq_true_iff]
  unfold inV
  rw [List.any_eq_true]
  constructor
  · rintro ⟨v, hv, h⟩
    obtain ⟨m, hm, rfl⟩ := List.mem_map.mp hv
    have h : ((m : Int) == (n : Int)) = true := h
    have h : m = n := Int.ofNat.inj (beq_iff_eq.mp h)
    exact h ▸ hm
  · exact fun h => ⟨_, List.mem_map_of_mem h, by show ((n : Int) == (n : Int)) = true; exact beq_self_eq_true _⟩
theorem ints_flat (F : List Nat) : (intsV F).all flatV = true := List.all_eq_true.mpr fun v hv => by
  obtain ⟨y, _, rfl⟩ := List.mem_map.mp hv
  rfl
theorem look_of {es : Ents} (h : SrtE es) {nm : Str} {n : Nat} (he : (nm, n) ∈ es) : lookE es nm = some n := by
  unfold lookE
  rw [once_filter h.once he]
  rfl
theorem look_none {es : Ents} {nm : Str} (h : ∀ e ∈ es, e.1 ≠ nm) : lookE es nm = none := by
  unfold lookE
  rw [List.filter_eq_nil_iff.mpr fun e he z => h e he (of_decide_eq_true z)]
  rfl
section
variable {P : Program} {w : World} {K : PySem.W.Frag} {mg : Str → Option Value} {base : Heap}
theorem sc_Move_init : FnScope ["self", "folder", "name", "goal", "other"] ["self", "folder", "name", "goal", "other"] (defScope s_Move_init) := ⟨rfl, rfl, rfl, by decide +kernel, rfl, by decide +kernel, by decide +kernel⟩
theorem k_Move (T : Txt K mg) : C8.Mak P w K mg base 1 "Move" (He.ga K "Move") (spMove K) [] := by
  refine mak_of (fd_Move_init T) (mk_Move T) (g_Move T) (fun _ _ _ _ _ _ us hl => match us, hl with | [_, _, _, _, _], _ => rfl) sc_Move_init (fun vs H Q E h => ?_) (fun cdv A outer s H vs Q E hr h => ?_)
  · obtain ⟨_, _, _, _, _, _, rfl, _⟩ := h; rfl
  · obtain ⟨x, dx, f, g, n, q, rfl, hx, k⟩ := h
    refine ⟨_, (pss_cons (ps_fld (pv 0) (pv 1) rfl)
      (pss_cons (ps_fld (pv 0) (pv 2) rfl)
      (pss_cons (ps_fld (pv 0) (pv 3) rfl)
      (pss_one (ps_fld (pv 0) (pv 4) rfl))))), ?_⟩
    refine q_fld hx put0 (ev_p (ev_var rfl)) rfl (cl_Move T) (na_Move_folder T) rfl fun v H1 e1 r1 => ?_
    subst r1
    refine q_fld upd_same (put1 (by decide +kernel) put0) (ev_p (ev_var rfl)) rfl (cl_Move T) (na_Move_name T) rfl fun v H2 e2 r2 => ?_
    subst r2
    refine q_fld upd_same (put1 (by decide +kernel) (put1 (by decide +kernel) put0)) (ev_p (ev_var rfl)) rfl (cl_Move T) (na_Move_goal T) rfl fun v H3 e3 r3 => ?_
    subst r3
    refine s_fld upd_same (put1 (by decide +kernel) (put1 (by decide +kernel) (put1 (by decide +kernel) put0))) (ev_p (ev_var rfl)) rfl (cl_Move T) (na_Move_other T) rfl fun v H4 e4 r4 => ?_
    subst r4
    exact k _ ((((((((Ex.bt (l := x) e1).trans Bt.upd).trans_ex e2).trans Bt.upd).trans_ex e3).trans Bt.upd).trans_ex e4).trans Bt.upd) ⟨dx, upd_same⟩
theorem sc_Others_init : FnScope ["self", "owner", "folders"] ["self", "owner", "folders"] (defScope s_Others_init) := ⟨rfl, rfl, rfl, by decide +kernel, rfl, by decide +kernel, by decide +kernel⟩
theorem k_Others (T : Txt K mg) : C8.Mak P w K mg base 3 "Others" (He.ga K "Others") (spOthers K) [] := by
  refine mak_of (fd_Others_init T) (mk_Others T) (g_Others T) (fun _ _ _ _ _ _ us hl => match us, hl with | [_, _, _], _ => rfl) sc_Others_init (fun vs H Q E h => ?_) (fun cdv A outer s H vs Q E hr h => ?_)
  · obtain ⟨_, _, _, _, _, rfl, _⟩ := h; rfl
  · obtain ⟨x, dx, l, o, F, rfl, hx, hl, k⟩ := h
    refine ⟨_, (pss_cons (ps_fld (pv 0) (pv 1) rfl)
      (pss_cons (ps_fld (pv 0) (pe_callTy call_tuple_of (by rfl) (f_tuple T) b_tuple (pa_cons (pv 2) pa_nil)) rfl)
      (pss_one (ps_if (pt_not (pt_val (C8.pe_c (c_is_owner T) hr (by decide) rfl (pa_cons (pv 1) pa_nil)))) (pss_one ps_never) pss_nil)))), ?_⟩
    have hlx : l ≠ x := fun z => by subst z; rw [hx] at hl; cases hl
    refine q_fld hx put0 (ev_p (ev_var rfl)) rfl (cl_Others T) (na_Others_owner T) rfl fun v H1 e1 r1 => ?_
    subst r1
    have h1 : (upd H1 x (.ins (He.ga K "Others") dx [("owner", .int (o : Int))])) l = some (.lst (intsV F)) := by rw [upd_ne hlx]; exact e1 _ _ hl
    refine q_fld upd_same (put1 (by decide +kernel) put0) (evu_p (eu_tupOf (ev_var rfl) (sq_of h1))) rfl (cl_Others T) (na_Others_folders T) rfl fun v H2 e2 r2 => ?_
    obtain ⟨t, rfl, ht, h2⟩ := r2
    have htx : t ≠ x := fun z => by subst z; rw [upd_same] at ht; cases ht
    refine s_when (b := false) (et_is (et_not (et_B (ev_call (dvs := []) (ea_cons (ev_var rfl) ea_nil) spOwn_v))) rfl) (fun h => by cases h) fun _ H3 e3 => ?_
    exact k _ (((((Ex.bt (l := x) e1).trans Bt.upd).trans_ex e2).trans Bt.upd).trans_ex e3) ⟨dx, t, e3 _ _ upd_same, e3 _ _ (by rw [upd_ne htx]; exact h2)⟩
theorem sc_made_node : FnScope ["deed"] ["deed"] (defScope s_made_node) := ⟨rfl, rfl, rfl, by decide +kernel, rfl, by decide +kernel, by decide +kernel⟩
theorem c_made_node (T : Txt K mg) : C8.Cal P w K mg base 5 "made_node" (spMade K) [] := by
  refine cal_of (fd_made_node T) (g_made_node T) (fun _ _ _ _ _ _ us hl => match us, hl with | [_], _ => rfl) sc_made_node (fun vs H Q E h => ?_) (fun cdv A outer s H vs Q E hr h => ?_)
  · obtain ⟨_, _, _, _, _, rfl, _⟩ := h; rfl
  · obtain ⟨d, f, g, n, q, rfl, hd, k⟩ := h
    refine ⟨_, (pss_cons (ps_if (pt_val (pe_callB call_isi (by rfl) (f_isinstance T) b_isinstance (pa_cons (pv 0) (pa_cons (pe_glob (v := .ref (He.ga K "MakeFolder")) rfl (g_MakeFolder T) rfl) pa_nil)))) (pss_one (ps_ret (C8.pe_mk (k_Folder T) hr (by decide) rfl (pa_cons (pe_fld (pv 0) rfl) (pa_cons (pe_tup pa_nil) pa_nil))))) pss_nil)
      (pss_cons (ps_if (pt_val (pe_callB call_isi (by rfl) (f_isinstance T) b_isinstance (pa_cons (pv 0) (pa_cons (pe_glob (v := .ref (He.ga K "MakeFile")) rfl (g_MakeFile T) rfl) pa_nil)))) (pss_one (ps_ret (C8.pe_mk (k_File T) hr (by decide) rfl (pa_cons (pe_fld (pv 0) rfl) pa_nil)))) pss_nil)
      (pss_one (ps_ret (pe_ifExp (pt_val (pe_callB call_isi (by rfl) (f_isinstance T) b_isinstance (pa_cons (pv 0) (pa_cons (pe_glob (v := .ref (He.ga K "MakeLink")) rfl (g_MakeLink T) rfl) pa_nil)))) (C8.pe_mk (k_Link T) hr (by decide) rfl (pa_cons (pe_fld (pv 0) rfl) (pa_cons (pe_fld (pv 0) rfl) pa_nil))) pe_non))))), ?_⟩
    refine q_when (b := false) (et_B (ev_isi (ev_var rfl) ev_c (.own _) (ty_mov T hd) (is_Move_MakeFolder T))) (fun h => by cases h) fun _ H1 e1 => ?_
    refine q_when (b := false) (et_B (ev_isi (ev_var rfl) ev_c (.own _) (ty_mov T (hd.mono (Ex.i e1))) (is_Move_MakeFile T))) (fun h => by cases h) fun _ H2 e2 => ?_
    exact s_ret (v := .non) (ev_if (b := false) (et_B (ev_isi (ev_var rfl) ev_c (.own _) (ty_mov T (hd.mono (Ex.i (e1.trans e2)))) (is_Move_MakeLink T))) (fun h => by cases h) fun _ => ev_c) fun H3 e3 => k H3 ((e1.trans e2).trans e3)
theorem sc_wrong_names : FnScope ["tree", "deed", "is_move"] ["tree", "deed"] (defScope s_wrong_names) := ⟨rfl, rfl, rfl, by decide +kernel, rfl, by decide +kernel, by decide +kernel⟩
theorem c_wrong_names (T : Txt K mg) : C8.Cal P w K mg base 6 "wrong_names" (spWN K) [] := by
  refine cal_of (fd_wrong_names T) (g_wrong_names T) (fun _ _ _ _ _ _ us hl => match us, hl with | [_, _], _ => rfl) sc_wrong_names (fun vs H Q E h => ?_) (fun cdv A outer s H vs Q E hr h => ?_)
  · obtain ⟨_, _, _, _, _, _, _, _, _, rfl, _⟩ := h; rfl
  · obtain ⟨a, d, t, as, Tr, f, g, n, q, rfl, hT, hd, hf, hg, hn, hq, k⟩ := h
    refine ⟨_, (pss_cons (ps_set (i := 2) sc_wrong_names.nd rfl (Or.inl rfl) (pe_callB call_isi (by rfl) (f_isinstance T) b_isinstance (pa_cons (pv 1) (pa_cons (pe_glob (v := .ref (He.ga K "Move")) rfl (g_Move T) rfl) pa_nil))))
      (pss_cons (ps_if (PW.pt (pw_or (pt_not (pt_val (C8.pe_c (c_is_folder T) hr (by decide) rfl (pa_cons (pv 0) (pa_cons (pe_fld (pv 1) rfl) pa_nil))))) (pw_or1 (PW.pt (pw_and (pt_val (pv 2)) (pw_and1 (pt_not (pt_val (C8.pe_c (c_is_folder T) hr (by decide) rfl (pa_cons (pv 0) (pa_cons (pe_fld (pv 1) rfl) pa_nil))))))))))) (pss_one (ps_ret pe_str)) pss_nil)
      (pss_cons (ps_if (PW.pt (pw_or (pt_not (pt_val (C8.pe_c (c_is_name T) hr (by decide) rfl (pa_cons (pe_fld (pv 1) rfl) pa_nil)))) (pw_or1 (PW.pt (pw_and (pt_val (pv 2)) (pw_and1 (pt_not (pt_val (C8.pe_c (c_is_name T) hr (by decide) rfl (pa_cons (pe_fld (pv 1) rfl) pa_nil)))))))))) (pss_one (ps_ret pe_str)) pss_nil)
      (pss_cons (ps_if (PW.pt (pw_and (pt_val (pe_callB call_isiT (by rfl) (f_isinstance T) b_isinstance (pa_cons (pv 1) (pa_cons (pe_tup (pa_cons (pe_glob (v := .ref (He.ga K "MakeFolder")) rfl (g_MakeFolder T) rfl) (pa_cons (pe_glob (v := .ref (He.ga K "MakeFile")) rfl (g_MakeFile T) rfl) (pa_cons (pe_glob (v := .ref (He.ga K "MakeLink")) rfl (g_MakeLink T) rfl) pa_nil)))) pa_nil)))) (pw_and1 (pt_not (pt_val (C8.pe_c (c_is_owner T) hr (by decide) rfl (pa_cons (pe_fld (pv 1) rfl) pa_nil))))))) (pss_one (ps_ret pe_str)) pss_nil)
      (pss_one (ps_ret (pe_ifExp (PW.pt (pw_and (pt_val (pe_callB call_isi (by rfl) (f_isinstance T) b_isinstance (pa_cons (pv 1) (pa_cons (pe_glob (v := .ref (He.ga K "MakeLink")) rfl (g_MakeLink T) rfl) pa_nil)))) (pw_and1 (pt_not (pt_val (C8.pe_c (c_is_path_text T) hr (by decide) rfl (pa_cons (pe_fld (pv 1) rfl) pa_nil))))))) pe_str pe_non))))))), ?_⟩
    refine q_asg (ev_isi (ev_var rfl) ev_c (.own _) (ty_mov T hd) (is_Move_Move T)) fun H1 e1 => ?_
    have hT1 := hT.mono (Ex.i e1)
    have hd1 := hd.mono (Ex.i e1)
    refine q_when (b := false) (et_is (et_or (et_not (et_B (ev_call (dvs := []) (ea_cons (ev_var rfl) (ea_cons (ev_mfolder T (ev_var rfl) hd1) ea_nil)) (spIsFol_v hT1 hf)))) fun _ => et_and (et_B (ev_var rfl)) fun _ => et_not (et_B (ev_call (dvs := []) (ea_cons (ev_var rfl) (ea_cons (ev_mgoal T (ev_var rfl) hd1) ea_nil)) (spIsFol_v hT1 hg)))) rfl) (fun h => by cases h) fun _ H2 e2 => ?_
    have hd2 := hd1.mono (Ex.i e2)
    refine q_when (b := false) (et_is (et_or (et_not (et_B (ev_call (dvs := []) (ea_cons (ev_mname T (ev_var rfl) hd2) ea_nil) (spName_v hn)))) fun _ => et_and (et_B (ev_var rfl)) fun _ => et_not (et_B (ev_call (dvs := []) (ea_cons (ev_mother T (ev_var rfl) hd2) ea_nil) (spName_v hq)))) rfl) (fun h => by cases h) fun _ H3 e3 => ?_
    have hd3 := hd2.mono (Ex.i e3)
    refine q_when (b := false) (et_is (et_and (b := false) (et_B (ev_isiT (b := false) (us := [.ref (He.ga K "MakeFolder"), .ref (He.ga K "MakeFile"), .ref (He.ga K "MakeLink")]) (ev_var rfl) (ea_cons ev_c (ea_cons ev_c (ea_cons ev_c ea_nil))) (by simp) (.cons (.own _) (.cons (.own _) (.cons (.own _) .nil))) (ty_mov T hd3) (by
      show PySem.W.kitAny K (.ref (He.ga K "Move")) [.ref (He.ga K "MakeFolder"), .ref (He.ga K "MakeFile"), .ref (He.ga K "MakeLink")] = some false
      simp only [PySem.W.kitAny, is_Move_MakeFolder T, is_Move_MakeFile T, is_Move_MakeLink T]))) fun h => by cases h) rfl) (fun h => by cases h) fun _ H4 e4 => ?_
    have hd4 := hd3.mono (Ex.i e4)
    exact s_ret (v := .non) (ev_if (b := false) (et_is (et_and (b := false) (et_B (ev_isi (ev_var rfl) ev_c (.own _) (ty_mov T hd4) (is_Move_MakeLink T))) fun h => by cases h) rfl) (fun h => by cases h) fun _ => ev_c) fun H5 e5 => k H5 ((((e1.trans e2).trans e3).trans e4).trans e5)
theorem sc_wrong_move : FnScope ["tree", "deed", "node"] ["tree", "deed", "node"] (defScope s_wrong_move) := ⟨rfl, rfl, rfl, by decide +kernel, rfl, by decide +kernel, by decide +kernel⟩
theorem c_wrong_move (T : Txt K mg) : C8.Cal P w K mg base 6 "wrong_move" (spWM K) [] := by
  refine cal_of (fd_wrong_move T) (g_wrong_move T) (fun _ _ _ _ _ _ us hl => match us, hl with | [_, _, _], _ => rfl) sc_wrong_move (fun vs H Q E h => ?_) (fun cdv A outer s H vs Q E hr h => ?_)
  · obtain ⟨_, _, _, _, _, _, _, _, _, _, _, _, rfl, _⟩ := h; rfl
  · obtain ⟨a, d, t, as, Tr, F, f, g, m, n, q, b, rfl, hT, hd, G, ok, hb, k⟩ := h
    refine ⟨_, (pss_cons (ps_if (pt_cmpR op_notN (C8.pe_c (c_node_at T) hr (by decide) rfl (pa_cons (pv 0) (pa_cons (pe_fld (pv 1) rfl) (pa_cons (pe_fld (pv 1) rfl) pa_nil)))) pe_non (nomark _)) (pss_one (ps_ret pe_str)) pss_nil)
      (pss_one (ps_ret (pe_ifExp (PW.pt (pw_and (pt_val (pe_callB call_isi (by rfl) (f_isinstance T) b_isinstance (pa_cons (pe_ix ix_tup (pe_fld (pv 0) rfl) (pv 2) (fun _ _ => rfl)) (pa_cons (pe_glob (v := .ref (He.ga K "Folder")) rfl (g_Folder T) rfl) pa_nil)))) (pw_and1 (pt_val (C8.pe_c (c_is_below T) hr (by decide) rfl (pa_cons (pv 0) (pa_cons (pe_fld (pv 1) rfl) (pa_cons (pv 2) pa_nil)))))))) pe_str pe_non)))), ?_⟩
    obtain ⟨o, es, hge⟩ := isF_of ok.gf
    have hes : ents Tr g = es := ents_of hge
    have hl := (G.nd g _ hge).len
    have hno : lookE es q = none := look_none fun e he => ok.fresh e (by rw [hes]; exact he)
    refine q_when (b := false) (et_is (et_test (ev_notN (ev_call (dvs := []) (ea_cons (ev_var rfl) (ea_cons (ev_mgoal T (ev_var rfl) hd) (ea_cons (ev_mother T (ev_var rfl) hd) ea_nil))) (spNodeAt_v hT hge (by omega))))) (by rw [hno]; rfl)) (fun h => by cases h) fun _ H1 e1 => ?_
    have hT1 := hT.mono (Ex.i e1)
    have hd1 := hd.mono (Ex.i e1)
    have hmlt : m < Tr.length := ((G.esOk ok.ff).ok _ ok.hn).2.2.1
    obtain ⟨nd, hm⟩ : ∃ n, Tr[m]? = some n := ⟨_, List.getElem?_eq_getElem hmlt⟩
    obtain ⟨bb, hbb, nb⟩ := hT1.nds.at2 hm
    have hfm := isF_nd hm
    by_cases hF : isF Tr m = true
    · have hb2 : b = true ↔ Below Tr m g := by unfold Deep at hb; rw [hb]; exact ⟨fun h => h.2, fun h => ⟨hF, h⟩⟩
      refine s_ret (v := belowV b) (ev_if (b := nd.isFol && b) (et_and (et_B (ev_isFol T (ev_node T (ev_var rfl) hT1 (ev_var rfl) hbb) nb)) fun _ => et_B (ev_call (dvs := []) (ea_cons (ev_var rfl) (ea_cons (ev_mgoal T (ev_var rfl) hd1) (ea_cons (ev_var rfl) ea_nil))) (spBelow_v hT1 G ok.gf hb2))) (fun h => ?_) fun h => ?_) fun H2 e2 => k H2 (e1.trans e2)
      · rw [Bool.and_eq_true] at h
        rw [h.2]
        exact ev_c
      · rw [← hfm, hF, Bool.true_and] at h
        rw [h]
        exact ev_c
    · have hb2 : b = false := by
        cases b with
        | false => rfl
        | true => exact absurd (hb.mp rfl).1 hF
      subst hb2
      rw [hfm] at hF
      exact s_ret (v := belowV false) (ev_if (b := false) (et_is (et_and (b := false) (et_B (ev_isFol T (ev_node T (ev_var rfl) hT1 (ev_var rfl) hbb) nb)) fun h => absurd h hF) (by simp)) (fun h => by cases h) fun _ => ev_c) fun H2 e2 => k H2 (e1.trans e2)
theorem sc_wrong_deed : FnScope ["tree", "deed", "why", "node"] ["tree", "deed"] (defScope s_wrong_deed) := ⟨rfl, rfl, rfl, by decide +kernel, rfl, by decide +kernel, by decide +kernel⟩
theorem c_wrong_deed (T : Txt K mg) : C8.Cal P w K mg base 7 "wrong_deed" (spWD K) [] := by
  refine cal_of (fd_wrong_deed T) (g_wrong_deed T) (fun _ _ _ _ _ _ us hl => match us, hl with | [_, _], _ => rfl) sc_wrong_deed (fun vs H Q E h => ?_) (fun cdv A outer s H vs Q E hr h => ?_)
  · obtain ⟨_, _, _, _, _, _, _, _, _, _, _, _, rfl, _⟩ := h; rfl
  · obtain ⟨a, d, t, as, Tr, F, f, g, m, n, q, b, rfl, hT, hd, G, ok, hb, k⟩ := h
    refine ⟨_, (pss_cons (ps_set (i := 2) sc_wrong_deed.nd rfl (Or.inl rfl) (C8.pe_c (c_wrong_names T) hr (by decide) rfl (pa_cons (pv 0) (pa_cons (pv 1) pa_nil))))
      (pss_cons (ps_if (pt_cmpR op_notN (pv 2) pe_non (nomark _)) (pss_one (ps_ret (pv 2))) pss_nil)
      (pss_cons (ps_set (i := 3) sc_wrong_deed.nd rfl (Or.inl rfl) (C8.pe_c (c_node_at T) hr (by decide) rfl (pa_cons (pv 0) (pa_cons (pe_fld (pv 1) rfl) (pa_cons (pe_fld (pv 1) rfl) pa_nil)))))
      (pss_cons (ps_if (pt_val (pe_callB call_isiT (by rfl) (f_isinstance T) b_isinstance (pa_cons (pv 1) (pa_cons (pe_tup (pa_cons (pe_glob (v := .ref (He.ga K "Take")) rfl (g_Take T) rfl) (pa_cons (pe_glob (v := .ref (He.ga K "Move")) rfl (g_Move T) rfl) pa_nil))) pa_nil)))) (pss_cons (ps_if (pt_cmpR op_isN (pv 3) pe_non (nomark _)) (pss_one (ps_ret pe_str)) pss_nil)
      (pss_cons (ps_if (pt_val (pe_callB call_isi (by rfl) (f_isinstance T) b_isinstance (pa_cons (pv 1) (pa_cons (pe_glob (v := .ref (He.ga K "Move")) rfl (g_Move T) rfl) pa_nil)))) (pss_one (ps_ret (C8.pe_c (c_wrong_move T) hr (by decide) rfl (pa_cons (pv 0) (pa_cons (pv 1) (pa_cons (pv 3) pa_nil)))))) pss_nil)
      (pss_one (ps_ret (pe_ifExp (PW.pt (pw_and (pt_val (pe_callB call_isi (by rfl) (f_isinstance T) b_isinstance (pa_cons (pe_ix ix_tup (pe_fld (pv 0) rfl) (pv 3) (fun _ _ => rfl)) (pa_cons (pe_glob (v := .ref (He.ga K "Folder")) rfl (g_Folder T) rfl) pa_nil)))) (pw_and1 (pt_cmpR op_ne (pe_fld (pe_ix ix_tup (pe_fld (pv 0) rfl) (pv 3) (fun _ _ => rfl)) rfl) (pe_tup pa_nil) (nomark _))))) pe_str pe_non))))) pss_nil)
      (pss_cons (ps_if (PW.pt (pw_and (pt_val (pe_callB call_isi (by rfl) (f_isinstance T) b_isinstance (pa_cons (pv 1) (pa_cons (pe_glob (v := .ref (He.ga K "Put")) rfl (g_Put T) rfl) pa_nil)))) (pw_and1 (pt_not (pt_val pe_dead))))) (pss_one (ps_ret pe_str)) pss_nil)
      (pss_one (ps_ret (pe_ifExp (pt_cmpR op_notN (pv 3) pe_non (nomark _)) pe_str pe_non)))))))), ?_⟩
    obtain ⟨o, es, hfe⟩ := isF_of ok.ff
    have hes : ents Tr f = es := ents_of hfe
    have hok := G.nd f _ hfe
    have hl := hok.len
    have hlk : lookE es n = some m := look_of hok.srt (hes ▸ ok.hn)
    refine q_asg (v := .non) (ev_call (dvs := []) (ea_cons (ev_var rfl) (ea_cons (ev_var rfl) ea_nil)) fun H1 e1 Q q' E => ⟨a, d, t, as, Tr, f, g, n, q, rfl, hT.mono (Ex.i e1), hd.mono (Ex.i e1), ok.ff, ok.gf, ok.nok, ok.qok, q'⟩) fun H1 e1 => ?_
    refine q_when (b := false) (et_is (et_test (ev_notN (ev_var rfl))) rfl) (fun h => by cases h) fun _ H2 e2 => ?_
    have hT2 := hT.mono (Ex.i (e1.trans e2))
    have hd2 := hd.mono (Ex.i (e1.trans e2))
    refine q_asg (v := .int (m : Int)) (ev_is (ev_call (dvs := []) (ea_cons (ev_var rfl) (ea_cons (ev_mfolder T (ev_var rfl) hd2) (ea_cons (ev_mname T (ev_var rfl) hd2) ea_nil))) (spNodeAt_v hT2 hfe (by omega))) (by rw [hlk]; rfl)) fun H3 e3 => ?_
    have hT3 := hT2.mono (Ex.i e3)
    have hd3 := hd2.mono (Ex.i e3)
    refine q_when (b := true) (et_B (ev_isiT (b := true) (us := [.ref (He.ga K "Take"), .ref (He.ga K "Move")]) (ev_var rfl) (ea_cons ev_c (ea_cons ev_c ea_nil)) (by simp) (.cons (.own _) (.cons (.own _) .nil)) (ty_mov T hd3) (by
      show PySem.W.kitAny K (.ref (He.ga K "Move")) [.ref (He.ga K "Take"), .ref (He.ga K "Move")] = some true
      simp only [PySem.W.kitAny, is_Move_Take T, is_Move_Move T]))) (fun _ H4 e4 => ?_) (fun h => by cases h)
    refine q_when (b := false) (et_is (et_test (ev_isN (ev_var rfl))) rfl) (fun h => by cases h) fun _ H5 e5 => ?_
    have hd5 := hd3.mono (Ex.i (e4.trans e5))
    refine q_when (b := true) (et_B (ev_isi (ev_var rfl) ev_c (.own _) (ty_mov T hd5) (is_Move_Move T))) (fun _ H6 e6 => ?_) (fun h => by cases h)
    refine s_ret (v := belowV b) (ev_call (dvs := []) (ea_cons (ev_var rfl) (ea_cons (ev_var rfl) (ea_cons (ev_var rfl) ea_nil))) fun H7 e7 Q q' E => ⟨a, d, t, as, Tr, F, f, g, m, n, q, b, rfl, hT3.mono (Ex.i (((e4.trans e5).trans e6).trans e7)), hd5.mono (Ex.i (e6.trans e7)), G, ok, hb, q'⟩) fun H7 e7 => ?_
    exact k H7 ((((((e1.trans e2).trans e3).trans e4).trans e5).trans e6).trans e7)
theorem sc_with_entry : FnScope ["nodes", "folder", "name", "node"] ["nodes", "folder", "name", "node"] (defScope s_with_entry) := ⟨rfl, rfl, rfl, by decide +kernel, rfl, by decide +kernel, by decide +kernel⟩
theorem c_with_entry (T : Txt K mg) : C8.Cal P w K mg base 5 "with_entry" (spWithE K) [] := by
  refine cal_of (fd_with_entry T) (g_with_entry T) (fun _ _ _ _ _ _ us hl => match us, hl with | [_, _, _, _], _ => rfl) sc_with_entry (fun vs H Q E h => ?_) (fun cdv A outer s H vs Q E hr h => ?_)
  · obtain ⟨_, _, _, _, _, _, _, _, rfl, _⟩ := h; rfl
  · obtain ⟨l, as, Tr, f, o, n, es, q, rfl, hl, pr, hfe, ho, hz, k⟩ := h
    refine ⟨_, (pss_one (ps_asg (C8.pe_mk (k_Folder T) hr (by decide) rfl (pa_cons (pe_fld (pe_ix ix_list (pv 0) (pv 1) (fun _ _ => rfl)) rfl) (pa_cons (pe_op op_catA (pe_fld (pe_ix ix_list (pv 0) (pv 1) (fun _ _ => rfl)) rfl) (pe_tup (pa_cons (pe_tup (pa_cons (pv 2) (pa_cons (pv 3) pa_nil))) pa_nil))) pa_nil))) (pg_sub (pv 0) (pv 1) set_list))), ?_⟩
    obtain ⟨b, hb, nb⟩ := pr.at2 hfe
    obtain ⟨dx, te, hF, hE⟩ := id nb
    obtain ⟨eas, hte, epr⟩ := id hE
    have hlt : f < (as.map V.ref).length := by rw [List.length_map]; exact (List.getElem?_eq_some_iff.mp hb).1
    have ix : ∀ H1, Ex H H1 → Ev (tOp (rIxL K) (tVar 0) (tVar 1)) [some (.ref l), some (.int (f : Int)), some (.str q), some (.int (n : Int))] H1 (.ref b) := fun H1 e1 =>
      ev_op (ev_var rfl) (ev_var rfl) (rv_ixL (sq_of (e1 _ _ hl)) (atI_nat (by rw [List.getElem?_map, hb]; rfl)))
    refine s_setLP hl (evp_mkA (dvs := []) (P := fun vs H1 => ∃ c, vs = [.int (o : Int), .ref c] ∧ EntsLT K H1 c (es ++ [(q, n)])) (R := fun x H' => NdAt K H' x (.fol o (addE es q n))) ?_ fun vs H1 e1 hv => ?_) rfl rfl hlt fun v H1 e1 hv => ?_
    · refine eap_cons (ev_p (ev_owner T (ix _ (Evl.Ex.refl H)) nb)) fun v H1 e1 hv => ?_
      subst hv
      refine eap_cons (R := fun v H' => ∃ c, v = .ref c ∧ EntsLT K H' c (es ++ [(q, n)])) ?_ fun v H2 e2 hv => ?_
      · refine evp_opRP (R := fun v H' => ∃ c2 c1, v = .ref c2 ∧ H' c2 = some (.tup [.ref c1]) ∧ H' c1 = some (.tup [.str q, .int (n : Int)])) (ev_ents T (ix _ e1) (e1 _ _ hF)) ?_ fun v H4 e4 hv Q q' => ?_
        · refine EvP.imp (eup_tup (P := fun vs H' => ∃ c1, vs = [.ref c1] ∧ H' c1 = some (.tup [.str q, .int (n : Int)])) ?_ ?_ ?_) ?_
          · refine eap_cons (evu_p (eu_tup (vs := [.str q, .int (n : Int)]) (ea_cons (ev_var rfl) (ea_cons (ev_var rfl) ea_nil)) (by simp))) fun v H3 e3 hv => ?_
            obtain ⟨c1, rfl, _, h3⟩ := hv
            exact eap_nil fun H4 e4 => ⟨c1, rfl, e4 _ _ h3⟩
          · rintro vs H1 ⟨c1, rfl, _⟩; simp
          · rintro vs H1 H2 e ⟨c1, rfl, z⟩; exact ⟨c1, rfl, e _ _ z⟩
          · rintro v H' ⟨p, vs, rfl, h1, c1, rfl, h2⟩; exact ⟨p, c1, rfl, h1, h2⟩
        · obtain ⟨c2, c1, rfl, h2, h1⟩ := hv
          have hsz : eas.length = es.length := epr.len
          have h5 := (e1.trans e4) _ _ hte
          have fin : ∀ H6 c3, Ex H4 H6 → H6 c3 = some (.tup (eas.map V.ref ++ [.ref c1])) → EntsLT K H6 c3 (es ++ [(q, n)]) := fun H6 c3 e6 h6 =>
            ⟨eas ++ [c1], .inr (by rw [h6, List.map_append]; rfl), pr_app (epr.mon fun _ _ z => ((e1.trans e4).trans e6) _ _ z) (.cons (e6 _ _ h1) .nil)⟩
          refine ⟨te, c2, _, _, rfl, rfl, st_of h5, st_of h2, sz_of (by rw [List.length_map]; simp; omega), fun z => ?_, (fun _ z => by cases z), fun _ _ c3 hc3 => ?_⟩
          · exact q' _ _ (Evl.Ex.refl _) ⟨c2, rfl, fin _ _ (Evl.Ex.refl _) (by rw [z]; exact h2)⟩
          · exact q' _ _ (Evl.Ex.new hc3) ⟨c3, rfl, fin _ _ (Evl.Ex.new hc3) upd_same⟩
      · obtain ⟨c, rfl, hc⟩ := hv
        exact eap_nil fun H3 e3 => ⟨c, rfl, hc.mono e3⟩
    · obtain ⟨c, rfl, hc⟩ := hv
      exact mkFolder hc ho (by rw [List.length_append, List.length_singleton]; omega)
    · obtain ⟨x, rfl, hx, nx⟩ := hv
      have hl1 := e1 _ _ hl
      have i1 : ExI H1 (upd H1 l (.lst ((as.map V.ref).set f (.ref x)))) := ExI.lst hl1
      refine k _ (as.set f x) ((Ex.bt e1).trans Bt.upd) (by rw [upd_same, List.map_set]) ?_ fun i hi => List.getElem?_set_ne (fun z => hi z.symm)
      rw [setEs_fol hfe]
      exact pr_set (pr.mon fun _ _ z => (z.mono (Ex.i e1)).mono i1) (NdAt.mono i1 nx)
theorem sc_without_entry : FnScope ["nodes", "folder", "name", "left", "entry"] ["nodes", "folder", "name"] (defScope s_without_entry) := ⟨rfl, rfl, rfl, by decide +kernel, rfl, by decide +kernel, by decide +kernel⟩
theorem c_without_entry (T : Txt K mg) : C8.Cal P w K mg base 5 "without_entry" (spWithoutE K) [] := by
  refine cal_of (fd_without_entry T) (g_without_entry T) (fun _ _ _ _ _ _ us hl => match us, hl with | [_, _, _], _ => rfl) sc_without_entry (fun vs H Q E h => ?_) (fun cdv A outer s H vs Q E hr h => ?_)
  · obtain ⟨_, _, _, _, _, _, _, rfl, _⟩ := h; rfl
  · obtain ⟨l, as, Tr, f, o, es, q, rfl, hl, pr, hfe, ho, hz, k⟩ := h
    refine ⟨_, (pss_cons (ps_setLc (i := 3) (own := [("entry", 4)]) rfl sc_without_entry.nd rfl rfl (sw_true rfl rfl rfl (by decide +kernel)) (pi_tup (pe_fld (pe_ix ix_list (pv 0) (pv 1) (fun _ _ => rfl)) rfl)) (blkOk_by (own := [("entry", 4)]) (N := ["nodes", "folder", "name", "left", "entry"]) (sc := defScope s_without_entry) (by decide +kernel)) (fun _ _ _ _ _ => (pg_name (i := 4) sc_without_entry.nd rfl (Or.inl rfl) (.inr rfl))) (fun _ _ _ _ _ => (pts_one (pt_cmpR op_ne (pe_ix (k_ixt (K := K) rfl) (pv 4) pe_int (fun _ _ => rfl)) (pv 2) (nomark _)))) (fun _ _ _ _ _ => (pv 4)))
      (pss_one (ps_asg (C8.pe_mk (k_Folder T) hr (by decide) rfl (pa_cons (pe_fld (pe_ix ix_list (pv 0) (pv 1) (fun _ _ => rfl)) rfl) (pa_cons (pv 3) pa_nil))) (pg_sub (pv 0) (pv 1) set_list)))), ?_⟩
    obtain ⟨b, hb, nb⟩ := pr.at2 hfe
    obtain ⟨dx, te, hF, hE⟩ := id nb
    obtain ⟨eas, hte, epr⟩ := id hE
    have hlt : f < (as.map V.ref).length := by rw [List.length_map]; exact (List.getElem?_eq_some_iff.mp hb).1
    have ix : ∀ H1 x3, Ex H H1 → Ev (tOp (rIxL K) (tVar 0) (tVar 1)) [some (.ref l), some (.int (f : Int)), some (.str q), x3, none] H1 (.ref b) := fun H1 x3 e1 =>
      ev_op (ev_var rfl) (ev_var rfl) (rv_ixL (sq_of (e1 _ _ hl)) (atI_nat (by rw [List.getElem?_map, hb]; rfl)))
    refine q_asgLP (P := fun ys H' => ∃ bs : List Addr, ys = bs.map V.ref ∧ Paired (fun a e => entV a H' e) bs (delE es q)) ?_ fun p ys H1 hp e1 h1 hv => ?_
    · refine EvLP.imp (P := fun ys H' => Paired (fun e y => ∃ a, y = V.ref a ∧ entV a H' e) (delE es q) ys) ?_ fun ys H' r => pr_refs r
      exact elp_prs1 (wk_ents (ev_ents T (ix _ none (Evl.Ex.refl H)) hF) hE) (by omega) (fun e => !decide (e.1 = q)) (fun e y H' => ∃ a, y = V.ref a ∧ entV a H' e) (fun e v H1 H2 i ⟨a, z1, z2⟩ => ⟨a, z1, i _ _ trivial z2⟩) (fun _ => rfl)
        (fun e he a H1 e1 hv => et_is (et_test (ev_op (ev_op (ev_var rfl) ev_c (rv_ixT (v := .str e.1) (st_of hv) at0)) (ev_var rfl) (rv_ne rfl))) (by simp)) (fun e he a H1 e1 hv _ => Ev.p (ev_var rfl) fun H2 e2 => ⟨a, rfl, e2 _ _ hv⟩)
    · obtain ⟨bs, rfl, bpr⟩ := hv
      refine s_setLP (e1 _ _ hl) (evp_mkA (dvs := []) (P := fun vs H1 => vs = [.int (o : Int), .ref p] ∧ EntsLT K H1 p (delE es q)) (R := fun x H' => NdAt K H' x (.fol o (delE es q))) ?_ fun vs H1 e1 hv => ?_) rfl rfl hlt fun v H2 e2 hv => ?_
      · refine eap_cons (ev_p (ev_owner T (ix _ (some (.ref p)) e1) (nb.mono (Ex.i e1)))) fun v H2 e2 hv => ?_
        subst hv
        refine eap_cons (ev_p (ev_var rfl)) fun v H3 e3 hv => ?_
        subst hv
        exact eap_nil fun H4 e4 => ⟨rfl, bs, .inl (((e2.trans e3).trans e4) _ _ h1), bpr.mon fun _ _ z => ((e2.trans e3).trans e4) _ _ z⟩
      · obtain ⟨rfl, hc⟩ := hv
        have q1 := mkFolder (o := o) hc (delE_srt ho).once (by have := List.length_filter_le (fun e : Str × Nat => !decide (e.1 = q)) es; unfold delE; omega)
        rw [delE_self ho] at q1
        exact q1
      · obtain ⟨x, rfl, hx, nx⟩ := hv
        have hl1 := (e1.trans e2) _ _ hl
        have i1 : ExI H2 (upd H2 l (.lst ((as.map V.ref).set f (.ref x)))) := ExI.lst hl1
        refine k _ (as.set f x) ((Ex.bt (e1.trans e2)).trans Bt.upd) (by rw [upd_same, List.map_set]) ?_ fun i hi => List.getElem?_set_ne (fun z => hi z.symm)
        rw [setEs_fol hfe]
        exact pr_set (pr.mon fun _ _ z => (z.mono (Ex.i (e1.trans e2))).mono i1) (NdAt.mono i1 nx)
end
end NW
set_option maxHeartbeats 4000000
/-! done, check_others, is_allowed, may. -/
namespace NW
open PySem PySem.Spec PyProof.Rows L2 Evl
section
variable {K : PySem.W.Frag} {σ : L2.St} {H H' : Hp} {ta tb te tl : TE} {tr : TA} {D : Ends} {tu tz : TS} {x : V}
theorem el_listT {p : Addr} {xs : List V} (ha : Ev ta σ H (.ref p)) (h : SqT K H p xs) : EvL (tCB (rListS K) (tCons ta tNil)) σ H xs := fun H1 e Q q =>
  ha H1 e _ fun H2 e2 => ⟨p, xs, rfl, .inr (ex_t (e.trans e2) h), fun l hl => q l _ (fresh_back e2 hl) (e2.trans (Evl.Ex.new hl)) upd_same⟩
/-- a call that changes a list -/
theorem q_dropM {sp : Sp} {dvs vs : List V} {E : XK} (h : EvA tr σ H vs) (k : ∀ H1, Ex H H1 → sp (vs ++ dvs) H1 (fun _ H2 => tz D σ H2) E) : tSeq (tDrop (tCall sp dvs E tr)) tz D σ H := h H (Evl.Ex.refl H) _ fun H1 e1 => k H1 e1
theorem s_dropM {sp : Sp} {dvs vs : List V} {E : XK} (h : EvA tr σ H vs) (k : ∀ H1, Ex H H1 → sp (vs ++ dvs) H1 (fun _ H2 => D.nx σ H2) E) : tDrop (tCall sp dvs E tr) D σ H := h H (Evl.Ex.refl H) _ fun H1 e1 => k H1 e1
/-- for n in a tuple of numbers -/
theorem s_forNatsT {a : Addr} {F : List Nat} {j : Nat} (h : Ev tl σ H (.ref a)) (hx : H a = some (.tup (intsV F))) (Pv : Nat → L2.St → Hp → Prop) (h0 : ∀ H1, Ex H H1 → Pv 0 σ H1) (kp : ∀ i σ' H', Pv i σ' H' → ExI H H')
    (hs : ∀ (i f : Nat) (σ' : L2.St) (H' : Hp), F[i]? = some f → Pv i σ' H' → tu { D with nx := Pv (i + 1), ct := Pv (i + 1), bk := D.nx } (σ'.set j (some (.int (f : Int)))) H') (hd : ∀ σ' H', Pv F.length σ' H' → D.nx σ' H') : tFor (iTup K tl) (gName j) tu D σ H := by
  refine s_forT h (st_of hx) Pv h0 (fun i σ' H' _ q => st_of (kp i σ' H' q _ _ trivial hx)) (fun i x σ' H' hx q => ?_) fun σ' H' q => hd σ' H' (by rw [show (intsV F).length = F.length from List.length_map ..] at q; exact q)
  rw [List.getElem?_map] at hx
  cases c : F[i]? with
  | none => rw [c] at hx; cases hx
  | some f =>
    rw [c] at hx
    obtain rfl : V.int (f : Int) = x := Option.some.inj hx
    exact hs i f σ' H' c q
theorem q_forNatsT {a : Addr} {F : List Nat} {j : Nat} (h : Ev tl σ H (.ref a)) (hx : H a = some (.tup (intsV F))) (Pv : Nat → L2.St → Hp → Prop) (h0 : ∀ H1, Ex H H1 → Pv 0 σ H1) (kp : ∀ i σ' H', Pv i σ' H' → ExI H H')
    (hs : ∀ (i f : Nat) (σ' : L2.St) (H' : Hp), F[i]? = some f → Pv i σ' H' → tu { D with nx := Pv (i + 1), ct := Pv (i + 1), bk := tz D } (σ'.set j (some (.int (f : Int)))) H') (hd : ∀ σ' H', Pv F.length σ' H' → tz D σ' H') : tSeq (tFor (iTup K tl) (gName j) tu) tz D σ H :=
  s_forNatsT (D := { D with nx := tz D }) h hx Pv h0 kp hs hd
end
section
variable {P : Program} {w : World} {K : PySem.W.Frag} {mg : Str → Option Value} {base : Heap}
theorem sc_done : FnScope ["tree", "deed", "why", "nodes", "made", "node"] ["tree", "deed"] (defScope s_done) := ⟨rfl, rfl, rfl, by decide +kernel, rfl, by decide +kernel, by decide +kernel⟩
theorem c_done (T : Txt K mg) : C8.Cal P w K mg base 9 "done" (spDone K) [] := by
  refine cal_of (fd_done T) (g_done T) (fun _ _ _ _ _ _ us hl => match us, hl with | [_, _], _ => rfl) sc_done (fun vs H Q E h => ?_) (fun cdv A outer s H vs Q E hr h => ?_)
  · obtain ⟨_, _, _, _, _, _, _, _, _, _, _, rfl, _⟩ := h; rfl
  · obtain ⟨a, d, t, as, Tr, F, f, g, m, n, q, rfl, hT, hd, G, ok, hnb, G2, k⟩ := h
    refine ⟨_, (pss_cons (ps_set (i := 2) sc_done.nd rfl (Or.inl rfl) (C8.pe_c (c_wrong_deed T) hr (by decide) rfl (pa_cons (pv 0) (pa_cons (pv 1) pa_nil))))
      (pss_cons (ps_if (pt_cmpR op_notN (pv 2) pe_non (nomark _)) (pss_one ps_never) pss_nil)
      (pss_cons (ps_par (i := 3) (j := 4) rfl sc_done.nd rfl rfl (by decide) rfl rfl (pa_cons (pe_callTy call_list_of (by rfl) (f_list T) b_list (pa_cons (pe_fld (pv 0) rfl) pa_nil)) (pa_cons (C8.pe_c (c_made_node T) hr (by decide) rfl (pa_cons (pv 1) pa_nil)) pa_nil)) (by rfl))
      (pss_cons (ps_if (pt_cmpR op_notN (pv 4) pe_non (nomark _)) (pss_cons (ps_expr (pe_bm PySem.F.plainAttrs_list PySem.F.slot_list_append PySem.F.type_list_append mt_append (pv 3) (pa_cons (pv 4) pa_nil)))
      (pss_one (ps_expr (C8.pe_c (c_with_entry T) hr (by decide) rfl (pa_cons (pv 3) (pa_cons (pe_fld (pv 1) rfl) (pa_cons (pe_fld (pv 1) rfl) (pa_cons (pe_op op_sub (pe_callB call_len_seq (by rfl) (f_len T) b_len (pa_cons (pv 3) pa_nil)) pe_int) pa_nil)))))))) (pss_one (ps_if (pt_val (pe_callB call_isi (by rfl) (f_isinstance T) b_isinstance (pa_cons (pv 1) (pa_cons (pe_glob (v := .ref (He.ga K "Put")) rfl (g_Put T) rfl) pa_nil)))) (pss_one (ps_expr (C8.pe_c (c_with_entry T) hr (by decide) rfl (pa_cons (pv 3) (pa_cons (pe_fld (pv 1) rfl) (pa_cons (pe_fld (pv 1) rfl) (pa_cons (pe_fld (pv 1) rfl) pa_nil))))))) (pss_cons (ps_set (i := 5) sc_done.nd rfl (Or.inl rfl) (C8.pe_c (c_node_at T) hr (by decide) rfl (pa_cons (pv 0) (pa_cons (pe_fld (pv 1) rfl) (pa_cons (pe_fld (pv 1) rfl) pa_nil)))))
      (pss_cons (ps_expr (C8.pe_c (c_without_entry T) hr (by decide) rfl (pa_cons (pv 3) (pa_cons (pe_fld (pv 1) rfl) (pa_cons (pe_fld (pv 1) rfl) pa_nil)))))
      (pss_one (ps_if (pt_val (pe_callB call_isi (by rfl) (f_isinstance T) b_isinstance (pa_cons (pv 1) (pa_cons (pe_glob (v := .ref (He.ga K "Move")) rfl (g_Move T) rfl) pa_nil)))) (pss_one (ps_expr (C8.pe_c (c_with_entry T) hr (by decide) rfl (pa_cons (pv 3) (pa_cons (pe_fld (pv 1) rfl) (pa_cons (pe_fld (pv 1) rfl) (pa_cons (pv 5) pa_nil))))))) (pss_one (ps_if (pt_val (pe_callB call_isi (by rfl) (f_isinstance T) b_isinstance (pa_cons (pe_ix ix_list (pv 3) (pv 5) (fun _ _ => rfl)) (pa_cons (pe_glob (v := .ref (He.ga K "Folder")) rfl (g_Folder T) rfl) pa_nil)))) (pss_one (ps_asg (C8.pe_mk (k_Gone T) hr (by decide) rfl (pa_cons (pe_fld (pe_ix ix_list (pv 3) (pv 5) (fun _ _ => rfl)) rfl) (pa_cons (pe_fld (pv 1) rfl) pa_nil))) (pg_sub (pv 3) (pv 5) set_list))) pss_nil)))))))))
      (pss_one (ps_ret (C8.pe_mk (k_Tree T) hr (by decide) rfl (pa_cons (pv 3) pa_nil)))))))), ?_⟩
    have hb : Deep Tr m g false := ⟨(fun h => by cases h), fun h => absurd h hnb⟩
    obtain ⟨o, es, hfe⟩ := isF_of ok.ff
    have hes : ents Tr f = es := ents_of hfe
    have hok := G.nd f _ hfe
    have hlk : lookE es n = some m := look_of hok.srt (hes ▸ ok.hn)
    refine q_asg (v := .non) (ev_call (dvs := []) (ea_cons (ev_var rfl) (ea_cons (ev_var rfl) ea_nil)) (spWD_v hT hd G ok hb)) fun H1 e1 => ?_
    refine q_when (b := false) (et_is (et_test (ev_notN (ev_var rfl))) rfl) (fun h => by cases h) fun _ H2 e2 => ?_
    have hT2 := hT.mono (Ex.i (e1.trans e2))
    have hd2 := hd.mono (Ex.i (e1.trans e2))
    refine q_par2 (P := fun vs H' => ∃ l, vs = [.ref l, .non] ∧ H2 l = none ∧ H' l = some (.lst (as.map V.ref))) ?_ fun vs H3 e3 hv => ?_
    · refine eap_cons (evl_p (el_listT (ev_nodes T (ev_var rfl) hT2) (st_of hT2.tup))) fun v H3 e3 hv => ?_
      obtain ⟨l, rfl, hl, h3⟩ := hv
      refine eap_cons (ev_p (v := .non) (ev_call (dvs := []) (ea_cons (ev_var rfl) ea_nil) fun H4 e4 Q q' E => ⟨d, f, g, n, q, rfl, hd2.mono (Ex.i (e3.trans e4)), q'⟩)) fun v H4 e4 hv => ?_
      subst hv
      exact eap_nil fun H5 e5 => ⟨l, rfl, hl, (e4.trans e5) _ _ h3⟩
    · obtain ⟨l, rfl, hl, h3⟩ := hv
      refine ⟨_, _, rfl, ?_⟩
      have hT3 := hT2.mono (Ex.i e3)
      have hd3 := hd2.mono (Ex.i e3)
      refine q_if (b := false) (et_is (et_test (ev_notN (ev_var rfl))) rfl) (fun h => by cases h) fun _ H4 e4 => ?_
      refine s_if (b := false) (et_B (ev_isi (ev_var rfl) ev_c (.own _) (ty_mov T (hd3.mono (Ex.i e4))) (is_Move_Put T))) (fun h => by cases h) fun _ H5 e5 => ?_
      have hT5 := hT3.mono (Ex.i (e4.trans e5))
      have hd5 := hd3.mono (Ex.i (e4.trans e5))
      refine q_asg (v := .int (m : Int)) (ev_is (ev_call (dvs := []) (ea_cons (ev_var rfl) (ea_cons (ev_mfolder T (ev_var rfl) hd5) (ea_cons (ev_mname T (ev_var rfl) hd5) ea_nil))) (spNodeAt_v hT5 hfe (by have := hok.len; omega))) (by rw [hlk]; rfl)) fun H6 e6 => ?_
      have hd6 := hd5.mono (Ex.i e6)
      have h6 := ((e4.trans e5).trans e6) _ _ h3
      refine q_dropM (dvs := []) (ea_cons (ev_var rfl) (ea_cons (ev_mfolder T (ev_var rfl) hd6) (ea_cons (ev_mname T (ev_var rfl) hd6) ea_nil))) fun H7 e7 => ?_
      have hT7 := hT5.mono (Ex.i (e6.trans e7))
      have h7 := e7 _ _ h6
      have hl5 : H2 l = none := hl
      have ex07 : Ex H H7 := (((((e1.trans e2).trans e3).trans e4).trans e5).trans e6).trans e7
      have lfree : H l = none := fresh_back (e1.trans e2) hl
      refine ⟨l, as, Tr, f, o, es, n, rfl, h7, hT7.nds, hfe, hok.srt, by have := hok.len; omega, fun H8 as8 b8 h8 pr8 k8 => ?_⟩
      have i8 : ExI H7 H8 := b8.exI fun u hu => by rw [h7] at hu; cases hu; exact id
      have hd8 := (hd6.mono (Ex.i e7)).mono i8
      refine s_if (b := true) (et_B (ev_isi (ev_var rfl) ev_c (.own _) (ty_mov T hd8) (is_Move_Move T))) (fun _ H9 e9 => ?_) (fun h => by cases h)
      have hd9 := hd8.mono (Ex.i e9)
      refine s_dropM (dvs := []) (ea_cons (ev_var rfl) (ea_cons (ev_mgoal T (ev_var rfl) hd9) (ea_cons (ev_mother T (ev_var rfl) hd9) (ea_cons (ev_var rfl) ea_nil)))) fun H10 e10 => ?_
      have e810 := e9.trans e10
      have h10 := e810 _ _ h8
      obtain ⟨og, esg, hge⟩ := isF_of (T := setEs Tr f (delE es n)) (f := g) (by rw [setEs_isF]; exact ok.gf)
      have hesg : ents (setEs Tr f (delE es n)) g = esg := ents_of hge
      have hsub : ∀ e ∈ esg, e ∈ ents Tr g := by
        intro e he
        rw [← hesg] at he
        by_cases hfg : f = g
        · subst hfg
          rw [setEs_ents _ ok.ff] at he
          rw [hes]
          exact (mem_delE.mp he).1
        · rw [setEs_ents_ne _ hfg] at he
          exact he
      have hsrtg : SrtE esg ∧ esg.length ≤ 60 := by
        rw [← hesg]
        by_cases hfg : f = g
        · subst hfg
          rw [setEs_ents _ ok.ff]
          exact ⟨delE_srt hok.srt, Nat.le_trans (List.length_filter_le _ _) hok.len⟩
        · rw [setEs_ents_ne _ hfg]
          exact ⟨(G.esOk ok.gf).srt, (G.esOk ok.gf).len⟩
      refine ⟨l, as8, _, g, og, m, esg, q, rfl, h10, pr8.mon fun _ _ z => z.mono (Ex.i e810), hge, add_once hsrtg.1.once fun e he => ok.fresh e (hsub e he), by have := hsrtg.2; omega, fun H11 as11 b11 h11 pr11 k11 => ?_⟩
      have hmv : setEs (setEs Tr f (delE es n)) g (addE esg q m) = moveT Tr f n g q m := by
        unfold moveT
        rw [hes, hesg]
      rw [hmv] at pr11
      have ex11 : Ex H H11 := b11.ex ((b8.ex ex07 lfree).trans e810) lfree
      refine s_retP (evp_mkA (dvs := []) (R := fun x H' => ∃ t, TrA K H' x t as11 (moveT Tr f n g q m)) (EvA.p (ea_cons (ev_var rfl) ea_nil)) fun vs H12 e12 hv => ?_) fun v H12 e12 hv => ?_
      · subst hv
        exact mkTree (e12 _ _ h11) (pr11.mon fun _ _ z => z.mono (Ex.i e12)) G2
      · obtain ⟨x, rfl, hx, t2, hT2⟩ := hv
        exact k H12 x t2 as11 (ex11.trans e12) hT2 fun i h1 h2 => (k11 i h2).trans (k8 i h1)
theorem sc_check_others : FnScope ["tree", "others", "folder"] ["tree", "others"] (defScope s_check_others) := ⟨rfl, rfl, rfl, by decide +kernel, rfl, by decide +kernel, by decide +kernel⟩
theorem c_check_others (T : Txt K mg) : C8.Cal P w K mg base 3 "check_others" (spChkO K) [] := by
  refine cal_of (fd_check_others T) (g_check_others T) (fun _ _ _ _ _ _ us hl => match us, hl with | [_, _], _ => rfl) sc_check_others (fun vs H Q E h => ?_) (fun cdv A outer s H vs Q E hr h => ?_)
  · obtain ⟨_, _, _, _, _, _, _, rfl, _⟩ := h; rfl
  · obtain ⟨a, ob, t, as, Tr, o, F, rfl, hT, ho, hF, k⟩ := h
    refine ⟨_, (pss_one (ps_for PassesOwn.never rfl (pi_tup (pe_fld (pv 1) rfl)) (pg_name (i := 2) sc_check_others.nd rfl (Or.inl rfl)) (pss_one (ps_if (pt_not (pt_val (C8.pe_c (c_is_folder T) hr (by decide) rfl (pa_cons (pv 0) (pa_cons (pv 2) pa_nil))))) (pss_one ps_never) pss_nil)))), ?_⟩
    obtain ⟨dx, tf, hob, htf⟩ := ho
    refine s_forNatsT (ev_folders T (ev_var rfl) hob) htf (fun i σ' H' => Ex H H' ∧ ∃ x2, σ' = [some (.ref a), some (.ref ob), x2]) (fun H1 e1 => ⟨e1, none, rfl⟩) (fun i σ' H' q => Ex.i q.1) ?_ ?_
    · rintro i f σ' H' hf ⟨e, x2, rfl⟩
      exact s_when (b := false) (et_is (et_not (et_B (ev_call (dvs := []) (ea_cons (ev_var rfl) (ea_cons (ev_var rfl) ea_nil)) (spIsFol_v (hT.mono (Ex.i e)) (hF f (List.mem_of_getElem? hf)))))) rfl) (fun h => by cases h) fun _ H1 e1 => ⟨e.trans e1, _, rfl⟩
    · rintro σ' H' ⟨e, x2, rfl⟩
      exact k H' e
theorem sc_is_allowed : FnScope ["tree", "others", "deed", "node"] ["tree", "others", "deed"] (defScope s_is_allowed) := ⟨rfl, rfl, rfl, by decide +kernel, rfl, by decide +kernel, by decide +kernel⟩
theorem c_is_allowed (T : Txt K mg) : C8.Cal P w K mg base 2 "is_allowed" (spAllow K) [] := by
  refine cal_of (fd_is_allowed T) (g_is_allowed T) (fun _ _ _ _ _ _ us hl => match us, hl with | [_, _, _], _ => rfl) sc_is_allowed (fun vs H Q E h => ?_) (fun cdv A outer s H vs Q E hr h => ?_)
  · obtain ⟨_, _, _, _, _, _, _, _, _, _, _, _, _, rfl, _⟩ := h; rfl
  · obtain ⟨a, ob, d, t, as, Tr, o, F, f, g, m, n, q, rfl, hT, ho, hd, G, ok, k⟩ := h
    refine ⟨_, (pss_cons (ps_if (pt_cmpR op_notIn_seq (pe_fld (pv 2) rfl) (pe_fld (pv 1) rfl) (by rfl)) (pss_one (ps_ret pe_bl)) pss_nil)
      (pss_cons (ps_if (pt_val (pe_callB call_isiT (by rfl) (f_isinstance T) b_isinstance (pa_cons (pv 2) (pa_cons (pe_tup (pa_cons (pe_glob (v := .ref (He.ga K "MakeFolder")) rfl (g_MakeFolder T) rfl) (pa_cons (pe_glob (v := .ref (He.ga K "MakeFile")) rfl (g_MakeFile T) rfl) (pa_cons (pe_glob (v := .ref (He.ga K "MakeLink")) rfl (g_MakeLink T) rfl) pa_nil)))) pa_nil)))) (pss_one (ps_ret (pe_cmpR op_eq (pe_fld (pv 2) rfl) (pe_fld (pv 1) rfl) (nomark _)))) pss_nil)
      (pss_cons (ps_if (pt_val (pe_callB call_isi (by rfl) (f_isinstance T) b_isinstance (pa_cons (pv 2) (pa_cons (pe_glob (v := .ref (He.ga K "Put")) rfl (g_Put T) rfl) pa_nil)))) (pss_one (ps_ret (pe_cmpR op_eq (pe_fld (pe_ix ix_tup (pe_fld (pv 0) rfl) (pe_fld (pv 2) rfl) (fun _ _ => rfl)) rfl) (pe_fld (pv 1) rfl) (nomark _)))) pss_nil)
      (pss_cons (ps_if (PW.pt (pw_and (pt_val (pe_callB call_isi (by rfl) (f_isinstance T) b_isinstance (pa_cons (pv 2) (pa_cons (pe_glob (v := .ref (He.ga K "Move")) rfl (g_Move T) rfl) pa_nil)))) (pw_and1 (pt_cmpR op_notIn_seq (pe_fld (pv 2) rfl) (pe_fld (pv 1) rfl) (by rfl))))) (pss_one (ps_ret pe_bl)) pss_nil)
      (pss_cons (ps_set (i := 3) sc_is_allowed.nd rfl (Or.inl rfl) (C8.pe_c (c_node_at T) hr (by decide) rfl (pa_cons (pv 0) (pa_cons (pe_fld (pv 2) rfl) (pa_cons (pe_fld (pv 2) rfl) pa_nil)))))
      (pss_cons (ps_if (PW.pt (pw_or (pt_not (pt_val (pe_callB call_isi (by rfl) (f_isinstance T) b_isinstance (pa_cons (pe_ix ix_tup (pe_fld (pv 0) rfl) (pv 3) (fun _ _ => rfl)) (pa_cons (pe_glob (v := .ref (He.ga K "Folder")) rfl (g_Folder T) rfl) pa_nil))))) (pw_or1 (PW.pt (pw_and (pt_val (pe_callB call_isi (by rfl) (f_isinstance T) b_isinstance (pa_cons (pv 2) (pa_cons (pe_glob (v := .ref (He.ga K "Move")) rfl (g_Move T) rfl) pa_nil)))) (pw_and1 (pt_cmpR op_eq (pe_fld (pv 2) rfl) (pe_fld (pv 2) rfl) (nomark _)))))))) (pss_one (ps_ret pe_bl)) pss_nil)
      (pss_one (ps_ret (pe_cmpR op_in_seq (pv 3) (pe_fld (pv 1) rfl) (by rfl)))))))))), ?_⟩
    obtain ⟨dx, tf, hob, htf⟩ := ho
    obtain ⟨of, es, hfe⟩ := isF_of ok.ff
    have hes : ents Tr f = es := ents_of hfe
    have hok := G.nd f _ hfe
    have hlk : lookE es n = some m := look_of hok.srt (hes ▸ ok.hn)
    refine q_when (b := false) (et_is (et_test (ev_op (ev_mfolder T (ev_var rfl) hd) (ev_folders T (ev_var rfl) hob) (rv_niT (st_of htf) rfl (ints_flat F)))) (by rw [inV_ints, decide_eq_true ok.fF]; rfl)) (fun h => by cases h) fun _ H1 e1 => ?_
    have hd1 := hd.mono (Ex.i e1)
    refine q_when (b := false) (et_B (ev_isiT (b := false) (us := [.ref (He.ga K "MakeFolder"), .ref (He.ga K "MakeFile"), .ref (He.ga K "MakeLink")]) (ev_var rfl) (ea_cons ev_c (ea_cons ev_c (ea_cons ev_c ea_nil))) (by simp) (.cons (.own _) (.cons (.own _) (.cons (.own _) .nil))) (ty_mov T hd1) (by
      show PySem.W.kitAny K (.ref (He.ga K "Move")) [.ref (He.ga K "MakeFolder"), .ref (He.ga K "MakeFile"), .ref (He.ga K "MakeLink")] = some false
      simp only [PySem.W.kitAny, is_Move_MakeFolder T, is_Move_MakeFile T, is_Move_MakeLink T]))) (fun h => by cases h) fun _ H2 e2 => ?_
    have hd2 := hd1.mono (Ex.i e2)
    refine q_when (b := false) (et_B (ev_isi (ev_var rfl) ev_c (.own _) (ty_mov T hd2) (is_Move_Put T))) (fun h => by cases h) fun _ H3 e3 => ?_
    have hd3 := hd2.mono (Ex.i e3)
    have e03 := (e1.trans e2).trans e3
    refine q_when (b := false) (et_is (et_and (et_B (ev_isi (ev_var rfl) ev_c (.own _) (ty_mov T hd3) (is_Move_Move T))) fun _ => et_test (ev_op (ev_mgoal T (ev_var rfl) hd3) (ev_folders T (ev_var rfl) (e03 _ _ hob)) (rv_niT (st_of (e03 _ _ htf)) rfl (ints_flat F)))) (by rw [inV_ints, decide_eq_true ok.gF]; rfl)) (fun h => by cases h) fun _ H4 e4 => ?_
    have hd4 := hd3.mono (Ex.i e4)
    have e04 := e03.trans e4
    have hT4 := hT.mono (Ex.i e04)
    refine q_asg (v := .int (m : Int)) (ev_is (ev_call (dvs := []) (ea_cons (ev_var rfl) (ea_cons (ev_mfolder T (ev_var rfl) hd4) (ea_cons (ev_mname T (ev_var rfl) hd4) ea_nil))) (spNodeAt_v hT4 hfe (by have := hok.len; omega))) (by rw [hlk]; rfl)) fun H5 e5 => ?_
    have hd5 := hd4.mono (Ex.i e5)
    have hT5 := hT4.mono (Ex.i e5)
    have hmlt : m < Tr.length := ((G.esOk ok.ff).ok _ ok.hn).2.2.1
    obtain ⟨nd, hm⟩ : ∃ n, Tr[m]? = some n := ⟨_, List.getElem?_eq_getElem hmlt⟩
    obtain ⟨bb, hbb, nb⟩ := hT5.nds.at2 hm
    refine q_when (et_or (et_not (et_B (ev_isFol T (ev_node T (ev_var rfl) hT5 (ev_var rfl) hbb) nb))) fun _ => et_and (et_B (ev_isi (ev_var rfl) ev_c (.own _) (ty_mov T hd5) (is_Move_Move T))) fun _ => et_test (ev_op (ev_mgoal T (ev_var rfl) hd5) (ev_mfolder T (ev_var rfl) hd5) (rv_eq rfl))) (fun hb H6 e6 => ?_) fun hb H6 e6 => ?_
    · exact s_ret ev_c fun H7 e7 => k H7 (((e04.trans e5).trans e6).trans e7)
    · have e06 := (e04.trans e5).trans e6
      have hF : isF Tr m = true := by
        rw [isF_nd hm]
        rw [Bool.or_eq_false_iff] at hb
        simpa using hb.1
      refine s_ret (ev_is (ev_op (ev_var rfl) (ev_folders T (ev_var rfl) (e06 _ _ hob)) (rv_isT (st_of (e06 _ _ htf)) rfl (ints_flat F))) ?_) fun H7 e7 => k H7 (e06.trans e7)
      rw [inV_ints, decide_eq_true (ok.nF hF)]
theorem sc_may : FnScope ["tree", "others", "deed"] ["tree", "others", "deed"] (defScope s_may) := ⟨rfl, rfl, rfl, by decide +kernel, rfl, by decide +kernel, by decide +kernel⟩
theorem c_may (T : Txt K mg) : C8.Cal P w K mg base 8 "may" (spMay K) [] := by
  refine cal_of (fd_may T) (g_may T) (fun _ _ _ _ _ _ us hl => match us, hl with | [_, _, _], _ => rfl) sc_may (fun vs H Q E h => ?_) (fun cdv A outer s H vs Q E hr h => ?_)
  · obtain ⟨_, _, _, _, _, _, _, _, _, _, _, _, _, _, rfl, _⟩ := h; rfl
  · obtain ⟨a, ob, d, t, as, Tr, o, F, f, g, m, n, q, b, rfl, hT, ho, hd, G, ok, hb, k⟩ := h
    refine ⟨_, (pss_cons (ps_expr (C8.pe_c (c_check_others T) hr (by decide) rfl (pa_cons (pv 0) (pa_cons (pv 1) pa_nil))))
      (pss_one (ps_ret (pe_and (pe_cmpR op_isN (C8.pe_c (c_wrong_deed T) hr (by decide) rfl (pa_cons (pv 0) (pa_cons (pv 2) pa_nil))) pe_non (nomark _)) (pe_one (C8.pe_c (c_is_allowed T) hr (by decide) rfl (pa_cons (pv 0) (pa_cons (pv 1) (pa_cons (pv 2) pa_nil))))))))), ?_⟩
    refine q_drop (ev_call (dvs := []) (ea_cons (ev_var rfl) (ea_cons (ev_var rfl) ea_nil)) (spChkO_v hT ho ok.FF)) fun H1 e1 => ?_
    refine s_ret (ev_is (ev_andV (a := !b) (b := true) (ev_is (ev_isN (ev_call (dvs := []) (ea_cons (ev_var rfl) (ea_cons (ev_var rfl) ea_nil)) (spWD_v (hT.mono (Ex.i e1)) (hd.mono (Ex.i e1)) G ok hb))) (by cases b <;> rfl)) fun _ => ev_call (dvs := []) (ea_cons (ev_var rfl) (ea_cons (ev_var rfl) (ea_cons (ev_var rfl) ea_nil))) fun H2 e2 Q q' E => ⟨a, ob, d, t, as, Tr, o, F, f, g, m, n, q, rfl, hT.mono (Ex.i (e1.trans e2)), ho.mono (Ex.i (e1.trans e2)), hd.mono (Ex.i (e1.trans e2)), G, ok, q'⟩) (by rw [Bool.and_true])) fun H2 e2 => k H2 (e1.trans e2)
end
end NW
set_option maxHeartbeats 4000000
/-! sorted(a dict of numbers), d.update(e), sorted(d.items()). -/
namespace NW
open PySem PySem.Spec PyProof.Rows L2
theorem ints_at : ∀ {us : List Value} {ks : List Int}, us.length = ks.length → (∀ (j : Nat) (v : Value), us[j]? = some v → ∃ (x : Int) (t : Tok), ks[j]? = some x ∧ v = Value.int x t) → IntsAre us ks
  | [], [], _, _ => .nil
  | u :: us, k :: ks, hl, h => by
    obtain ⟨x, t, e1, e2⟩ := h 0 u rfl
    have e1' : k = x := Option.some.inj e1
    subst e1'
    subst e2
    refine .cons _ _ (ints_at (by simpa using hl) fun j v e => ?_)
    obtain ⟨x, t, a, b⟩ := h (j + 1) v (by simpa using e)
    exact ⟨x, t, by simpa using a, b⟩
  | [], _ :: _, hl, _ => by simp at hl
  | _ :: _, [], hl, _ => by simp at hl
section
variable {X : Cx}
def rSortedDI : List V → Hp → VK → Prop := fun xs H Q => ∃ (a : Addr) (kvs : List (L2.Key × V)) (ks : List Int), xs = [.ref a] ∧ Rd H a (.dK kvs) ∧ kvs.map (·.1) = ks.map Sum.inl ∧ ks.length < 64 ∧
    ∀ (ys : List Int) (p : Addr), ys.Perm ks → ys.Pairwise (· ≤ ·) → H p = none → Q (.ref p) (upd H p (.lst (ys.map V.int)))
theorem call_sortedDI (hcalm : X.calm = true) : CallR X (.builtin "sorted") rSortedDI := by
  intro pins s σ H xs us Q I r q
  obtain ⟨a, kvs, ks, ex, hd, hks, h64, q⟩ := q
  subst ex
  obtain ⟨u, eu, rx⟩ := vals1 r
  subst eu
  cases rx
  obtain ⟨z, lo, vs, rel, dd⟩ := dk_rd I.hok hd
  obtain ⟨ep, hat⟩ := dd.dictAt
  have hkeys : vs.map (·.1) = ks.map Sum.inl := rel.keys.symm.trans hks
  have hl : vs.length = ks.length := by
    have e := congrArg List.length hkeys
    rw [List.length_map, List.length_map] at e
    exact e
  have h16 : vs.length ≤ sizeLine := by rw [hl, sizeLine_eq]; omega
  refine Calls.call_function_entry PyProof.Rows.kind_sorted PyProof.Rows.plain_sorted PyProof.Rows.entry_sorted (PyProof.Rows.args_sorted1 _) ?_
  unfold Builtin.«sorted»
  refine wpAny_bind (m := checkCount "sorted" 1 1 _) (wpAny_pure ?_)
  refine wpAny_bind (PySem.W.kdu_collect (A := X.A.in1) (PySem.W.kdl_dict (knd := mixKind X.prog X.w) (kvs := vs) (ep := ep) lo) (I.ok.hd hcalm) hat h16 fun h' tk acc hk hacc => ?_)
  have hal : acc.toList.length = ks.length := by rw [Array.length_toList, hacc.1, hl]
  have hS : IntsAre acc.toList ks := ints_at hal fun j v e => by
    obtain ⟨k, x, e1, e2⟩ := hacc.2 j v (by rw [← Array.getElem?_toList]; exact e)
    have e3 : (vs.map (·.1))[j]? = some k := by rw [List.getElem?_map, e1]; all_goals rfl
    rw [hkeys, List.getElem?_map] at e3
    cases e4 : ks[j]? with
    | none => rw [e4] at e3; cases e3
    | some y =>
      rw [e4] at e3
      have e5 : Sum.inl y = k := Option.some.inj e3
      subst e5
      obtain ⟨t, ev⟩ := Value.isInt_shape (k := y) (v := v) e2
      exact ⟨y, t, rfl, ev⟩
  have I1 : Inv X pins σ H { s with heap := h', toks := tk } := I.kept hk
  refine wpAny_bind (wpAny_newList ?_ (by rw [hal, sizeLine_eq]; omega))
  have hoL : (h'.push (seqObj "list" acc.toList.toArray 0)).get? h'.objs.size = some (seqObj "list" acc.toList.toArray 0) := Heap.get?_push_size _ rfl
  show wpAny _ _ _ _ _ { s with heap := h'.push (seqObj "list" acc.toList.toArray 0), toks := tk }
  refine wpAny_bind (wpAny_holding (wpAny_call_entry PyProof.Rows.slot_list_sort ⟨_, hoL, rfl⟩ PyProof.Rows.entry_list_sort
    (list_sort_tree (s := { s with heap := h'.push (seqObj "list" acc.toList.toArray 0), toks := tk }) hoL hS (by rw [hal]; exact h64) fun out ys g1 g2 g3 => ⟨_, rfl, ?_⟩)
    (PyProof.Rows.args_list_sort _)))
  obtain ⟨e', he'⟩ := PyProof.Rows.sortedHeap_at (vs := acc.toList) (out := out) hoL
  have hlen : (ys.map V.int).length ≤ sizeLine := by
    rw [List.length_map, g2.length_eq]
    exact Nat.le_trans (Nat.le_of_lt h64) (by decide)
  refine wpAny_pure ⟨_, rfl, .ref h'.objs.size, upd H h'.objs.size (.lst (ys.map V.int)), I1.laid (t' := tk) (fun b u e => ?_) (Nat.le_refl _)
    (show ObjOk X.prog X.w _ _ _ (.lst (ys.map V.int)) from ⟨hlen, out.toList, e', vals_of_ints g1, by rw [Array.toArray_toList]; exact he'⟩), rfl, q ys _ g2 g3 (I1.hok.fresh (Nat.le_refl _))⟩
  have hb : b < h'.objs.size := Heap.lt_size e
  rw [PyProof.Rows.sortedHeap_old (Nat.ne_of_lt hb) (by rw [size_push']; exact Nat.lt_succ_of_lt hb)]
  exact Heap.get?_push_of_some _ e
/-- d.update(e) -/
def rUpdate : V → List V → Hp → VK → Prop := fun x xs H Q => ∃ (a b : Addr) (kvs more : List (L2.Key × V)), x = .ref a ∧ xs = [.ref b] ∧ a ≠ b ∧ H a = some (.dK kvs) ∧ H b = some (.dK more) ∧ kvs.length + more.length ≤ sizeLine ∧ Q .non (upd H a (.dK (mergeK kvs more)))
theorem mt_update : MtR X "dict.update" rUpdate := by
  intro pins s σ H x xs v us Q I rx rxs h
  obtain ⟨a, b, kvs, more, rfl, rfl, hab, ha, hb, hz, q⟩ := h
  obtain rfl : v = Value.ref a := rx
  obtain ⟨u, rfl, ru⟩ := rxs.one
  obtain rfl : u = Value.ref b := ru
  obtain ⟨z1, lo1, vs1, r1, d1⟩ := dk_of I.hok ha
  obtain ⟨z2, lo2, vs2, r2, d2⟩ := dk_of I.hok hb
  refine call_meetsIn PySem.F.slot_dict_update d1.typeIs PySem.F.entry_dict_update (PySem.F.args_dict_update_2 _ _) (meets_dict_update (mixKind X.prog X.w) a b hab lo2)
    ⟨vs1, vs2, d1, d2, by rw [← r1.length, ← r2.length]; exact hz, fun h' dd' _ hs => ?_⟩
  have he : ∃ q, h'.get? a = some q := let ⟨q, _, _, hq, _⟩ := dd'; ⟨q, hq⟩
  exact ⟨.non, _, d_write (t' := s.toks) I (by rw [ha]; exact True.intro) hs he (dk_new (Nat.le_trans (length_mergeK more kvs) hz) lo1 (KV.merge r2 r1) dd'), rfl, q⟩
end
end NW
set_option maxHeartbeats 4000000
/-! sorted(d.items()) of numbers. -/
namespace NW
open PySem PySem.Spec PyProof.Rows L2
/-- the pair at an address -/
def pairIn (h : Heap) (v : Value) : Int × Int := match v with
  | .ref a => match h.get? a with
    | some o => match o.data with
      | .seq xs _ => match xs.toList with
        | [.int x _, .int y _] => (x, y)
        | _ => (0, 0)
      | _ => (0, 0)
    | none => (0, 0)
  | _ => (0, 0)
theorem pairIn_of {h : Heap} {a : Addr} {x y : Int} {t u : Tok} (e : h.get? a = some { cls := .type "tuple", data := .seq #[.int x t, .int y u] }) : pairIn h (.ref a) = (x, y) := by
  unfold pairIn
  simp only [e]
abbrev prD (ps : List (Int × Int)) : List (L2.Key × V) := ps.map fun p => ((Sum.inl p.1 : L2.Key), V.int p.2)
section
variable {X : Cx}
theorem tups_laid {pins : List (Addr × Obj)} {σ : L2.St} {H : Hp} {s : Shared} {h' : Heap} {tk : Nat} {kvs : List (L2.Key × V)} {vs : List (L2.Key × Value)} {as : List Addr} (I : Inv X pins σ H s) (kv : KV kvs vs)
    (hk : ∀ b o, s.heap.get? b = some o → h'.get? b = some o) (hl : as.length = vs.length) (hG : PySem.W.KdxG (mixKind X.prog X.w) vs s.heap.objs.size h' as) :
    ∃ H' : Hp, (∀ b o, H b = some o → H' b = some o) ∧ Paired (fun (t : Addr) (q : L2.Key × V) => H' t = some (.tup [kV q.1, q.2])) as kvs ∧ Inv X pins σ H' { s with heap := h', toks := tk } := by
  have lk : kvs.length = vs.length := Paired.length kv
  have nd : as.Nodup := List.Pairwise.imp (fun {a b} (h : a < b) => Nat.ne_of_lt h) hG.rise
  have new : ∀ t ∈ as, H t = none := fun t ht => I.hok.fresh (Nat.le_of_lt (hG.above t ht))
  have atP := LiI.putT_at as kvs H (by omega) nd
  have off : ∀ b, b ∉ as → LiI.putT H as kvs b = H b := fun b h1 => LiI.putT_off as kvs _ h1
  have low : ∀ b o, s.heap.get? b = some o → b ∉ as := fun b o e z => absurd (Heap.lt_size e) (Nat.not_lt.mpr (Nat.le_of_lt (hG.above b z)))
  have kp : ∀ b u, H b = some u → (LiI.putT H as kvs) b = some u := fun b u e => by
    rw [off b (fun z => by rw [new b z] at e; cases e)]
    exact e
  refine ⟨LiI.putT H as kvs, kp, atP, ?_⟩
  refine I.call' (ch := []) rfl ⟨fun b o q _ _ _ => hk b o q, fun b o q _ _ _ => ⟨o.slots, hk b o q⟩, fun b o q n _ => ?_, fun b o q _ => ⟨o, hk b o q⟩, fun b xs q => kp b _ q, fun b o u q => kp b _ q, fun b ps q => ⟨#[], by rw [kp b _ q]; simp⟩⟩ (fun b u q => ?_) I.bare fun b z => by simp at z
  · rw [off b (low b o q)]
    exact n
  · by_cases hb : b ∈ as
    · obtain ⟨j, pk, e1, e2, e3⟩ := LiI.paired_ix atP hb
      rw [e3] at q
      cases q
      obtain ⟨key, k, x, f1, f2, f3⟩ := hG.pairs j b e1
      obtain ⟨qv, g1, g2, g3⟩ := LiI.paired_get kv e2
      rw [f1] at g1
      cases g1
      have rk : RelV (kV pk.1) key := by
        rw [g2]
        exact relV_key (show keyIs k key = true from f2)
      exact ⟨by show 2 ≤ sizeLine; decide, [key, x], .cons rk (.cons g3 .nil), ⟨_, f3, rfl, _, rfl⟩⟩
    · rw [off b hb] at q
      exact (I.hok b u q).stay (fun d v _ y => hk d v y) (fun d y => kp d _ y) fun d xs y => kp d _ y
def rItemsS : V → Hp → VK → Prop := fun x H Q => ∃ (d : Addr) (ps : List (Int × Int)), x = .ref d ∧ H d = some (.dK (prD ps)) ∧
  ∀ (H' : Hp) (p : Addr) (ts : List Addr) (qs : List (Int × Int)), (∀ b o, H b = some o → H' b = some o) → H p = none → H' p = some (.lst (ts.map V.ref)) → qs.Perm ps → qs.Pairwise (fun a b => a.1 ≤ b.1) → Paired (fun (t : Addr) (q : Int × Int) => H' t = some (.tup [.int q.1, .int q.2])) ts qs → Q (.ref p) H'
def tSortedItems (te : TE) : TE := fun σ H Q => te σ H fun x H1 => rItemsS x H1 Q
theorem paired_self {α β : Type} {F : α → β → Prop} {g : α → β} : ∀ {xs : List α}, (∀ x ∈ xs, F x (g x)) → Paired F xs (xs.map g)
  | [], _ => .nil
  | x :: _, h => .cons (h x List.mem_cons_self) (paired_self fun y hy => h y (List.mem_cons_of_mem _ hy))
variable {e : Expr} {te : TE} {p apos cpos pos : Pos}
theorem pe_sortedItems (hc : X.calm = true) (he : PE X e te) (hg : Gl X "sorted") (hm : X.mg "sorted" = none) (hv : bootBuiltins "sorted" = some (.builtin "sorted")) (hbase : attributeBase e "items" X.env (eval e X.env) = eval e X.env := by rfl) (hline : (apos.endLine == cpos.line) = true := by rfl)
    (hs : starEach [.Call (.Attribute e "items" apos) [] [] cpos] X.env = (false, eval (.Call (.Attribute e "items" apos) [] [] cpos) X.env) :: starEach [] X.env := by rfl) :
    PE X (.Call (.Name "sorted" p) [.Call (.Attribute e "items" apos) [] [] cpos] [] pos) (tSortedItems te) := by
  refine ⟨fun pins s σ H Q I hq => ?_⟩
  refine wpAny_Call_Name_kw (ld_blt I hg hm hv ?_)
  refine PyProof.Rows.callWith_builtin1 ?_ hs rfl
  rw [hs]
  show wpAny _ _ (spliced ((false, eval (.Call (.Attribute e "items" apos) [] [] cpos) X.env) :: backTo pos (starEach [] X.env))) _ _ s
  refine Calls.spliced_cons ?_
  refine wpAny_Call_method (T := "dict") (id := "dict.items") hbase rfl hline F.plainAttrs_dict F.slot_dict_items F.type_dict_items (thn (he.run pins s σ H _ I hq) fun u s1 ⟨x, H1, I1, rx, d, ps, ex, hd, q⟩ => ?_)
  subst ex
  obtain rfl : u = Value.ref d := rx
  obtain ⟨hz, hs0, vs, kv, hdo⟩ := I1.hok d _ hd
  obtain ⟨ep, hat⟩ := hdo.dictAt
  have lk : (prD ps).length = vs.length := Paired.length kv
  have lk2 : ps.length = vs.length := by rw [← lk, List.length_map]
  have hvz : vs.length ≤ sizeLine := by omega
  have I2 : Inv X pins σ H1 { s1 with heap := s1.heap.push { cls := .type "dict_items", data := .fields #[.ref d] } } := I1.kept (t' := s1.toks) fun b ob q => Heap.get?_push_of_some _ q
  refine ⟨hdo.typeIs, hdo.mapOf.noDict, ?_⟩
  show wpAny _ _ (callWith cpos (.builtin "dict.items") [.ref d] [] []) _ X.xe s1
  refine method_meetsIn F.slot_dict_items F.entry_dict_items rfl (PySem.evalArgs_none ⟨rfl, hdo.typeIs, F.args_dict_items_1 _, _, meets_dict_items (mixKind X.prog X.w) d hs0, ⟨vs, hdo⟩, ?_⟩)
  refine Calls.spliced_nil ?_
  refine Calls.call_function_entry kind_sorted plain_sorted entry_sorted (args_sorted1 _) ?_
  unfold Builtin.«sorted»
  refine wpAny_bind (m := checkCount "sorted" 1 1 _) (wpAny_pure ?_)
  refine wpAny_bind (PySem.W.kdx_collect (knd := mixKind X.prog X.w) (kvs := vs) (ep := ep) (A := X.A.in1) (I1.ok.hd hc) ⟨_, Heap.get?_push_size _ rfl, rfl, rfl⟩ (hat.push _) hvz fun h' tk as hk hl hG => ?_)
  obtain ⟨H', k1, k2, J⟩ := tups_laid (tk := tk) I2 kv hk hl hG
  have hlen : (as.map Value.ref).length ≤ sizeLine := by rw [List.length_map]; omega
  -- each pair
  have pr : ∀ (j : Nat) (a : Addr), as[j]? = some a → ∃ (q : Int × Int) (t u : Tok), ps[j]? = some q ∧ h'.get? a = some { cls := .type "tuple", data := .seq #[.int q.1 t, .int q.2 u] } ∧ H' a = some (.tup [.int q.1, .int q.2]) := by
    intro j a hj
    obtain ⟨key, k, x, f1, f2, f3⟩ := hG.pairs j a hj
    obtain ⟨pk, e2, e3⟩ := LiI.paired_get k2 hj
    obtain ⟨qv, g1, g2, g3⟩ := LiI.paired_get kv e2
    rw [f1] at g1
    cases g1
    rw [List.getElem?_map] at e2
    cases c : ps[j]? with
    | none => rw [c] at e2; cases e2
    | some q =>
      rw [c] at e2
      obtain rfl : ((Sum.inl q.1 : L2.Key), V.int q.2) = pk := Option.some.inj e2
      subst g2
      obtain ⟨t, rfl⟩ := Value.isInt_shape (k := q.1) (v := key) f2
      obtain ⟨u, rfl⟩ := g3
      exact ⟨q, t, u, rfl, f3, e3⟩
  have hkm : (as.map Value.ref).map (pairIn h') = ps := by
    refine List.ext_getElem? fun j => ?_
    rw [List.getElem?_map, List.getElem?_map]
    cases c : as[j]? with
    | none =>
      have : ps.length ≤ j := by have := List.getElem?_eq_none_iff.mp c; omega
      rw [List.getElem?_eq_none this]
      rfl
    | some a =>
      obtain ⟨q, t, u, e1, e2, _⟩ := pr j a c
      rw [e1]
      exact congrArg some (pairIn_of e2)
  have hp : ∀ v ∈ as.map Value.ref, Srt.IsPair h' v (pairIn h' v).1 (pairIn h' v).2 := by
    intro v hv
    obtain ⟨a, ha, rfl⟩ := List.mem_map.mp hv
    obtain ⟨j, hj⟩ := List.getElem?_of_mem ha
    obtain ⟨q, t, u, _, e2, _⟩ := pr j a hj
    rw [pairIn_of e2]
    exact ⟨a, _, t, u, _, rfl, e2, rfl, rfl⟩
  refine wpAny_bind (wpAny_newList ?_ hlen)
  have hoL : (h'.push (seqObj "list" (as.map Value.ref).toArray 0)).get? h'.objs.size = some (seqObj "list" (as.map Value.ref).toArray 0) := Heap.get?_push_size _ rfl
  show wpAny _ _ _ _ _ { s1 with heap := h'.push (seqObj "list" (as.map Value.ref).toArray 0), toks := tk }
  refine wpAny_bind (wpAny_holding (wpAny_call_entry PyProof.Rows.slot_list_sort ⟨_, hoL, rfl⟩ PyProof.Rows.entry_list_sort
    (SrtO.list_sort_ord (s := { s1 with heap := h'.push (seqObj "list" (as.map Value.ref).toArray 0), toks := tk }) (SrtO.swo_lex (pairIn h')) hoL hlen (fun h2 => ?_) fun out hso hst => ⟨_, rfl, ?_⟩)
    (PyProof.Rows.args_list_sort _)))
  · refine SrtO.pairs_sortableO (by omega) (fun v hm => (hp v hm).keeps fun b o e _ => Heap.get?_push_of_some _ e) fun o e => ?_
    have e' : some o = some (seqObj "list" (as.map Value.ref).toArray 0) := e.symm.trans hoL
    cases e'
    intro c
    exact absurd (Value.type.inj c) (by decide)
  · have hperm : out.Perm (as.map Value.ref) := hst.perm
    let un : Value → Addr := fun v => match v with | .ref a => a | _ => 0
    have hout : out = (out.map un).map Value.ref := by
      rw [List.map_map]
      refine (List.map_id _).symm.trans (List.map_congr_left fun v hv => ?_)
      obtain ⟨a, _, rfl⟩ := List.mem_map.mp (hperm.subset hv)
      rfl
    have hts : (out.map un).Perm as := by
      have q := hperm.map un
      rw [List.map_map, show (un ∘ Value.ref) = id from rfl, List.map_id] at q
      exact q
    obtain ⟨e', he'⟩ := PyProof.Rows.sortedHeap_at (vs := as.map Value.ref) (out := out.toArray) hoL
    have hl3 : ((out.map un).map V.ref).length ≤ sizeLine := by rw [List.length_map, hts.length_eq]; omega
    have old : ∀ b u, h'.get? b = some u → (sortedHeap (h'.push (seqObj "list" (as.map Value.ref).toArray 0)) h'.objs.size (as.map Value.ref) out.toArray).get? b = some u := fun b u e => by
      have hb : b < h'.objs.size := Heap.lt_size e
      rw [PyProof.Rows.sortedHeap_old (Nat.ne_of_lt hb) (by rw [size_push']; exact Nat.lt_succ_of_lt hb)]
      exact Heap.get?_push_of_some _ e
    refine wpAny_pure ⟨_, rfl, .ref h'.objs.size, upd H' h'.objs.size (.lst ((out.map un).map V.ref)), J.laid (t' := tk) old (Nat.le_refl _)
      (show ObjOk X.prog X.w _ _ _ (.lst ((out.map un).map V.ref)) from ⟨hl3, out, e', by
        have z := LiI.vals_refs (out.map un)
        rw [← hout] at z
        exact z, he'⟩), rfl, ?_⟩
    have hf := J.hok.fresh (Nat.le_refl _)
    have hf1 : H1 h'.objs.size = none := by
      cases c : H1 h'.objs.size with
      | none => rfl
      | some o => rw [k1 _ _ c] at hf; cases hf
    have eq2 : (out.map (pairIn h')) = (out.map un).map fun a => pairIn h' (.ref a) := by
      have : out.map (pairIn h') = ((out.map un).map Value.ref).map (pairIn h') := by rw [← hout]
      rw [this, List.map_map]
      rfl
    refine q _ _ (out.map un) (out.map (pairIn h')) (fun b o z => ?_) hf1 upd_same ?_ ?_ ?_
    · rw [upd_ne (ne_of_none z hf1)]
      exact k1 b o z
    · have z := hperm.map (pairIn h')
      rw [hkm] at z
      exact z
    · rw [List.pairwise_map]
      refine hso.imp fun {a b} z => ?_
      have z2 := SrtO.lexB_no.mp z
      omega
    · rw [eq2]
      refine paired_self fun a ha => ?_
      obtain ⟨j, hj⟩ := List.getElem?_of_mem (hts.subset ha)
      obtain ⟨qq, t, u, _, e2, e3⟩ := pr j a hj
      rw [pairIn_of e2, upd_ne (ne_of_none e3 hf)]
      exact e3
end
end NW
set_option maxHeartbeats 4000000
/-! Loose nodes, heads, pieces, in plain Lean. -/
namespace NW
open PySem
/-- an entry of one of the folders F leads to it, and it may be moved -/
def isLoose (T : Tr) (F : List Nat) (n : Nat) : Bool := F.any fun f => (ents T f).any fun e => decide (e.2 = n) && (!isF T n || decide (n ∈ F))
def looseN (T : Tr) (F : List Nat) : List Nat := (List.range T.length).filter (isLoose T F)
theorem loose_iff {T : Tr} {F : List Nat} {n : Nat} : isLoose T F n = true ↔ ∃ f ∈ F, ∃ nm, (nm, n) ∈ ents T f ∧ (isF T n = true → n ∈ F) := by
  unfold isLoose
  simp only [List.any_eq_true, Bool.and_eq_true, decide_eq_true_eq, Bool.or_eq_true, Bool.not_eq_true']
  constructor
  · rintro ⟨f, hf, e, he, rfl, h⟩
    exact ⟨f, hf, e.1, he, fun hn => h.elim (fun z => by rw [z] at hn; cases hn) id⟩
  · rintro ⟨f, hf, nm, he, h⟩
    refine ⟨f, hf, (nm, n), he, rfl, ?_⟩
    cases q : isF T n with
    | false => exact .inl rfl
    | true => exact .inr (h q)
theorem mem_loose {T : Tr} (G : Good T) {F : List Nat} {n : Nat} : n ∈ looseN T F ↔ isLoose T F n = true := by
  unfold looseN
  rw [List.mem_filter, List.mem_range]
  refine ⟨fun h => h.2, fun h => ⟨?_, h⟩⟩
  obtain ⟨f, _, nm, he, _⟩ := loose_iff.mp h
  exact ((G.esOk (ents_fol he)).ok _ he).2.2.1
theorem loose_pos {T : Tr} (G : Good T) {F : List Nat} {n : Nat} (h : n ∈ looseN T F) : n ≠ 0 := by
  obtain ⟨f, _, nm, he, _⟩ := loose_iff.mp ((mem_loose G).mp h)
  have := ((G.esOk (ents_fol he)).ok _ he).2.1
  show n ≠ 0
  intro z
  subst z
  exact absurd this (Nat.lt_irrefl _)
theorem asc_range (n : Nat) (f : Nat → Bool) : ((List.range n).filter f).Pairwise (· < ·) := List.Pairwise.filter _ List.pairwise_lt_range
theorem asc_nodup {l : List Nat} (h : l.Pairwise (· < ·)) : l.Nodup := h.imp fun h => Nat.ne_of_lt h
/-- a sorted list of numbers is told by what is in it -/
theorem sorted_ints_eq {ys : List Int} {ms zs : List Nat} (hp : ys.Perm (ms.map fun m : Nat => (m : Int))) (hs : ys.Pairwise (· ≤ ·)) (nd : ms.Nodup) (hz : zs.Pairwise (· < ·)) (hm : ∀ x, x ∈ ms ↔ x ∈ zs) : ys = zs.map fun m : Nat => (m : Int) := by
  have p2 : ms.Perm zs := (List.perm_ext_iff_of_nodup nd (asc_nodup hz)).mpr hm
  have p3 := hp.trans (p2.map fun m : Nat => (m : Int))
  refine List.Perm.eq_of_pairwise (le := (· ≤ ·)) (fun a b _ _ h1 h2 => Int.le_antisymm h1 h2) hs ?_ p3
  rw [List.pairwise_map]
  exact hz.imp fun h => by omega
/-- the head of a folder's piece -/
inductive Hd (T : Tr) (L : List Nat) : Nat → Nat → Prop where
  | root : Hd T L 0 0
  | own {n : Nat} : n ≠ 0 → n ∈ L → Hd T L n n
  | up {n h : Nat} : n ≠ 0 → n ∉ L → Hd T L (parN T n) h → Hd T L n h
theorem Hd.uniq {T : Tr} {L : List Nat} {n h h' : Nat} (a : Hd T L n h) (b : Hd T L n h') : h = h' := by
  induction a with
  | root =>
    cases b with
    | root => rfl
    | own z _ => exact absurd rfl z
    | up z _ _ => exact absurd rfl z
  | own z m =>
    cases b with
    | root => exact absurd rfl z
    | own _ _ => rfl
    | up _ m' _ => exact absurd m m'
  | up z m _ ih =>
    cases b with
    | root => exact absurd rfl z
    | own _ m' => exact absurd m' m
    | up _ _ q => exact ih q
theorem Good.rkpar {T : Tr} (G : Good T) {rk : Nat → Nat} (hrk : ∀ f nm n, (nm, n) ∈ ents T f → isF T n = true → rk f < rk n) {n : Nat} (h : isF T n = true) (h0 : n ≠ 0) : rk (parN T n) < rk n := by
  obtain ⟨f, nm, _, _, hm, hp⟩ := G.entry h h0
  rw [hp]
  exact hrk f nm n hm h
theorem Hd.ex {T : Tr} (G : Good T) (L : List Nat) {n : Nat} (h : isF T n = true) : ∃ x, Hd T L n x := by
  obtain ⟨rk, hrk⟩ := G.rk
  induction e : rk n using Nat.strongRecOn generalizing n with
  | _ m ih =>
    subst e
    by_cases h0 : n = 0
    · subst h0
      exact ⟨0, .root⟩
    · by_cases hl : n ∈ L
      · exact ⟨n, .own h0 hl⟩
      · obtain ⟨x, hx⟩ := ih _ (G.rkpar hrk h h0) (G.par_fol h) rfl
        exact ⟨x, .up h0 hl hx⟩
open Classical in
noncomputable def headN (T : Tr) (L : List Nat) (n : Nat) : Nat := if h : ∃ x, Hd T L n x then Classical.choose h else 0
theorem head_spec {T : Tr} (G : Good T) (L : List Nat) {n : Nat} (h : isF T n = true) : Hd T L n (headN T L n) := by
  unfold headN
  rw [dif_pos (Hd.ex G L h)]
  exact Classical.choose_spec (Hd.ex G L h)
theorem head_eq {T : Tr} {L : List Nat} {n h : Nat} (a : Hd T L n h) : headN T L n = h := by
  unfold headN
  have e : ∃ x, Hd T L n x := ⟨h, a⟩
  rw [dif_pos e]
  exact (Classical.choose_spec e).uniq a
theorem Hd.fol {T : Tr} (G : Good T) {L : List Nat} {n h : Nat} (a : Hd T L n h) (hn : isF T n = true) : isF T h = true := by
  induction a with
  | root => exact hn
  | own _ _ => exact hn
  | up _ _ _ ih => exact ih (G.par_fol hn)
/-- the pieces: the folders of one head, by their heads -/
noncomputable def headsUsed (T : Tr) (L : List Nat) : List Nat := (List.range T.length).filter fun h => (fols T).any fun n => decide (headN T L n = h)
noncomputable def piecesN (T : Tr) (L : List Nat) : List (List Nat) := (headsUsed T L).map fun h => (fols T).filter fun n => decide (headN T L n = h)
/-- the loose nodes with one entry -/
def someN (T : Tr) (L : List Nat) : List Nat := L.filter fun n => decide ((entsTo T n).length = 1)
noncomputable def arrN (T : Tr) (F : List Nat) : Nat :=
  if someN T (looseN T F) = [] then 1 else (F.filter fun f => decide (headN T (looseN T F) f = 0)).length * F.length ^ ((someN T (looseN T F)).length - 1)
theorem fols_asc (T : Tr) : (fols T).Pairwise (· < ·) := asc_range _ _
end NW
set_option maxHeartbeats 4000000
/-! loose, heads_of. -/
namespace NW
open PySem PySem.Spec PyProof.Rows L2 Evl
/-! ### a dict of numbers to numbers -/
abbrev prN (l : List (Nat × Nat)) : List (L2.Key × V) := l.map fun p => ((Sum.inl (p.1 : Int) : L2.Key), V.int (p.2 : Int))
def putN (l : List (Nat × Nat)) (n h : Nat) : List (Nat × Nat) := if (l.any fun p => decide (p.1 = n)) = true then l.map (fun p => if p.1 = n then (p.1, h) else p) else l ++ [(n, h)]
def mergeN (l more : List (Nat × Nat)) : List (Nat × Nat) := more.foldl (fun acc p => putN acc p.1 p.2) l
theorem prN_put (l : List (Nat × Nat)) (n h : Nat) : putK (prN l) (Sum.inl (n : Int)) (V.int (h : Int)) = prN (putN l n h) := by
  have key : ∀ m : Nat, ((Sum.inl (m : Int) : L2.Key) = Sum.inl (n : Int)) ↔ m = n := fun m => ⟨fun e => Int.ofNat.inj (Sum.inl.inj e), fun e => by rw [e]⟩
  unfold putK putN prN
  rw [List.any_map]
  have e1 : (l.any ((fun kv : L2.Key × V => decide (kv.1 = Sum.inl (n : Int))) ∘ fun p : Nat × Nat => ((Sum.inl (p.1 : Int) : L2.Key), V.int (p.2 : Int)))) = l.any fun p => decide (p.1 = n) := by
    congr 1
    funext p
    exact decide_eq_decide.mpr (key p.1)
  rw [e1]
  split
  · rw [List.map_map, List.map_map]
    refine List.map_congr_left fun p _ => ?_
    show (if (Sum.inl (p.1 : Int) : L2.Key) = Sum.inl (n : Int) then _ else _) = _
    by_cases e : p.1 = n
    · rw [if_pos ((key p.1).mpr e)]
      simp only [Function.comp, e, if_true]
    · rw [if_neg (fun z => e ((key p.1).mp z))]
      simp only [Function.comp, e, if_false]
  · rw [List.map_append]
    rfl
theorem prN_merge : ∀ (more l : List (Nat × Nat)), mergeK (prN l) (prN more) = prN (mergeN l more)
  | [], _ => rfl
  | p :: r, l => by
    show mergeK (putK (prN l) (Sum.inl (p.1 : Int)) (V.int (p.2 : Int))) (prN r) = _
    rw [prN_put, prN_merge r]
    rfl
theorem keys_putN (l : List (Nat × Nat)) (n h : Nat) : (putN l n h).map (·.1) = if n ∈ l.map (·.1) then l.map (·.1) else l.map (·.1) ++ [n] := by
  have e : ((l.any fun p => decide (p.1 = n)) = true) ↔ n ∈ l.map (·.1) := by
    rw [List.any_eq_true, List.mem_map]
    exact ⟨fun ⟨p, hp, q⟩ => ⟨p, hp, of_decide_eq_true q⟩, fun ⟨p, hp, q⟩ => ⟨p, hp, decide_eq_true q⟩⟩
  unfold putN
  by_cases c : n ∈ l.map (·.1)
  · rw [if_pos (e.mpr c), if_pos c, List.map_map]
    refine List.map_congr_left fun p _ => ?_
    show (if p.1 = n then (p.1, h) else p).1 = p.1
    split <;> rfl
  · rw [if_neg (fun z => c (e.mp z)), if_neg c, List.map_append]
    rfl
theorem mem_putN {l : List (Nat × Nat)} {n h : Nat} {p : Nat × Nat} (hp : p ∈ putN l n h) : p = (n, h) ∨ p ∈ l := by
  unfold putN at hp
  split at hp
  · obtain ⟨q, hq, rfl⟩ := List.mem_map.mp hp
    by_cases e : q.1 = n
    · rw [if_pos e, e]
      exact .inl rfl
    · rw [if_neg e]
      exact .inr hq
  · rcases List.mem_append.mp hp with z | z
    · exact .inr z
    · exact .inl (List.mem_singleton.mp z)
theorem mem_mergeN : ∀ {more l : List (Nat × Nat)} {p : Nat × Nat}, p ∈ mergeN l more → p ∈ l ∨ p ∈ more
  | [], _, _, h => .inl h
  | q :: r, l, p, h => by
    rcases mem_mergeN (more := r) (l := putN l q.1 q.2) h with z | z
    · rcases mem_putN z with e | e
      · exact .inr (by rw [e]; exact List.mem_cons_self)
      · exact .inl e
    · exact .inr (List.mem_cons_of_mem _ z)
theorem nodup_putN {l : List (Nat × Nat)} {n h : Nat} (nd : (l.map (·.1)).Nodup) : ((putN l n h).map (·.1)).Nodup := by
  rw [keys_putN]
  split
  · exact nd
  · rename_i c
    exact List.nodup_append.mpr ⟨nd, by simp, fun a ha b hb z => by rw [List.mem_singleton.mp hb] at z; exact c (z ▸ ha)⟩
theorem nodup_mergeN : ∀ {more l : List (Nat × Nat)}, (l.map (·.1)).Nodup → ((mergeN l more).map (·.1)).Nodup
  | [], _, nd => nd
  | q :: r, l, nd => nodup_mergeN (more := r) (nodup_putN nd)
theorem keys_mergeN : ∀ {more l : List (Nat × Nat)} {x : Nat}, x ∈ (mergeN l more).map (·.1) ↔ x ∈ l.map (·.1) ∨ x ∈ more.map (·.1)
  | [], _, _ => by simp [mergeN]
  | q :: r, l, x => by
    show x ∈ (mergeN (putN l q.1 q.2) r).map (·.1) ↔ _
    rw [keys_mergeN, keys_putN, List.map_cons, List.mem_cons]
    split
    · rename_i c
      constructor
      · rintro (z | z)
        · exact .inl z
        · exact .inr (.inr z)
      · rintro (z | rfl | z)
        · exact .inl z
        · exact .inl c
        · exact .inr z
    · rw [List.mem_append, List.mem_singleton]
      constructor
      · rintro ((z | z) | z)
        · exact .inl z
        · exact .inr (.inl z)
        · exact .inr (.inr z)
      · rintro (z | z | z)
        · exact .inl (.inl z)
        · exact .inl (.inr z)
        · exact .inr z
theorem prN_get (l : List (Nat × Nat)) (n : Nat) : valV (prN l) (Sum.inl (n : Int)) = ((l.find? fun p => decide (p.1 = n)).map fun p => V.int (p.2 : Int)) := by
  induction l with
  | nil => rfl
  | cons p r ih =>
    by_cases e : p.1 = n
    · rw [List.find?_cons, show prN (p :: r) = ((Sum.inl (p.1 : Int) : L2.Key), V.int (p.2 : Int)) :: prN r from rfl, valV_pos (by rw [e])]
      simp [e]
    · rw [List.find?_cons, show prN (p :: r) = ((Sum.inl (p.1 : Int) : L2.Key), V.int (p.2 : Int)) :: prN r from rfl, valV_neg (fun z => e (Int.ofNat.inj (Sum.inl.inj z))), ih]
      simp [e]
theorem prN_some {l : List (Nat × Nat)} {n : Nat} (h : n ∈ l.map (·.1)) : ∃ x, (n, x) ∈ l ∧ valV (prN l) (Sum.inl (n : Int)) = some (V.int (x : Int)) := by
  rw [prN_get]
  cases c : l.find? fun p => decide (p.1 = n) with
  | none =>
    obtain ⟨p, hp, rfl⟩ := List.mem_map.mp h
    exact absurd (decide_eq_true rfl) (List.find?_eq_none.mp c p hp)
  | some p =>
    have e : p.1 = n := of_decide_eq_true (List.find?_some (p := fun p : Nat × Nat => decide (p.1 = n)) c)
    subst e
    exact ⟨p.2, List.mem_of_find?_eq_some c, rfl⟩
theorem prN_none {l : List (Nat × Nat)} {n : Nat} (h : n ∉ l.map (·.1)) : valV (prN l) (Sum.inl (n : Int)) = none := by
  rw [prN_get, List.find?_eq_none.mpr]
  · rfl
  · intro p hp z
    exact h (by rw [← of_decide_eq_true z]; exact List.mem_map_of_mem hp)
section
variable {K : PySem.W.Frag} {σ : L2.St} {H H' : Hp} {ta tb te tl td tk tv : TE} {D : Ends} {tu tz : TS} {d : Addr} {ms : List Nat} {n : Nat} {kvs : List (Nat × Nat)} {tt : TT} {wi : TI} {g : TG} {vs : List Nat}
/-- a dict comprehension -/
theorem evp_dc {Item : Nat → V → Hp → Prop} (hw : Wk wi σ H n Item) (hn : n ≤ 40000) (ks : Nat → L2.Key) (zs : Nat → V)
    (step : ∀ i x H1, i < n → Ex H H1 → Item i x H1 → ∀ Q : L2.St → Hp → Prop, (∀ σ2 H2, Ex H1 H2 → wipe σ2 vs = wipe σ vs → EvT tt σ2 H2 true → Ev tk σ2 H2 (kV (ks i)) → Ev tv σ2 H2 (zs i) → Q σ2 H2) → g x (wipe σ vs) H1 Q) :
    EvP (tDc wi g tt tk tv vs) σ H fun v H' => ∃ d, v = .ref d ∧ H d = none ∧ H' d = some (.dK (mergeK [] ((List.range n).map fun i => (ks i, zs i)))) := by
  intro H1 e1 Q q
  refine hw H1 e1 _ fun J H2 e2 jok => ?_
  intro D hD
  refine ⟨fun i m H' => m = n - i ∧ i ≤ n ∧ Ex H2 H' ∧ H' D = some (.dK (mergeK [] ((List.range i).map fun i => (ks i, zs i)))), ⟨n, by simp, Nat.zero_le _, Evl.Ex.new hD, upd_same⟩, ?_⟩
  rintro i m H3 ⟨rfl, hi, e3, hacc⟩
  by_cases hlt : i < n
  · obtain ⟨go, yl⟩ := jok.go i H3 e3 hlt
    refine .inr ⟨go, fun H' => Ex H2 H' ∧ H' D = some (.dK (mergeK [] ((List.range (i + 1)).map fun i => (ks i, zs i)))), fun H' ⟨a, b⟩ => ⟨n - (i + 1), by omega, rfl, hlt, a, b⟩, fun x H4 y => ?_⟩
    obtain ⟨e4, it⟩ := yl x H4 y
    refine step i x H4 hlt ((e1.trans e2).trans (e3.trans e4)) it _ fun σ2 H5 e5 hwp ht hk hv => ⟨hwp, ?_⟩
    refine ht H5 (Evl.Ex.refl H5) _ fun H6 e6 => iteT (hk H6 e6 _ fun H7 e7 => hv H7 (e6.trans e7) _ fun H8 e8 => ?_)
    have eD : H8 D = _ := (((e4.trans e5).trans e6).trans (e7.trans e8)) _ _ hacc
    refine ⟨_, ks i, rfl, eD, ?_, ((((e3.trans e4).trans e5).trans e6).trans (e7.trans e8)).mut hD, ?_⟩
    · have := length_mergeK ((List.range i).map fun i => (ks i, zs i)) []
      rw [List.length_map, List.length_range] at this
      exact sz_lt (by simp only [List.length_nil] at this; omega)
    · rw [upd_same, List.range_succ, List.map_append]
      unfold mergeK
      rw [List.foldl_append]
      rfl
  · have e : i = n := by omega
    subst e
    exact .inl ⟨jok.stop H3 e3, q _ H3 (e2.trans e3) ⟨D, rfl, fresh_back (e1.trans e2) hD, hacc⟩⟩
theorem s_putD (hd : Ev td σ H (.ref d)) (hy : Ev ta σ H (.int (n : Int))) (hv : Ev te σ H (.bl true)) (h : H d = some (.dK (setD ms))) (hz : ms.length < 100000) (k : ∀ H1, Ex H H1 → D.nx σ (upd H1 d (.dK (setD (if n ∈ ms then ms else ms ++ [n]))))) : sDPut td ta te D σ H :=
  hv H (Evl.Ex.refl H) _ fun H1 e1 => hd H1 e1 _ fun H2 e2 => hy H2 (e1.trans e2) _ fun H3 e3 => ⟨d, _, rfl, DPut.k (k := Sum.inl (n : Int)) (((e1.trans e2).trans e3) _ _ h) (sz_lt (by rw [List.length_map]; exact hz)), by
    have q := k H3 ((e1.trans e2).trans e3)
    by_cases c : n ∈ ms
    · rw [if_pos c] at q
      have e : putK (setD ms) (Sum.inl (n : Int)) (V.bl true) = setD ms := by
        unfold putK
        rw [valV_any, setD_get, decide_eq_true c, if_pos rfl]
        refine (List.map_congr_left fun p hp => ?_).trans (List.map_id _)
        obtain ⟨m, _, rfl⟩ := List.mem_map.mp hp
        show (if _ then _ else _) = _
        split <;> rfl
      rw [e]
      exact q
    · rw [if_neg c] at q
      rw [setD_put c]
      exact q⟩
theorem ev_notinN (hy : Ev ta σ H (.int (n : Int))) (hd : Ev td σ H (.ref d)) (h : H d = some (.dK (prN kvs))) : Ev (tDNotIn ta td) σ H (.bl (!decide (n ∈ kvs.map (·.1)))) := fun H1 e Q q =>
  hy H1 e _ fun H2 e2 => hd H2 (e.trans e2) _ fun H3 e3 => ⟨d, _, rfl, DGet.k (k := Sum.inl (n : Int)) (((e.trans e2).trans e3) _ _ h), by
    have z : (valV (prN kvs) (Sum.inl (n : Int))).isSome = decide (n ∈ kvs.map (·.1)) := by
      by_cases c : n ∈ kvs.map (·.1)
      · obtain ⟨x, _, e⟩ := prN_some c
        rw [e, decide_eq_true c]; rfl
      · rw [prN_none c, decide_eq_false c]; rfl
    rw [z]
    exact q H3 (e2.trans e3)⟩
end
/-! ### promises -/
/-- others' folders are folders of the tree -/
structure OkF (T : Tr) (F : List Nat) : Prop where
  fol : ∀ x ∈ F, isF T x = true
  nd : F.Nodup
theorem OkF.len {T : Tr} {F : List Nat} (G : Good T) (h : OkF T F) : F.length ≤ 60 := Nat.le_trans (nodup_le h.nd fun x hx => G.lt (h.fol x hx)) G.len
def spLoose (K : PySem.W.Frag) : Sp := fun vs H Q _ => ∃ (a ob t : Addr) (as : List Addr) (T : Tr) (o : Nat) (F : List Nat), vs = [.ref a, .ref ob] ∧ TrA K H a t as T ∧ Good T ∧ OthAt K H ob o F ∧ OkF T F ∧ ∀ p H', H p = none → Ex H H' → H' p = some (.lst (intsV (looseN T F))) → Q (.ref p) H'
theorem spLoose_l {K : PySem.W.Frag} {H : Hp} {a ob t : Addr} {as : List Addr} {T : Tr} {o : Nat} {F : List Nat} (hT : TrA K H a t as T) (G : Good T) (ho : OthAt K H ob o F) (hF : OkF T F) : SpL (spLoose K) [.ref a, .ref ob] H (intsV (looseN T F)) :=
  fun H1 e Q q E => ⟨a, ob, t, as, T, o, F, rfl, hT.mono (Ex.i e), G, ho.mono (Ex.i e), hF, q⟩
/-- a dict of heads -/
structure HdD (T : Tr) (L : List Nat) (kvs : List (Nat × Nat)) : Prop where
  nd : (kvs.map (·.1)).Nodup
  ok : ∀ p ∈ kvs, isF T p.1 = true ∧ Hd T L p.1 p.2
  root : 0 ∈ kvs.map (·.1)
structure Heads (T : Tr) (L : List Nat) (kvs : List (Nat × Nat)) : Prop extends HdD T L kvs where
  all : ∀ n, isF T n = true → n ∈ kvs.map (·.1)
def spHeads (K : PySem.W.Frag) : Sp := fun vs H Q _ => ∃ (a ob t : Addr) (as : List Addr) (T : Tr) (o : Nat) (F : List Nat), vs = [.ref a, .ref ob] ∧ TrA K H a t as T ∧ Good T ∧ OthAt K H ob o F ∧ OkF T F ∧ ∀ d kvs H', H d = none → Ex H H' → H' d = some (.dK (prN kvs)) → Heads T (looseN T F) kvs → Q (.ref d) H'
theorem spHeads_p {K : PySem.W.Frag} {H : Hp} {a ob t : Addr} {as : List Addr} {T : Tr} {o : Nat} {F : List Nat} (hT : TrA K H a t as T) (G : Good T) (ho : OthAt K H ob o F) (hF : OkF T F) : SpP (spHeads K) [.ref a, .ref ob] H fun v H' => ∃ d kvs, v = .ref d ∧ H' d = some (.dK (prN kvs)) ∧ Heads T (looseN T F) kvs :=
  fun H1 e Q q E => ⟨a, ob, t, as, T, o, F, rfl, hT.mono (Ex.i e), G, ho.mono (Ex.i e), hF, fun d kvs H' hd e2 h2 hh => q _ H' e2 ⟨d, kvs, rfl, h2, hh⟩⟩
section
variable {P : Program} {w : World} {K : PySem.W.Frag} {mg : Str → Option Value} {base : Heap}
theorem sc_loose : FnScope ["tree", "others", "found", "folder", "name", "node"] ["tree", "others"] (defScope s_loose) := ⟨rfl, rfl, rfl, by decide +kernel, rfl, by decide +kernel, by decide +kernel⟩
theorem c_loose (T : Txt K mg) : C8.Cal P w K mg base 4 "loose" (spLoose K) [] := by
  refine cal_of (fd_loose T) (g_loose T) (fun _ _ _ _ _ _ us hl => match us, hl with | [_, _], _ => rfl) sc_loose (fun vs H Q E h => ?_) (fun cdv A outer s H vs Q E hr h => ?_)
  · obtain ⟨_, _, _, _, _, _, _, rfl, _⟩ := h; rfl
  · obtain ⟨a, ob, t, as, Tr, o, F, rfl, hT, G, ho, hF, k⟩ := h
    have hu := hu_of hr
    refine ⟨_, (pss_cons (ps_expr (C8.pe_c (c_check_others T) hr (by decide) rfl (pa_cons (pv 0) (pa_cons (pv 1) pa_nil))))
      (pss_cons (ps_set (i := 2) sc_loose.nd rfl (Or.inl rfl) pe_dnewK)
      (pss_cons (ps_for PassesOwn.never rfl (pi_tup (pe_fld (pv 1) rfl)) (pg_name (i := 3) sc_loose.nd rfl (Or.inl rfl)) (pss_one (ps_for PassesOwn.never rfl (pi_tup (pe_fld (pe_ix ix_tup (pe_fld (pv 0) rfl) (pv 3) (fun _ _ => rfl)) rfl)) (pg_tup rfl (pgs_cons (pg_name (i := 4) sc_loose.nd rfl (Or.inl rfl)) (pgs_cons (pg_name (i := 5) sc_loose.nd rfl (Or.inl rfl)) pgs_nil))) (pss_one (ps_if (PW.pt (pw_or (pt_not (pt_val (pe_callB call_isi (by rfl) (f_isinstance T) b_isinstance (pa_cons (pe_ix ix_tup (pe_fld (pv 0) rfl) (pv 5) (fun _ _ => rfl)) (pa_cons (pe_glob (v := .ref (He.ga K "Folder")) rfl (g_Folder T) rfl) pa_nil))))) (pw_or1 (pt_cmpR op_in_seq (pv 5) (pe_fld (pv 1) rfl) (by rfl))))) (pss_one (ps_dput hu (pv 2) (pv 5) pe_bl rfl)) pss_nil)))))
      (pss_one (ps_ret (pe_callB (call_sortedDI rfl) (by rfl) (f_sorted T) b_sorted (pa_cons (pv 2) pa_nil))))))), ?_⟩
    have hlen := G.len
    obtain ⟨odx, tf, hob, htf⟩ := id ho
    refine q_drop (ev_call (dvs := []) (ea_cons (ev_var rfl) (ea_cons (ev_var rfl) ea_nil)) (spChkO_v hT ho hF.fol)) fun H1 e1 => ?_
    refine q_asgP (R := fun v H2 => ∃ d, v = .ref d ∧ H1 d = none ∧ H2 d = some (.dK (setD []))) (fun H2 e2 Q q p hp => q _ _ (Evl.Ex.new hp) ⟨p, rfl, fresh_back e2 hp, upd_same⟩) fun v H2 e2 hv => ?_
    obtain ⟨d, rfl, hd, hd2⟩ := hv
    have hd0 : H d = none := fresh_back e1 hd
    have e02 := e1.trans e2
    refine q_forNatsT (ev_folders T (ev_var rfl) (e02 _ _ hob)) (e02 _ _ htf) (fun i σ' H' => Ex H H' ∧ ExI H2 H' ∧ ∃ ms x3 x4 x5, σ' = [some (.ref a), some (.ref ob), some (.ref d), x3, x4, x5] ∧ H' d = some (.dK (setD ms)) ∧ ms.Nodup ∧ ∀ x, x ∈ ms ↔ ∃ f ∈ F.take i, ∃ nm, (nm, x) ∈ ents Tr f ∧ (isF Tr x = true → x ∈ F))
      (fun H3 e3 => ⟨e02.trans e3, Ex.i e3, [], none, none, none, rfl, e3 _ _ hd2, List.nodup_nil, fun x => by simp⟩) (fun i σ' H' q => q.2.1) ?_ ?_
    · rintro i f σ' H' hf ⟨e, i2, ms, x3, x4, x5, rfl, hdm, nd, hm⟩
      obtain ⟨of, es, hfe⟩ := isF_of (hF.fol f (List.mem_of_getElem? hf))
      have hes : ents Tr f = es := ents_of hfe
      have hT' := hT.mono (Ex.i e)
      obtain ⟨b, hb, nb⟩ := hT'.nds.at2 hfe
      obtain ⟨dx, te, hFo, hE⟩ := id nb
      have ok := G.nd f _ hfe
      have htk : F.take (i + 1) = F.take i ++ [f] := by rw [List.take_succ, hf]; rfl
      refine s_forEnts (ev_ents T (ev_node T (ev_var rfl) hT' (ev_var rfl) hb) hFo) hE (fun j σ' H3 => ExI H' H3 ∧ Ex H H3 ∧ ExI H2 H3 ∧ ∃ ms x4 x5, σ' = [some (.ref a), some (.ref ob), some (.ref d), some (.int (f : Int)), x4, x5] ∧ H3 d = some (.dK (setD ms)) ∧ ms.Nodup ∧ ∀ x, x ∈ ms ↔ (∃ f ∈ F.take i, ∃ nm, (nm, x) ∈ ents Tr f ∧ (isF Tr x = true → x ∈ F)) ∨ ∃ nm, (nm, x) ∈ es.take j ∧ (isF Tr x = true → x ∈ F))
        (fun _ _ _ q => q.1) (fun H3 e3 => ⟨Ex.i e3, e.trans e3, i2.trans (Ex.i e3), ms, _, _, rfl, e3 _ _ hdm, nd, fun x => by rw [hm x]; simp⟩) ?_ ?_
      · rintro j en σ' H3 hen ⟨i3, e3, i23, ms1, y4, y5, rfl, hd3, nd1, hm1⟩
        have hT3 := hT.mono (Ex.i e3)
        obtain ⟨_, _, hlt, _⟩ := ok.ok en (List.mem_of_getElem? hen)
        obtain ⟨n2, hn2⟩ : ∃ n, Tr[en.2]? = some n := ⟨_, List.getElem?_eq_getElem hlt⟩
        obtain ⟨b2, hb2, nb2⟩ := hT3.nds.at2 hn2
        have htj : es.take (j + 1) = es.take j ++ [en] := by rw [List.take_succ, hen]; rfl
        refine s_when (et_or (et_not (et_B (ev_isFol T (ev_node T (ev_var rfl) hT3 (ev_var rfl) hb2) nb2))) fun _ => et_test (ev_op (ev_var rfl) (ev_folders T (ev_var rfl) (e3 _ _ hob)) (rv_isT (st_of (e3 _ _ htf)) rfl (ints_flat F)))) (fun hb H4 e4 => ?_) fun hb H4 e4 => ?_
        · rw [inV_ints, ← isF_nd hn2] at hb
          have hbb : isF Tr en.2 = true → en.2 ∈ F := fun z => by
            rw [z] at hb
            simpa using hb
          refine s_putD (ev_var rfl) (ev_var rfl) ev_c (e4 _ _ hd3) ?_ fun H5 e5 => ?_
          · have hle : ms1.length ≤ Tr.length := nodup_le nd1 fun x hx => by
              rcases (hm1 x).mp hx with ⟨f', hf', nm, he, _⟩ | ⟨nm, he, _⟩
              · exact ((G.esOk (ents_fol he)).ok _ he).2.2.1
              · exact (ok.ok _ (List.mem_of_mem_take he)).2.2.1
            omega
          · have hd5 := (e4.trans e5) _ _ hd3
            refine ⟨(i3.trans (Ex.i (e4.trans e5))).trans (ExI.dk hd5), ((e3.trans e4).trans e5).mut hd0, (i23.trans (Ex.i (e4.trans e5))).trans (ExI.dk hd5), _, _, _, rfl, upd_same, ?_, fun x => ?_⟩
            · split
              · exact nd1
              · rename_i c
                exact List.nodup_append.mpr ⟨nd1, by simp, fun x hx y hy z => by rw [List.mem_singleton.mp hy] at z; exact c (z ▸ hx)⟩
            · rw [htj]
              have key : (∃ nm, (nm, x) ∈ es.take j ++ [en] ∧ (isF Tr x = true → x ∈ F)) ↔ (∃ nm, (nm, x) ∈ es.take j ∧ (isF Tr x = true → x ∈ F)) ∨ x = en.2 := by
                constructor
                · rintro ⟨nm, h1, h2⟩
                  rcases List.mem_append.mp h1 with z | z
                  · exact .inl ⟨nm, z, h2⟩
                  · exact .inr (congrArg Prod.snd (List.mem_singleton.mp z))
                · rintro (⟨nm, h1, h2⟩ | rfl)
                  · exact ⟨nm, List.mem_append_left _ h1, h2⟩
                  · exact ⟨en.1, List.mem_append_right _ (List.mem_singleton.mpr rfl), hbb⟩
              rw [key, ← or_assoc, ← hm1 x]
              split
              · rename_i c
                constructor
                · exact .inl
                · rintro (z | rfl)
                  · exact z
                  · exact c
              · rw [List.mem_append, List.mem_singleton]
        · rw [inV_ints, ← isF_nd hn2] at hb
          refine ⟨i3.trans (Ex.i e4), e3.trans e4, i23.trans (Ex.i e4), ms1, _, _, rfl, e4 _ _ hd3, nd1, fun x => ?_⟩
          rw [hm1 x, htj]
          constructor
          · rintro (z | ⟨nm, h1, h2⟩)
            · exact .inl z
            · exact .inr ⟨nm, List.mem_append_left _ h1, h2⟩
          · rintro (z | ⟨nm, h1, h2⟩)
            · exact .inl z
            · rcases List.mem_append.mp h1 with z | z
              · exact .inr ⟨nm, z, h2⟩
              · exfalso
                have ex : x = en.2 := congrArg Prod.snd (List.mem_singleton.mp z)
                subst ex
                rw [Bool.or_eq_false_iff, Bool.not_eq_false', decide_eq_false_iff_not] at hb
                exact hb.2 (h2 hb.1)
      · rintro σ' H3 ⟨i3, e3, i23, ms1, y4, y5, rfl, hd3, nd1, hm1⟩
        refine ⟨e3, i23, ms1, _, _, _, rfl, hd3, nd1, fun x => ?_⟩
        rw [hm1 x, List.take_length, htk]
        constructor
        · rintro (⟨f', hf', z⟩ | ⟨nm, h1, h2⟩)
          · exact ⟨f', List.mem_append_left _ hf', z⟩
          · exact ⟨f, List.mem_append_right _ (List.mem_singleton.mpr rfl), nm, by rw [hes]; exact h1, h2⟩
        · rintro ⟨f', hf', nm, h1, h2⟩
          rcases List.mem_append.mp hf' with z | z
          · exact .inl ⟨f', z, nm, h1, h2⟩
          · rw [List.mem_singleton.mp z, hes] at h1
            exact .inr ⟨nm, h1, h2⟩
    · rintro σ' H3 ⟨e3, i3, ms, x3, x4, x5, rfl, hd3, nd, hm⟩
      rw [List.take_length] at hm
      have hmem : ∀ x, x ∈ ms ↔ x ∈ looseN Tr F := fun x => by rw [hm x, mem_loose G, loose_iff]
      have hle : ms.length ≤ Tr.length := nodup_le nd fun x hx => by
        have := (hmem x).mp hx
        unfold looseN at this
        exact List.mem_range.mp (List.mem_filter.mp this).1
      refine s_retL (xs := intsV (looseN Tr F)) (fun H4 e4 Q q => ?_) fun p H4 hp e4 h4 => k p H4 (fresh_back e3 hp) (e3.trans e4) h4
      refine ev_var (i := 2) (v := .ref d) rfl H4 e4 _ fun H5 e5 => ⟨d, _, ms.map fun m : Nat => (m : Int), rfl, .inl ((e4.trans e5) _ _ hd3), by rw [List.map_map, List.map_map]; rfl, by rw [List.length_map]; omega, fun ys p hperm hsrt hp => ?_⟩
      have hy := sorted_ints_eq hperm hsrt nd (asc_range _ _) hmem
      refine q p _ (fresh_back e5 hp) (e5.trans (Evl.Ex.new hp)) ?_
      rw [upd_same, hy, List.map_map]
      rfl
end
end NW
set_option maxHeartbeats 4000000
/-! heads_of. -/
namespace NW
open PySem PySem.Spec PyProof.Rows L2 Evl
section
variable {K : PySem.W.Frag} {σ : L2.St} {H H' : Hp} {ta tb te tl td tk tv tx ty : TE} {D : Ends} {tu tz : TS} {d : Addr} {n : Nat} {kvs more : List (Nat × Nat)}
theorem ev_get2N {z : V} (hd : Ev td σ H (.ref d)) (hy : Ev ty σ H (.int (n : Int))) (hx : Ev tx σ H z) (h : H d = some (.dK (prN kvs))) : Ev (tDGet2 td ty tx) σ H ((valV (prN kvs) (Sum.inl (n : Int))).getD z) := fun H1 e Q q =>
  hd H1 e _ fun H2 e2 => ⟨d, rfl, .inl ⟨_, .inl ((e.trans e2) _ _ h)⟩, hy H2 (e.trans e2) _ fun H3 e3 => hx H3 ((e.trans e2).trans e3) _ fun H4 e4 =>
    ⟨_, DGet.k (k := Sum.inl (n : Int)) ((((e.trans e2).trans e3).trans e4) _ _ h), q H4 ((e2.trans e3).trans e4)⟩⟩
theorem s_update (hd : H d = some (.dK (prN kvs))) (ha : Ev ta σ H (.ref d)) (h : EvP te σ H fun v H' => ∃ d2, v = .ref d2 ∧ H d2 = none ∧ H' d2 = some (.dK (prN more))) (hz : kvs.length + more.length ≤ 100000)
    (k : ∀ H1, Ex H H1 → D.nx σ (upd H1 d (.dK (prN (mergeN kvs more))))) : tDrop (tBM K "dict" rUpdate ta (tCons te tNil)) D σ H := ha H (Evl.Ex.refl H) _ fun H1 e1 =>
  ⟨Or.inr (.inr (.inl ⟨rfl, .inl ⟨_, e1 _ _ hd⟩⟩)), h H1 e1 _ fun v H2 e2 ⟨d2, hv, hd2, h2⟩ => ⟨d, d2, _, _, rfl, by rw [hv], (fun z => by subst z; rw [hd] at hd2; cases hd2), (e1.trans e2) _ _ hd, h2, sz_of (by rw [List.length_map, List.length_map]; exact hz), by
    rw [prN_merge]
    exact k H2 (e1.trans e2)⟩⟩
end
section
variable {P : Program} {w : World} {K : PySem.W.Frag} {mg : Str → Option Value} {base : Heap}
theorem sc_heads_of : FnScope ["tree", "others", "free", "found", "folder", "way", "head", "one"] ["tree", "others"] (defScope s_heads_of) := ⟨rfl, rfl, rfl, by decide +kernel, rfl, by decide +kernel, by decide +kernel⟩
theorem c_heads_of (T : Txt K mg) : C8.Cal P w K mg base 5 "heads_of" (spHeads K) [] := by
  refine cal_of (fd_heads_of T) (g_heads_of T) (fun _ _ _ _ _ _ us hl => match us, hl with | [_, _], _ => rfl) sc_heads_of (fun vs H Q E h => ?_) (fun cdv A outer s H vs Q E hr h => ?_)
  · obtain ⟨_, _, _, _, _, _, _, rfl, _⟩ := h; rfl
  · obtain ⟨a, ob, t, as, Tr, o, F, rfl, hT, G, ho, hF, k⟩ := h
    have hu := hu_of hr
    refine ⟨_, (pss_cons (ps_set (i := 2) sc_heads_of.nd rfl (Or.inl rfl) (C8.pe_c (c_loose T) hr (by decide) rfl (pa_cons (pv 0) (pa_cons (pv 1) pa_nil))))
      (pss_cons (ps_set (i := 3) sc_heads_of.nd rfl (Or.inl rfl) (pe_disp (pps_cons pe_int pe_int pps_nil) (by rfl) (by rfl) (fun z => by cases z) (by decide)))
      (pss_cons (ps_for PassesOwn.never rfl (pi_list (C8.pe_mt0 (m_Tree_folder_numbers T) hr (by decide) (pv 0))) (pg_name (i := 4) sc_heads_of.nd rfl (Or.inl rfl)) (pss_cons (ps_set (i := 5) sc_heads_of.nd rfl (Or.inl rfl) (pe_lst (pa_cons (pv 4) pa_nil)))
      (pss_cons (ps_while PassesOwn.never (PW.pt (pw_and (pt_cmp (pc_dnotin hu (pe_ix ix_list (pv 5) (pe_un un_neg pe_int) (fun _ _ => rfl)) (pv 3)) (by first | exact nobehind _ (by decide) (by decide) | rfl)) (pw_and1 (pt_cmpR op_notIn_seq (pe_ix ix_list (pv 5) (pe_un un_neg pe_int) (fun _ _ => rfl)) (pv 2) (by rfl))))) (pss_one (ps_expr (pe_bm PySem.F.plainAttrs_list PySem.F.slot_list_append PySem.F.type_list_append mt_append (pv 5) (pa_cons (C8.pe_c (c_above T) hr (by decide) rfl (pa_cons (pv 0) (pa_cons (pe_ix ix_list (pv 5) (pe_un un_neg pe_int) (fun _ _ => rfl)) pa_nil))) pa_nil)))))
      (pss_cons (ps_set (i := 6) sc_heads_of.nd rfl (Or.inr rfl) (pe_dget2 hu (pv 3) (pe_ix ix_list (pv 5) (pe_un un_neg pe_int) (fun _ _ => rfl)) (pe_ix ix_list (pv 5) (pe_un un_neg pe_int) (fun _ _ => rfl)) ⟨rfl, rfl, rfl, rfl⟩))
      (pss_one (ps_expr (pe_bm PySem.F.plainAttrs_dict PySem.F.slot_dict_update PySem.F.type_dict_update mt_update (pv 3) (pa_cons (pe_dc (own := [("one", 7)]) rfl sc_heads_of.nd (pi_list (pv 5)) (blkOk_by (own := [("one", 7)]) (N := ["tree", "others", "free", "found", "folder", "way", "head", "one"]) (sc := defScope s_heads_of) (by decide +kernel)) (fun _ _ _ _ _ => (pg_name (i := 7) sc_heads_of.nd rfl (Or.inl rfl) (.inr rfl))) (fun _ _ _ _ _ => pts_nil) (fun _ _ _ _ _ => (pv 7)) (fun _ _ _ _ _ => (pv 6))) pa_nil))))))))
      (pss_one (ps_ret (pv 3)))))), ?_⟩
    have hlen := G.len
    obtain ⟨rk, hrk⟩ := G.rk
    refine q_asgL (el_call (dvs := []) (ea_cons (ev_var rfl) (ea_cons (ev_var rfl) ea_nil)) (spLoose_l hT G ho hF)) fun fr H1 hfr e1 h1 => ?_
    refine q_asgP (R := fun v H2 => ∃ d, v = .ref d ∧ H1 d = none ∧ H2 d = some (.dK (prN [(0, 0)]))) (fun H2 e2 Q q p hp => ⟨upd_same, [(Sum.inl 0, .int 0)], rfl, by decide, q _ _ ((Evl.Ex.new hp).mut hp) ⟨p, rfl, fresh_back e2 hp, upd_same⟩⟩) fun v H2 e2 hv => ?_
    obtain ⟨d, rfl, hd, hd2⟩ := hv
    have hd0 : H d = none := fresh_back e1 hd
    have e02 := e1.trans e2
    refine q_forNats (el_fols (mg := mg) (ev_var rfl) (hT.mono (Ex.i e02)) (by omega)) (fun p i σ' H' => p ≠ d ∧ H' p = some (.lst (intsV (fols Tr))) ∧ Ex H H' ∧ H' fr = some (.lst (intsV (looseN Tr F))) ∧ ∃ kvs x4 x5 x6, σ' = [some (.ref a), some (.ref ob), some (.ref fr), some (.ref d), x4, x5, x6, none] ∧ H' d = some (.dK (prN kvs)) ∧ HdD Tr (looseN Tr F) kvs ∧ ∀ n ∈ (fols Tr).take i, n ∈ kvs.map (·.1))
      (fun p H3 hp e3 h3 => ⟨(fun z => by subst z; rw [hd2] at hp; cases hp), h3, e02.trans e3, (e2.trans e3) _ _ h1, [(0, 0)], none, none, none, rfl, e3 _ _ hd2, ⟨by simp, fun p hp => by rw [List.mem_singleton.mp hp]; exact ⟨G.root, .root⟩, by simp⟩, fun n hn => by simp at hn⟩) (fun p i σ' H' q => q.2.1) ?_ ?_
    · rintro p i f σ' H3 hf ⟨hpd, hp, e3, hfr3, kvs, x4, x5, x6, rfl, hd3, hh, hk⟩
      have hff := mem_fols.mp (List.mem_of_getElem? hf)
      refine q_asgL (el_lst (ea_cons (ev_var rfl) ea_nil) (by simp)) fun l H4 hl e4 h4 => ?_
      have hfrl : fr ≠ l := fun z => by subst z; rw [hfr3] at hl; cases hl
      have hfrd : fr ≠ d := fun z => by subst z; rw [hfr3] at hd3; cases hd3
      have hld : l ≠ d := fun z => by subst z; rw [hd3] at hl; cases hl
      have hpl : p ≠ l := fun z => by subst z; rw [hp] at hl; cases hl
      refine q_while (fun m σ' H' => ∃ ws x, σ' = [some (.ref a), some (.ref ob), some (.ref fr), some (.ref d), some (.int (f : Int)), some (.ref l), x6, none] ∧ Ex H3 H' ∧ H' l = some (.lst (intsV ws)) ∧ ws.getLast? = some x ∧ f ∈ ws ∧ ws.Nodup ∧ (∀ y ∈ ws, isF Tr y = true ∧ rk x ≤ rk y) ∧ (∀ h, Hd Tr (looseN Tr F) x h → ∀ y ∈ ws, Hd Tr (looseN Tr F) y h) ∧ m = rk x)
        (rk f) ⟨[f], f, rfl, e4, h4, rfl, by simp, by simp, fun y hy => by rw [List.mem_singleton.mp hy]; exact ⟨hff, Nat.le_refl _⟩, fun h hh y hy => by rw [List.mem_singleton.mp hy]; exact hh, rfl⟩ ?_
      rintro m σ' H5 ⟨ws, x, rfl, e5, hw, hx, hfw, nd, hws, hch, rfl⟩
      have hat : atI (intsV ws) (-1) = some (.int (x : Int)) := getLast_atI (by rw [intsV, List.getLast?_map, hx]; rfl)
      have hxw : x ∈ ws := List.mem_of_getLast? hx
      have hwl : ws.length ≤ Tr.length := nodup_le nd fun y hy => G.lt (hws y hy).1
      have lst : ∀ H', Ex H5 H' → Ev (tOp (rIxL K) (tVar 5) (tUn (rU fun i => .int (-i)) (tC (.int 1)))) [some (.ref a), some (.ref ob), some (.ref fr), some (.ref d), some (.int (f : Int)), some (.ref l), x6, none] H' (.int (x : Int)) := fun H' e' =>
        ev_op (ev_var rfl) (ev_un ev_c ru_neg) (rv_ixL (sq_of (e' _ _ hw)) hat)
      have hd5 := e5 _ _ hd3
      refine ⟨_, et_and (et_test (ev_notinN (lst _ (Evl.Ex.refl _)) (ev_var rfl) hd5)) fun _ => et_is (et_test (ev_op (lst _ (Evl.Ex.refl _)) (ev_var rfl) (rv_niL (sq_of (e5 _ _ hfr3)) rfl (ints_flat _)))) (by rw [inV_ints]), fun hb H6 e6 => ?_, fun hb H6 e6 => ?_⟩
      · simp only [Bool.and_eq_true, Bool.not_eq_true', decide_eq_false_iff_not] at hb
        have hx0 : x ≠ 0 := fun z => hb.1 (z ▸ hh.root)
        have hxf := (hws x hxw).1
        have hlt := G.rkpar hrk hxf hx0
        refine ⟨fun σ2 H2 => ∃ m', m' < rk x ∧ ∃ ws x, σ2 = [some (.ref a), some (.ref ob), some (.ref fr), some (.ref d), some (.int (f : Int)), some (.ref l), x6, none] ∧ Ex H3 H2 ∧ H2 l = some (.lst (intsV ws)) ∧ ws.getLast? = some x ∧ f ∈ ws ∧ ws.Nodup ∧ (∀ y ∈ ws, isF Tr y = true ∧ rk x ≤ rk y) ∧ (∀ h, Hd Tr (looseN Tr F) x h → ∀ y ∈ ws, Hd Tr (looseN Tr F) y h) ∧ m' = rk x, fun _ _ q => q, ?_⟩
        refine s_app (l := l) (xs := intsV ws) (e6 _ _ hw) (ev_var rfl) (ev_call (dvs := []) (ea_cons (ev_var rfl) (ea_cons (lst _ e6) ea_nil)) (spAbove_v (hT.mono (Ex.i (e3.trans (e5.trans e6)))) G hxf)) (by rw [List.length_map]; omega) fun H7 e7 => ?_
        refine ⟨_, hlt, ws ++ [parN Tr x], parN Tr x, rfl, ((e5.trans e6).trans e7).mut hl, by rw [upd_same, intsV, intsV, List.map_append]; rfl, by simp, List.mem_append_left _ hfw, ?_, ?_, ?_, rfl⟩
        · refine List.nodup_append.mpr ⟨nd, by simp, fun y hy z hz e => ?_⟩
          rw [List.mem_singleton.mp hz] at e
          have := (hws y hy).2
          rw [e] at this
          omega
        · intro y hy
          rcases List.mem_append.mp hy with z | z
          · exact ⟨(hws y z).1, Nat.le_trans (Nat.le_of_lt hlt) (hws y z).2⟩
          · rw [List.mem_singleton.mp z]
            exact ⟨G.par_fol hxf, Nat.le_refl _⟩
        · intro h hp' y hy
          rcases List.mem_append.mp hy with z | z
          · exact hch h (.up hx0 hb.2 hp') y z
          · rw [List.mem_singleton.mp z]
            exact hp'
      · have e56 := e5.trans e6
        have hd6 := e6 _ _ hd5
        obtain ⟨h, hv, hhd⟩ : ∃ h : Nat, (valV (prN kvs) (Sum.inl (x : Int))).getD (V.int (x : Int)) = .int (h : Int) ∧ Hd Tr (looseN Tr F) x h := by
          by_cases c : x ∈ kvs.map (·.1)
          · obtain ⟨h, h1, h2⟩ := prN_some c
            exact ⟨h, by rw [h2]; rfl, (hh.ok _ h1).2⟩
          · refine ⟨x, by rw [prN_none c]; rfl, .own (fun z => c (z ▸ hh.root)) ?_⟩
            rw [decide_eq_false c] at hb
            simpa using hb
        refine q_asg (v := .int (h : Int)) (ev_is (ev_get2N (ev_var rfl) (lst _ e6) (lst _ e6) hd6) hv) fun H7 e7 => ?_
        have hw7 := (e6.trans e7) _ _ hw
        have hd7 := e7 _ _ hd6
        refine s_update (kvs := kvs) (more := mergeN [] (ws.map fun w => (w, h))) hd7 (ev_var rfl) (EvP.imp (evp_dc (wk_list (ev_var rfl) (sq_of hw7)) (by rw [List.length_map]; omega) (fun i => Sum.inl ((ws[i]?.getD 0 : Nat) : Int)) (fun _ => .int (h : Int)) fun i y H8 hi e8 it Q q => ?_) ?_) ?_ fun H8 e8 => ?_
        · have it : (intsV ws)[i]? = some y := it
          rw [List.getElem?_map] at it
          cases c : ws[i]? with
          | none => rw [c] at it; cases it
          | some y' =>
            rw [c] at it
            obtain rfl : V.int (y' : Int) = y := Option.some.inj it
            exact q _ H8 (Evl.Ex.refl H8) rfl et_yes (ev_is (ev_var rfl) (by simp only [c]; rfl)) (ev_var rfl)
        · rintro v H' ⟨d2, rfl, hd2, h2⟩
          refine ⟨d2, rfl, hd2, ?_⟩
          rw [h2, ← prN_merge]
          congr 3
          rw [show (intsV ws).length = ws.length from List.length_map ..]
          refine List.ext_getElem? fun i => ?_
          rw [List.getElem?_map, List.getElem?_map, List.getElem?_map]
          by_cases c : i < ws.length
          · rw [List.getElem?_range c, List.getElem?_eq_getElem c]
            simp [List.getElem?_eq_getElem c]
          · rw [List.getElem?_eq_none (by rw [List.length_range]; omega), List.getElem?_eq_none (by omega)]
            rfl
        · have l1 : kvs.length ≤ Tr.length := by
            have := nodup_le hh.nd fun y hy => by
              obtain ⟨q, hq, rfl⟩ := List.mem_map.mp hy
              exact G.lt (hh.ok q hq).1
            rw [List.length_map] at this
            exact this
          have l2 : (mergeN [] (ws.map fun w => (w, h))).length ≤ ws.length := by
            have z := length_mergeK (prN (ws.map fun w => (w, h))) (prN [])
            rw [prN_merge] at z
            simpa using z
          omega
        · have e38 := (e56.trans e7).trans e8
          have key : ∀ y, y ∈ (mergeN kvs (mergeN [] (ws.map fun w => (w, h)))).map (·.1) ↔ y ∈ kvs.map (·.1) ∨ y ∈ ws := by
            intro y
            rw [keys_mergeN, keys_mergeN]
            simp
          refine ⟨hpd, by rw [upd_ne hpd]; exact e38 _ _ hp, (e3.trans e38).mut hd0, by rw [upd_ne hfrd]; exact e38 _ _ hfr3, _, _, _, _, rfl, upd_same, ⟨nodup_mergeN hh.nd, fun q hq => ?_, (key 0).mpr (.inl hh.root)⟩, fun n hn => ?_⟩
          · rcases mem_mergeN hq with z | z
            · exact hh.ok q z
            · rcases mem_mergeN z with z | z
              · cases z
              · obtain ⟨y, hy, rfl⟩ := List.mem_map.mp z
                exact ⟨(hws y hy).1, hch h hhd y hy⟩
          · rw [key]
            rw [List.take_succ, hf] at hn
            rcases List.mem_append.mp hn with z | z
            · exact .inl (hk n z)
            · rw [List.mem_singleton.mp z]
              exact .inr hfw
    · rintro p σ' H3 ⟨hpd, hp, e3, hfr3, kvs, x4, x5, x6, rfl, hd3, hh, hk⟩
      rw [List.take_length] at hk
      exact s_ret (ev_var rfl) fun H4 e4 => k d kvs H4 hd0 (e3.trans e4) (e4 _ _ hd3) ⟨hh, fun n hn => hk n (mem_fols.mpr hn)⟩
end
end NW
set_option maxHeartbeats 4000000
/-! pieces, arrangements. -/
namespace NW
open PySem PySem.Spec PyProof.Rows L2 Evl
theorem heads_sorted {T : Tr} {L : List Nat} {kvs : List (Nat × Nat)} (hh : Heads T L kvs) {qs : List (Int × Int)} (hp : qs.Perm (kvs.map fun p : Nat × Nat => ((p.1 : Int), (p.2 : Int)))) (hs : qs.Pairwise fun a b => a.1 ≤ b.1) :
    qs = (fols T).map fun n : Nat => ((n : Int), (headN T L n : Int)) := by
  have e1 : (kvs.map fun p : Nat × Nat => ((p.1 : Int), (p.2 : Int))) = (kvs.map (·.1)).map fun n : Nat => ((n : Int), (headN T L n : Int)) := by
    rw [List.map_map]
    refine List.map_congr_left fun p hp => ?_
    show _ = ((p.1 : Int), (headN T L p.1 : Int))
    rw [head_eq (hh.ok p hp).2]
  have e2 : (kvs.map (·.1)).Perm (fols T) := (List.perm_ext_iff_of_nodup hh.nd (asc_nodup (fols_asc T))).mpr fun n => by
    constructor
    · intro h
      obtain ⟨p, hp, rfl⟩ := List.mem_map.mp h
      exact mem_fols.mpr (hh.ok p hp).1
    · exact fun h => hh.all n (mem_fols.mp h)
  rw [e1] at hp
  have p3 := hp.trans (e2.map fun n : Nat => ((n : Int), (headN T L n : Int)))
  refine List.Perm.eq_of_pairwise (le := fun a b => a.1 ≤ b.1) (fun a b ha hb h1 h2 => ?_) hs ?_ p3
  · obtain ⟨n, _, rfl⟩ := List.mem_map.mp (p3.subset ha)
    obtain ⟨m, _, rfl⟩ := List.mem_map.mp hb
    have : n = m := by
      have h1 : (n : Int) ≤ (m : Int) := h1
      have h2 : (m : Int) ≤ (n : Int) := h2
      omega
    rw [this]
  · rw [List.pairwise_map]
    exact (fols_asc T).imp fun h => by
      show (_ : Int) ≤ _
      omega
theorem pr_mapr {α β γ : Type} {g : β → γ} {F : α → γ → Prop} : ∀ {xs : List α} {ys : List β}, Paired F xs (ys.map g) → Paired (fun a b => F a (g b)) xs ys
  | _, [], .nil => .nil
  | _, _ :: _, .cons r t => .cons r (pr_mapr t)
theorem any_key {kvs : List (L2.Key × V)} {k : L2.Key} : ((kvs.any fun p => decide (p.1 = k)) = true) ↔ k ∈ kvs.map (·.1) := by
  rw [List.any_eq_true, List.mem_map]
  exact ⟨fun ⟨p, hp, q⟩ => ⟨p, hp, of_decide_eq_true q⟩, fun ⟨p, hp, q⟩ => ⟨p, hp, decide_eq_true q⟩⟩
theorem keys_putK (kvs : List (L2.Key × V)) (k : L2.Key) (v : V) : (putK kvs k v).map (·.1) = if (kvs.any fun p => decide (p.1 = k)) = true then kvs.map (·.1) else kvs.map (·.1) ++ [k] := by
  unfold putK
  split
  · rw [List.map_map]
    refine List.map_congr_left fun p _ => ?_
    show (if p.1 = k then (p.1, v) else p).1 = p.1
    split <;> rfl
  · rw [List.map_append]
    rfl
theorem valV_none_of {kvs : List (L2.Key × V)} {k : L2.Key} (h : k ∉ kvs.map (·.1)) : valV kvs k = none := by
  have e : (valV kvs k).isSome = false := by
    rw [← valV_any, Bool.eq_false_iff]
    intro z
    obtain ⟨p, hp, q⟩ := List.any_eq_true.mp z
    exact h (by rw [← of_decide_eq_true q]; exact List.mem_map_of_mem hp)
  rw [← Option.not_isSome_iff_eq_none, e]
  simp
section
variable {K : PySem.W.Frag} {σ : L2.St} {H H' : Hp} {ta tb te tl td tk tv tx ty : TE} {D : Ends} {tu tz : TS} {d : Addr} {n : Nat} {g : TG}
theorem q_forLe (h : tl σ H fun x H1 => tSeq (tFor (iList K (tC x)) g tu) tz D σ H1) : tSeq (tFor (iList K tl) g tu) tz D σ H := h
theorem ev_getD {kvs : List (L2.Key × V)} {v : V} (hd : Ev td σ H (.ref d)) (hy : Ev ty σ H (.int (n : Int))) (h : H d = some (.dK kvs)) (hv : valV kvs (Sum.inl (n : Int)) = some v) : Ev (tDGet td ty) σ H v := fun H1 e Q q =>
  hd H1 e _ fun H2 e2 => hy H2 (e.trans e2) _ fun H3 e3 => ⟨d, v, rfl, by
    have z := DGet.k (k := Sum.inl (n : Int)) (((e.trans e2).trans e3) _ _ h)
    rw [hv] at z
    exact z, q H3 (e2.trans e3)⟩
theorem evp_get2 {kvs : List (L2.Key × V)} {R R' : V → Hp → Prop} (hd : Ev td σ H (.ref d)) (hy : Ev ty σ H (.int (n : Int))) (hx : EvP tx σ H R) (h : H d = some (.dK kvs)) (hv : ∀ z H', Ex H H' → R z H' → R' ((valV kvs (Sum.inl (n : Int))).getD z) H') : EvP (tDGet2 td ty tx) σ H R' := fun H1 e Q q =>
  hd H1 e _ fun H2 e2 => ⟨d, rfl, .inl ⟨_, .inl ((e.trans e2) _ _ h)⟩, hy H2 (e.trans e2) _ fun H3 e3 => hx H3 ((e.trans e2).trans e3) _ fun z H4 e4 r =>
    ⟨_, DGet.k (k := Sum.inl (n : Int)) ((((e.trans e2).trans e3).trans e4) _ _ h), q _ H4 ((e2.trans e3).trans e4) (hv z H4 (((e.trans e2).trans e3).trans e4) r)⟩⟩
theorem evp_cat {xs zs : List V} (ha : EvP ta σ H fun v H' => ∃ q, v = .ref q ∧ H' q = some (.lst xs)) (hb : ∀ H1, Ex H H1 → EvL tb σ H1 zs) (hz : xs.length + zs.length ≤ 100000) : EvP (tOp (rCatL K) ta tb) σ H fun v H' => ∃ q, v = .ref q ∧ H q = none ∧ H' q = some (.lst (xs ++ zs)) := fun H1 e Q q =>
  ha H1 e _ fun v H2 e2 ⟨a, hv, h2⟩ => hb H2 (e.trans e2) H2 (Evl.Ex.refl H2) _ fun b H3 hb e3 h3 => ⟨a, b, xs, zs, hv, rfl, sq_of (e3 _ _ h2), sq_of h3, sz_of hz, fun l hl =>
    q _ _ ((e2.trans e3).trans (Evl.Ex.new hl)) ⟨l, rfl, fresh_back ((e.trans e2).trans e3) hl, upd_same⟩⟩
theorem s_dputP {kvs : List (L2.Key × V)} {R : V → Hp → Prop} (hv : EvP te σ H R) (hd : Ev td σ H (.ref d)) (hy : Ev ty σ H (.int (n : Int))) (h : H d = some (.dK kvs)) (hz : kvs.length < 100000) (k : ∀ v H1 H2, Ex H H1 → R v H1 → Ex H1 H2 → D.nx σ (upd H2 d (.dK (putK kvs (Sum.inl (n : Int)) v)))) : sDPut td ty te D σ H :=
  hv H (Evl.Ex.refl H) _ fun v H1 e1 r => hd H1 e1 _ fun H2 e2 => hy H2 (e1.trans e2) _ fun H3 e3 => ⟨d, _, rfl, DPut.k (k := Sum.inl (n : Int)) (((e1.trans e2).trans e3) _ _ h) (sz_lt hz), k v H1 H3 e1 r (e2.trans e3)⟩
/-- for a, b in a list of pairs of numbers -/
theorem q_forPrs {l : Addr} {ts : List Addr} {qs : List (Nat × Nat)} {i j : Nat} (h : Ev tl σ H (.ref l)) (hl : H l = some (.lst (ts.map V.ref))) (hp : Paired (fun (t : Addr) (q : Nat × Nat) => H t = some (.tup [.int (q.1 : Int), .int (q.2 : Int)])) ts qs) (Pv : Nat → L2.St → Hp → Prop)
    (h0 : ∀ H1, Ex H H1 → Pv 0 σ H1) (kp : ∀ k σ' H', Pv k σ' H' → H' l = some (.lst (ts.map V.ref)) ∧ ExI H H')
    (hs : ∀ (k : Nat) (q : Nat × Nat) (σ' : L2.St) (H' : Hp), qs[k]? = some q → Pv k σ' H' → tu { D with nx := Pv (k + 1), ct := Pv (k + 1), bk := tz D } ((σ'.set i (some (.int (q.1 : Int)))).set j (some (.int (q.2 : Int)))) H') (hd : ∀ σ' H', Pv qs.length σ' H' → tz D σ' H') :
    tSeq (tFor (iList K tl) (gTup K 2 (gCons (gName i) (gCons (gName j) gNil))) tu) tz D σ H := by
  have hlen : (ts.map V.ref).length = qs.length := by rw [List.length_map, hp.len]
  refine q_forL h (sq_of hl) Pv h0 (fun k σ' H' _ q => sq_of (kp k σ' H' q).1) (fun k x σ' H' hx q => ?_) fun σ' H' q => hd σ' H' (hlen ▸ q)
  rw [List.getElem?_map] at hx
  cases c : ts[k]? with
  | none => rw [c] at hx; cases hx
  | some a =>
    rw [c] at hx
    obtain rfl : V.ref a = x := Option.some.inj hx
    obtain ⟨e, he, hv⟩ := hp.at1 c
    exact ⟨a, _, rfl, st_of ((kp k σ' H' q).2 _ (.tup [.int (e.1 : Int), .int (e.2 : Int)]) trivial hv), rfl, .int (e.1 : Int), [.int (e.2 : Int)], rfl, .int (e.2 : Int), [], rfl, rfl, hs k e σ' H' he q⟩
end
/-! ### promises -/
def PcsAt (H : Hp) (p : Addr) (pcs : List (List Nat)) : Prop := ∃ as : List Addr, H p = some (.lst (as.map V.ref)) ∧ Paired (fun (a : Addr) (ns : List Nat) => H a = some (.lst (intsV ns))) as pcs
theorem PcsAt.mono {H H' : Hp} {p : Addr} {pcs : List (List Nat)} (e : Ex H H') (h : PcsAt H p pcs) : PcsAt H' p pcs := by
  obtain ⟨as, h1, h2⟩ := h
  exact ⟨as, e _ _ h1, h2.mon fun _ _ q => e _ _ q⟩
def spPieces (K : PySem.W.Frag) : Sp := fun vs H Q _ => ∃ (a ob t : Addr) (as : List Addr) (T : Tr) (o : Nat) (F : List Nat), vs = [.ref a, .ref ob] ∧ TrA K H a t as T ∧ Good T ∧ OthAt K H ob o F ∧ OkF T F ∧ ∀ p H', H p = none → Ex H H' → PcsAt H' p (piecesN T (looseN T F)) → Q (.ref p) H'
theorem spPieces_p {K : PySem.W.Frag} {H : Hp} {a ob t : Addr} {as : List Addr} {T : Tr} {o : Nat} {F : List Nat} (hT : TrA K H a t as T) (G : Good T) (ho : OthAt K H ob o F) (hF : OkF T F) : SpP (spPieces K) [.ref a, .ref ob] H fun v H' => ∃ p, v = .ref p ∧ PcsAt H' p (piecesN T (looseN T F)) :=
  fun H1 e Q q E => ⟨a, ob, t, as, T, o, F, rfl, hT.mono (Ex.i e), G, ho.mono (Ex.i e), hF, fun p H' hp e2 h2 => q _ H' e2 ⟨p, rfl, h2⟩⟩
def spArr (K : PySem.W.Frag) : Sp := fun vs H Q _ => ∃ (a ob t : Addr) (as : List Addr) (T : Tr) (o : Nat) (F : List Nat), vs = [.ref a, .ref ob] ∧ TrA K H a t as T ∧ Good T ∧ OthAt K H ob o F ∧ OkF T F ∧ F.length ≤ 3 ∧ (someN T (looseN T F)).length ≤ 3 ∧ ∀ H', Ex H H' → Q (.int (arrN T F : Int)) H'
theorem spArr_v {K : PySem.W.Frag} {H : Hp} {a ob t : Addr} {as : List Addr} {T : Tr} {o : Nat} {F : List Nat} (hT : TrA K H a t as T) (G : Good T) (ho : OthAt K H ob o F) (hF : OkF T F) (h3 : F.length ≤ 3) (h4 : (someN T (looseN T F)).length ≤ 3) : SpV (spArr K) [.ref a, .ref ob] H (.int (arrN T F : Int)) :=
  fun H1 e Q q E => ⟨a, ob, t, as, T, o, F, rfl, hT.mono (Ex.i e), G, ho.mono (Ex.i e), hF, h3, h4, q⟩
section
variable {P : Program} {w : World} {K : PySem.W.Frag} {mg : Str → Option Value} {base : Heap}
theorem sc_pieces : FnScope ["tree", "others", "found", "folder", "head"] ["tree", "others"] (defScope s_pieces) := ⟨rfl, rfl, rfl, by decide +kernel, rfl, by decide +kernel, by decide +kernel⟩
theorem c_pieces (T : Txt K mg) : C8.Cal P w K mg base 6 "pieces" (spPieces K) [] := by
  refine cal_of (fd_pieces T) (g_pieces T) (fun _ _ _ _ _ _ us hl => match us, hl with | [_, _], _ => rfl) sc_pieces (fun vs H Q E h => ?_) (fun cdv A outer s H vs Q E hr h => ?_)
  · obtain ⟨_, _, _, _, _, _, _, rfl, _⟩ := h; rfl
  · obtain ⟨a, ob, t, as, Tr, o, F, rfl, hT, G, ho, hF, k⟩ := h
    have hu := hu_of hr
    refine ⟨_, (pss_cons (ps_set (i := 2) sc_pieces.nd rfl (Or.inr rfl) pe_dnewK)
      (pss_cons (ps_for PassesOwn.never rfl (pi_list (pe_sortedItems rfl (C8.pe_c (c_heads_of T) hr (by decide) rfl (pa_cons (pv 0) (pa_cons (pv 1) pa_nil))) rfl (f_sorted T) b_sorted)) (pg_tup rfl (pgs_cons (pg_name (i := 3) sc_pieces.nd rfl (Or.inl rfl)) (pgs_cons (pg_name (i := 4) sc_pieces.nd rfl (Or.inl rfl)) pgs_nil))) (pss_one (ps_dput hu (pv 2) (pv 4) (pe_op op_catL (pe_dget2 hu (pv 2) (pv 4) (pe_lst pa_nil) ⟨rfl, rfl, rfl, rfl⟩) (pe_lst (pa_cons (pv 3) pa_nil))) rfl)))
      (pss_one (ps_ret (pe_lc (own := [("head", 4)]) rfl sc_pieces.nd (pi_list (pe_callB (call_sortedDI rfl) (by rfl) (f_sorted T) b_sorted (pa_cons (pv 2) pa_nil))) (blkOk_by (own := [("head", 4)]) (N := ["tree", "others", "found", "folder", "head"]) (sc := defScope s_pieces) (by decide +kernel)) (fun _ _ _ _ _ => (pg_name (i := 4) sc_pieces.nd rfl (Or.inl rfl) (.inr rfl))) (fun _ _ _ _ _ => pts_nil) (fun _ _ _ _ _ => (pe_dget hu (pv 2) (pv 4) (fun _ _ => rfl)))))))), ?_⟩
    have hlen := G.len
    have hfl := fols_len Tr
    refine q_asgP (R := fun v H2 => ∃ d, v = .ref d ∧ H d = none ∧ H2 d = some (.dK [])) (fun H2 e2 Q q p hp => q _ _ (Evl.Ex.new hp) ⟨p, rfl, fresh_back e2 hp, upd_same⟩) fun v H1 e1 hv => ?_
    obtain ⟨d, rfl, hd, hd1⟩ := hv
    refine q_forLe ?_
    refine evp_call (dvs := []) (ea_cons (ev_var rfl) (ea_cons (ev_var rfl) ea_nil)) (spHeads_p (hT.mono (Ex.i e1)) G (ho.mono (Ex.i e1)) hF) H1 (Evl.Ex.refl H1) _ fun v H2 e2 hv => ?_
    obtain ⟨hdd, kvs0, rfl, hk0, hh⟩ := hv
    refine ⟨hdd, kvs0.map fun p : Nat × Nat => ((p.1 : Int), (p.2 : Int)), rfl, by rw [hk0, prN, prD, List.map_map]; rfl, fun H3 p ts qs e3 hp h3 hperm hsrt hpr => ?_⟩
    have e3 : Ex H2 H3 := e3
    have hqs := heads_sorted hh hperm hsrt
    have hpr2 : Paired (fun (t : Addr) (q : Nat × Nat) => H3 t = some (.tup [.int (q.1 : Int), .int (q.2 : Int)])) ts ((fols Tr).map fun n => (n, headN Tr (looseN Tr F) n)) := by
      rw [hqs] at hpr
      have e : ((fols Tr).map fun n : Nat => ((n : Int), (headN Tr (looseN Tr F) n : Int))) = ((fols Tr).map fun n => (n, headN Tr (looseN Tr F) n)).map fun q : Nat × Nat => ((q.1 : Int), (q.2 : Int)) := by rw [List.map_map]; rfl
      rw [e] at hpr
      exact pr_mapr (F := fun (t : Addr) (q : Int × Int) => H3 t = some (.tup [.int q.1, .int q.2])) (g := fun q : Nat × Nat => ((q.1 : Int), (q.2 : Int))) hpr
    have e03 : Ex H H3 := (e1.trans e2).trans e3
    have hd3 := (e2.trans e3) _ _ hd1
    have hpd : p ≠ d := fun z => by subst z; rw [e2 _ _ hd1] at hp; cases hp
    refine q_forPrs (ev_c (v := .ref p)) h3 hpr2 (fun i σ' H' => H' p = some (.lst (ts.map V.ref)) ∧ ExI H3 H' ∧ Ex H H' ∧ ∃ kvs hs x3 x4, σ' = [some (.ref a), some (.ref ob), some (.ref d), x3, x4] ∧ H' d = some (.dK kvs) ∧ kvs.map (·.1) = hs.map (fun m : Nat => (Sum.inl (m : Int) : L2.Key)) ∧ hs.Nodup ∧ kvs.length ≤ i ∧
        (∀ x, x ∈ hs ↔ ∃ n ∈ (fols Tr).take i, headN Tr (looseN Tr F) n = x) ∧ ∀ h : Nat, h ∈ hs → ∃ q, valV kvs (Sum.inl (h : Int)) = some (.ref q) ∧ H' q = some (.lst (intsV (((fols Tr).take i).filter fun n => decide (headN Tr (looseN Tr F) n = h)))))
      (fun H4 e4 => ⟨e4 _ _ h3, Ex.i e4, e03.trans e4, [], [], none, none, rfl, e4 _ _ hd3, rfl, List.nodup_nil, Nat.le_refl _, fun x => by simp, fun h hh => by cases hh⟩) (fun k σ' H' q => ⟨q.1, q.2.1⟩) ?_ ?_
    · rintro i q σ' H4 hq ⟨hp4, i4, e4, kvs, hs, x3, x4, rfl, hd4, hks, nd, hkl, hm, hv⟩
      obtain ⟨f, hf, rfl⟩ : ∃ f, (fols Tr)[i]? = some f ∧ (f, headN Tr (looseN Tr F) f) = q := by
        rw [List.getElem?_map] at hq
        cases c : (fols Tr)[i]? with
        | none => rw [c] at hq; cases hq
        | some f => rw [c] at hq; exact ⟨f, rfl, Option.some.inj hq⟩
      have hil : i < (fols Tr).length := (List.getElem?_eq_some_iff.mp hf).1
      generalize hhd : headN Tr (looseN Tr F) f = h at *
      have htk : (fols Tr).take (i + 1) = (fols Tr).take i ++ [f] := by rw [List.take_succ, hf]; rfl
      have hkmem : ((Sum.inl (h : Int) : L2.Key) ∈ kvs.map (·.1)) ↔ h ∈ hs := by
        rw [hks, List.mem_map]
        exact ⟨fun ⟨m, hm, e⟩ => by rw [← Int.ofNat.inj (Sum.inl.inj e)]; exact hm, fun z => ⟨h, z, rfl⟩⟩
      -- the value
      have hval : EvP (tOp (rCatL K) (tDGet2 (tVar 2) (tVar 4) (tLst tNil)) (tLst (tCons (tVar 3) tNil))) [some (.ref a), some (.ref ob), some (.ref d), some (.int (f : Int)), some (.int (h : Int))] H4
          fun v H' => ∃ q, v = .ref q ∧ H4 q = none ∧ H' q = some (.lst (intsV ((((fols Tr).take i).filter fun n => decide (headN Tr (looseN Tr F) n = h)) ++ [f]))) := by
        refine EvP.imp (evp_cat (xs := intsV (((fols Tr).take i).filter fun n => decide (headN Tr (looseN Tr F) n = h))) (zs := [.int (f : Int)]) (evp_get2 (ev_var rfl) (ev_var rfl) (evl_p (el_lst ea_nil (Nat.zero_le _))) hd4 ?_) (fun H1 e => el_lst (ea_cons (ev_var rfl) ea_nil) (by simp)) ?_) ?_
        · rintro z H' e ⟨l0, rfl, _, h8⟩
          by_cases c : h ∈ hs
          · obtain ⟨q0, h1, h2⟩ := hv h c
            exact ⟨q0, by rw [h1]; rfl, e _ _ h2⟩
          · refine ⟨l0, by rw [valV_none_of (fun z => c (hkmem.mp z))]; rfl, ?_⟩
            rw [h8, List.filter_eq_nil_iff.mpr]
            · rfl
            · intro n hn z
              exact c ((hm h).mpr ⟨n, hn, of_decide_eq_true z⟩)
        · have : (((fols Tr).take i).filter fun n => decide (headN Tr (looseN Tr F) n = h)).length ≤ i := Nat.le_trans (List.length_filter_le _ _) (by rw [List.length_take]; omega)
          rw [List.length_map, List.length_singleton]
          omega
        · rintro v H' ⟨q, rfl, h1, h2⟩
          refine ⟨q, rfl, h1, ?_⟩
          rw [h2, intsV, intsV, List.map_append]
          rfl
      refine s_dputP hval (ev_var rfl) (ev_var rfl) hd4 (by omega) fun v H5 H7 e5 hv5 e57 => ?_
      obtain ⟨l2, rfl, hl2, h5⟩ := hv5
      have e47 := e5.trans e57
      have hd7 := e47 _ _ hd4
      have hl2d : l2 ≠ d := fun z => by subst z; rw [hd4] at hl2; cases hl2
      have hkeys := keys_putK kvs (Sum.inl (h : Int)) (.ref l2)
      have fkey : ∀ h', ((fols Tr).take (i + 1)).filter (fun n => decide (headN Tr (looseN Tr F) n = h')) = if h' = h then (((fols Tr).take i).filter fun n => decide (headN Tr (looseN Tr F) n = h')) ++ [f] else ((fols Tr).take i).filter fun n => decide (headN Tr (looseN Tr F) n = h') := by
        intro h'
        rw [htk, List.filter_append, List.filter_cons]
        by_cases c : h' = h
        · rw [if_pos c, if_pos (decide_eq_true (hhd.trans c.symm))]
          rfl
        · rw [if_neg c, if_neg (by rw [decide_eq_true_iff, hhd]; exact fun z => c z.symm)]
          exact List.append_nil _
      refine ⟨by rw [upd_ne hpd]; exact e47 _ _ hp4, (i4.trans (Ex.i e47)).trans (ExI.dk hd7), (e4.trans e47).mut hd, _, (if h ∈ hs then hs else hs ++ [h]), _, _, rfl, upd_same, ?_, ?_, Nat.le_trans (length_putK _ _ _) (by omega), fun x => ?_, fun h' hh' => ?_⟩
      · rw [hkeys]
        by_cases c : h ∈ hs
        · rw [if_pos (any_key.mpr (hkmem.mpr c)), if_pos c, hks]
        · rw [if_neg (fun z => c (hkmem.mp (any_key.mp z))), if_neg c, hks, List.map_append]
          rfl
      · split
        · exact nd
        · rename_i c
          exact List.nodup_append.mpr ⟨nd, by simp, fun x hx y hy z => by rw [List.mem_singleton.mp hy] at z; exact c (z ▸ hx)⟩
      · have key : (∃ n ∈ (fols Tr).take (i + 1), headN Tr (looseN Tr F) n = x) ↔ x ∈ hs ∨ x = h := by
          rw [hm x, htk]
          constructor
          · rintro ⟨n, hn, e⟩
            rcases List.mem_append.mp hn with z | z
            · exact .inl ⟨n, z, e⟩
            · rw [List.mem_singleton.mp z, hhd] at e
              exact .inr e.symm
          · rintro (⟨n, hn, e⟩ | rfl)
            · exact ⟨n, List.mem_append_left _ hn, e⟩
            · exact ⟨f, List.mem_append_right _ (List.mem_singleton.mpr rfl), hhd⟩
        rw [key]
        split
        · rename_i c
          exact ⟨.inl, fun z => z.elim id fun e => e ▸ c⟩
        · rw [List.mem_append, List.mem_singleton]
      · rw [valV_put, fkey]
        by_cases c : h' = h
        · subst c
          rw [if_pos rfl, if_pos rfl]
          exact ⟨l2, rfl, by rw [upd_ne hl2d]; exact e57 _ _ h5⟩
        · have hne : ¬ ((Sum.inl (h' : Int) : L2.Key) = Sum.inl (h : Int)) := fun z => c (Int.ofNat.inj (Sum.inl.inj z))
          rw [if_neg hne, if_neg c]
          have hin : h' ∈ hs := by
            by_cases cc : h ∈ hs
            · rw [if_pos cc] at hh'; exact hh'
            · rw [if_neg cc] at hh'
              rcases List.mem_append.mp hh' with z | z
              · exact z
              · exact absurd (List.mem_singleton.mp z) c
          obtain ⟨q0, h1, h2⟩ := hv h' hin
          refine ⟨q0, h1, ?_⟩
          have : q0 ≠ d := fun z => by subst z; rw [hd4] at h2; cases h2
          rw [upd_ne this]
          exact e47 _ _ h2
    · rintro σ' H4 ⟨hp4, i4, e4, kvs, hs, x3, x4, rfl, hd4, hks, nd, hkl, hm, hv⟩
      rw [List.length_map] at hm hv hkl
      rw [List.take_length] at hm hv
      have hmem : ∀ x, x ∈ hs ↔ x ∈ headsUsed Tr (looseN Tr F) := fun x => by
        rw [hm x]
        unfold headsUsed
        rw [List.mem_filter, List.mem_range, List.any_eq_true]
        constructor
        · rintro ⟨n, hn, rfl⟩
          exact ⟨G.lt ((head_spec G _ (mem_fols.mp hn)).fol G (mem_fols.mp hn)), n, hn, decide_eq_true rfl⟩
        · rintro ⟨_, n, hn, e⟩
          exact ⟨n, hn, of_decide_eq_true e⟩
      have hpa : ∃ pa : Nat → Addr, ∀ h ∈ headsUsed Tr (looseN Tr F), valV kvs (Sum.inl (h : Int)) = some (.ref (pa h)) ∧ H4 (pa h) = some (.lst (intsV ((fols Tr).filter fun n => decide (headN Tr (looseN Tr F) n = h)))) := by
        classical
        refine ⟨fun h => if z : h ∈ hs then Classical.choose (hv h z) else 0, fun h hh => ?_⟩
        have z := (hmem h).mpr hh
        have q := Classical.choose_spec (hv h z)
        simp only [dif_pos z]
        exact q
      obtain ⟨pa, hpa⟩ := hpa
      have hul : (headsUsed Tr (looseN Tr F)).length ≤ 60 := Nat.le_trans (List.length_filter_le _ _) (by rw [List.length_range]; exact hlen)
      refine s_retL (xs := ((intsV (headsUsed Tr (looseN Tr F))).filter fun _ => true).map fun x => match x with | .int i => V.ref (pa i.toNat) | _ => .non) (el_one (wk_newl ?_) ?_ (fun _ => true) _ (fun _ => rfl) (fun _ _ _ _ => et_yes) fun x hx H5 e5 _ => ?_) fun p5 H5 hp5 e5 h5 => ?_
      · intro H5 e5 Q q
        refine ev_var (i := 2) (v := .ref d) rfl H5 e5 _ fun H6 e6 => ⟨d, kvs, hs.map fun m : Nat => (m : Int), rfl, .inl ((e5.trans e6) _ _ hd4), by rw [hks, List.map_map]; rfl, by
          rw [List.length_map]
          have := congrArg List.length hks
          rw [List.length_map, List.length_map] at this
          omega, fun ys p hperm hsrt hp => ?_⟩
        have hy := sorted_ints_eq hperm hsrt nd (asc_range _ _) hmem
        refine q p _ (fresh_back e6 hp) (e6.trans (Evl.Ex.new hp)) ?_
        rw [upd_same, hy, List.map_map]
        rfl
      · rw [List.length_map]; omega
      · obtain ⟨h, hh, rfl⟩ := List.mem_map.mp hx
        exact ev_getD (ev_var rfl) (ev_var rfl) (e5 _ _ hd4) (hpa h hh).1
      · rw [List.filter_eq_self.mpr fun _ _ => rfl, List.map_map] at h5
        refine k p5 H5 (fresh_back e4 hp5) (e4.trans e5) ⟨(headsUsed Tr (looseN Tr F)).map pa, by rw [h5, List.map_map]; rfl, ?_⟩
        unfold piecesN
        refine pr_mapl' (pr_mapr' ?_)
        have : ∀ l : List Nat, (∀ h ∈ l, h ∈ headsUsed Tr (looseN Tr F)) → Paired (fun a b => H5 (pa a) = some (.lst (intsV ((fols Tr).filter fun n => decide (headN Tr (looseN Tr F) n = b))))) l l := by
          intro l
          induction l with
          | nil => intro _; exact .nil
          | cons x r ih => intro hl; exact .cons (e5 _ _ (hpa x (hl x List.mem_cons_self)).2) (ih fun h hh => hl h (List.mem_cons_of_mem _ hh))
        exact this _ fun _ h => h
end
end NW
set_option maxHeartbeats 4000000
/-! x = {k: v for ..}, x a local of the def. -/
namespace NW
open PySem PySem.Spec PyProof.Rows L2
section
variable {X : Cx}
theorem ps_setDc {i : Nat} {y : Str} {py : Pos} {kx vx tg iter : Expr} {ifs : List Expr} {scope : Scope} {own : List (Str × Nat)} {pos spos : Pos} {wi : TI} {g : TG} {tt : TT} {tk tv : TE} (hc : X.calm = true) (hN : X.N.Nodup) (hy : X.N[i]? = some y) (hyl : X.env.scope.names.lookup y = some .local)
    (hsw : swapsWith (.DictComp kx vx [⟨tg, iter, ifs, 0⟩] scope pos) (some (.Name y py)) spos.line X.env = pure true) (hi : PI X tg iter wi) (ok : BlkOk X.N X.env.scope scope own)
    (hg : ∀ (s : Shared) (H : Hp) (C : Addr) (cl : List (Str × Addr)) (fp : List Addr), PG (X.blk s H scope (compEnvC scope cl C X.env) fp) tg g) (ht : ∀ (s : Shared) (H : Hp) (C : Addr) (cl : List (Str × Addr)) (fp : List Addr), PTs (X.blk s H scope (compEnvC scope cl C X.env) fp) ifs tt)
    (hk : ∀ (s : Shared) (H : Hp) (C : Addr) (cl : List (Str × Addr)) (fp : List Addr), PE (X.blk s H scope (compEnvC scope cl C X.env) fp) kx tk)
    (he : ∀ (s : Shared) (H : Hp) (C : Addr) (cl : List (Str × Addr)) (fp : List Addr), PE (X.blk s H scope (compEnvC scope cl C X.env) fp) vx tv) (hs : ∀ x, foldedSetIterable iter X.env x = pure x := by intro _; rfl) :
    PS X (.Assign [.Name y py] (.DictComp kx vx [⟨tg, iter, ifs, 0⟩] scope pos) spos) (tAsg (tDc wi g tt tk tv (own.map (·.2))) (gName i)) := by
  refine ⟨fun pins s σ H D I h => ?_⟩
  rw [exec_Assign_Name_used _ _ _ _ hsw]
  refine wpAny_bind (wpAny_standAt (wpAny_bind ?_))
  show wpAny _ X.A (do let _ ← comprehension (.DictComp kx vx [⟨tg, iter, ifs, 0⟩] scope pos) scope X.env (firstIterPos [⟨tg, iter, ifs, 0⟩] pos) newDict false (eval iter X.env) (some (assign (.Name y py) X.env))) _ _ s
  have h : tDc wi g tt tk tv (own.map (·.2)) σ H (fun x H1 => gName i x σ H1 D.nx) := h
  refine wpAny_bind (thn (dc_core (Qf := fun _ s' => SP X pins D .next s') hc hN I hi ok hg ht hk he hs h fun L C s' m H' I' q hn f => ?_) fun _ s' hq => wpAny_pure (wpAny_pure hq))
  show wpAny _ _ (assign (.Name y py) X.env (.ref L)) _ _ _
  refine wpAny_assign_Name (store_ok2 (v := V.ref L) I' hN hy (.inl hyl) rfl (fun s2 I2 ⟨a, sb, ha⟩ => ?_) (.inr hyl))
  obtain ⟨f0, f1, f2, f3, f4, f5⟩ := f
  have haC : C ≠ a := by
    rcases ha with z | z
    · rw [z]; exact f1
    · exact fun e => f4 y a z e.symm
  refine ⟨m, hn.sameBut sb haC, fun h3 sb3 => ?_⟩
  exact ⟨_, H', I2.turned (t' := s2.toks) (fun b o hb e => (sb3.2 b hb).trans e) f0 f1 f3 f4 f5, q⟩
theorem sw_trueD {kx vx : Expr} {gs : List Comprehension} {scope : Scope} {pos py : Pos} {y : Str} {l : Nat} {env : Env} (hk : env.scope.kind = .function) (hy : env.scope.names.lookup y = some .local) (hl : (py.line == pos.line) = true)
    (ha : (scope.names.any fun (n, k) => n == y && (k == .local || k == .cell)) = false) : swapsWith (.DictComp kx vx gs scope pos) (some (.Name y py)) l env = pure true := by
  have ky : env.kindOf y = some .local := hy
  have hb : env.blockKind = .function := by unfold Env.blockKind; rw [hk]; rfl
  unfold swapsWith
  simp only [hb, ky, ha, Expr.pos, hl]
  rfl
end
end NW
set_option maxHeartbeats 4000000
/-! arrangements. -/
namespace NW
open PySem PySem.Spec PyProof.Rows L2 Evl
theorem setD_merge : ∀ {B A : List Nat}, (A ++ B).Nodup → mergeK (setD A) (setD B) = setD (A ++ B)
  | [], A, _ => by rw [List.append_nil]; rfl
  | b :: B, A, nd => by
    show mergeK (putK (setD A) (Sum.inl (b : Int)) (.bl true)) (setD B) = _
    have hb : b ∉ A := fun z => (List.nodup_append.mp nd).2.2 b z b List.mem_cons_self rfl
    have e : A ++ b :: B = (A ++ [b]) ++ B := by simp
    rw [setD_put hb, e]
    exact setD_merge (by rw [← e]; exact nd)
section
variable {K : PySem.W.Frag} {σ : L2.St} {H H' : Hp} {ta tb te tl td tk tv tx ty : TE} {D : Ends} {tu tz : TS} {d : Addr} {n : Nat} {g : TG} {wi : TI} {tt : TT} {vs : List Nat} {i : Nat}
/-- a comprehension over numbers -/
theorem el_nats {F : List Nat} (h : Wk wi σ H (intsV F).length (ItOf (intsV F))) (hz : F.length ≤ 40000) (f : Nat → Bool) (v : Nat → V)
    (hw : ∀ a, wipe ((wipe σ vs).set i (some a)) vs = wipe σ vs)
    (ht : ∀ x ∈ F, ∀ H1, Ex H H1 → EvT tt ((wipe σ vs).set i (some (.int (x : Int)))) H1 (f x))
    (he : ∀ x ∈ F, ∀ H1, Ex H H1 → f x = true → Ev te ((wipe σ vs).set i (some (.int (x : Int)))) H1 (v x)) :
    EvL (tLc wi (gName i) tt te vs) σ H ((F.filter f).map v) := by
  have hk := kept_map (es := F) (f := f) (v := v) (f' := fun k => match F[k]? with | some e => f e | none => false) (v' := fun k => match F[k]? with | some e => v e | none => .non)
    (fun k e q => by simp only [q]) (fun k e q => by simp only [q])
  rw [← hk]
  have hl : (intsV F).length = F.length := List.length_map ..
  rw [← hl]
  refine comp_val h (by rw [hl]; exact hz) _ _ fun k x H1 hi e1 it Q q => ?_
  have it : (intsV F)[k]? = some x := it
  rw [List.getElem?_map] at it
  cases c : F[k]? with
  | none => rw [c] at it; cases it
  | some y =>
    rw [c] at it
    obtain rfl : V.int (y : Int) = x := Option.some.inj it
    have hm : y ∈ F := List.mem_of_getElem? c
    refine q _ H1 (Evl.Ex.refl H1) (hw _) ?_ fun hf => ?_
    · simp only [c]
      exact ht y hm H1 e1
    · simp only [c] at hf ⊢
      exact he y hm H1 e1 hf
theorem ev_lenLP {P : List V → Hp → Prop} (ha : EvLP ta σ H P) (hn : ∀ ys H', P ys H' → ys.length = n) : Ev (tCB (rLenS K) (tCons ta tNil)) σ H (.int (n : Int)) := fun H1 e Q q =>
  ha H1 e _ fun p ys H2 _ e2 h2 hp => ⟨p, ys, rfl, Or.inl (sq_of h2), by rw [hn ys H2 hp]; exact q H2 e2⟩
theorem ev_lenD {kvs : List (L2.Key × V)} (ha : Ev ta σ H (.ref d)) (h : H d = some (.dK kvs)) : Ev (tCB (fun xs H Q => ∃ a kvs, xs = [V.ref a] ∧ H a = some (.dK kvs) ∧ Q (.int kvs.length) H) (tCons ta tNil)) σ H (.int (kvs.length : Int)) := fun H1 e Q q =>
  ha H1 e _ fun H2 e2 => ⟨d, kvs, rfl, (e.trans e2) _ _ h, q H2 e2⟩
theorem el_lock {u : HO} {xs : List V} (hd : H d = some u) (mu : Mut (some u)) (h : ∀ H1 od, Ex H H1 → EvL te σ (upd H1 d (.frz od u)) xs) : EvL (tLockE te) σ H xs := fun H1 e Q q =>
  ⟨d, u, e _ _ hd, mu, fun od => h H1 od e _ (Evl.Ex.refl _) _ fun p H2 hp e2 h2 => by
    have hpd : p ≠ d := fun z => by subst z; rw [upd_same] at hp; cases hp
    refine ⟨e2 _ _ upd_same, q p _ (by rw [upd_ne hpd] at hp; exact hp) (fun b o hb => ?_) (by rw [upd_ne hpd]; exact h2)⟩
    by_cases c : b = d
    · subst c
      rw [upd_same]
      rw [e _ _ hd] at hb
      exact hb
    · rw [upd_ne c]
      exact e2 _ _ (by rw [upd_ne c]; exact hb)⟩
theorem wk_keys {od : Obj} {kvs : List (L2.Key × V)} (h : Ev td σ H (.ref d)) (hd : H d = some (.frz od (.dK kvs))) : Wk (iKeys td) σ H kvs.length (fun i x _ => ∃ k v, kvs[i]? = some (k, v) ∧ x = kV k) := fun H1 e R r =>
  h H1 e _ fun H2 e2 => ⟨d, od, rfl, .inl ⟨kvs, (e.trans e2) _ _ hd, r _ H2 e2 ⟨fun H3 e3 => ⟨((e.trans e2).trans e3) _ _ hd, Nat.le_refl _⟩, fun i H3 e3 hi => ⟨⟨((e.trans e2).trans e3) _ _ hd, hi⟩, fun x H4 y => ⟨by rw [y.1]; exact Evl.Ex.refl _, y.2⟩⟩⟩⟩⟩
end
section
variable {P : Program} {w : World} {K : PySem.W.Frag} {mg : Str → Option Value} {base : Heap}
theorem entVs_len {H : Hp} {es : List (Nat × Str)} {ys : List V} (h : EntVs H es ys) : ys.length = es.length := (Paired.len h).symm
theorem sc_arrangements : FnScope ["tree", "others", "mine", "some", "known", "found", "turn", "folder", "node"] ["tree", "others"] (defScope s_arrangements) := ⟨rfl, rfl, rfl, by decide +kernel, rfl, by decide +kernel, by decide +kernel⟩
theorem c_arrangements (T : Txt K mg) : C8.Cal P w K mg base 6 "arrangements" (spArr K) [] := by
  refine cal_of (fd_arrangements T) (g_arrangements T) (fun _ _ _ _ _ _ us hl => match us, hl with | [_, _], _ => rfl) sc_arrangements (fun vs H Q E h => ?_) (fun cdv A outer s H vs Q E hr h => ?_)
  · obtain ⟨_, _, _, _, _, _, _, rfl, _⟩ := h; rfl
  · obtain ⟨a, ob, t, as, Tr, o, F, rfl, hT, G, ho, hF, h3, h4, k⟩ := h
    have hu := hu_of hr
    refine ⟨_, (pss_cons (ps_expr (C8.pe_c (c_check_others T) hr (by decide) rfl (pa_cons (pv 0) (pa_cons (pv 1) pa_nil))))
      (pss_cons (ps_setDc (i := 2) (own := [("folder", 7)]) rfl sc_arrangements.nd rfl rfl (sw_trueD rfl rfl rfl (by decide +kernel)) (pi_tup (pe_fld (pv 1) rfl)) (blkOk_by (own := [("folder", 7)]) (N := ["tree", "others", "mine", "some", "known", "found", "turn", "folder", "node"]) (sc := defScope s_arrangements) (by decide +kernel)) (fun _ _ _ _ _ => (pg_name (i := 7) sc_arrangements.nd rfl (Or.inl rfl) (.inr rfl))) (fun _ _ _ _ _ => pts_nil) (fun _ _ _ _ _ => (pv 7)) (fun _ _ _ _ _ => pe_bl))
      (pss_cons (ps_setLc (i := 3) (own := [("node", 8)]) rfl sc_arrangements.nd rfl rfl (sw_true rfl rfl rfl (by decide +kernel)) (pi_list (C8.pe_c (c_loose T) hr (by decide) rfl (pa_cons (pv 0) (pa_cons (pv 1) pa_nil)))) (blkOk_by (own := [("node", 8)]) (N := ["tree", "others", "mine", "some", "known", "found", "turn", "folder", "node"]) (sc := defScope s_arrangements) (by decide +kernel)) (fun _ _ _ _ _ => (pg_name (i := 8) sc_arrangements.nd rfl (Or.inl rfl) (.inr rfl))) (fun _ _ _ _ _ => (pts_one (pt_cmpR op_eq (pe_callB (k_len (K := K) rfl) (by rfl) (f_len T) b_len (pa_cons (C8.pe_c (c_entries_of T) hr (by decide) rfl (pa_cons (pv 0) (pa_cons (pv 8) pa_nil))) pa_nil)) pe_int (nomark _)))) (fun _ _ _ _ _ => (pv 8)))
      (pss_cons (ps_if (pt_cmpR (op_eqNilL (hu0_of hr)) (pv 3) (pe_lst pa_nil) (nomark _)) (pss_one (ps_ret pe_int)) pss_nil)
      (pss_cons (ps_set (i := 4) sc_arrangements.nd rfl (Or.inr rfl) (C8.pe_c (c_heads_of T) hr (by decide) rfl (pa_cons (pv 0) (pa_cons (pv 1) pa_nil))))
      (pss_cons (ps_set (i := 5) sc_arrangements.nd rfl (Or.inl rfl) (pe_callB call_len_seq (by rfl) (f_len T) b_len (pa_cons (pe_lock (pe_lc (own := [("folder", 7)]) rfl sc_arrangements.nd (pi_keys (pv 2)) (blkOk_by (own := [("folder", 7)]) (N := ["tree", "others", "mine", "some", "known", "found", "turn", "folder", "node"]) (sc := defScope s_arrangements) (by decide +kernel)) (fun _ _ _ _ _ => (pg_name (i := 7) sc_arrangements.nd rfl (Or.inl rfl) (.inr rfl))) (fun _ _ _ _ _ => (pts_one (pt_cmpR op_eq (pe_dget hu (pv 4) (pv 7) (fun _ _ => rfl)) pe_int (nomark _)))) (fun _ _ _ _ _ => (pv 7)))) pa_nil)))
      (pss_cons (ps_for PassesOwn.never rfl (pi_range1 rfl (f_range T) (pa_cons (pe_op op_sub (pe_callB call_len_seq (by rfl) (f_len T) b_len (pa_cons (pv 3) pa_nil)) pe_int) pa_nil)) (pg_name (i := 6) sc_arrangements.nd rfl (Or.inl rfl)) (pss_one (ps_aug (i := 5) sc_arrangements.nd rfl (Or.inl rfl) (pe_callB call_lenD (by rfl) (f_len T) b_len (pa_cons (pv 2) pa_nil)) ip_mul)))
      (pss_one (ps_ret (pv 5)))))))))), ?_⟩
    have hlen := G.len
    obtain ⟨odx, tf, hob, htf⟩ := id ho
    refine q_drop (ev_call (dvs := []) (ea_cons (ev_var rfl) (ea_cons (ev_var rfl) ea_nil)) (spChkO_v hT ho hF.fol)) fun H1 e1 => ?_
    refine q_asgP (R := fun v H2 => ∃ d, v = .ref d ∧ H2 d = some (.dK (setD F))) (EvP.imp (evp_dc (wk_tup (ev_folders T (ev_var rfl) (e1 _ _ hob)) (st_of (e1 _ _ htf))) (by rw [List.length_map]; omega) (fun i => Sum.inl ((F[i]?.getD 0 : Nat) : Int)) (fun _ => .bl true) fun i y H8 hi e8 it Q q => ?_) ?_) fun v H2 e2 hv => ?_
    · have it : (intsV F)[i]? = some y := it
      rw [List.getElem?_map] at it
      cases c : F[i]? with
      | none => rw [c] at it; cases it
      | some y' =>
        rw [c] at it
        obtain rfl : V.int (y' : Int) = y := Option.some.inj it
        exact q _ H8 (Evl.Ex.refl H8) rfl et_yes (ev_is (ev_var rfl) (by simp only [c]; rfl)) ev_c
    · rintro v H' ⟨d2, rfl, hd2, h2⟩
      refine ⟨d2, rfl, ?_⟩
      have e : ((List.range (intsV F).length).map fun i => ((Sum.inl ((F[i]?.getD 0 : Nat) : Int) : L2.Key), V.bl true)) = setD F := by
        rw [show (intsV F).length = F.length from List.length_map ..]
        refine List.ext_getElem? fun i => ?_
        rw [List.getElem?_map, List.getElem?_map]
        by_cases c : i < F.length
        · rw [List.getElem?_range c, List.getElem?_eq_getElem c]
          simp [List.getElem?_eq_getElem c]
        · rw [List.getElem?_eq_none (by rw [List.length_range]; omega), List.getElem?_eq_none (by omega)]
          rfl
      rw [h2, e]
      have z := setD_merge (A := []) (B := F) hF.nd
      rw [List.nil_append] at z
      exact congrArg some (congrArg HO.dK z)
    · obtain ⟨d, rfl, hd⟩ := hv
      have e02 := e1.trans e2
      have hT2 := hT.mono (Ex.i e02)
      have hLl : (looseN Tr F).length ≤ 60 := Nat.le_trans (List.length_filter_le _ _) (by rw [List.length_range]; exact hlen)
      have hLt : ∀ n ∈ looseN Tr F, n < Tr.length := fun n hn => List.mem_range.mp (List.mem_filter.mp hn).1
      refine q_asgL (xs := intsV (someN Tr (looseN Tr F))) (el_nats (F := looseN Tr F) (wk_newl (el_call (dvs := []) (ea_cons (ev_var rfl) (ea_cons (ev_var rfl) ea_nil)) (spLoose_l hT2 G (ho.mono (Ex.i e02)) hF))) (by omega) (fun n => decide ((entsTo Tr n).length = 1)) (fun n => .int (n : Int)) (fun _ => rfl)
        (fun n hn H3 e3 => et_is (et_test (ev_op (ev_lenLP (n := (entsTo Tr n).length) (elp_call (dvs := []) (ea_cons (ev_var rfl) (ea_cons (ev_var rfl) ea_nil)) (spEnts_lp (hT2.mono (Ex.i e3)) (hLt n hn) G.sized)) fun ys H' r => entVs_len r) ev_c (rv_eq rfl))) (int_eq (b := 1))) fun n hn H3 e3 _ => ev_var rfl) fun p H3 hp e3 h3' => ?_
      have hsl : (intsV (someN Tr (looseN Tr F))).length = (someN Tr (looseN Tr F)).length := List.length_map ..
      refine q_when (et_test (ev_eqNil (ev_var rfl) (sq_of h3'))) (fun hb H4 e4 => ?_) fun hb H4 e4 => ?_
      · have hs : someN Tr (looseN Tr F) = [] := by
          cases c : someN Tr (looseN Tr F) with
          | nil => rfl
          | cons x r => rw [c] at hb; cases hb
        refine s_ret (v := .int (arrN Tr F : Int)) (ev_is ev_c ?_) fun H5 e5 => k H5 (((e02.trans e3).trans e4).trans e5)
        unfold arrN
        rw [if_pos hs]
        rfl
      · have hs : someN Tr (looseN Tr F) ≠ [] := fun c => by rw [c] at hb; cases hb
        have hpos : 0 < (someN Tr (looseN Tr F)).length := List.length_pos_iff.mpr hs
        have e04 := (e02.trans e3).trans e4
        refine q_asgP (evp_call (dvs := []) (ea_cons (ev_var rfl) (ea_cons (ev_var rfl) ea_nil)) (spHeads_p (hT.mono (Ex.i e04)) G (ho.mono (Ex.i e04)) hF)) fun v H5 e5 hv => ?_
        obtain ⟨dk, kvs, rfl, hdk, hh⟩ := hv
        have hd5 := ((e3.trans e4).trans e5) _ _ hd
        have hheads : ∀ f ∈ F, ∃ x : Nat, valV (prN kvs) (Sum.inl (f : Int)) = some (.int (x : Int)) ∧ headN Tr (looseN Tr F) f = x := fun f hf => by
          obtain ⟨x, h1, h2⟩ := prN_some (hh.all f (hF.fol f hf))
          exact ⟨x, h2, head_eq (hh.ok _ h1).2⟩
        have hdd : F ≠ [] → dk ≠ d := fun hne z => by
          subst z
          rw [hd5] at hdk
          have e : setD F = prN kvs := HO.dK.inj (Option.some.inj hdk)
          cases F with
          | nil => exact hne rfl
          | cons x r =>
            cases kvs with
            | nil => cases e
            | cons q s =>
              have e2 := (List.cons.inj e).1
              have e3 : V.bl true = V.int (q.2 : Int) := congrArg Prod.snd e2
              cases e3
        refine q_asg (v := .int (((F.filter fun f => decide (headN Tr (looseN Tr F) f = 0)).length : Nat) : Int)) (ev_is (ev_lenN (xs := (F.filter fun f => decide (headN Tr (looseN Tr F) f = 0)).map fun f : Nat => V.int (f : Int)) (el_lock hd5 trivial fun H6 od e6 => ?_)) (by rw [List.length_map])) fun H6 e6 => ?_
        · refine el_nats (F := F) ?_ (by omega) (fun f => decide (headN Tr (looseN Tr F) f = 0)) (fun f => .int (f : Int)) (fun _ => rfl) (fun f hf H7 e7 => ?_) (fun f hf H7 e7 _ => ev_var rfl)
          · intro H7 e7 R r
            refine wk_keys (d := d) (od := od) (kvs := setD F) (ev_var rfl) upd_same H7 e7 R fun J H8 e8 jok => r J H8 e8 ?_
            have hl : (setD F).length = (intsV F).length := by rw [List.length_map, List.length_map]
            rw [hl] at jok
            refine ⟨jok.stop, fun i H9 e9 hi => ⟨(jok.go i H9 e9 hi).1, fun x H10 y => ?_⟩⟩
            obtain ⟨e10, k', v', hk', rfl⟩ := (jok.go i H9 e9 hi).2 x H10 y
            refine ⟨e10, ?_⟩
            show (intsV F)[i]? = some (kV k')
            rw [List.getElem?_map] at hk' ⊢
            cases c : F[i]? with
            | none => rw [c] at hk'; cases hk'
            | some y =>
              rw [c] at hk'
              have : ((Sum.inl (y : Int) : L2.Key), V.bl true) = (k', v') := Option.some.inj hk'
              have e5 : (Sum.inl (y : Int) : L2.Key) = k' := congrArg Prod.fst this
              rw [← e5]
              rfl
          · obtain ⟨x, h1, h2⟩ := hheads f hf
            have hne : dk ≠ d := hdd (fun z => by subst z; cases hf)
            refine et_is (et_test (ev_op (ev_getD (kvs := prN kvs) (ev_var rfl) (ev_var rfl) (e7 _ _ (by rw [upd_ne hne]; exact e6 _ _ hdk)) h1) ev_c (rv_eq rfl))) ?_
            rw [h2]
            exact int_eq (b := 0)
        · have e36 := (e4.trans e5).trans e6
          have hd6 := e6 _ _ hd5
          have hrest : someN Tr (looseN Tr F) ≠ [] := hs
          refine q_forR1 (n := (((someN Tr (looseN Tr F)).length - 1 : Nat) : Int)) (ea_cons (ev_is (ev_op (ev_len (ev_var rfl) (sq_of (e36 _ _ h3'))) ev_c rv_sub) (by rw [hsl]; congr 1; omega)) ea_nil) (by omega)
            (fun i σ' H' => Ex H6 H' ∧ ∃ x6, σ' = [some (.ref a), some (.ref ob), some (.ref d), some (.ref p), some (.ref dk), some (.int (((F.filter fun f => decide (headN Tr (looseN Tr F) f = 0)).length * F.length ^ i : Nat) : Int)), x6, none, none]) (fun H7 e7 => ⟨e7, none, by rw [Nat.pow_zero, Nat.mul_one]; rfl⟩) ?_ ?_
          · rintro i σ' H7 hi ⟨e7, x6, rfl⟩
            refine ⟨_, rfl, ev_lenD (ev_var rfl) (e7 _ _ hd6) H7 (Evl.Ex.refl H7) _ fun H8 e8 => ⟨_, _, rfl, rfl, .inr ?_, e7.trans e8, some (.int (i : Int)), ?_⟩⟩
            · rw [List.length_map]; constructor <;> omega
            · rw [List.length_map, Nat.pow_succ, ← Nat.mul_assoc]
              rfl
          · rintro σ' H7 ⟨e7, x6, rfl⟩
            refine s_ret (v := .int (arrN Tr F : Int)) (ev_is (ev_var rfl) ?_) fun H8 e8 => k H8 ((((e02.trans e3).trans e36).trans e7).trans e8)
            unfold arrN
            rw [if_neg hs, Int.toNat_natCast]
end
end NW
set_option maxHeartbeats 4000000
/-! == of folders, of trees; of a tree and a text. -/
namespace NW
open PySem PySem.Spec PyProof.Rows L2 Evl
def DSame : Eqv := fun x y _ => ∃ a, x = V.ref a ∧ y = V.ref a
theorem mon_same : Mon DSame := fun _ _ _ _ _ d => d
theorem eqG_same {X : Cx} : EqG X 0 DSame := by
  intro A pins s σ H x y u v sb I rx ry d
  obtain ⟨a, rfl, rfl⟩ := d
  cases rx
  cases ry
  exact SeqAt.EqAt.same (A := A) (s := s) (.ref a) X.prog X.w X.xe _ ⟨rfl, H, I, Ext.rfl'⟩
abbrev DEnts (K : PySem.W.Frag) : Eqv := DTup K (DTup K DFlat)
abbrev DItF (K : PySem.W.Frag) : Eqv := fun x y H => DFlat x y H ∨ DEnts K x y H
abbrev DfF (K : PySem.W.Frag) : Eqv := DTup K (DItF K)
theorem mon_ents {K : PySem.W.Frag} : Mon (DEnts K) := mon_tup (mon_tup mon_flat)
theorem rcG_fF {X : Cx} : RcG X 3 (DfF X.K) := rcG_tup (Mon.or mon_flat mon_ents) (EqG.or (eqG_flat.mono (by decide)) (eqG_tup (mon_tup mon_flat) (eqG_tup mon_flat eqG_flat)))
def RF (K : PySem.W.Frag) : Addr → Addr → Hp → Prop := fun a b H => ∃ o es, NdAt K H a (.fol o es) ∧ NdAt K H b (.fol o es)
def RT (K : PySem.W.Frag) : Addr → Addr → Hp → Prop := fun a b H => ∃ T t as t' bs, TrA K H a t as T ∧ TrA K H b t' bs T ∧ ∀ i, isF T i = false → as[i]? = bs[i]?
theorem ext_ex {H H' : Hp} (e : Ext H H') : Ex H H' := e
theorem flat_str (z : Str) (H : Hp) : DFlat (.str z) (.str z) H := ⟨rfl, rfl, by show (z == z) = true; exact beq_self_eq_true _⟩
theorem flat_int (i : Int) (H : Hp) : DFlat (.int i) (.int i) H := ⟨rfl, rfl, by show (i == i) = true; exact beq_self_eq_true _⟩
theorem ents_eq {K : PySem.W.Frag} {H : Hp} {t u : Addr} {es : Ents} (h : EntsAt H t es) (k : EntsAt H u es) : DEnts K (.ref t) (.ref u) H := by
  obtain ⟨as, h1, h2⟩ := h
  obtain ⟨bs, k1, k2⟩ := k
  refine ⟨t, u, _, _, rfl, rfl, st_of h1, st_of k1, by rw [List.length_map, List.length_map, h2.len, k2.len], fun i x y hx hy => ?_⟩
  rw [List.getElem?_map] at hx hy
  cases c : as[i]? with
  | none => rw [c] at hx; cases hx
  | some a =>
    cases c2 : bs[i]? with
    | none => rw [c2] at hy; cases hy
    | some b =>
      rw [c] at hx
      rw [c2] at hy
      obtain rfl : V.ref a = x := Option.some.inj hx
      obtain rfl : V.ref b = y := Option.some.inj hy
      obtain ⟨e, he, hv⟩ := h2.at1 c
      obtain ⟨e', he', hv'⟩ := k2.at1 c2
      rw [he] at he'
      obtain rfl := Option.some.inj he'
      exact ⟨a, b, _, _, rfl, rfl, st_of hv, st_of hv', Prs.cons (flat_str _ _) (Prs.cons (flat_int _ _) Prs.nil)⟩
/-! ### promises -/
def spCN (z : Str) : Sp := fun vs H Q _ => ∃ a : Addr, vs = [.ref a] ∧ ∀ H', Ex H H' → Q (.str z) H'
theorem spCN_v {z : Str} {H : Hp} {a : Addr} : SpV (spCN z) [.ref a] H (.str z) := fun H1 e Q q E => ⟨a, rfl, q⟩
def spFcF (K : PySem.W.Frag) : Sp := fun vs H Q _ => ∃ (a dx t : Addr) (o : Nat), vs = [.ref a] ∧ H a = some (.ins (He.ga K "Folder") dx (fFol o t)) ∧ ∀ p H', H p = none → Ex H H' → H' p = some (.tup [.int (o : Int), .ref t]) → Q (.ref p) H'
def spFcT (K : PySem.W.Frag) : Sp := fun vs H Q _ => ∃ (a dx t : Addr), vs = [.ref a] ∧ H a = some (.ins (He.ga K "Tree") dx (fTre t)) ∧ ∀ p H', H p = none → Ex H H' → H' p = some (.tup [.ref t]) → Q (.ref p) H'
/-- what a promise gives: a new tuple -/
def SpU (sp : Sp) (vs : List V) (H : Hp) (xs : List V) : Prop := ∀ H1, Ex H H1 → ∀ Q : VK, (∀ p H2, H1 p = none → Ex H1 H2 → H2 p = some (.tup xs) → Q (.ref p) H2) → ∀ E : XK, sp vs H1 Q E
theorem eu_meth {σ : L2.St} {H : Hp} {ta : TE} {tr : TA} {sp : Sp} {vs dvs xs : List V} {C a dx : Addr} {fs : List (Str × V)} {m : Str} {E : XK} (h : Ev ta σ H (.ref a)) (ha : H a = some (.ins C dx fs)) (hl : fs.lookup m = none) (hr : EvA tr σ H vs) (hs : SpU sp (.ref a :: (vs ++ dvs)) H xs) :
    EvU (tMeth C m sp dvs E ta tr) σ H xs := fun H1 e Q q => h H1 e _ fun H2 e2 => ⟨a, dx, fs, rfl, (e.trans e2) _ _ ha, hl, hr H2 (e.trans e2) _ fun H3 e3 => hs H3 ((e.trans e2).trans e3) Q (fun p H4 hp e4 h4 => q p H4 (fresh_back (e2.trans e3) hp) ((e2.trans e3).trans e4) h4) E⟩
theorem rv_eqG {D : Eqv} {x y : V} {H : Hp} (h : ∀ H1, Ex H H1 → D x y H1) : RV (rEqG D) x y H (.bl true) := fun H1 e Q q => ⟨h H1 e, fun H2 e2 => q H2 e2⟩
theorem lkF {o : Nat} {t : Addr} {m : Str} (h1 : (m == "owner") = false) (h2 : (m == "entries") = false) : (fFol o t).lookup m = none := (lk1 h1).trans ((lk1 h2).trans rfl)
theorem lkT {t : Addr} {m : Str} (h1 : (m == "nodes") = false) : (fTre t).lookup m = none := (lk1 h1).trans rfl
section
variable {P : Program} {w : World} {K : PySem.W.Frag} {mg : Str → Option Value} {base : Heap}
theorem sc_Folder_class_name : FnScope ["self"] ["self"] (defScope s_Folder_class_name) := ⟨rfl, rfl, rfl, by decide +kernel, rfl, by decide +kernel, by decide +kernel⟩
theorem m_Folder_class_name (T : Txt K mg) : C8.Met P w K mg base 1 (He.ga K "Folder") "class_name" (spCN "folder") [] := by
  refine met_of (fd_Folder_class_name T) (cl_Folder T) (me_Folder_class_name T) (fun _ _ _ _ _ _ us hl => match us, hl with | [_], _ => rfl) sc_Folder_class_name (fun vs H Q E h => ?_) (fun cdv A outer s H vs Q E hr h => ?_)
  · obtain ⟨_, rfl, _⟩ := h; rfl
  · obtain ⟨a, rfl, k⟩ := h
    exact ⟨_, (pss_one (ps_ret pe_str)), s_ret ev_c fun H1 e1 => k H1 e1⟩
theorem sc_Folder_facts : FnScope ["self"] ["self"] (defScope s_Folder_facts) := ⟨rfl, rfl, rfl, by decide +kernel, rfl, by decide +kernel, by decide +kernel⟩
theorem m_Folder_facts (T : Txt K mg) : C8.Met P w K mg base 1 (He.ga K "Folder") "facts" (spFcF K) [] := by
  refine met_of (fd_Folder_facts T) (cl_Folder T) (me_Folder_facts T) (fun _ _ _ _ _ _ us hl => match us, hl with | [_], _ => rfl) sc_Folder_facts (fun vs H Q E h => ?_) (fun cdv A outer s H vs Q E hr h => ?_)
  · obtain ⟨_, _, _, _, rfl, _⟩ := h; rfl
  · obtain ⟨a, dx, t, o, rfl, ha, k⟩ := h
    refine ⟨_, (pss_one (ps_ret (pe_tup (pa_cons (pe_fld (pv 0) rfl) (pa_cons (pe_fld (pv 0) rfl) pa_nil))))), ?_⟩
    exact s_retU (eu_tup (vs := [.int (o : Int), .ref t]) (ea_cons (ev_fld (ev_var rfl) ha (cl_Folder T) (na_Folder_owner T) lk0) (ea_cons (ev_ents T (ev_var rfl) ha) ea_nil)) (by simp)) k
theorem sc_Tree_class_name : FnScope ["self"] ["self"] (defScope s_Tree_class_name) := ⟨rfl, rfl, rfl, by decide +kernel, rfl, by decide +kernel, by decide +kernel⟩
theorem m_Tree_class_name (T : Txt K mg) : C8.Met P w K mg base 1 (He.ga K "Tree") "class_name" (spCN "tree") [] := by
  refine met_of (fd_Tree_class_name T) (cl_Tree T) (me_Tree_class_name T) (fun _ _ _ _ _ _ us hl => match us, hl with | [_], _ => rfl) sc_Tree_class_name (fun vs H Q E h => ?_) (fun cdv A outer s H vs Q E hr h => ?_)
  · obtain ⟨_, rfl, _⟩ := h; rfl
  · obtain ⟨a, rfl, k⟩ := h
    exact ⟨_, (pss_one (ps_ret pe_str)), s_ret ev_c fun H1 e1 => k H1 e1⟩
theorem sc_Tree_facts : FnScope ["self"] ["self"] (defScope s_Tree_facts) := ⟨rfl, rfl, rfl, by decide +kernel, rfl, by decide +kernel, by decide +kernel⟩
theorem m_Tree_facts (T : Txt K mg) : C8.Met P w K mg base 1 (He.ga K "Tree") "facts" (spFcT K) [] := by
  refine met_of (fd_Tree_facts T) (cl_Tree T) (me_Tree_facts T) (fun _ _ _ _ _ _ us hl => match us, hl with | [_], _ => rfl) sc_Tree_facts (fun vs H Q E h => ?_) (fun cdv A outer s H vs Q E hr h => ?_)
  · obtain ⟨_, _, _, rfl, _⟩ := h; rfl
  · obtain ⟨a, dx, t, rfl, ha, k⟩ := h
    refine ⟨_, (pss_one (ps_ret (pe_tup (pa_cons (pe_fld (pv 0) rfl) pa_nil)))), ?_⟩
    exact s_retU (eu_tup (vs := [.ref t]) (ea_cons (ev_fld (ev_var rfl) ha (cl_Tree T) (na_Tree_nodes T) lk0) ea_nil) (by simp)) k
theorem sc_Thing_eq : FnScope ["self", "other"] ["self", "other"] (defScope s_Thing_eq) := ⟨rfl, rfl, rfl, by decide +kernel, rfl, by decide +kernel, by decide +kernel⟩
/-- the own == at an address, with a promise -/
def EqOk (P : Program) (w : World) (K : PySem.W.Frag) (mg : Str → Option Value) (base : Heap) (n : Nat) (sp : Sp) : Prop := ∃ fd, FnOk P w K mg base CX0 n (He.ma K (He.ga K "Thing") "__eq__") fd ["self", "other"] sp ∧ Binds K fd ["self", "other"] []
theorem eq_F (T : Txt K mg) : EqOk P w K mg base 4 (spEq (RF K)) := by
  obtain ⟨fd, F⟩ := fd_Thing_eq T
  refine ⟨fd, F.ok sc_Thing_eq (fun vs H Q E h => ?_) (fun cdv A outer s H vs Q E hr h => ?_), F.bindsN (fun _ _ _ _ _ _ us hl => match us, hl with | [_, _], _ => rfl)⟩
  · obtain ⟨_, _, rfl, _⟩ := h; rfl
  · obtain ⟨a, b, rfl, ⟨o, es, ha, hb⟩, k⟩ := h
    have q : PSs (cxOf CX0 P w K mg base ["self", "other"] "Thing.__eq__" (defScope s_Thing_eq) (He.ma K (He.ga K "Thing") "__eq__") cdv A outer s H E).nox (defBody s_Thing_eq) _ := (pss_cons (ps_if (PW.pt (pw_or (pt_not (pt_val (pe_callB call_isi (by rfl) (f_isinstance T) b_isinstance (pa_cons (pv 1) (pa_cons (pe_glob (v := .ref (He.ga K "Thing")) rfl (g_Thing T) rfl) pa_nil))))) (pw_or1 (pt_cmpR op_ne (C8.pe_mt0 (m_Folder_class_name T) hr (by decide) (pv 0)) (C8.pe_mt0 (m_Folder_class_name T) hr (by decide) (pv 1)) (nomark _))))) (pss_one (ps_ret pe_bl)) pss_nil)
      (pss_one (ps_ret (pe_cmpR (op_eqG rcG_fF (hr.mono (by decide))) (C8.pe_mt0 (m_Folder_facts T) hr (by decide) (pv 0)) (C8.pe_mt0 (m_Folder_facts T) hr (by decide) (pv 1)) (nomark _)))))
    refine ⟨_, q.nox, ?_⟩
    obtain ⟨dx, t, h1, hE1⟩ := id ha
    obtain ⟨dy, u, h2, hE2⟩ := id hb
    refine q_when (b := false) (et_is (et_or (et_not (et_B (ev_isi (ev_var rfl) ev_c (.own _) (in_Folder T h2) (is_Folder_Thing T)))) fun _ => et_test (ev_op (ev_meth (ev_var rfl) h1 (lkF (by decide +kernel) (by decide +kernel)) ea_nil spCN_v) (ev_meth (ev_var rfl) h2 (lkF (by decide +kernel) (by decide +kernel)) ea_nil spCN_v) (rv_ne rfl))) (by simp)) (fun h => by cases h) fun _ H1 e1 => ?_
    have z1 := e1 _ _ h1
    have z2 := e1 _ _ h2
    refine s_ret (v := .bl true) (ev_opUU (eu_meth (dvs := []) (vs := []) (ev_var rfl) z1 (lkF (by decide +kernel) (by decide +kernel)) ea_nil fun H2 e2 Q q E => ⟨a, dx, t, o, rfl, e2 _ _ z1, q⟩) (eu_meth (dvs := []) (vs := []) (ev_var rfl) z2 (lkF (by decide +kernel) (by decide +kernel)) ea_nil fun H2 e2 Q q E => ⟨b, dy, u, o, rfl, e2 _ _ z2, q⟩) fun p q H2 hp hq e2 => rv_eqG fun H3 e3 => ?_) fun H2 e2 => k H2 (e1.trans e2)
    have e03 := (e1.trans e2).trans e3
    exact ⟨p, q, _, _, rfl, rfl, st_of (e3 _ _ hp), st_of (e3 _ _ hq), Prs.cons (.inl (flat_int _ _)) (Prs.cons (.inr (ents_eq (hE1.mono (Ex.i e03)) (hE2.mono (Ex.i e03)))) Prs.nil)⟩
end
/-- a context of the text -/
structure CxIs (X : Cx) (P : Program) (w : World) (K : PySem.W.Frag) (mg : Str → Option Value) (base : Heap) : Prop where
  prog : X.prog = P
  w : X.w = w
  K : X.K = K
  mg : X.mg = mg
  base : X.base = base
section
variable {P : Program} {w : World} {K : PySem.W.Frag} {mg : Str → Option Value} {base : Heap} {X : Cx}
theorem mon_RF {K : PySem.W.Frag} : ∀ a b H H', Ext H H' → RF K a b H → RF K a b H' := fun a b H H' e ⟨o, es, h1, h2⟩ => ⟨o, es, h1.mono (Ex.i (ext_ex e)), h2.mono (Ex.i (ext_ex e))⟩
abbrev DFol (K : PySem.W.Frag) : Eqv := DIns (He.ga K "Folder") (RF K)
theorem eqG_F (T : Txt K mg) (h : CxIs X P w K mg base) : EqG X 4 (DFol K) := by
  obtain ⟨rfl, rfl, rfl, rfl, rfl⟩ := h
  obtain ⟨fd, F, b⟩ := eq_F (P := X.prog) (w := X.w) (base := X.base) T
  have m := me_Folder_eq T
  rw [eq_Folder T] at m
  exact eqG_ins (E := C8.E0) F m.at_ m.fn b C8.pass0
abbrev DNd (K : PySem.W.Frag) : Eqv := fun x y H => DSame x y H ∨ DFol K x y H
abbrev DfT (K : PySem.W.Frag) : Eqv := DTup K (DTup K (DNd K))
theorem mon_nd {K : PySem.W.Frag} : Mon (DNd K) := Mon.or mon_same (mon_ins mon_RF)
theorem rcG_fT (T : Txt K mg) (h : CxIs X P w K mg base) : RcG X 6 (DfT K) := by
  have q := eqG_F T h
  obtain ⟨rfl, rfl, rfl, rfl, rfl⟩ := h
  exact rcG_tup (mon_tup mon_nd) (eqG_tup mon_nd (EqG.or (eqG_same.mono (by decide)) q))
theorem eq_T (T : Txt K mg) : EqOk P w K mg base 7 (spEq (RT K)) := by
  obtain ⟨fd, F⟩ := fd_Thing_eq T
  refine ⟨fd, F.ok sc_Thing_eq (fun vs H Q E h => ?_) (fun cdv A outer s H vs Q E hr h => ?_), F.bindsN (fun _ _ _ _ _ _ us hl => match us, hl with | [_, _], _ => rfl)⟩
  · obtain ⟨_, _, rfl, _⟩ := h; rfl
  · obtain ⟨a, b, rfl, ⟨Tr, t, as, u, bs, ha, hb, hsame⟩, k⟩ := h
    have q : PSs (cxOf CX0 P w K mg base ["self", "other"] "Thing.__eq__" (defScope s_Thing_eq) (He.ma K (He.ga K "Thing") "__eq__") cdv A outer s H E).nox (defBody s_Thing_eq) _ := (pss_cons (ps_if (PW.pt (pw_or (pt_not (pt_val (pe_callB call_isi (by rfl) (f_isinstance T) b_isinstance (pa_cons (pv 1) (pa_cons (pe_glob (v := .ref (He.ga K "Thing")) rfl (g_Thing T) rfl) pa_nil))))) (pw_or1 (pt_cmpR op_ne (C8.pe_mt0 (m_Tree_class_name T) hr (by decide) (pv 0)) (C8.pe_mt0 (m_Tree_class_name T) hr (by decide) (pv 1)) (nomark _))))) (pss_one (ps_ret pe_bl)) pss_nil)
      (pss_one (ps_ret (pe_cmpR (op_eqG (rcG_fT T ⟨rfl, rfl, rfl, rfl, rfl⟩) (hr.mono (by decide))) (C8.pe_mt0 (m_Tree_facts T) hr (by decide) (pv 0)) (C8.pe_mt0 (m_Tree_facts T) hr (by decide) (pv 1)) (nomark _)))))
    refine ⟨_, q.nox, ?_⟩
    obtain ⟨dx, h1⟩ := ha.ob
    obtain ⟨dy, h2⟩ := hb.ob
    refine q_when (b := false) (et_is (et_or (et_not (et_B (ev_isi (ev_var rfl) ev_c (.own _) (in_Tree T h2) (is_Tree_Thing T)))) fun _ => et_test (ev_op (ev_meth (ev_var rfl) h1 (lkT (by decide +kernel)) ea_nil spCN_v) (ev_meth (ev_var rfl) h2 (lkT (by decide +kernel)) ea_nil spCN_v) (rv_ne rfl))) (by simp)) (fun h => by cases h) fun _ H1 e1 => ?_
    have z1 := e1 _ _ h1
    have z2 := e1 _ _ h2
    refine s_ret (v := .bl true) (ev_opUU (eu_meth (dvs := []) (vs := []) (ev_var rfl) z1 (lkT (by decide +kernel)) ea_nil fun H2 e2 Q q E => ⟨a, dx, t, rfl, e2 _ _ z1, q⟩) (eu_meth (dvs := []) (vs := []) (ev_var rfl) z2 (lkT (by decide +kernel)) ea_nil fun H2 e2 Q q E => ⟨b, dy, u, rfl, e2 _ _ z2, q⟩) fun p q H2 hp hq e2 => rv_eqG fun H3 e3 => ?_) fun H2 e2 => k H2 (e1.trans e2)
    have e03 := (e1.trans e2).trans e3
    have ha3 := ha.mono (Ex.i e03)
    have hb3 := hb.mono (Ex.i e03)
    refine ⟨p, q, _, _, rfl, rfl, st_of (e3 _ _ hp), st_of (e3 _ _ hq), Prs.cons ⟨t, u, _, _, rfl, rfl, st_of ha3.tup, st_of hb3.tup, by rw [List.length_map, List.length_map, ha.nds.len, hb.nds.len], fun i x y hx hy => ?_⟩ Prs.nil⟩
    rw [List.getElem?_map] at hx hy
    cases c : as[i]? with
    | none => rw [c] at hx; cases hx
    | some x' =>
      cases c2 : bs[i]? with
      | none => rw [c2] at hy; cases hy
      | some y' =>
        rw [c] at hx
        rw [c2] at hy
        obtain rfl : V.ref x' = x := Option.some.inj hx
        obtain rfl : V.ref y' = y := Option.some.inj hy
        by_cases hf : isF Tr i = true
        · obtain ⟨o, es, hfe⟩ := isF_of hf
          obtain ⟨n1, hn1, q1⟩ := ha3.nds.at1 c
          obtain ⟨n2, hn2, q2⟩ := hb3.nds.at1 c2
          rw [hfe] at hn1 hn2
          obtain rfl := Option.some.inj hn1
          obtain rfl := Option.some.inj hn2
          obtain ⟨d1, t1, w1, _⟩ := id q1
          obtain ⟨d2, t2, w2, _⟩ := id q2
          exact .inr ⟨x', y', d1, d2, _, _, rfl, rfl, w1, w2, o, es, q1, q2⟩
        · have e := hsame i (Bool.eq_false_iff.mpr hf)
          rw [c, c2] at e
          exact .inl ⟨x', rfl, by rw [Option.some.inj e]⟩
abbrev DTre (K : PySem.W.Frag) : Eqv := DIns (He.ga K "Tree") (RT K)
theorem rcG_T (T : Txt K mg) (h : CxIs X P w K mg base) : RcG X 7 (DTre K) := by
  obtain ⟨rfl, rfl, rfl, rfl, rfl⟩ := h
  obtain ⟨fd, F, b⟩ := eq_T (P := X.prog) (w := X.w) (base := X.base) T
  have m := me_Tree_eq T
  rw [eq_Tree T] at m
  exact rcG_ins (E := C8.E0) F m.at_ m.fn b C8.pass0
end
end NW
set_option maxHeartbeats 4000000
/-! a tree == a text: never. -/
namespace NW
open PySem PySem.Spec PyProof.Rows L2 Evl
/-- an instance against a text -/
def spEqS : Sp := fun vs H Q _ => ∃ (a : Addr) (z : Str), vs = [.ref a, .str z] ∧ ∀ H', Ex H H' → Q (.bl false) H'
def rIns (C : Addr) : R2 := fun x y H Q => ∃ a dx fs z, x = V.ref a ∧ H a = some (.ins C dx fs) ∧ y = .str z ∧ ∀ H', Ex H H' → Q (.bl false) H'
section
variable {P : Program} {w : World} {K : PySem.W.Frag} {mg : Str → Option Value} {base : Heap} {X : Cx}
theorem eq_S (T : Txt K mg) : EqOk P w K mg base 2 spEqS := by
  obtain ⟨fd, F⟩ := fd_Thing_eq T
  refine ⟨fd, F.ok sc_Thing_eq (fun vs H Q E h => ?_) (fun cdv A outer s H vs Q E hr h => ?_), F.bindsN (fun _ _ _ _ _ _ us hl => match us, hl with | [_, _], _ => rfl)⟩
  · obtain ⟨_, _, rfl, _⟩ := h; rfl
  · obtain ⟨a, z, rfl, k⟩ := h
    have q : PSs (cxOf CX0 P w K mg base ["self", "other"] "Thing.__eq__" (defScope s_Thing_eq) (He.ma K (He.ga K "Thing") "__eq__") cdv A outer s H E).nox (defBody s_Thing_eq) _ := (pss_cons (ps_if (PW.pt (pw_or (pt_not (pt_val (pe_callB call_isi (by rfl) (f_isinstance T) b_isinstance (pa_cons (pv 1) (pa_cons (pe_glob (v := .ref (He.ga K "Thing")) rfl (g_Thing T) rfl) pa_nil))))) (pw_or1 (pt_cmpR op_ne (C8.pe_mt0 (m_Tree_class_name T) hr (by decide) (pv 0)) pe_dead (nomark _))))) (pss_one (ps_ret pe_bl)) pss_nil)
      (pss_one (ps_ret (pe_cmpR op_eq (C8.pe_mt0 (m_Tree_facts T) hr (by decide) (pv 0)) pe_dead (nomark _)))))
    refine ⟨_, q.nox, ?_⟩
    refine q_when (b := true) (et_is (et_or (b := false) (et_not (et_B (ev_isi (ev_var rfl) ev_c (.own _) (.base (.str z)) (is_str_Thing T)))) fun h => by cases h) rfl) (fun _ H1 e1 => ?_) (fun h => by cases h)
    exact s_ret ev_c fun H2 e2 => k H2 (e1.trans e2)
theorem op_eqIns (T : Txt K mg) (h : CxIs X P w K mg base) (hr : Room 2 X.A) : OpR X (compareOp .Eq) (rIns (He.ga K "Tree")) := by
  obtain ⟨rfl, rfl, rfl, rfl, rfl⟩ := h
  obtain ⟨fd, F, hb⟩ := eq_S (P := X.prog) (w := X.w) (base := X.base) T
  have me := me_Tree_eq T
  rw [eq_Tree T] at me
  intro pins s σ H x y v u Q I rx ry hq
  obtain ⟨a, dx, fs, z, rfl, ha, rfl, q⟩ := hq
  cases rx
  obtain ⟨t, rfl⟩ := ry
  obtain ⟨mA, J, _⟩ := ins_get I.hok ha
  obtain ⟨od, J, _⟩ := J.look
  obtain ⟨m, hF⟩ := I.fr
  show wpAny (model X.prog X.w) X.A (richCompare .Eq (.ref a) (.str z t)) (EP X pins σ Q) X.xe s
  refine PySem.W.cmp_K (op := .Eq) (tb := .type "str") hr.units0 hF I.ok.mod.kin J PySem.W.Looks.now (nf_Tree T) me.at_ me.fn ?_
  have hsp : spEqS [.ref a, .str z] H (fun v H' => v = .bl false ∧ Ex H H') C8.E0 := ⟨a, z, rfl, fun H' e => ⟨rfl, e⟩⟩
  have e0 : Env0 X.prog X.w X.K X.mg X.base X.A X.stack s H := I.env0
  have hl := F.len _ _ _ _ hsp
  have r2 : Vals [V.ref a, V.str z] [Value.ref a, Value.str z t] := .cons rfl (.cons ⟨t, rfl⟩ .nil)
  refine wpAny_call (codeAny_mono (F.run X.A X.stack s H ⟨[.ref a, .str z t], []⟩ [.ref a, .str z t] [.ref a, .str z] _ C8.E0 hr e0 (by
    have := hb s [.ref a, .str z t] I.kIn (by simpa using hl)
    simpa using this) r2 hsp) fun r s' hq => ?_)
  cases r with
  | error e => exact C8.pass0 (E := C8.E0) pins σ H s e s' I hq
  | ok fl =>
    cases fl with
    | ret w =>
      obtain ⟨z, H', I', rz, ez, ex⟩ := I.after hq
      subst ez
      cases rz
      exact ⟨.bl false, H', I', rfl, q H' ex⟩
    | next => exact False.elim hq
    | brk => exact False.elim hq
    | cont => exact False.elim hq
/-- None or a tree against a text -/
def rStay (K : PySem.W.Frag) : R2 := fun x y H Q => (x = .non ∧ (∃ z, y = V.str z) ∧ Q (.bl false) H) ∨ rIns (He.ga K "Tree") x y H Q
theorem op_eqStay (T : Txt K mg) (h : CxIs X P w K mg base) (hr : Room 2 X.A) : OpR X (compareOp .Eq) (rStay K) := by
  intro pins s σ H x y v u Q I rx ry hq
  rcases hq with ⟨rfl, ⟨z, rfl⟩, q⟩ | q
  · exact op_eq pins s σ H _ _ v u Q I rx ry ⟨rfl, by
      have e : decide (V.non = V.str z) = false := decide_eq_false (fun h => by cases h)
      rw [e]
      exact q⟩
  · exact op_eqIns T h hr pins s σ H x y v u Q I rx ry q
end
end NW
set_option maxHeartbeats 4000000
/-! {tuple: value}. -/
namespace NW
open PySem PySem.Spec PyProof.Rows L2
def tDisp1T (tk tv : TE) : TE := fun σ H Q => ∀ p, H p = none → tk σ (upd H p (.dT [])) fun x H1 => tv σ H1 fun y H2 => ∃ (b : Addr) (ks : List L2.Key), x = .ref b ∧ H2 b = some (.tup (ks.map kV)) ∧ H2 p = some (.dT []) ∧ Q (.ref p) (upd H2 p (.dT [(ks, y)]))
section
variable {X : Cx} {k v : Expr} {tk tv : TE} {pos : Pos}
theorem pe_disp1T (hu : X.A.units + 1 < cLine) (hk : PE X k tk) (hv : PE X v tv) : PE X (.Dict [some k] [v] pos) (tDisp1T tk tv) := by
  refine ⟨fun pins s σ H Q I q => ?_⟩
  have hn := I.hok.fresh (Nat.le_refl s.heap.objs.size)
  have I1 := I.laid (a := s.heap.objs.size) (o := .dT []) (h' := s.heap.push { cls := .type "dict", data := .dict #[] }) (t' := s.toks) (fun _ _ q => Heap.get?_push_of_some _ q) (Nat.le_refl _) (dt_empty s.heap I.big)
  have hshape := zip_pairTrees [some k] [v] X.env pos rfl rfl
  rw [arm_eval_Dict, hshape, dictDisplay_pairs _ (fun z => by cases z) (by show 1 < 17; decide)]
  refine wpAny_bind (wpAny_standAt (wpAny_bind ?_))
  unfold subDict
  refine wpAny_bind (wpAny_alloc ?_)
  refine wpAny_bind (wpAny_holding ?_)
  rw [if_pos (by show 1 ≤ 15; decide)]
  refine wpAny_bind (pairTrees_cons_walk (thn (hk.run pins _ σ _ _ I1 (q _ hn)) fun u s1 ⟨x, H1, I1', rx, q1⟩ => thn (hv.run pins s1 σ H1 _ I1' q1) fun y s2 ⟨yv, H2, I2, ry, b, ks, ex, hb, hp, q2⟩ => pairTrees_nil_walk ?_))
  subst ex
  obtain rfl : u = Value.ref b := rx
  refine wpAny_holding ?_
  obtain ⟨z, hd, xs, rel, dd⟩ := dt_of I2.hok hp
  cases rel
  refine wpAny_bind ?_
  rw [List.forIn_cons]
  refine wpAny_bind (wpAny_bind (wpAny_dictSet_heap (hsz := Nat.zero_le _) (show (tupleKind (mixKind X.prog X.w)).room X.A from by show _ < cLine; omega) (key_of I2.hok hb) dd fun h' dd' hs => wpAny_pure ?_))
  show wpAny _ _ (forIn [] _ _) _ _ _
  rw [List.forIn_nil]
  refine wpAny_pure (wpAny_pure (wpAny_pure (wpAny_pure ?_)))
  refine ⟨.ref s.heap.objs.size, _, ?_, rfl, q2⟩
  obtain ⟨q0, es, ep, hq, h2, h3, h4, _, h5⟩ := dd'
  have rel0 : KT H2 ([] : List (List L2.Key × V)) [] := .nil
  refine d_write I2 (by rw [hp]; exact True.intro) hs ⟨q0, hq⟩ ⟨by show 1 ≤ sizeLine; decide, hd, _, (rel0.put ks hb ry).keeps fun c ys ec => ?_, q0, es, ep, hq, h2, h3, h4, h5⟩
  rw [upd_ne (ne_of ec hp (fun z => nomatch z))]
  exact ec
end
end NW
set_option maxHeartbeats 4000000
/-! What a move does to a tree, in plain Lean. -/
namespace NW
open PySem
/-! ### sorted entries are told by what is in them -/
theorem srt_ext {xs ys : Ents} (hx : SrtE xs) (hy : SrtE ys) (h : ∀ e, e ∈ xs ↔ e ∈ ys) : xs = ys := by
  have nx : xs.Nodup := List.Pairwise.imp (fun {a b} q (z : a = b) => by rw [z] at q; exact nlt_irrefl _ q) hx
  have ny : ys.Nodup := List.Pairwise.imp (fun {a b} q (z : a = b) => by rw [z] at q; exact nlt_irrefl _ q) hy
  exact srt_unique ((List.perm_ext_iff_of_nodup nx ny).mpr h) hx hy
theorem srt_name {es : Ents} (h : SrtE es) {a b : Str × Nat} (ha : a ∈ es) (hb : b ∈ es) (e : a.1 = b.1) : a = b := by
  have q1 := once_filter h.once ha
  have q2 := once_filter h.once hb
  rw [e] at q1
  rw [q1] at q2
  exact (List.cons.inj q2).1
/-! ### nodes but for their entries -/
def skel : Nd → Nd
  | .fol o _ => .fol o []
  | x => x
theorem setEs_skel (T : Tr) (f : Nat) (es : Ents) : (setEs T f es).map skel = T.map skel := by
  unfold setEs
  split
  · rename_i o es' h
    rw [List.map_set]
    obtain ⟨hl, he⟩ := List.getElem?_eq_some_iff.mp h
    apply List.ext_getElem?
    intro i
    by_cases c : f = i
    · subst c
      rw [List.getElem?_set_self (by rw [List.length_map]; exact hl), List.getElem?_map, h]
      rfl
    · rw [List.getElem?_set_ne c]
  · rfl
theorem mv_skel (T : Tr) (f g n : Nat) (old q : Str) : (moveT T f old g q n).map skel = T.map skel := by
  unfold moveT
  rw [setEs_skel, setEs_skel]
theorem tr_ext {T T' : Tr} (h : T.map skel = T'.map skel) (k : ∀ x, ents T x = ents T' x) : T = T' := by
  apply List.ext_getElem?
  intro i
  have q : (T[i]?).map skel = (T'[i]?).map skel := by rw [← List.getElem?_map, ← List.getElem?_map, h]
  have e := k i
  unfold ents at e
  cases a : T[i]? with
  | none =>
    cases b : T'[i]? with
    | none => rfl
    | some m => rw [a, b] at q; cases q
  | some m =>
    cases b : T'[i]? with
    | none => rw [a, b] at q; cases q
    | some m' =>
      rw [a, b] at q e
      have q : skel m = skel m' := Option.some.inj q
      have e : m.es = m'.es := e
      cases m with
      | fol o es =>
        cases m' with
        | fol o' es' =>
          injection q with q1 _
          have e : es = es' := e
          rw [q1, e]
        | _ => cases q
      | _ =>
        cases m' with
        | fol o' es' => cases q
        | _ => exact congrArg some q
theorem skel_get {T T' : Tr} (h : T'.map skel = T.map skel) {i : Nat} {m : Nd} (e : T'[i]? = some m) : (∃ o es, m = .fol o es) ∨ T[i]? = some m := by
  have q : (T'[i]?).map skel = (T[i]?).map skel := by rw [← List.getElem?_map, ← List.getElem?_map, h]
  rw [e] at q
  cases m with
  | fol o es => exact .inl ⟨o, es, rfl⟩
  | _ =>
    right
    cases b : T[i]? with
    | none => rw [b] at q; cases q
    | some m' =>
      rw [b] at q
      have q := Option.some.inj q
      cases m' with
      | fol o es => cases q
      | _ => exact congrArg some q.symm
/-! ### how many entries -/
theorem sum_put {α : Type} (f : α → Nat) : ∀ {l : List α} {i : Nat} {a : α} (b : α), l[i]? = some a → ((l.set i b).map f).sum + f a = (l.map f).sum + f b
  | [], i, a, b, h => by simp at h
  | x :: l, 0, a, b, h => by
    obtain rfl : x = a := Option.some.inj h
    simp only [List.set_cons_zero, List.map_cons, List.sum_cons]
    omega
  | x :: l, i + 1, a, b, h => by
    have ih := sum_put f (l := l) (i := i) b h
    simp only [List.set_cons_succ, List.map_cons, List.sum_cons]
    omega
theorem le_sum {α : Type} (f : α → Nat) : ∀ {l : List α} {a : α}, a ∈ l → f a ≤ (l.map f).sum
  | [], a, h => by cases h
  | x :: l, a, h => by
    rw [List.map_cons, List.sum_cons]
    rcases List.mem_cons.mp h with rfl | h
    · omega
    · have := le_sum f h
      omega
abbrev totE (T : Tr) : Nat := (T.map fun n => n.es.length).sum
theorem setEs_tot {T : Tr} {f : Nat} (es : Ents) (hf : isF T f = true) : totE (setEs T f es) + (ents T f).length = totE T + es.length := by
  obtain ⟨o, es', h⟩ := isF_of hf
  rw [setEs_fol h, ents_of h]
  exact sum_put (fun n : Nd => n.es.length) (.fol o es) h
theorem delE_len {es : Ents} (h : SrtE es) {e : Str × Nat} (he : e ∈ es) : (delE es e.1).length + 1 = es.length := by
  have q := once_filter h.once he
  have l : ∀ (p : Str × Nat → Bool) (xs : Ents), (xs.filter fun x => !p x).length + (xs.filter p).length = xs.length := by
    intro p xs
    induction xs with
    | nil => rfl
    | cons x r ih =>
      cases c : p x with
      | true => rw [List.filter_cons, List.filter_cons, if_neg (by rw [c]; decide), if_pos c, List.length_cons, List.length_cons]; omega
      | false => rw [List.filter_cons, List.filter_cons, if_pos (by rw [c]; decide), if_neg (by rw [c]; decide), List.length_cons, List.length_cons]; omega
  have q2 := l (fun x => decide (x.1 = e.1)) es
  rw [q] at q2
  exact q2
theorem addE_len (es : Ents) (q : Str) (n : Nat) : (addE es q n).length = es.length + 1 := by
  unfold addE
  rw [(sortE_perm _).length_eq, List.length_append, List.length_singleton]
theorem ents_le {T : Tr} {f : Nat} : (ents T f).length ≤ totE T := by
  unfold ents
  cases h : T[f]? with
  | none => exact Nat.zero_le _
  | some m => exact le_sum (fun n : Nd => n.es.length) (List.mem_of_getElem? h)
/-! ### the move -/
section
variable {T : Tr} {F : List Nat} {f g n : Nat} {old q : Str}
theorem srtT (G : Good T) (x : Nat) : SrtE (ents T x) := by
  by_cases h : isF T x = true
  · exact (G.esOk h).srt
  · cases e : ents T x with
    | nil => exact List.Pairwise.nil
    | cons a r => exact absurd (ents_fol (by rw [e]; exact List.mem_cons_self)) h
theorem mv_mem (G : Good T) (ff : isF T f = true) (gf : isF T g = true) (x : Nat) (e : Str × Nat) : e ∈ ents (moveT T f old g q n) x ↔ (x = g ∧ e = (q, n)) ∨ (e ∈ ents T x ∧ ¬ (x = f ∧ e.1 = old)) := by
  rw [mv_ents ff gf]
  by_cases h : x = g
  · subst h
    rw [if_pos rfl, mem_addE]
    by_cases k : x = f
    · subst k
      rw [if_pos rfl, mem_delE]
      simp only [true_and]
      exact or_comm
    · rw [if_neg k]
      simp only [k, true_and, false_and, not_false_eq_true, and_true]
      exact or_comm
  · rw [if_neg h]
    by_cases k : x = f
    · subst k
      rw [if_pos rfl, mem_delE]
      simp only [h, true_and, false_and, false_or]
    · rw [if_neg k]
      simp only [h, k, false_and, false_or, not_false_eq_true, and_true]
theorem mv_srt (G : Good T) (ff : isF T f = true) (gf : isF T g = true) (fresh : ∀ e ∈ ents T g, e.1 ≠ q) (x : Nat) : SrtE (ents (moveT T f old g q n) x) := by
  rw [mv_ents ff gf]
  split
  · split
    · rename_i k
      refine addE_srt (delE_srt (srtT G f)).once fun e he => ?_
      exact fresh e (by rw [k]; exact (mem_delE.mp he).1)
    · exact addE_srt (srtT G g).once fresh
  · split
    · exact delE_srt (srtT G f)
    · exact srtT G x
/-- a move of a node with one entry to a free name -/
structure Mv1 (T : Tr) (f : Nat) (old : Str) (g : Nat) (q : Str) (n : Nat) : Prop where
  good : Good T
  ff : isF T f = true
  gf : isF T g = true
  one : entsTo T n = [(f, old)]
  fresh : ∀ e ∈ ents T g, e.1 ≠ q
namespace Mv1
variable (M : Mv1 T f old g q n)
include M
theorem hn : (old, n) ∈ ents T f := (mem_entsTo.mp (by rw [M.one]; exact List.mem_cons_self)).2
/-- the one entry that leads to n -/
theorem only {x : Nat} {nm : Str} (h : (nm, n) ∈ ents T x) : x = f ∧ nm = old := by
  have k : (x, nm) ∈ entsTo T n := mem_entsTo.mpr ⟨ents_fol h, h⟩
  rw [M.one, List.mem_singleton] at k
  exact ⟨congrArg Prod.fst k, congrArg Prod.snd k⟩
/-- the entry of that name leads to n -/
theorem named {e : Str × Nat} (h : e ∈ ents T f) (k : e.1 = old) : e = (old, n) := srt_name (srtT M.good f) h M.hn k
theorem mem (x : Nat) (e : Str × Nat) : e ∈ ents (moveT T f old g q n) x ↔ (x = g ∧ e = (q, n)) ∨ (e ∈ ents T x ∧ e.2 ≠ n) := by
  rw [mv_mem M.good M.ff M.gf]
  refine or_congr Iff.rfl (and_congr_right fun he => not_congr ⟨?_, fun z => ?_⟩)
  · rintro ⟨rfl, k⟩
    rw [M.named he k]
  · obtain ⟨nm, y⟩ := e
    have z : y = n := z
    subst z
    exact M.only he
theorem srt (x : Nat) : SrtE (ents (moveT T f old g q n) x) := mv_srt M.good M.ff M.gf M.fresh x
theorem entsTo_ne {y : Nat} (h : y ≠ n) : entsTo (moveT T f old g q n) y = entsTo T y := by
  have e1 : fols (moveT T f old g q n) = fols T := by
    unfold fols
    rw [mv_len]
    exact List.filter_congr fun x _ => mv_isF T f g n old q x
  have e2 : ∀ x, (ents (moveT T f old g q n) x).filter (fun e => decide (e.2 = y)) = (ents T x).filter fun e => decide (e.2 = y) := fun x => by
    refine srt_ext (List.Pairwise.filter _ (M.srt x)) (List.Pairwise.filter _ (srtT M.good x)) fun e => ?_
    rw [List.mem_filter, List.mem_filter, M.mem, decide_eq_true_eq]
    constructor
    · rintro ⟨⟨_, rfl⟩ | ⟨h1, _⟩, h2⟩
      · exact absurd h2.symm h
      · exact ⟨h1, h2⟩
    · rintro ⟨h1, h2⟩
      exact ⟨.inr ⟨h1, by rw [h2]; exact h⟩, h2⟩
  unfold entsTo
  rw [e1]
  congr 1
  funext x
  rw [e2]
theorem entsTo_self : entsTo (moveT T f old g q n) n = [(g, q)] := by
  have e1 : fols (moveT T f old g q n) = fols T := by
    unfold fols
    rw [mv_len]
    exact List.filter_congr fun x _ => mv_isF T f g n old q x
  have e2 : ∀ x, (ents (moveT T f old g q n) x).filter (fun e => decide (e.2 = n)) = if x = g then [(q, n)] else [] := fun x => by
    refine srt_ext (List.Pairwise.filter _ (M.srt x)) ?_ fun e => ?_
    · split
      · exact List.pairwise_singleton ..
      · exact List.Pairwise.nil
    · rw [List.mem_filter, M.mem, decide_eq_true_eq]
      constructor
      · rintro ⟨⟨h0, rfl⟩ | ⟨_, h1⟩, h2⟩
        · rw [if_pos h0]; exact List.mem_cons_self
        · exact absurd h2 h1
      · intro z
        split at z
        · rename_i c
          rw [List.mem_singleton.mp z]
          exact ⟨.inl ⟨c, rfl⟩, rfl⟩
        · cases z
  have e3 : ∀ l : List Nat, l.Nodup → g ∈ l → (l.flatMap fun x => (if x = g then [(q, n)] else ([] : Ents)).map fun e => (x, e.1)) = [(g, q)] := by
    intro l
    induction l with
    | nil => intro _ h; cases h
    | cons x r ih =>
      intro nd h
      rw [List.nodup_cons] at nd
      rw [List.flatMap_cons]
      by_cases c : x = g
      · subst c
        rw [if_pos rfl]
        have : (r.flatMap fun y => (if y = x then [(q, n)] else ([] : Ents)).map fun e => (y, e.1)) = [] := by
          rw [List.flatMap_eq_nil_iff]
          intro y hy
          rw [if_neg (fun z => nd.1 (by rw [← z]; exact hy))]
          rfl
        rw [this]
        rfl
      · rw [if_neg c, ih nd.2 ((List.mem_cons.mp h).resolve_left (fun z => c z.symm))]
        rfl
  unfold entsTo
  rw [e1]
  have e4 : (fun x => ((ents (moveT T f old g q n) x).filter fun e => decide (e.2 = n)).map fun e => (x, e.1)) = fun x => (if x = g then [(q, n)] else ([] : Ents)).map fun e => (x, e.1) := funext fun x => by rw [e2]
  rw [e4]
  exact e3 _ (asc_nodup (fols_asc T)) (mem_fols.mpr M.gf)
theorem par_ne {y : Nat} (h : y ≠ n) : parN (moveT T f old g q n) y = parN T y := by
  unfold parN
  rw [M.entsTo_ne h]
theorem par_self (h0 : n ≠ 0) : parN (moveT T f old g q n) n = g := by
  unfold parN
  rw [if_neg h0, M.entsTo_self]
  rfl
theorem par_old (h0 : n ≠ 0) : parN T n = f := by
  unfold parN
  rw [if_neg h0, M.one]
  rfl
theorem pos : n ≠ 0 := by
  have h := ((M.good.esOk M.ff).ok _ M.hn).2.1
  intro z
  rw [z] at h
  exact absurd h (Nat.lt_irrefl 0)
theorem isG0 : isG T n = false := ((M.good.esOk M.ff).ok _ M.hn).2.2.2
theorem lt : n < T.length := ((M.good.esOk M.ff).ok _ M.hn).2.2.1
theorem below (x : Nat) : Below (moveT T f old g q n) n x ↔ Below T n x := by
  constructor
  · intro h
    induction h with
    | refl => exact .refl
    | up h b ih =>
      rename_i y
      by_cases c : y = n
      · subst c; exact .refl
      · rw [M.par_ne c] at ih
        exact .up h ih
  · intro h
    induction h with
    | refl => exact .refl
    | up h b ih =>
      rename_i y
      by_cases c : y = n
      · subst c; exact .refl
      · rw [← M.par_ne c] at ih
        exact .up h ih
theorem tot : totE (moveT T f old g q n) = totE T := by
  have a := setEs_tot (delE (ents T f) old) M.ff
  have gf' : isF (setEs T f (delE (ents T f) old)) g = true := by rw [setEs_isF]; exact M.gf
  have b := setEs_tot (addE (ents (setEs T f (delE (ents T f) old)) g) q n) gf'
  have c := delE_len (srtT M.good f) M.hn
  rw [addE_len] at b
  unfold moveT
  have c : (delE (ents T f) old).length + 1 = (ents T f).length := c
  omega
end Mv1
/-- a folder does not stand below itself -/
theorem par_notbelow (G : Good T) {n : Nat} (hf : isF T n = true) (h0 : n ≠ 0) : ¬ Below T n (parN T n) := by
  obtain ⟨rk, hrk⟩ := G.rk
  have key : ∀ x, Below T n x → isF T x = true → rk n ≤ rk x := by
    intro x h
    induction h with
    | refl => exact fun _ => Nat.le_refl _
    | up h b ih =>
      intro hx
      exact Nat.le_of_lt (Nat.lt_of_le_of_lt (ih (G.par_fol hx)) (G.rkpar hrk hx h))
  intro h
  exact absurd (G.rkpar hrk hf h0) (Nat.not_lt.mpr (key _ h (G.par_fol hf)))
namespace Mv1
variable (M : Mv1 T f old g q n)
include M
open Classical in
theorem good' (hq : NameOk q) (nb : ¬ (isF T n = true ∧ Below T n g)) : Good (moveT T f old g q n) := by
  have G := M.good
  have hsz : totE (moveT T f old g q n) ≤ 60 := by rw [M.tot]; exact G.sz
  refine ⟨by rw [mv_len]; exact G.len, by rw [mv_isF]; exact G.root, fun i m hm => ?_, fun x hx h0 => ?_, hsz, ?_⟩
  · rcases skel_get (mv_skel T f g n old q) hm with ⟨o, es, rfl⟩ | h
    · have hx : isF T i = true := by rw [← mv_isF T f g n old q]; exact isF_at hm
      have e := ents_of hm
      show EsOk _ es
      rw [← e]
      refine ⟨Nat.le_trans ents_le hsz, fun a ha => ?_, M.srt i⟩
      rw [mv_len, mv_isG]
      rcases (M.mem i a).mp ha with ⟨_, rfl⟩ | ⟨h, _⟩
      · exact ⟨hq, Nat.pos_of_ne_zero M.pos, M.lt, M.isG0⟩
      · exact (G.esOk hx).ok a h
    · have q := G.nd i m h
      cases m with
      | fol o es =>
        have hx : isF T i = true := isF_at h
        have e := ents_of hm
        show EsOk _ es
        rw [← e]
        refine ⟨Nat.le_trans ents_le hsz, fun a ha => ?_, M.srt i⟩
        rw [mv_len, mv_isG]
        rcases (M.mem i a).mp ha with ⟨_, rfl⟩ | ⟨h, _⟩
        · exact ⟨hq, Nat.pos_of_ne_zero M.pos, M.lt, M.isG0⟩
        · exact (G.esOk hx).ok a h
      | fil o => trivial
      | lnk o z => exact q
      | gon o b =>
        obtain ⟨h1, h2, h3⟩ := q
        exact ⟨by rw [mv_len]; exact h1, h2, by rw [mv_isF, mv_isG]; exact h3⟩
  · rw [mv_isF] at hx
    by_cases c : x = n
    · subst c
      rw [M.entsTo_self]
      rfl
    · rw [M.entsTo_ne c]
      exact G.one x hx h0
  · obtain ⟨rk, hrk⟩ := G.rk
    by_cases hF : isF T n = true
    · have hng : ¬ Below T n g := fun z => nb ⟨hF, z⟩
      refine ⟨fun x => if Below T n x then rk x + rk g + 1 else rk x, fun x nm y hm hy => ?_⟩
      rw [mv_isF] at hy
      show (if Below T n x then rk x + rk g + 1 else rk x) < (if Below T n y then rk y + rk g + 1 else rk y)
      rcases (M.mem x (nm, y)).mp hm with ⟨h1, h2⟩ | ⟨h1, h2⟩
      · have h2 : y = n := congrArg Prod.snd h2
        subst h2
        subst h1
        rw [if_neg hng, if_pos .refl]
        omega
      · have h2 : y ≠ n := h2
        have h0 : y ≠ 0 := by
          have := ((G.esOk (ents_fol h1)).ok _ h1).2.1
          intro z
          subst z
          exact absurd this (Nat.lt_irrefl 0)
        obtain ⟨x', nm', e1, _, _, e2⟩ := G.entry hy h0
        have hxx : x = x' := by
          have k : (x, nm) ∈ entsTo T y := mem_entsTo.mpr ⟨ents_fol h1, h1⟩
          rw [e1, List.mem_singleton] at k
          exact congrArg Prod.fst k
        have hb : Below T n y ↔ Below T n x := by rw [below_iff h0 h2, e2, hxx]
        have hlt := hrk x nm y h1 hy
        by_cases c : Below T n x
        · rw [if_pos c, if_pos (hb.mpr c)]
          omega
        · rw [if_neg c, if_neg (fun z => c (hb.mp z))]
          exact hlt
    · refine ⟨rk, fun x nm y hm hy => ?_⟩
      rw [mv_isF] at hy
      rcases (M.mem x (nm, y)).mp hm with ⟨h1, h2⟩ | ⟨h1, h2⟩
      · have h2 : y = n := congrArg Prod.snd h2
        subst h2
        exact absurd hy hF
      · exact hrk x nm y h1 hy
/-- the move back -/
theorem back (hq : NameOk q) (nb : ¬ (isF T n = true ∧ Below T n g)) : Mv1 (moveT T f old g q n) g q f old n :=
  ⟨M.good' hq nb, by rw [mv_isF]; exact M.gf, by rw [mv_isF]; exact M.ff, M.entsTo_self, fun e he z => by
    rcases (M.mem f e).mp he with ⟨h1, h2⟩ | ⟨h1, h2⟩
    · subst h1
      rw [h2] at z
      exact M.fresh _ M.hn z.symm
    · exact h2 (by rw [M.named h1 z])⟩
theorem undo (hq : NameOk q) (nb : ¬ (isF T n = true ∧ Below T n g)) : moveT (moveT T f old g q n) g q f old n = T := by
  have B := M.back hq nb
  refine tr_ext (by rw [mv_skel, mv_skel]) fun x => ?_
  refine srt_ext (B.srt x) (srtT M.good x) fun e => ?_
  rw [B.mem, M.mem]
  constructor
  · rintro (⟨rfl, rfl⟩ | ⟨⟨_, rfl⟩ | ⟨h, _⟩, k⟩)
    · exact M.hn
    · exact absurd rfl k
    · exact h
  · intro h
    by_cases c : e.2 = n
    · left
      obtain ⟨nm, y⟩ := e
      have c : y = n := c
      subst c
      obtain ⟨rfl, rfl⟩ := M.only h
      exact ⟨rfl, rfl⟩
    · exact .inr ⟨.inr ⟨h, c⟩, c⟩
theorem nobelow (nb : ¬ (isF T n = true ∧ Below T n g)) : ¬ (isF (moveT T f old g q n) n = true ∧ Below (moveT T f old g q n) n f) := by
  rw [mv_isF, M.below]
  rintro ⟨h1, h2⟩
  have := par_notbelow M.good h1 M.pos
  rw [M.par_old M.pos] at this
  exact this h2
/-- heads: where n is loose -/
theorem hd {L : List Nat} (hL : n ∈ L) (x h : Nat) : Hd (moveT T f old g q n) L x h ↔ Hd T L x h := by
  constructor
  · intro z
    induction z with
    | root => exact .root
    | own a b => exact .own a b
    | up a b _ ih =>
      rename_i y _ _
      have c : y ≠ n := fun z => b (by rw [z]; exact hL)
      rw [M.par_ne c] at ih
      exact .up a b ih
  · intro z
    induction z with
    | root => exact .root
    | own a b => exact .own a b
    | up a b _ ih =>
      rename_i y _ _
      have c : y ≠ n := fun z => b (by rw [z]; exact hL)
      rw [← M.par_ne c] at ih
      exact .up a b ih
theorem head {L : List Nat} (hL : n ∈ L) (x : Nat) : headN (moveT T f old g q n) L x = headN T L x := by
  by_cases c : ∃ h, Hd T L x h
  · obtain ⟨h, hh⟩ := c
    rw [head_eq hh, head_eq ((M.hd hL x h).mpr hh)]
  · unfold headN
    rw [dif_neg c, dif_neg (fun ⟨h, z⟩ => c ⟨h, (M.hd hL x h).mp z⟩)]
theorem loose (FF : ∀ x ∈ F, isF T x = true) (fF : f ∈ F) (gF : g ∈ F) : looseN (moveT T f old g q n) F = looseN T F := by
  unfold looseN
  rw [mv_len]
  refine List.filter_congr fun y _ => ?_
  rw [Bool.eq_iff_iff, loose_iff, loose_iff]
  rw [mv_isF]
  by_cases c : y = n
  · subst c
    constructor
    · rintro ⟨_, _, _, _, h⟩
      exact ⟨f, fF, old, M.hn, h⟩
    · rintro ⟨_, _, _, _, h⟩
      exact ⟨g, gF, q, (M.mem g _).mpr (.inl ⟨rfl, rfl⟩), h⟩
  · constructor
    · rintro ⟨x, hx, nm, hm, h⟩
      rcases (M.mem x _).mp hm with ⟨_, h2⟩ | ⟨h1, _⟩
      · exact absurd (congrArg Prod.snd h2) c
      · exact ⟨x, hx, nm, h1, h⟩
    · rintro ⟨x, hx, nm, hm, h⟩
      exact ⟨x, hx, nm, (M.mem x _).mpr (.inr ⟨hm, c⟩), h⟩
theorem some (L : List Nat) : someN (moveT T f old g q n) L = someN T L := by
  unfold someN
  refine List.filter_congr fun y _ => ?_
  by_cases c : y = n
  · subst c
    rw [M.entsTo_self, M.one]
    rfl
  · rw [M.entsTo_ne c]
end Mv1
end
end NW
set_option maxHeartbeats 4000000
/-! Shapes by places: the count, by looking at all small ones. -/
namespace NW
open PySem
/-- climbing from the folder g from head to head, one comes to the node j -/
def clm (hdc p : List Nat) (j : Nat) : Nat → Nat → Bool
  | 0, _ => false
  | n + 1, g => match hdc[g]? with
    | some (i + 1) => if i = j then true else match p[i]? with
      | some g' => clm hdc p j n g'
      | none => false
    | _ => false
/-- all lists of m numbers below k -/
def allL (k : Nat) : Nat → List (List Nat)
  | 0 => [[]]
  | m + 1 => (allL k m).flatMap fun s => (List.range k).map fun x => x :: s
theorem mem_allL {k : Nat} : ∀ {m : Nat} {s : List Nat}, s ∈ allL k m ↔ s.length = m ∧ ∀ x ∈ s, x < k
  | 0, s => by
    unfold allL
    rw [List.mem_singleton]
    constructor
    · rintro rfl
      exact ⟨rfl, fun x hx => by cases hx⟩
    · exact fun h => List.length_eq_zero_iff.mp h.1
  | m + 1, s => by
    unfold allL
    rw [List.mem_flatMap]
    constructor
    · rintro ⟨r, hr, hs⟩
      obtain ⟨x, hx, rfl⟩ := List.mem_map.mp hs
      obtain ⟨h1, h2⟩ := mem_allL.mp hr
      refine ⟨by rw [List.length_cons, h1], fun y hy => ?_⟩
      rcases List.mem_cons.mp hy with rfl | hy
      · exact List.mem_range.mp hx
      · exact h2 y hy
    · rintro ⟨h1, h2⟩
      cases s with
      | nil => cases h1
      | cons x r => exact ⟨r, mem_allL.mpr ⟨Nat.succ.inj h1, fun y hy => h2 y (List.mem_cons_of_mem _ hy)⟩, List.mem_map.mpr ⟨x, List.mem_range.mpr (h2 x List.mem_cons_self), rfl⟩⟩
theorem nodup_allL {k : Nat} : ∀ m : Nat, (allL k m).Nodup
  | 0 => by unfold allL; simp
  | m + 1 => by
    unfold allL
    unfold List.Nodup
    rw [List.pairwise_flatMap]
    refine ⟨fun s _ => ?_, ?_⟩
    · rw [List.pairwise_map]
      exact (List.nodup_range (n := k)).imp fun h z => h (List.cons.inj z).1
    · refine (nodup_allL m).imp fun {a b} h x hx y hy z => ?_
      obtain ⟨i, _, rfl⟩ := List.mem_map.mp hx
      obtain ⟨j, _, rfl⟩ := List.mem_map.mp hy
      exact h (List.cons.inj z).2
theorem len_allL {k : Nat} : ∀ m : Nat, (allL k m).length = k ^ m
  | 0 => rfl
  | m + 1 => by
    unfold allL
    rw [List.length_flatMap]
    have e : (fun s : List Nat => ((List.range k).map fun x => x :: s).length) = fun _ => k := funext fun s => by rw [List.length_map, List.length_range]
    rw [e, List.map_const', List.sum_replicate_nat, len_allL m, Nat.pow_succ]
/-- no node stands below itself -/
def acyS (hd : List Nat) (s : List Nat) : Bool := (List.range s.length).all fun i => match s[i]? with
  | some g => !clm hd s i 4 g
  | none => true
theorem acyS_iff {hd s : List Nat} : acyS hd s = true ↔ ∀ i g, s[i]? = some g → clm hd s i 4 g = false := by
  unfold acyS
  rw [List.all_eq_true]
  constructor
  · intro h i g e
    have q := h i (List.mem_range.mpr (List.getElem?_eq_some_iff.mp e).1)
    rw [e] at q
    simpa using q
  · intro h i hi
    cases e : s[i]? with
    | none => rfl
    | some g =>
      show (!clm hd s i 4 g) = true
      rw [h i g e]
      rfl
def acyA (m k : Nat) (hd : List Nat) : List (List Nat) := (allL k m).filter (acyS hd)
/-- t with its first i places, r at the others -/
def mixS (m r i : Nat) (t : List Nat) : List Nat := t.take i ++ List.replicate (m - i) r
def okA (m k : Nat) (hd : List Nat) : Bool :=
  decide ((acyA m k hd).length = if m = 0 then 1 else (hd.filter fun x => decide (x = 0)).length * k ^ (m - 1)) &&
  (decide (m = 0) || decide (acyA m k hd = []) || (decide (hd.idxOf 0 < hd.length) && (acyA m k hd).all fun t => (List.range m).all fun i => match t[i]? with
    | some g => !clm hd (mixS m (hd.idxOf 0) i t) i 4 g
    | none => false))
theorem okA_all : ((List.range 4).all fun m => (List.range 4).all fun k => (allL (m + 1) k).all fun hd => okA m k hd) = true := by decide +kernel
theorem okA_of {m k : Nat} {hd : List Nat} (hm : m ≤ 3) (hk : k ≤ 3) (hl : hd.length = k) (hh : ∀ x ∈ hd, x ≤ m) : okA m k hd = true := by
  have h1 := List.all_eq_true.mp okA_all m (List.mem_range.mpr (by omega))
  have h2 := List.all_eq_true.mp h1 k (List.mem_range.mpr (by omega))
  exact List.all_eq_true.mp h2 hd (mem_allL.mpr ⟨hl, fun x hx => by have := hh x hx; omega⟩)
/-- sets of shapes that allowed moves do not leave -/
theorem acy_closed {m k : Nat} {hd : List Nat} {ks : List (List Nat)} (hm : m ≤ 3) (hk : k ≤ 3) (hl : hd.length = k) (hh : ∀ x ∈ hd, x ≤ m) {s0 : List Nat} (h0 : s0 ∈ ks)
    (hA : ∀ s ∈ ks, s ∈ acyA m k hd) (cl : ∀ s ∈ ks, ∀ i, i < m → ∀ g, g < k → clm hd s i 4 g = false → s.set i g ∈ ks) (t : List Nat) (ht : t ∈ acyA m k hd) : t ∈ ks := by
  have lenA : ∀ s ∈ acyA m k hd, s.length = m ∧ ∀ x ∈ s, x < k := fun s hs => mem_allL.mp (List.mem_filter.mp hs).1
  have ok := okA_of hm hk hl hh
  unfold okA at ok
  rw [Bool.and_eq_true, Bool.or_eq_true, Bool.or_eq_true, Bool.and_eq_true] at ok
  obtain ⟨_, ok⟩ := ok
  rcases ok with (z | z) | ⟨hr, hall⟩
  · have z : m = 0 := of_decide_eq_true z
    have e1 : t = [] := List.length_eq_zero_iff.mp ((lenA t ht).1.trans z)
    have e2 : s0 = [] := List.length_eq_zero_iff.mp ((lenA s0 (hA s0 h0)).1.trans z)
    rw [e1, ← e2]
    exact h0
  · have z : acyA m k hd = [] := of_decide_eq_true z
    rw [z] at ht
    cases ht
  · have hr : hd.idxOf 0 < hd.length := of_decide_eq_true hr
    have hr0 : hd[hd.idxOf 0]? = some 0 := by rw [List.getElem?_eq_getElem hr, List.getElem_idxOf hr]
    generalize hd.idxOf 0 = r at hr hr0 hall
    have down : ∀ j, j ≤ m → ∃ s ∈ ks, ∀ i, i < j → s[i]? = some r := by
      intro j
      induction j with
      | zero => exact fun _ => ⟨s0, h0, fun i hi => absurd hi (Nat.not_lt_zero i)⟩
      | succ j ih =>
        intro hj
        obtain ⟨s, hs, h⟩ := ih (by omega)
        have ls := (lenA s (hA s hs)).1
        refine ⟨s.set j r, cl s hs j (by omega) r (by omega) ?_, fun i hi => ?_⟩
        · unfold clm
          rw [hr0]
        · by_cases c : i = j
          · subst c
            rw [List.getElem?_set_self (by omega)]
          · rw [List.getElem?_set_ne (fun z => c z.symm)]
            exact h i (by omega)
    obtain ⟨lt, _⟩ := lenA t ht
    have up : ∀ j, j ≤ m → mixS m r j t ∈ ks := by
      intro j
      induction j with
      | zero =>
        intro _
        obtain ⟨s, hs, h⟩ := down m (Nat.le_refl m)
        have ls := (lenA s (hA s hs)).1
        have e : s = mixS m r 0 t := by
          unfold mixS
          apply List.ext_getElem?
          intro i
          rw [List.take_zero, List.nil_append, Nat.sub_zero, List.getElem?_replicate]
          by_cases c : i < m
          · rw [if_pos c, h i c]
          · rw [if_neg c, List.getElem?_eq_none (by omega)]
        rw [← e]
        exact hs
      | succ j ih =>
        intro hj
        have hs := ih (by omega)
        have hg : t[j]? = some t[j] := List.getElem?_eq_getElem (by omega)
        have hq := List.all_eq_true.mp (List.all_eq_true.mp hall t ht) j (List.mem_range.mpr (by omega))
        rw [hg] at hq
        have hq : clm hd (mixS m r j t) j 4 t[j] = false := by simpa using hq
        have e : mixS m r (j + 1) t = (mixS m r j t).set j t[j] := by
          unfold mixS
          apply List.ext_getElem?
          intro i
          have lj : (t.take j).length = j := by rw [List.length_take]; omega
          have lj1 : (t.take (j + 1)).length = j + 1 := by rw [List.length_take]; omega
          by_cases c : i = j
          · subst c
            rw [List.getElem?_set_self (by rw [List.length_append, lj, List.length_replicate]; omega), List.getElem?_append_left (by omega), List.getElem?_take, if_pos (by omega), hg]
          · rw [List.getElem?_set_ne (fun z => c z.symm)]
            by_cases c2 : i < j
            · rw [List.getElem?_append_left (by omega), List.getElem?_append_left (by omega), List.getElem?_take, List.getElem?_take, if_pos (by omega), if_pos c2]
            · rw [List.getElem?_append_right (by omega), List.getElem?_append_right (by omega), lj, lj1, List.getElem?_replicate, List.getElem?_replicate]
              by_cases c3 : i < m
              · rw [if_pos (by omega), if_pos (by omega)]
              · rw [if_neg (by omega), if_neg (by omega)]
        rw [e]
        exact cl _ hs j (by omega) _ ((lenA t ht).2 _ (List.getElem_mem _)) hq
    have e : mixS m r m t = t := by
      unfold mixS
      rw [Nat.sub_self, List.replicate_zero, List.append_nil, List.take_of_length_le (by omega)]
    rw [← e]
    exact up m (Nat.le_refl m)
theorem acy_count {m k : Nat} {hd : List Nat} {ks : List (List Nat)} (hm : m ≤ 3) (hk : k ≤ 3) (hl : hd.length = k) (hh : ∀ x ∈ hd, x ≤ m) {s0 : List Nat} (h0 : s0 ∈ ks) (nd : ks.Nodup)
    (hA : ∀ s ∈ ks, s ∈ acyA m k hd) (cl : ∀ s ∈ ks, ∀ i, i < m → ∀ g, g < k → clm hd s i 4 g = false → s.set i g ∈ ks) :
    ks.length = if m = 0 then 1 else (hd.filter fun x => decide (x = 0)).length * k ^ (m - 1) := by
  have p : ks.Perm (acyA m k hd) := (List.perm_ext_iff_of_nodup nd ((nodup_allL m).sublist List.filter_sublist)).mpr fun t => ⟨hA t, acy_closed hm hk hl hh h0 hA cl t⟩
  have ok := okA_of hm hk hl hh
  unfold okA at ok
  rw [Bool.and_eq_true] at ok
  rw [p.length_eq]
  exact of_decide_eq_true ok.1
theorem all_le {m k : Nat} {ks : List (List Nat)} (hm : m ≤ 3) (hk : k ≤ 3) (nd : ks.Nodup) (h : ∀ s ∈ ks, s.length = m ∧ ∀ x ∈ s, x < k) : ks.length ≤ 27 := by
  have q := List.Nodup.length_le_of_subset (l₂ := allL k m) nd fun s hs => mem_allL.mpr (h s hs)
  rw [len_allL] at q
  have h1 : k ^ m ≤ 3 ^ m := Nat.pow_le_pow_left hk m
  have h2 : 3 ^ m ≤ 3 ^ 3 := Nat.pow_le_pow_right (by decide) hm
  omega
end NW
set_option maxHeartbeats 4000000
/-! The plain law: what the walk of _law_right rests on. -/
namespace NW
open PySem
/-- where a node with one entry stands -/
def placeN (T : Tr) (n : Nat) : Nat := ((entsTo T n).head?.map (·.1)).getD 0
def shapeN (T : Tr) (S : List Nat) : List Nat := S.map (placeN T)
/-- the c-th name -/
def qn (c : Nat) : Str := ("q" : Str) ++ (toString (c : Int) : Str)
/-- the names that are drawn -/
def origs : List Str := (["a", "b", "ab", "abc", "...", "new", "x_1-y"] : List Str) ++ (List.range 80).map fun n : Nat => ("m" : Str) ++ (toString (n : Int) : Str)
/-- what holds of each tree come to -/
structure Inv (T0 : Tr) (F : List Nat) (c : Nat) (T : Tr) : Prop where
  good : Good T
  okF : OkF T F
  loose : looseN T F = looseN T0 F
  some' : someN T (looseN T0 F) = someN T0 (looseN T0 F)
  head : ∀ x, headN T (looseN T0 F) x = headN T0 (looseN T0 F) x
  isF' : ∀ x, isF T x = isF T0 x
  names : ∀ x e, e ∈ ents T x → e.1 ∈ origs ∨ ∃ k, 1 ≤ k ∧ k ≤ c ∧ e.1 = qn k
  len : T.length = T0.length
abbrev S0 (T0 : Tr) (F : List Nat) : List Nat := someN T0 (looseN T0 F)
noncomputable def hdc (T0 : Tr) (F : List Nat) : List Nat := F.map fun f => if headN T0 (looseN T0 F) f = 0 then 0 else (S0 T0 F).idxOf (headN T0 (looseN T0 F) f) + 1
/-- as shapes tell it: the i-th node may not go to g -/
noncomputable def deepS (T0 : Tr) (F : List Nat) (s : List Nat) (i g : Nat) : Bool := clm (hdc T0 F) (s.map fun x => F.idxOf x) i 4 (F.idxOf g)
def ClosedAt (T0 : Tr) (F : List Nat) (ks : List (List Nat)) (s : List Nat) : Prop := ∀ i, i < (S0 T0 F).length → ∀ g ∈ F, deepS T0 F s i g = false → s.set i g ∈ ks
theorem inv_zero {T0 : Tr} {F : List Nat} (G : Good T0) (hF : OkF T0 F) (hn : ∀ x e, e ∈ ents T0 x → e.1 ∈ origs) : Inv T0 F 0 T0 := ⟨G, hF, rfl, rfl, fun _ => rfl, fun _ => rfl, fun x e h => .inl (hn x e h), rfl⟩
theorem inv_mono {T0 T : Tr} {F : List Nat} {c c' : Nat} (I : Inv T0 F c T) (h : c ≤ c') : Inv T0 F c' T := { I with names := fun x e he => (I.names x e he).imp id fun ⟨k, h1, h2, h3⟩ => ⟨k, h1, Nat.le_trans h2 h, h3⟩ }
theorem inv_fols {T0 T : Tr} {F : List Nat} {c : Nat} (I : Inv T0 F c T) : fols T = fols T0 := by
  unfold fols
  rw [I.len]
  exact List.filter_congr fun x _ => I.isF' x
theorem inv_pcs {T0 T : Tr} {F : List Nat} {c : Nat} (I : Inv T0 F c T) : piecesN T (looseN T F) = piecesN T0 (looseN T0 F) := by
  have hf := inv_fols I
  have hh : ∀ x, headN T (looseN T F) x = headN T0 (looseN T0 F) x := fun x => by rw [I.loose]; exact I.head x
  have e : headsUsed T (looseN T F) = headsUsed T0 (looseN T0 F) := by
    unfold headsUsed
    rw [I.len, hf]
    refine List.filter_congr fun h _ => ?_
    congr 1
    funext n
    rw [hh]
  unfold piecesN
  rw [e, hf]
  refine List.map_congr_left fun h _ => ?_
  refine List.filter_congr fun n _ => ?_
  rw [hh]
theorem inv_arr {T0 T : Tr} {F : List Nat} {c : Nat} (I : Inv T0 F c T) : arrN T F = arrN T0 F := by
  have e : someN T (looseN T F) = someN T0 (looseN T0 F) := by rw [I.loose]; exact I.some'
  unfold arrN
  rw [e]
  have q : (F.filter fun f => decide (headN T (looseN T F) f = 0)) = F.filter fun f => decide (headN T0 (looseN T0 F) f = 0) := List.filter_congr fun f _ => by rw [I.loose, I.head]
  rw [q]
/-! ### names -/
def undig (z : Str) : Nat := (z.cps.toList.drop 1).foldl (fun a c => a * 10 + (c - 48)) 0
theorem qn_facts : (∀ k, k < 252 → undig (qn k) = k) ∧ (∀ k, k < 252 → nameOk (qn k) = true) := by
  have h : ((List.range 252).all fun k => decide (undig (qn k) = k) && nameOk (qn k)) = true := by decide +kernel
  have q : ∀ k, k < 252 → undig (qn k) = k ∧ nameOk (qn k) = true := fun k hk => by
    have := List.all_eq_true.mp h k (List.mem_range.mpr hk)
    rw [Bool.and_eq_true, decide_eq_true_eq] at this
    exact this
  exact ⟨fun k hk => (q k hk).1, fun k hk => (q k hk).2⟩
theorem qn_head (k : Nat) : (qn k).cps.toList.head? = ("q" : Str).cps.toList.head? := by
  have e : (qn k).cps.toList = ("q" : Str).cps.toList ++ (toString (k : Int) : Str).cps.toList := Array.toList_append
  rw [e]
  have e2 : ("q" : Str).cps.toList ≠ [] := by decide +kernel
  cases h : ("q" : Str).cps.toList with
  | nil => exact absurd h e2
  | cons a r => rfl
theorem orig_head : ∀ z ∈ origs, z.cps.toList.head? ≠ ("q" : Str).cps.toList.head? := by
  have h : (origs.all fun z => !decide (z.cps.toList.head? = ("q" : Str).cps.toList.head?)) = true := by decide +kernel
  intro z hz e
  have := List.all_eq_true.mp h z hz
  rw [decide_eq_true e] at this
  cases this
theorem qn_inj {j k : Nat} (hj : j < 252) (hk : k < 252) (h : qn j = qn k) : j = k := by
  rw [← qn_facts.1 j hj, ← qn_facts.1 k hk, h]
theorem inv_fresh {T0 T : Tr} {F : List Nat} {c x : Nat} (I : Inv T0 F c T) (hc : c < 250) : ∀ e ∈ ents T x, e.1 ≠ qn (c + 1) := by
  intro e he z
  rcases I.names x e he with h | ⟨k, h1, h2, h3⟩
  · exact orig_head _ h (by rw [z]; exact qn_head _)
  · rw [z] at h3
    have := qn_inj (by omega) (by omega) h3
    omega
/-! ### the loose nodes with one entry -/
section
variable {T0 T : Tr} {F : List Nat} {c : Nat}
theorem S0_nodup : (S0 T0 F).Nodup := asc_nodup (List.Pairwise.filter _ (asc_range _ _))
theorem Inv.inL {n : Nat} (h : n ∈ S0 T0 F) : n ∈ looseN T0 F := (List.mem_filter.mp h).1
theorem Inv.entry (I : Inv T0 F c T) {n : Nat} (h : n ∈ S0 T0 F) : ∃ f old, entsTo T n = [(f, old)] ∧ f ∈ F ∧ placeN T n = f ∧ (isF T n = true → n ∈ F) ∧ n ≠ 0 ∧ parN T n = f := by
  have h1 : n ∈ someN T (looseN T0 F) := by rw [I.some']; exact h
  obtain ⟨h2, h3⟩ := List.mem_filter.mp h1
  have h3 : (entsTo T n).length = 1 := of_decide_eq_true h3
  rw [← I.loose] at h2
  obtain ⟨f, hf, nm, hm, hF⟩ := loose_iff.mp ((mem_loose I.good).mp h2)
  have hn0 := loose_pos I.good h2
  have k : (f, nm) ∈ entsTo T n := mem_entsTo.mpr ⟨ents_fol hm, hm⟩
  cases e : entsTo T n with
  | nil => rw [e] at h3; cases h3
  | cons p r =>
    rw [e] at h3 k
    have hr : r = [] := List.length_eq_zero_iff.mp (Nat.succ.inj h3)
    subst hr
    rw [List.mem_singleton] at k
    subst k
    refine ⟨f, nm, rfl, hf, ?_, hF, hn0, ?_⟩
    · unfold placeN; rw [e]; rfl
    · unfold parN; rw [if_neg hn0, e]; rfl
/-- a loose folder is among them -/
theorem Inv.folS (I : Inv T0 F c T) {n : Nat} (h : n ∈ looseN T0 F) (hf : isF T n = true) : n ∈ S0 T0 F := by
  show n ∈ someN T0 (looseN T0 F)
  rw [← I.some']
  refine List.mem_filter.mpr ⟨h, ?_⟩
  rw [← I.loose] at h
  obtain ⟨f, nm, e, _⟩ := I.good.entry hf (loose_pos I.good h)
  rw [e]
  rfl
theorem hd_below {T : Tr} {L : List Nat} {g h n : Nat} (a : Hd T L g h) (hn : n ∈ L) : Below T n g ↔ Below T n h := by
  induction a with
  | root => exact Iff.rfl
  | own _ _ => exact Iff.rfl
  | up h0 hl _ ih =>
    rw [below_iff h0 (fun z => hl (by rw [z]; exact hn))]
    exact ih
theorem hd_cases {T : Tr} {L : List Nat} {g h : Nat} (a : Hd T L g h) : h = 0 ∨ (h ≠ 0 ∧ h ∈ L) := by
  induction a with
  | root => exact .inl rfl
  | own a b => exact .inr ⟨a, b⟩
  | up _ _ _ ih => exact ih
theorem flt_le {p q : Nat → Bool} (h : ∀ x, p x = true → q x = true) : ∀ l : List Nat, (l.filter p).length ≤ (l.filter q).length
  | [] => Nat.le_refl _
  | x :: l => by
    have ih := flt_le h l
    cases c : p x with
    | true => rw [List.filter_cons, List.filter_cons, if_pos c, if_pos (h x c), List.length_cons, List.length_cons]; omega
    | false =>
      rw [List.filter_cons, List.filter_cons, if_neg (by rw [c]; decide)]
      split
      · rw [List.length_cons]; omega
      · exact ih
theorem flt_lt {p q : Nat → Bool} (h : ∀ x, p x = true → q x = true) {a : Nat} (pa : p a = false) (qa : q a = true) : ∀ l : List Nat, a ∈ l → (l.filter p).length < (l.filter q).length
  | x :: l, hm => by
    have le := flt_le h l
    by_cases c : x = a
    · subst c
      rw [List.filter_cons, List.filter_cons, if_neg (by rw [pa]; decide), if_pos qa, List.length_cons]
      omega
    · have ih := flt_lt h pa qa l ((List.mem_cons.mp hm).resolve_left fun z => c z.symm)
      cases d : p x with
      | true => rw [List.filter_cons, List.filter_cons, if_pos d, if_pos (h x d), List.length_cons, List.length_cons]; omega
      | false =>
        rw [List.filter_cons, List.filter_cons, if_neg (by rw [d]; decide)]
        split
        · rw [List.length_cons]; omega
        · exact ih
theorem ix_at {l : List Nat} {x : Nat} (h : x ∈ l) : l[l.idxOf x]? = some x := by
  have hl := List.idxOf_lt_length_of_mem h
  rw [List.getElem?_eq_getElem hl, List.getElem_idxOf hl]
theorem ix_of {l : List Nat} (nd : l.Nodup) {i x : Nat} (h : l[i]? = some x) : l.idxOf x = i := by
  obtain ⟨hi, rfl⟩ := List.getElem?_eq_some_iff.mp h
  have hl := List.idxOf_lt_length_of_mem (List.getElem_mem hi)
  exact (List.getElem_inj nd).mp (List.getElem_idxOf hl)
/-- climbing by heads tells what stands below -/
theorem Inv.climb (I : Inv T0 F c T) {i n : Nat} (hi : (S0 T0 F)[i]? = some n) {rk : Nat → Nat} (hrk : ∀ f nm n, (nm, n) ∈ ents T f → isF T n = true → rk f < rk n) :
    ∀ (k g : Nat), g ∈ F → ((S0 T0 F).filter fun h => decide (rk h ≤ rk g)).length < k →
      (clm (hdc T0 F) ((shapeN T (S0 T0 F)).map fun x => F.idxOf x) i k (F.idxOf g) = true ↔ isF T n = true ∧ Below T n g) := by
  have hnS : n ∈ S0 T0 F := List.mem_of_getElem? hi
  have hnL : n ∈ looseN T0 F := Inv.inL hnS
  have hn0 : n ≠ 0 := (I.entry hnS).elim fun _ ⟨_, z⟩ => z.2.2.2.2.1
  intro k
  induction k with
  | zero => intro g _ h; exact absurd h (Nat.not_lt_zero _)
  | succ k ih =>
    intro g hg hk
    have hgF : isF T g = true := I.okF.fol g hg
    have hH := head_spec I.good (looseN T0 F) hgF
    have e : headN T0 (looseN T0 F) g = headN T (looseN T0 F) g := (I.head g).symm
    have e1 : (hdc T0 F)[F.idxOf g]? = some (if headN T (looseN T0 F) g = 0 then 0 else (S0 T0 F).idxOf (headN T (looseN T0 F) g) + 1) := by
      unfold hdc
      rw [List.getElem?_map, ix_at hg]
      show some (if headN T0 (looseN T0 F) g = 0 then 0 else (S0 T0 F).idxOf (headN T0 (looseN T0 F) g) + 1) = _
      rw [e]
    have hb := hd_below hH hnL
    have hfol := hH.fol I.good hgF
    have hrk2 : rk (headN T (looseN T0 F) g) ≤ rk g := by
      have key : ∀ {x h : Nat}, Hd T (looseN T0 F) x h → isF T x = true → rk h ≤ rk x := by
        intro x h a
        induction a with
        | root => exact fun _ => Nat.le_refl _
        | own _ _ => exact fun _ => Nat.le_refl _
        | up h0 _ _ ih => exact fun hx => Nat.le_of_lt (Nat.lt_of_le_of_lt (ih (I.good.par_fol hx)) (I.good.rkpar hrk hx h0))
      exact key hH hgF
    have hc := hd_cases hH
    generalize headN T (looseN T0 F) g = h at e1 hb hfol hrk2 hc
    unfold clm
    rw [e1]
    rcases hc with rfl | ⟨h0, hL⟩
    · rw [if_pos rfl]
      constructor
      · intro z; cases z
      · rintro ⟨_, z⟩
        exact absurd (below_root (hb.mp z)) hn0
    · rw [if_neg h0]
      have hS := I.folS hL hfol
      have hat := ix_at hS
      show (if (S0 T0 F).idxOf h = i then true else _) = true ↔ _
      by_cases ci : (S0 T0 F).idxOf h = i
      · rw [if_pos ci]
        have hhn : h = n := by
          rw [ci, hi] at hat
          exact (Option.some.inj hat).symm
        subst hhn
        exact ⟨fun _ => ⟨hfol, hb.mpr .refl⟩, fun _ => rfl⟩
      · rw [if_neg ci]
        have hhn : h ≠ n := fun z => ci (by rw [z]; exact ix_of S0_nodup hi)
        obtain ⟨f, old, e2, hf, e3, _, _, e4⟩ := I.entry hS
        have e5 : ((shapeN T (S0 T0 F)).map fun x => F.idxOf x)[(S0 T0 F).idxOf h]? = some (F.idxOf f) := by
          unfold shapeN
          rw [List.getElem?_map, List.getElem?_map, hat]
          show some (F.idxOf (placeN T h)) = _
          rw [e3]
        rw [e5]
        show clm _ _ i k (F.idxOf f) = true ↔ _
        have hlt : rk f < rk h := by
          have := I.good.rkpar hrk hfol h0
          rw [e4] at this
          exact this
        rw [ih f hf (Nat.lt_of_lt_of_le (flt_lt (p := fun x => decide (rk x ≤ rk f)) (q := fun x => decide (rk x ≤ rk g)) (fun x hx => decide_eq_true (by have := of_decide_eq_true hx; omega)) (a := h) (decide_eq_false (by omega)) (decide_eq_true hrk2) _ hS) (Nat.le_of_lt_succ hk))]
        rw [hb, below_iff h0 (fun z => hhn z), e4]
theorem Inv.deep (I : Inv T0 F c T) (h3 : (S0 T0 F).length ≤ 3) {i n g : Nat} (hi : (S0 T0 F)[i]? = some n) (hg : g ∈ F) : (isF T n = true ∧ Below T n g) ↔ deepS T0 F (shapeN T (S0 T0 F)) i g = true := by
  obtain ⟨rk, hrk⟩ := I.good.rk
  unfold deepS
  refine (I.climb hi hrk 4 g hg ?_).symm
  exact Nat.lt_of_le_of_lt (List.length_filter_le _ _) (by omega)
theorem Inv.mv1 (I : Inv T0 F c T) {i n g : Nat} (hi : (S0 T0 F)[i]? = some n) (hg : g ∈ F) (hc : c < 250) {f : Nat} {old : Str} (e : entsTo T n = [(f, old)]) (hf : f ∈ F) : Mv1 T f old g (qn (c + 1)) n :=
  ⟨I.good, I.okF.fol f hf, I.okF.fol g hg, e, inv_fresh I hc⟩
end
/-- one move -/
structure Step (T0 : Tr) (F : List Nat) (c : Nat) (T : Tr) (i n g f : Nat) (old : Str) : Prop where
  ent : entsTo T n = [(f, old)]
  ok : MvOk T F f old g (qn (c + 1)) n
  inv : ¬ (isF T n = true ∧ Below T n g) → Inv T0 F (c + 1) (moveT T f old g (qn (c + 1)) n)
  back : ¬ (isF T n = true ∧ Below T n g) → MvOk (moveT T f old g (qn (c + 1)) n) F g (qn (c + 1)) f old n
  entb : ¬ (isF T n = true ∧ Below T n g) → entsTo (moveT T f old g (qn (c + 1)) n) n = [(g, qn (c + 1))]
  nobelow : ¬ (isF T n = true ∧ Below T n g) → ¬ (isF (moveT T f old g (qn (c + 1)) n) n = true ∧ Below (moveT T f old g (qn (c + 1)) n) n f)
  undo : ¬ (isF T n = true ∧ Below T n g) → moveT (moveT T f old g (qn (c + 1)) n) g (qn (c + 1)) f old n = T
  shp : ¬ (isF T n = true ∧ Below T n g) → shapeN (moveT T f old g (qn (c + 1)) n) (S0 T0 F) = (shapeN T (S0 T0 F)).set i g
  deep : (isF T n = true ∧ Below T n g) ↔ deepS T0 F (shapeN T (S0 T0 F)) i g = true
theorem inv_step {T0 T : Tr} {F : List Nat} {c i n g : Nat} (I : Inv T0 F c T) (h3 : (S0 T0 F).length ≤ 3) (hi : (S0 T0 F)[i]? = some n) (hg : g ∈ F) (hc : c < 250) : ∃ f old, Step T0 F c T i n g f old := by
  have hnS : n ∈ S0 T0 F := List.mem_of_getElem? hi
  have hnL : n ∈ looseN T0 F := Inv.inL hnS
  obtain ⟨f, old, e, hf, _, hnF, hn0, _⟩ := I.entry hnS
  have M := I.mv1 hi hg hc e hf
  have hq : NameOk (qn (c + 1)) := nameOk_iff.mp (qn_facts.2 (c + 1) (by omega))
  have hFl : F.length ≤ 100 := Nat.le_trans (I.okF.len I.good) (by decide)
  have hold : NameOk old := ((I.good.esOk M.ff).ok _ M.hn).1
  have okb : ¬ (isF T n = true ∧ Below T n g) → MvOk (moveT T f old g (qn (c + 1)) n) F g (qn (c + 1)) f old n := fun nb => by
    have B := M.back hq nb
    exact ⟨B.ff, B.gf, fun x hx => by rw [mv_isF]; exact I.okF.fol x hx, hFl, hg, hf, B.hn, hq, hold, B.fresh, by rw [mv_isF]; exact hnF⟩
  refine ⟨f, old, e, ⟨M.ff, M.gf, I.okF.fol, hFl, hf, hg, M.hn, hold, hq, M.fresh, hnF⟩, fun nb => ?_, okb, fun _ => M.entsTo_self, M.nobelow, M.undo hq, fun _ => ?_, I.deep h3 hi hg⟩
  · have hl := M.loose I.okF.fol hf hg
    refine ⟨M.good' hq nb, ⟨fun x hx => by rw [mv_isF]; exact I.okF.fol x hx, I.okF.nd⟩, by rw [hl]; exact I.loose, by rw [M.some]; exact I.some', fun x => by rw [M.head hnL]; exact I.head x, fun x => by rw [mv_isF]; exact I.isF' x, fun x a ha => ?_, by rw [mv_len]; exact I.len⟩
    rcases (M.mem x a).mp ha with ⟨_, rfl⟩ | ⟨h, _⟩
    · exact .inr ⟨c + 1, by omega, Nat.le_refl _, rfl⟩
    · exact (I.names x a h).imp id fun ⟨k, h1, h2, h3⟩ => ⟨k, h1, by omega, h3⟩
  · unfold shapeN
    apply List.ext_getElem?
    intro j
    obtain ⟨hil, _⟩ := List.getElem?_eq_some_iff.mp hi
    by_cases cj : i = j
    · subst cj
      rw [List.getElem?_set_self (by rw [List.length_map]; exact hil), List.getElem?_map, hi]
      show some (placeN _ n) = some g
      unfold placeN
      rw [M.entsTo_self]
      rfl
    · rw [List.getElem?_set_ne cj, List.getElem?_map, List.getElem?_map]
      cases ej : (S0 T0 F)[j]? with
      | none => rfl
      | some x =>
        have hx : x ≠ n := fun z => by
          subst z
          exact cj ((ix_of S0_nodup hi).symm.trans (ix_of S0_nodup ej))
        show some (placeN _ x) = some (placeN T x)
        unfold placeN
        rw [M.entsTo_ne hx]
/-- the shapes that trees come to -/
structure ShOk (T0 : Tr) (F : List Nat) (s : List Nat) : Prop where
  len : s.length = (S0 T0 F).length
  mem : ∀ x ∈ s, x ∈ F
  acy : ∀ i g, s[i]? = some g → deepS T0 F s i g = false
theorem inv_shape {T0 T : Tr} {F : List Nat} {c : Nat} (I : Inv T0 F c T) (h3 : (S0 T0 F).length ≤ 3) : ShOk T0 F (shapeN T (S0 T0 F)) := by
  refine ⟨by unfold shapeN; rw [List.length_map], fun x hx => ?_, fun i g h => ?_⟩
  · obtain ⟨n, hn, rfl⟩ := List.mem_map.mp hx
    obtain ⟨f, old, _, hf, e, _⟩ := I.entry hn
    rw [e]
    exact hf
  · have h' := h
    unfold shapeN at h
    rw [List.getElem?_map] at h
    cases e : (S0 T0 F)[i]? with
    | none => rw [e] at h; cases h
    | some n =>
      rw [e] at h
      have h : placeN T n = g := Option.some.inj h
      obtain ⟨f, old, _, hf, e2, _, hn0, e3⟩ := I.entry (List.mem_of_getElem? e)
      have eg : g = f := h.symm.trans e2
      subst eg
      refine Bool.eq_false_iff.mpr fun z => ?_
      obtain ⟨z1, z2⟩ := (I.deep h3 e hf).mpr z
      have := par_notbelow I.good z1 hn0
      rw [e3] at this
      exact this z2
theorem map_ix_inj {F s t : List Nat} (hs : ∀ x ∈ s, x ∈ F) (ht : ∀ x ∈ t, x ∈ F) (h : (s.map fun x => F.idxOf x) = t.map fun x => F.idxOf x) : s = t := by
  induction s generalizing t with
  | nil =>
    cases t with
    | nil => rfl
    | cons y t => cases h
  | cons x s ih =>
    cases t with
    | nil => cases h
    | cons y t =>
      rw [List.map_cons, List.map_cons] at h
      obtain ⟨h1, h2⟩ := List.cons.inj h
      have hx := ix_at (hs x List.mem_cons_self)
      rw [h1, ix_at (ht y List.mem_cons_self)] at hx
      rw [Option.some.inj hx, ih (fun z hz => hs z (List.mem_cons_of_mem _ hz)) (fun z hz => ht z (List.mem_cons_of_mem _ hz)) h2]
theorem ks_nodup {F : List Nat} {ks : List (List Nat)} (nd : ks.Nodup) (h : ∀ s ∈ ks, ∀ x ∈ s, x ∈ F) : (ks.map fun s => s.map fun x => F.idxOf x).Nodup := by
  unfold List.Nodup
  rw [List.pairwise_map]
  refine List.Pairwise.imp_of_mem (fun {a b} ha hb hab z => hab (map_ix_inj (h a ha) (h b hb) z)) nd
theorem ks_len {T0 : Tr} {F : List Nat} {ks : List (List Nat)} (hF : F.length ≤ 3) (h3 : (S0 T0 F).length ≤ 3) (nd : ks.Nodup) (ok : ∀ s ∈ ks, ShOk T0 F s) : ks.length ≤ 27 := by
  rw [← List.length_map (as := ks) (fun s : List Nat => s.map fun x => F.idxOf x)]
  refine all_le (m := (S0 T0 F).length) (k := F.length) h3 hF (ks_nodup nd fun s hs => (ok s hs).mem) fun s hs => ?_
  obtain ⟨t, ht, rfl⟩ := List.mem_map.mp hs
  refine ⟨by rw [List.length_map, (ok t ht).len], fun x hx => ?_⟩
  obtain ⟨y, hy, rfl⟩ := List.mem_map.mp hx
  exact List.idxOf_lt_length_of_mem ((ok t ht).mem y hy)
theorem count_ok {T0 : Tr} {F : List Nat} {ks : List (List Nat)} (I : Inv T0 F 0 T0) (hF : F.length ≤ 3) (h3 : (S0 T0 F).length ≤ 3) (nd : ks.Nodup) (ok : ∀ s ∈ ks, ShOk T0 F s) (h0 : shapeN T0 (S0 T0 F) ∈ ks) (cl : ∀ s ∈ ks, ClosedAt T0 F ks s) : ks.length = arrN T0 F := by
  have hl : (hdc T0 F).length = F.length := by unfold hdc; rw [List.length_map]
  have hh : ∀ x ∈ hdc T0 F, x ≤ (S0 T0 F).length := fun x hx => by
    unfold hdc at hx
    obtain ⟨f, hf, rfl⟩ := List.mem_map.mp hx
    have hfF := I.okF.fol f hf
    have hH := head_spec I.good (looseN T0 F) hfF
    split
    · exact Nat.zero_le _
    · rename_i c
      exact List.idxOf_lt_length_of_mem (I.folS ((hd_cases hH).resolve_left c).2 (hH.fol I.good hfF))
  have ndF := I.okF.nd
  have q := acy_count (ks := ks.map fun s => s.map fun x => F.idxOf x) (hd := hdc T0 F) h3 hF hl hh (List.mem_map_of_mem h0) (ks_nodup nd fun s hs => (ok s hs).mem)
    (fun s hs => by
      obtain ⟨t, ht, rfl⟩ := List.mem_map.mp hs
      refine List.mem_filter.mpr ⟨mem_allL.mpr ⟨by rw [List.length_map, (ok t ht).len], fun x hx => ?_⟩, acyS_iff.mpr fun i g hg => ?_⟩
      · obtain ⟨y, hy, rfl⟩ := List.mem_map.mp hx
        exact List.idxOf_lt_length_of_mem ((ok t ht).mem y hy)
      · rw [List.getElem?_map] at hg
        cases e : t[i]? with
        | none => rw [e] at hg; cases hg
        | some y =>
          rw [e] at hg
          have hg : F.idxOf y = g := Option.some.inj hg
          subst hg
          exact (ok t ht).acy i y e)
    (fun s hs i hi g hg hcl => by
      obtain ⟨t, ht, rfl⟩ := List.mem_map.mp hs
      have eg : F[g]? = some F[g] := List.getElem?_eq_getElem hg
      have ei := ix_of ndF eg
      have := cl t ht i hi F[g] (List.getElem_mem hg) (by unfold deepS; rw [ei]; exact hcl)
      have e : (t.map fun x => F.idxOf x).set i g = (t.set i F[g]).map fun x => F.idxOf x := by rw [List.map_set, ei]
      rw [e]
      exact List.mem_map_of_mem this)
  rw [List.length_map] at q
  rw [q]
  unfold arrN
  have e : ((hdc T0 F).filter fun x => decide (x = 0)).length = (F.filter fun f => decide (headN T0 (looseN T0 F) f = 0)).length := by
    unfold hdc
    rw [List.filter_map, List.length_map]
    congr 1
    refine List.filter_congr fun f _ => ?_
    show decide ((if headN T0 (looseN T0 F) f = 0 then 0 else (S0 T0 F).idxOf (headN T0 (looseN T0 F) f) + 1) = 0) = _
    by_cases c : headN T0 (looseN T0 F) f = 0
    · rw [if_pos c]; simp [c]
    · rw [if_neg c]; simp [c]
  rw [e]
  by_cases c : (S0 T0 F).length = 0
  · rw [if_pos c, if_pos (List.length_eq_zero_iff.mp c)]
  · rw [if_neg c, if_neg (fun z => c (by show (someN T0 (looseN T0 F)).length = 0; rw [z]; rfl))]
end NW
set_option maxHeartbeats 4000000
/-! _law_shape, _law_moved. -/
namespace NW
open PySem PySem.Spec PyProof.Rows L2 Evl
def spShape (K : PySem.W.Frag) : Sp := fun vs H Q _ => ∃ (a l t : Addr) (as : List Addr) (T : Tr) (S : List Nat), vs = [.ref a, .ref l] ∧ TrA K H a t as T ∧ Sized T ∧ H l = some (.lst (intsV S)) ∧ S.length ≤ 1000 ∧ (∀ n ∈ S, n < T.length ∧ (entsTo T n).length = 1) ∧
  ∀ p H', H p = none → Ex H H' → H' p = some (.tup (intsV (shapeN T S))) → Q (.ref p) H'
theorem spShape_u {K : PySem.W.Frag} {H : Hp} {a l t : Addr} {as : List Addr} {T : Tr} {S : List Nat} (hT : TrA K H a t as T) (Z : Sized T) (hl : H l = some (.lst (intsV S))) (hz : S.length ≤ 1000) (h : ∀ n ∈ S, n < T.length ∧ (entsTo T n).length = 1) : SpU (spShape K) [.ref a, .ref l] H (intsV (shapeN T S)) :=
  fun H1 e Q q E => ⟨a, l, t, as, T, S, rfl, hT.mono (Ex.i e), Z, e _ _ hl, hz, h, q⟩
theorem place_of {T : Tr} {n f : Nat} {nm : Str} {r : List (Nat × Str)} (h : entsTo T n = (f, nm) :: r) : placeN T n = f := by unfold placeN; rw [h]; rfl
def spMoved (K : PySem.W.Frag) : Sp := fun vs H Q _ => ∃ (a ob t : Addr) (as : List Addr) (T : Tr) (o : Nat) (F : List Nat) (f g n : Nat) (old q : Str) (b : Bool), vs = [.ref a, .ref ob, .int (n : Int), .int (g : Int), .str q] ∧ TrA K H a t as T ∧ OthAt K H ob o F ∧ Good T ∧ MvOk T F f old g q n ∧ entsTo T n = [(f, old)] ∧ Deep T n g b ∧
  (b = false → Good (moveT T f old g q n) ∧ MvOk (moveT T f old g q n) F g q f old n ∧ ¬ (isF (moveT T f old g q n) n = true ∧ Below (moveT T f old g q n) n f) ∧ moveT (moveT T f old g q n) g q f old n = T) ∧
  (b = true → ∀ H', Ex H H' → Q .non H') ∧ (b = false → ∀ H' x, Ex H H' → TreeAt K H' x (moveT T f old g q n) → Q (.ref x) H')
section
variable {P : Program} {w : World} {K : PySem.W.Frag} {mg : Str → Option Value} {base : Heap}
theorem sc_law_shape : FnScope ["_law_tree_here", "_law_some", "_law_node"] ["_law_tree_here", "_law_some"] (defScope s_law_shape) := ⟨rfl, rfl, rfl, by decide +kernel, rfl, by decide +kernel, by decide +kernel⟩
theorem c_law_shape (T : Txt K mg) : C8.Cal P w K mg base 4 "_law_shape" (spShape K) [] := by
  refine cal_of (fd_law_shape T) (g_law_shape T) (fun _ _ _ _ _ _ us hl => match us, hl with | [_, _], _ => rfl) sc_law_shape (fun vs H Q E h => ?_) (fun cdv A outer s H vs Q E hr h => ?_)
  · obtain ⟨_, _, _, _, _, _, rfl, _⟩ := h; rfl
  · obtain ⟨a, l, t, as, Tr, S, rfl, hT, Z, hl, hz, hS, k⟩ := h
    refine ⟨_, (pss_one (ps_ret (pe_callTy call_tuple_of (by rfl) (f_tuple T) b_tuple (pa_cons (pe_lc (own := [("_law_node", 2)]) rfl sc_law_shape.nd (pi_list (pv 1)) (blkOk_by (own := [("_law_node", 2)]) (N := ["_law_tree_here", "_law_some", "_law_node"]) (sc := defScope s_law_shape) (by decide +kernel)) (fun _ _ _ _ _ => (pg_name (i := 2) sc_law_shape.nd rfl (Or.inl rfl) (.inr rfl))) (fun _ _ _ _ _ => pts_nil) (fun _ _ _ _ _ => (pe_ix (k_ixt (K := K) rfl) (pe_ix (k_ixl (K := K) rfl) (C8.pe_c (c_entries_of T) hr (by decide) rfl (pa_cons (pv 0) (pa_cons (pv 2) pa_nil))) pe_int (fun _ _ => rfl)) pe_int (fun _ _ => rfl)))) pa_nil)))), ?_⟩
    have q : EvL (tLc (iList K (tVar 1)) (gName 2) tYes (tOp (rIxT K) (tOp (rIxL K) (tCall (spEnts K) [] C8.E0 (tCons (tVar 0) (tCons (tVar 2) tNil))) (tC (.int 0))) (tC (.int 0))) [2]) [some (.ref a), some (.ref l), none] H ((S.filter fun _ => true).map fun n => V.int (placeN Tr n : Int)) := by
      refine el_nats (wk_list (ev_var rfl) (sq_of hl)) (by omega) (fun _ => true) (fun n => .int (placeN Tr n : Int)) (fun _ => rfl) (fun _ _ _ _ => et_yes) fun n hn H1 e1 _ => ?_
      obtain ⟨hlt, h1⟩ := hS n hn
      cases hE : entsTo Tr n with
      | nil => rw [hE] at h1; cases h1
      | cons e r =>
        refine ev_opP (R := fun v H' => ∃ p, v = .ref p ∧ H' p = some (.tup [.int (e.1 : Int), .str e.2])) (evp_opLP (elp_call (dvs := []) (ea_cons (ev_var rfl) (ea_cons (ev_var rfl) ea_nil)) (spEnts_lp (hT.mono (Ex.i e1)) hlt Z)) ev_c fun p ys H4 h4 r e4 H5 e5 => ?_) ev_c fun v H4 hv e4 => ?_
        · rw [hE] at r
          cases r with
          | cons r1 r2 =>
            obtain ⟨a1, rfl, ha1⟩ := r1
            exact ⟨_, rv_ixL (sq_of (e5 _ _ h4)) at0, fun H6 e6 => ⟨a1, rfl, (e5.trans e6) _ _ ha1⟩⟩
        · obtain ⟨p, rfl, hp1⟩ := hv
          rw [place_of hE]
          exact rv_ixT (st_of hp1) at0
    rw [List.filter_eq_self.mpr fun _ _ => rfl] at q
    refine s_retU (xs := intsV (shapeN Tr S)) (eu_tupOfN ?_) k
    unfold shapeN
    rw [intsV, List.map_map]
    exact q
theorem sc_law_moved : FnScope ["_law_tree_here", "_law_others", "_law_node", "_law_goal", "_law_name", "_law_folder", "_law_old", "_law_deed", "_law_later", "_law_back"] ["_law_tree_here", "_law_others", "_law_node", "_law_goal", "_law_name"] (defScope s_law_moved) := ⟨rfl, rfl, rfl, by decide +kernel, rfl, by decide +kernel, by decide +kernel⟩
theorem c_law_moved (T : Txt K mg) : C8.Cal P w K mg base 10 "_law_moved" (spMoved K) [] := by
  refine cal_of (fd_law_moved T) (g_law_moved T) (fun _ _ _ _ _ _ us hl => match us, hl with | [_, _, _, _, _], _ => rfl) sc_law_moved (fun vs H Q E h => ?_) (fun cdv A outer s H vs Q E hr h => ?_)
  · obtain ⟨_, _, _, _, _, _, _, _, _, _, _, _, _, rfl, _⟩ := h; rfl
  · obtain ⟨a, ob, t, as, Tr, o, F, f, g, n, old, q, b, rfl, hT, ho, G, ok, hE, hb, hback, kt, kf⟩ := h
    refine ⟨_, (pss_cons (ps_asg (pe_ix ix_list (C8.pe_c (c_entries_of T) hr (by decide) rfl (pa_cons (pv 0) (pa_cons (pv 2) pa_nil))) pe_int (fun _ _ => rfl)) (pg_tup rfl (pgs_cons (pg_name (i := 5) sc_law_moved.nd rfl (Or.inl rfl)) (pgs_cons (pg_name (i := 6) sc_law_moved.nd rfl (Or.inl rfl)) pgs_nil))))
      (pss_cons (ps_set (i := 7) sc_law_moved.nd rfl (Or.inl rfl) (C8.pe_mk (k_Move T) hr (by decide) rfl (pa_cons (pv 5) (pa_cons (pv 6) (pa_cons (pv 3) (pa_cons (pv 4) pa_nil))))))
      (pss_cons (ps_if (pt_not (pt_val (C8.pe_c (c_may T) hr (by decide) rfl (pa_cons (pv 0) (pa_cons (pv 1) (pa_cons (pv 7) pa_nil)))))) (pss_one (ps_ret pe_non)) pss_nil)
      (pss_cons (ps_set (i := 8) sc_law_moved.nd rfl (Or.inl rfl) (C8.pe_c (c_done T) hr (by decide) rfl (pa_cons (pv 0) (pa_cons (pv 7) pa_nil))))
      (pss_cons (ps_set (i := 9) sc_law_moved.nd rfl (Or.inl rfl) (C8.pe_mk (k_Move T) hr (by decide) rfl (pa_cons (pv 3) (pa_cons (pv 4) (pa_cons (pv 5) (pa_cons (pv 6) pa_nil))))))
      (pss_one (ps_ret (pe_ifExp (PW.pt (pw_and (pt_val (C8.pe_c (c_may T) hr (by decide) rfl (pa_cons (pv 8) (pa_cons (pv 1) (pa_cons (pv 9) pa_nil))))) (pw_and1 (pt_cmpR (op_eqG (rcG_T T ⟨rfl, rfl, rfl, rfl, rfl⟩) (hr.mono (by decide))) (C8.pe_c (c_done T) hr (by decide) rfl (pa_cons (pv 8) (pa_cons (pv 9) pa_nil))) (pv 0) (nomark _))))) (pv 8) pe_str)))))))), ?_⟩
    have hnlt : n < Tr.length := ((G.esOk ok.ff).ok _ ok.hn).2.2.1
    refine evp_opLP (R := fun v H' => ∃ p, v = .ref p ∧ H' p = some (.tup [.int (f : Int), .str old])) (elp_call (dvs := []) (ea_cons (ev_var rfl) (ea_cons (ev_var rfl) ea_nil)) (spEnts_lp hT hnlt G.sized)) ev_c (fun p ys H4 h4 r e4 H5 e5 => ?_) H (Evl.Ex.refl H) _ fun v H1 e1 hv => ?_
    · rw [hE] at r
      cases r with
      | cons r1 r2 =>
        obtain ⟨a1, rfl, ha1⟩ := r1
        exact ⟨_, rv_ixL (sq_of (e5 _ _ h4)) at0, fun H6 e6 => ⟨a1, rfl, (e5.trans e6) _ _ ha1⟩⟩
    · obtain ⟨p, rfl, hp⟩ := hv
      refine ⟨p, _, rfl, st_of hp, rfl, .int (f : Int), [.str old], rfl, .str old, [], rfl, rfl, ?_⟩
      have hT1 := hT.mono (Ex.i e1)
      have ho1 := ho.mono (Ex.i e1)
      refine q_asgP (evp_mkA (dvs := []) (R := fun x H' => MovAt K H' x f old g q) (EvA.p (ea_cons (ev_var rfl) (ea_cons (ev_var rfl) (ea_cons (ev_var rfl) (ea_cons (ev_var rfl) ea_nil))))) fun vs H2 e2 hv => ?_) fun v H2 e2 hv => ?_
      · subst hv
        exact mkMove
      · obtain ⟨d, rfl, _, hd⟩ := hv
        have hT2 := hT1.mono (Ex.i e2)
        have ho2 := ho1.mono (Ex.i e2)
        refine q_when (et_not (et_B (ev_call (dvs := []) (ea_cons (ev_var rfl) (ea_cons (ev_var rfl) (ea_cons (ev_var rfl) ea_nil))) (spMay_v hT2 ho2 hd G ok hb)))) (fun hbb H3 e3 => ?_) fun hbb H3 e3 => ?_
        · have : b = true := by cases b <;> simp_all
          exact s_ret ev_c fun H4 e4 => kt this H4 (((e1.trans e2).trans e3).trans e4)
        · have hbf : b = false := by cases b <;> simp_all
          obtain ⟨G2, ok2, hnb2, hundo⟩ := hback hbf
          have hnb : ¬ (isF Tr n = true ∧ Below Tr n g) := fun z => by
            have := hb.mpr z
            rw [hbf] at this
            cases this
          have hT3 := hT2.mono (Ex.i e3)
          have ho3 := ho2.mono (Ex.i e3)
          have hd3 := hd.mono (Ex.i e3)
          refine q_asgP (evp_call (dvs := []) (ea_cons (ev_var rfl) (ea_cons (ev_var rfl) ea_nil)) (spDone_p hT3 hd3 G ok hnb G2)) fun v H4 e4 hv => ?_
          obtain ⟨x, t2, as2, rfl, hX, hsame⟩ := hv
          refine q_asgP (evp_mkA (dvs := []) (R := fun x H' => MovAt K H' x g q f old) (EvA.p (ea_cons (ev_var rfl) (ea_cons (ev_var rfl) (ea_cons (ev_var rfl) (ea_cons (ev_var rfl) ea_nil))))) fun vs H5 e5 hv => ?_) fun v H5 e5 hv => ?_
          · subst hv
            exact mkMove
          · obtain ⟨d2, rfl, _, hd2⟩ := hv
            have hX5 := hX.mono (Ex.i e5)
            have e35 := e4.trans e5
            have ho5 := ho3.mono (Ex.i e35)
            have hT5 := hT3.mono (Ex.i e35)
            have hb2 : Deep (moveT Tr f old g q n) n f false := ⟨(fun h => by cases h), fun h => absurd h hnb2⟩
            have G3 : Good (moveT (moveT Tr f old g q n) g q f old n) := by rw [hundo]; exact G
            refine s_ret (v := .ref x) (ev_if (b := true) (et_is (et_and (a := true) (b := true) (et_B (ev_call (dvs := []) (ea_cons (ev_var rfl) (ea_cons (ev_var rfl) (ea_cons (ev_var rfl) ea_nil))) (spMay_v hX5 ho5 hd2 G2 ok2 hb2))) fun _ => et_test ?_) rfl) (fun _ => ev_var rfl) fun h => by cases h) fun H6 e6 => kf hbf H6 x ((((e1.trans e2).trans e3).trans e35).trans e6) ⟨t2, as2, hX5.mono (Ex.i e6)⟩
            refine ev_opP (R := fun v H' => ∃ x3 t3 as3, v = .ref x3 ∧ TrA K H' x3 t3 as3 Tr ∧ ∀ i, i ≠ g → i ≠ f → as3[i]? = as2[i]?) (EvP.imp (evp_call (dvs := []) (ea_cons (ev_var rfl) (ea_cons (ev_var rfl) ea_nil)) (spDone_p hX5 hd2 G2 ok2 hnb2 G3)) ?_) (ev_var rfl) fun v H6 hv e6 => ?_
            · rintro v H' ⟨x3, t3, as3, rfl, h1, h2⟩
              rw [hundo] at h1
              exact ⟨x3, t3, as3, rfl, h1, h2⟩
            · obtain ⟨x3, t3, as3, rfl, h3, hs3⟩ := hv
              refine rv_eqG fun H7 e7 => ?_
              obtain ⟨dx, w1⟩ := (h3.mono (Ex.i e7)).ob
              have hT7 := hT5.mono (Ex.i (e6.trans e7))
              obtain ⟨dy, w2⟩ := hT7.ob
              refine ⟨x3, a, dx, dy, _, _, rfl, rfl, w1, w2, Tr, t3, as3, t, as, h3.mono (Ex.i e7), hT7, fun i hi => ?_⟩
              have hif : i ≠ f := fun z => by rw [z, ok.ff] at hi; cases hi
              have hig : i ≠ g := fun z => by rw [z, ok.gf] at hi; cases hi
              exact (hs3 i hig hif).trans (hsame i hif hig)
end
end NW
set_option maxHeartbeats 8000000
/-! _law_right. -/
namespace NW
open PySem PySem.Spec PyProof.Rows L2 Evl
theorem hu64_of {A : Around} {k : Nat} (hr : Room k A) : A.units + 64 < cLine := hr.units
/-! ### comparing lists -/
abbrev dInts (ns : List Nat) : PyData := .list (ns.map fun n : Nat => PyData.int (n : Int))
abbrev dLL (pcs : List (List Nat)) : PyData := .list (pcs.map dInts)
theorem lay_ints (ns : List Nat) : PyData.canLayAll0 (ns.map fun n : Nat => PyData.int (n : Int)) = true := by
  induction ns with
  | nil => rfl
  | cons n r ih => exact ih
theorem lay_ll (pcs : List (List Nat)) : PyData.canLayAll0 (pcs.map dInts) = true := by
  induction pcs with
  | nil => rfl
  | cons p r ih =>
    show (PyData.canLayAll0 _ && PyData.canLayAll0 (r.map dInts)) = true
    rw [lay_ints, ih]
    rfl
theorem dp_ints {K : PySem.W.Frag} {H : Hp} {p : Addr} {ns : List Nat} (h : H p = some (.lst (intsV ns))) : Dp K H (.ref p) (dInts ns) := by
  refine .lst (sq_of h) ?_
  clear h
  induction ns with
  | nil => exact .nil
  | cons n r ih => exact .cons (.int _) ih
theorem dp_ll {K : PySem.W.Frag} {H : Hp} {p : Addr} {pcs : List (List Nat)} (h : PcsAt H p pcs) : Dp K H (.ref p) (dLL pcs) := by
  obtain ⟨as, h1, h2⟩ := h
  refine .lst (sq_of h1) ?_
  clear h1
  induction h2 with
  | nil => exact .nil
  | cons r _ ih => exact .cons (dp_ints r) ih
theorem depth_ints (ns : List Nat) : PyData.depthAll (ns.map fun n : Nat => PyData.int (n : Int)) = 0 := by
  induction ns with
  | nil => rfl
  | cons n r ih =>
    show max 0 (PyData.depthAll _) = 0
    rw [ih]
    rfl
theorem depth_ll (pcs : List (List Nat)) : PyData.depthAll (pcs.map dInts) ≤ 1 := by
  induction pcs with
  | nil => exact Nat.zero_le _
  | cons p r ih =>
    show max (PyData.depthAll (p.map fun n : Nat => PyData.int (n : Int)) + 1) (PyData.depthAll (r.map dInts)) ≤ 1
    rw [depth_ints]
    omega
theorem shaped_ints (ns : List Nat) : SeqAt.shaped (dInts ns) = true := by
  unfold SeqAt.shaped
  rw [Bool.and_eq_true, decide_eq_true_iff]
  refine ⟨lay_ints ns, ?_⟩
  show PyData.depthAll _ + 1 ≤ 64
  rw [depth_ints]
  decide
theorem shaped_ll (pcs : List (List Nat)) : SeqAt.shaped (dLL pcs) = true := by
  unfold SeqAt.shaped
  rw [Bool.and_eq_true, decide_eq_true_iff]
  refine ⟨lay_ll pcs, ?_⟩
  show PyData.depthAll _ + 1 ≤ 64
  have := depth_ll pcs
  omega
theorem rv_neInts {K : PySem.W.Frag} {H : Hp} {p q : Addr} {ns : List Nat} (hp : H p = some (.lst (intsV ns))) (hq : H q = some (.lst (intsV ns))) : RV (rNeD K) (.ref p) (.ref q) H (.bl false) := fun H1 e Q k =>
  ⟨dInts ns, dInts ns, dp_ints (e _ _ hp), dp_ints (e _ _ hq), shaped_ints ns, shaped_ints ns, by rw [SeqAt.eqv_refl _ (SeqAt.canLay_of_shaped (shaped_ints ns))]; exact k H1 (Evl.Ex.refl H1)⟩
theorem rv_neLL {K : PySem.W.Frag} {H : Hp} {p q : Addr} {pcs : List (List Nat)} (hp : PcsAt H p pcs) (hq : PcsAt H q pcs) : RV (rNeD K) (.ref p) (.ref q) H (.bl false) := fun H1 e Q k =>
  ⟨dLL pcs, dLL pcs, dp_ll (hp.mono e), dp_ll (hq.mono e), shaped_ll pcs, shaped_ll pcs, by rw [SeqAt.eqv_refl _ (SeqAt.canLay_of_shaped (shaped_ll pcs))]; exact k H1 (Evl.Ex.refl H1)⟩
/-! ### a dict of shapes -/
abbrev kS (s : List Nat) : List L2.Key := s.map fun x : Nat => (Sum.inl (x : Int) : L2.Key)
abbrev kD (ks : List (List Nat)) : List (List L2.Key × V) := ks.map fun s => (kS s, V.bl true)
theorem kS_inj : ∀ {s s' : List Nat}, kS s = kS s' → s = s'
  | [], [], _ => rfl
  | [], _ :: _, h => by cases h
  | _ :: _, [], h => by cases h
  | x :: r, y :: r', h => by
    have h1 := (List.cons.inj h).1
    have h2 := (List.cons.inj h).2
    rw [kS_inj h2, Int.ofNat.inj (Sum.inl.inj h1)]
theorem kS_V (s : List Nat) : (kS s).map kV = intsV s := by rw [kS, List.map_map]; rfl
theorem kD_get (ks : List (List Nat)) (s : List Nat) : (valV (kD ks) (kS s)).isSome = decide (s ∈ ks) := by
  rw [← valV_any, List.any_map, Bool.eq_iff_iff, List.any_eq_true, decide_eq_true_iff]
  constructor
  · rintro ⟨m, hm, h⟩
    have h : kS m = kS s := of_decide_eq_true h
    exact kS_inj h ▸ hm
  · exact fun h => ⟨s, h, decide_eq_true rfl⟩
theorem kD_put {ks : List (List Nat)} {s : List Nat} (h : s ∉ ks) : putK (kD ks) (kS s) (.bl true) = kD (ks ++ [s]) := by
  have q := kD_get ks s
  rw [decide_eq_false h] at q
  rw [putK_new _ (Option.isNone_iff_eq_none.mp (by rw [← Option.not_isSome, q]; rfl)), kD, kD, List.map_append]
  rfl
section
variable {K : PySem.W.Frag} {σ : L2.St} {H H' : Hp} {ta tb te tl td tk tv : TE} {D : Ends} {tu tz : TS} {d : Addr} {ks : List (List Nat)} {s : List Nat} {tg : TG}
theorem ev_notinT (hy : EvU ta σ H (intsV s)) (hd : ∀ H1, Ex H H1 → Ev td σ H1 (.ref d)) (h : H d = some (.dT (kD ks))) : Ev (tDNotIn ta td) σ H (.bl (!decide (s ∈ ks))) := fun H1 e Q q =>
  hy H1 e _ fun b H2 hb e2 h2 => hd H2 (e.trans e2) H2 (Evl.Ex.refl H2) _ fun H3 e3 => ⟨d, _, rfl, DGet.t (k := kS s) (((e.trans e2).trans e3) _ _ h) (by rw [kS_V]; exact e3 _ _ h2), by
    rw [kD_get]
    exact q H3 (e2.trans e3)⟩
theorem q_putT (hd : Ev td σ H (.ref d)) (hy : EvU ta σ H (intsV s)) (hv : Ev te σ H (.bl true)) (h : H d = some (.dT (kD ks))) (hn : s ∉ ks) (hz : ks.length < 100000) (k : ∀ H1, Ex H H1 → tz D σ (upd H1 d (.dT (kD (ks ++ [s]))))) : tSeq (sDPut td ta te) tz D σ H :=
  hv H (Evl.Ex.refl H) _ fun H1 e1 => hd H1 e1 _ fun H2 e2 => hy H2 (e1.trans e2) _ fun b H3 hb e3 h3 => ⟨d, _, rfl, DPut.t (k := kS s) (((e1.trans e2).trans e3) _ _ h) (by rw [kS_V]; exact h3) (sz_lt (by rw [List.length_map]; exact hz)), by
    rw [kD_put hn]
    exact k H3 ((e1.trans e2).trans e3)⟩
theorem evp_disp1T {y : V} (hk : EvU tk σ H (intsV s)) (hv : ∀ H1, Ex H H1 → Ev tv σ H1 y) : EvP (tDisp1T tk tv) σ H fun v H' => ∃ d, v = .ref d ∧ H d = none ∧ H' d = some (.dT [(kS s, y)]) := fun H1 e Q q p hp =>
  hk _ (e.trans (Evl.Ex.new hp)) _ fun b H2 hb e2 h2 => hv H2 ((e.trans (Evl.Ex.new hp)).trans e2) H2 (Evl.Ex.refl H2) _ fun H3 e3 => ⟨b, kS s, rfl, by rw [kS_V]; exact e3 _ _ h2, (e2.trans e3) _ _ upd_same,
    q _ _ (((Evl.Ex.new hp).trans (e2.trans e3)).mut hp) ⟨p, rfl, fresh_back e hp, upd_same⟩⟩
theorem eu_callA {σ : L2.St} {H : Hp} {tr : TA} {sp : Sp} {vs dvs xs : List V} {E : XK} (h : EvA tr σ H vs) (hs : SpU sp (vs ++ dvs) H xs) : EvU (tCall sp dvs E tr) σ H xs := fun H1 e Q q =>
  h H1 e _ fun H2 e2 => hs H2 (e.trans e2) Q (fun p H3 hp e3 h3 => q p H3 (fresh_back e2 hp) (e2.trans e3) h3) E
theorem q_asgT {R : V → Hp → Prop} (h : EvP te σ H R) (k : ∀ v H1, Ex H H1 → R v H1 → tg v σ H1 fun σ' H' => tz D σ' H') : tSeq (tAsg te tg) tz D σ H := h H (Evl.Ex.refl H) _ k
theorem q_pop {l : Addr} {xs : List V} {y : V} {i : Nat} (ha : Ev ta σ H (.ref l)) (hl : H l = some (.lst xs)) (hy : xs[xs.length - 1]? = some y) (k : ∀ H1, Ex H H1 → tz D (σ.set i (some y)) (upd H1 l (.lst xs.dropLast))) : tSeq (tAsg (tBM0 K "list" rPop ta) (gName i)) tz D σ H :=
  go_pop (Q := fun v H' => tz D (σ.set i (some v)) H') ha hl hy k
theorem s_forNatsV {l : Addr} {F : List Nat} {j : Nat} (h : Ev tl σ H (.ref l)) (hl : H l = some (.lst (intsV F))) (Pv : Nat → L2.St → Hp → Prop) (h0 : ∀ H1, Ex H H1 → Pv 0 σ H1) (kp : ∀ i σ' H', Pv i σ' H' → H' l = some (.lst (intsV F)))
    (hs : ∀ (i f : Nat) (σ' : L2.St) (H' : Hp), F[i]? = some f → Pv i σ' H' → tu { D with nx := Pv (i + 1), ct := Pv (i + 1), bk := D.nx } (σ'.set j (some (.int (f : Int)))) H') (hd : ∀ σ' H', Pv F.length σ' H' → D.nx σ' H') : tFor (iList K tl) (gName j) tu D σ H := by
  refine s_forLn h (sq_of hl) Pv h0 (fun i σ' H' _ q => sq_of (kp i σ' H' q)) (fun i x σ' H' hx q => ?_) fun σ' H' q => hd σ' H' (by rw [show (intsV F).length = F.length from List.length_map ..] at q; exact q)
  rw [List.getElem?_map] at hx
  cases c : F[i]? with
  | none => rw [c] at hx; cases hx
  | some f =>
    rw [c] at hx
    obtain rfl : V.int (f : Int) = x := Option.some.inj hx
    exact hs i f σ' H' c q
end
theorem qn_len : ∀ c : Nat, c < 251 → ("q" : Str).length + (toString (c : Int) : Str).length ≤ 20 := by decide +kernel
theorem qn_log {c : Nat} (h : c < 250) : ((c + 1 : Nat) : Int).natAbs.log2 < 1920 := by
  have e : ((c + 1 : Nat) : Int).natAbs = c + 1 := rfl
  rw [e, Nat.log2_lt (by omega)]
  exact Nat.lt_of_lt_of_le (show c + 1 < 2 ^ 8 by omega) (Nat.pow_le_pow_right (by decide) (by decide))
/-! ### the promise -/
def spRight (K : PySem.W.Frag) : Sp := fun vs H Q _ => ∃ (a ob t : Addr) (as : List Addr) (T0 : Tr) (o : Nat) (F : List Nat), vs = [.ref a, .ref ob] ∧ TrA K H a t as T0 ∧ OthAt K H ob o F ∧ Inv T0 F 0 T0 ∧ F.length ≤ 3 ∧ ∀ H', Ex H H' → Q (.bl true) H'
structure Bf (T0 : Tr) (F : List Nat) (ks : List (List Nat)) (ts : List Tr) (c : Nat) : Prop where
  nd : ks.Nodup
  ok : ∀ s ∈ ks, ShOk T0 F s
  h0 : shapeN T0 (S0 T0 F) ∈ ks
  tr : ∀ t ∈ ts, Inv T0 F c t ∧ shapeN t (S0 T0 F) ∈ ks
theorem ClosedAt.mono {T0 : Tr} {F : List Nat} {ks ks' : List (List Nat)} {s : List Nat} (h : ∀ x ∈ ks, x ∈ ks') (c : ClosedAt T0 F ks s) : ClosedAt T0 F ks' s := fun i hi g hg hd => h _ (c i hi g hg hd)
theorem inv_some {T0 T : Tr} {F : List Nat} {c : Nat} (I : Inv T0 F c T) : ∀ n ∈ S0 T0 F, n < T.length ∧ (entsTo T n).length = 1 := fun n hn => by
  have h1 : n ∈ someN T (looseN T0 F) := by rw [I.some']; exact hn
  obtain ⟨h2, h3⟩ := List.mem_filter.mp h1
  refine ⟨?_, of_decide_eq_true h3⟩
  rw [I.len]
  exact List.mem_range.mp (List.mem_filter.mp h2).1
section
variable {P : Program} {w : World} {K : PySem.W.Frag} {mg : Str → Option Value} {base : Heap}
theorem sc_law_right : FnScope ["_law_tree_here", "_law_others", "_law_every", "_law_parts", "_law_some", "_law_many", "_law_known", "_law_waiting", "_law_count", "_law_now", "_law_node", "_law_goal", "_law_later"] ["_law_tree_here", "_law_others"] (defScope s_law_right) := ⟨rfl, rfl, rfl, by decide +kernel, rfl, by decide +kernel, by decide +kernel⟩
theorem c_law_right (T : Txt K mg) : C8.Cal P w K mg base 11 "_law_right" (spRight K) [] := by
  refine cal_of (fd_law_right T) (g_law_right T) (fun _ _ _ _ _ _ us hl => match us, hl with | [_, _], _ => rfl) sc_law_right (fun vs H Q E h => ?_) (fun cdv A outer s H vs Q E hr h => ?_)
  · obtain ⟨_, _, _, _, _, _, _, rfl, _⟩ := h; rfl
  · obtain ⟨a, ob, t, as, T0, o, F, rfl, hT, ho, I0, hF3, k⟩ := h
    have hu := hu_of hr
    refine ⟨_, (pss_cons (ps_par (i := 2) (j := 3) rfl sc_law_right.nd rfl rfl (by decide) rfl rfl (pa_cons (C8.pe_c (c_loose T) hr (by decide) rfl (pa_cons (pv 0) (pa_cons (pv 1) pa_nil))) (pa_cons (C8.pe_c (c_pieces T) hr (by decide) rfl (pa_cons (pv 0) (pa_cons (pv 1) pa_nil))) pa_nil)) (by rfl))
      (pss_cons (ps_setLc (i := 4) (own := [("_law_node", 10)]) rfl sc_law_right.nd rfl rfl (sw_true rfl rfl rfl (by decide +kernel)) (pi_list (pv 2)) (blkOk_by (own := [("_law_node", 10)]) (N := ["_law_tree_here", "_law_others", "_law_every", "_law_parts", "_law_some", "_law_many", "_law_known", "_law_waiting", "_law_count", "_law_now", "_law_node", "_law_goal", "_law_later"]) (sc := defScope s_law_right) (by decide +kernel)) (fun _ _ _ _ _ => (pg_name (i := 10) sc_law_right.nd rfl (Or.inl rfl) (.inr rfl))) (fun _ _ _ _ _ => (pts_one (pt_cmpR op_eq (pe_callB (k_len (K := K) rfl) (by rfl) (f_len T) b_len (pa_cons (C8.pe_c (c_entries_of T) hr (by decide) rfl (pa_cons (pv 0) (pa_cons (pv 10) pa_nil))) pa_nil)) pe_int (nomark _)))) (fun _ _ _ _ _ => (pv 10)))
      (pss_cons (ps_if (PW.pt (pw_or (pt_cmpR op_gt (pe_callB call_len_seq (by rfl) (f_len T) b_len (pa_cons (pv 4) pa_nil)) pe_int (nomark _)) (pw_or1 (pt_cmpR op_gt (pe_callB call_len_seq (by rfl) (f_len T) b_len (pa_cons (pe_fld (pv 1) rfl) pa_nil)) pe_int (nomark _))))) (pss_one (ps_ret pe_bl)) pss_nil)
      (pss_cons (ps_asg (pe_tup (pa_cons (C8.pe_c (c_arrangements T) hr (by decide) rfl (pa_cons (pv 0) (pa_cons (pv 1) pa_nil))) (pa_cons (pe_disp1T hu (C8.pe_c (c_law_shape T) hr (by decide) rfl (pa_cons (pv 0) (pa_cons (pv 4) pa_nil))) pe_bl) (pa_cons (pe_lst (pa_cons (pv 0) pa_nil)) (pa_cons pe_int pa_nil))))) (pg_tup rfl (pgs_cons (pg_name (i := 5) sc_law_right.nd rfl (Or.inl rfl)) (pgs_cons (pg_name (i := 6) sc_law_right.nd rfl (Or.inl rfl)) (pgs_cons (pg_name (i := 7) sc_law_right.nd rfl (Or.inl rfl)) (pgs_cons (pg_name (i := 8) sc_law_right.nd rfl (Or.inl rfl)) pgs_nil))))))
      (pss_cons (ps_while PassesOwn.never (pt_cmpR (op_neNilL (hu0_of hr)) (pv 7) (pe_lst pa_nil) (nomark _)) (pss_cons (ps_set (i := 9) sc_law_right.nd rfl (Or.inl rfl) (pe_bm0 PySem.F.plainAttrs_list PySem.F.slot_list_pop PySem.F.type_list_pop mt_pop (pv 7)))
      (pss_cons (ps_if (PW.pt (pw_or (pt_cmpR (op_neD (hu64_of hr)) (C8.pe_c (c_loose T) hr (by decide) rfl (pa_cons (pv 9) (pa_cons (pv 1) pa_nil))) (pv 2) (nomark _)) (pw_or (pt_cmpR (op_neD (hu64_of hr)) (C8.pe_c (c_pieces T) hr (by decide) rfl (pa_cons (pv 9) (pa_cons (pv 1) pa_nil))) (pv 3) (nomark _)) (pw_or1 (pt_cmpR op_ne (C8.pe_c (c_arrangements T) hr (by decide) rfl (pa_cons (pv 9) (pa_cons (pv 1) pa_nil))) (pv 5) (nomark _)))))) (pss_one (ps_ret pe_bl)) pss_nil)
      (pss_one (ps_for PassesOwn.never rfl (pi_list (pv 4)) (pg_name (i := 10) sc_law_right.nd rfl (Or.inl rfl)) (pss_one (ps_for PassesOwn.never rfl (pi_tup (pe_fld (pv 1) rfl)) (pg_name (i := 11) sc_law_right.nd rfl (Or.inl rfl)) (pss_cons (ps_set (i := 8) sc_law_right.nd rfl (Or.inl rfl) (pe_op op_add (pv 8) pe_int))
      (pss_cons (ps_set (i := 12) sc_law_right.nd rfl (Or.inl rfl) (C8.pe_c (c_law_moved T) hr (by decide) rfl (pa_cons (pv 9) (pa_cons (pv 1) (pa_cons (pv 10) (pa_cons (pv 11) (pa_cons (pe_op op_add_str pe_str (pe_callTy call_str_int (by rfl) (f_str T) b_str (pa_cons (pv 8) pa_nil))) pa_nil)))))))
      (pss_cons (ps_if (pt_cmpR (op_eqStay T ⟨rfl, rfl, rfl, rfl, rfl⟩ (hr.mono (by decide))) (pv 12) pe_str (nomark _)) (pss_one (ps_ret pe_bl)) pss_nil)
      (pss_one (ps_if (PW.pt (pw_and (pt_cmpR op_notN (pv 12) pe_non (nomark _)) (pw_and1 (pt_cmp (pc_dnotin hu (C8.pe_c (c_law_shape T) hr (by decide) rfl (pa_cons (pv 12) (pa_cons (pv 4) pa_nil))) (pv 6)) (by first | exact nobehind _ (by decide) (by decide) | rfl))))) (pss_cons (ps_dput hu (pv 6) (C8.pe_c (c_law_shape T) hr (by decide) rfl (pa_cons (pv 12) (pa_cons (pv 4) pa_nil))) pe_bl rfl)
      (pss_one (ps_expr (pe_bm PySem.F.plainAttrs_list PySem.F.slot_list_append PySem.F.type_list_append mt_append (pv 7) (pa_cons (pv 12) pa_nil))))) pss_nil))))))))))))
      (pss_one (ps_ret (pe_cmpR op_eq (pe_callB call_len_dT (by rfl) (f_len T) b_len (pa_cons (pv 6) pa_nil)) (pv 5) (nomark _))))))))), ?_⟩
    have G0 := I0.good
    have okF := I0.okF
    have hlen := G0.len
    have hLl : (looseN T0 F).length ≤ 60 := Nat.le_trans (List.length_filter_le _ _) (by rw [List.length_range]; exact hlen)
    have hLt : ∀ n ∈ looseN T0 F, n < T0.length := fun n hn => List.mem_range.mp (List.mem_filter.mp hn).1
    have hSl : (S0 T0 F).length ≤ 60 := Nat.le_trans (List.length_filter_le _ _) hLl
    refine q_par2 (P := fun vs H' => ∃ ev pp, vs = [.ref ev, .ref pp] ∧ H' ev = some (.lst (intsV (looseN T0 F))) ∧ PcsAt H' pp (piecesN T0 (looseN T0 F))) ?_ fun vs H1 e1 hv => ?_
    · refine eap_cons (evl_p (el_call (dvs := []) (ea_cons (ev_var rfl) (ea_cons (ev_var rfl) ea_nil)) (spLoose_l hT G0 ho okF))) fun v H1 e1 hv => ?_
      obtain ⟨ev, rfl, _, h1⟩ := hv
      refine eap_cons (evp_call (dvs := []) (ea_cons (ev_var rfl) (ea_cons (ev_var rfl) ea_nil)) (spPieces_p (hT.mono (Ex.i e1)) G0 (ho.mono (Ex.i e1)) okF)) fun v H2 e2 hv => ?_
      obtain ⟨pp, rfl, h2⟩ := hv
      exact eap_nil fun H3 e3 => ⟨ev, pp, rfl, (e2.trans e3) _ _ h1, h2.mono e3⟩
    obtain ⟨ev, pp, rfl, hev, hpp⟩ := hv
    refine ⟨_, _, rfl, ?_⟩
    have hT1 := hT.mono (Ex.i e1)
    refine q_asgL (xs := intsV (S0 T0 F)) (el_nats (F := looseN T0 F) (wk_list (ev_var rfl) (sq_of hev)) (by omega) (fun n => decide ((entsTo T0 n).length = 1)) (fun n => .int (n : Int)) (fun _ => rfl)
        (fun n hn H3 e3 => et_is (et_test (ev_op (ev_lenLP (n := (entsTo T0 n).length) (elp_call (dvs := []) (ea_cons (ev_var rfl) (ea_cons (ev_var rfl) ea_nil)) (spEnts_lp (hT1.mono (Ex.i e3)) (hLt n hn) G0.sized)) fun ys H' r => entVs_len r) ev_c (rv_eq rfl))) (int_eq (b := 1))) fun n hn H3 e3 _ => ev_var rfl) fun sm H2 hsm e2 h2 => ?_
    have e02 := e1.trans e2
    obtain ⟨odx, tf, hob, htf⟩ := id ho
    refine q_when (et_or (et_test (ev_op (ev_len (ev_var rfl) (sq_of h2)) ev_c rv_I0)) fun _ => et_test (ev_op (ev_lenT (ev_folders T (ev_var rfl) (e02 _ _ hob)) (st_of (e02 _ _ htf))) ev_c rv_I0)) (fun hb H3 e3 => s_ret ev_c fun H4 e4 => k H4 ((e02.trans e3).trans e4)) fun hb H3 e3 => ?_
    have h3 : (S0 T0 F).length ≤ 3 := by
      simp only [Bool.or_eq_false_iff, decide_eq_false_iff_not] at hb
      have := hb.1
      rw [show (intsV (S0 T0 F)).length = (S0 T0 F).length from List.length_map ..] at this
      omega
    have e03 := e02.trans e3
    have hT3 := hT.mono (Ex.i e03)
    have ho3 := ho.mono (Ex.i e03)
    have hev3 := (e2.trans e3) _ _ hev
    have hpp3 := hpp.mono (e2.trans e3)
    have hsm3 := e3 _ _ h2
    refine q_asgT (R := fun v H4 => ∃ p d w, v = .ref p ∧ H4 p = some (.tup [.int (arrN T0 F : Int), .ref d, .ref w, .int 0]) ∧ H3 d = none ∧ H3 w = none ∧ d ≠ w ∧ H4 d = some (.dT (kD [shapeN T0 (S0 T0 F)])) ∧ H4 w = some (.lst [.ref a])) ?_ fun v H4 e4 hv => ?_
    · refine EvP.imp (eup_tup (P := fun vs H4 => ∃ d w, vs = [.int (arrN T0 F : Int), .ref d, .ref w, .int 0] ∧ H3 d = none ∧ H3 w = none ∧ d ≠ w ∧ H4 d = some (.dT (kD [shapeN T0 (S0 T0 F)])) ∧ H4 w = some (.lst [.ref a])) ?_ ?_ ?_) ?_
      · refine eap_cons (ev_p (ev_call (dvs := []) (ea_cons (ev_var rfl) (ea_cons (ev_var rfl) ea_nil)) (spArr_v hT3 G0 ho3 okF hF3 h3))) fun v H4 e4 hv => ?_
        subst hv
        refine eap_cons (evp_disp1T (s := shapeN T0 (S0 T0 F)) (y := .bl true) (eu_callA (dvs := []) (ea_cons (ev_var rfl) (ea_cons (ev_var rfl) ea_nil)) (spShape_u (hT3.mono (Ex.i e4)) G0.sized (e4 _ _ hsm3) (by omega) (inv_some I0))) fun _ _ => ev_c) fun v H5 e5 hv => ?_
        obtain ⟨d, rfl, hd, hd5⟩ := hv
        refine eap_cons (evl_p (el_lst (ea_cons (ev_var rfl) ea_nil) (by simp))) fun v H6 e6 hv => ?_
        obtain ⟨wt, rfl, hw, hw6⟩ := hv
        refine eap_cons (ev_p ev_c) fun v H7 e7 hv => ?_
        subst hv
        exact eap_nil fun H8 e8 => ⟨d, wt, rfl, fresh_back e4 hd, fresh_back (e4.trans e5) hw, (fun z => by subst z; rw [hd5] at hw; cases hw), ((e6.trans e7).trans e8) _ _ hd5, (e7.trans e8) _ _ hw6⟩
      · rintro vs H1 ⟨d, wt, rfl, _⟩; simp
      · rintro vs Ha Hb e ⟨d, wt, h1, h2, h3, h4, h5, h6⟩; exact ⟨d, wt, h1, h2, h3, h4, e _ _ h5, e _ _ h6⟩
      · rintro v H' ⟨p, vs, rfl, hp, d, wt, rfl, h2, h3, h4, h5, h6⟩; exact ⟨p, d, wt, rfl, hp, h2, h3, h4, h5, h6⟩
    obtain ⟨p, d, wt, rfl, hp, hd, hw, hdw, hd4, hw4⟩ := hv
    refine ⟨p, _, rfl, st_of hp, rfl, .int (arrN T0 F : Int), _, rfl, .ref d, _, rfl, .ref wt, _, rfl, .int 0, [], rfl, rfl, ?_⟩
    -- the walk over the trees
    refine q_while (fun m σ' H' => ∃ ks ts ws c x9 x10 x11 x12, σ' = [some (.ref a), some (.ref ob), some (.ref ev), some (.ref pp), some (.ref sm), some (.int (arrN T0 F : Int)), some (.ref d), some (.ref wt), some (.int ((c : Nat) : Int)), x9, x10, x11, x12] ∧ Ex H3 H' ∧ H' d = some (.dT (kD ks)) ∧ H' wt = some (.lst (ws.map V.ref)) ∧
        Paired (TreeAt K H') ws ts ∧ Bf T0 F ks ts c ∧ (∀ s ∈ ks, (∃ t ∈ ts, shapeN t (S0 T0 F) = s) ∨ ClosedAt T0 F ks s) ∧ c + 9 * ts.length ≤ 9 * ks.length ∧ m = ts.length + 2 * (27 - ks.length)) (1 + 2 * 26)
      ⟨[shapeN T0 (S0 T0 F)], [T0], [a], 0, none, none, none, none, rfl, e4, hd4, hw4, .cons ⟨t, as, hT3.mono (Ex.i e4)⟩ .nil, ⟨by simp, fun s hs => by rw [List.mem_singleton.mp hs]; exact inv_shape I0 h3, by simp, fun t ht => by rw [List.mem_singleton.mp ht]; exact ⟨I0, by simp⟩⟩, fun s hs => .inl ⟨T0, by simp, (List.mem_singleton.mp hs).symm⟩, by simp, rfl⟩ ?_
    rintro m σ' H5 ⟨ks, ts, ws, c, x9, x10, x11, x12, rfl, e5, hd5, hw5, prT, bf, cl, hc, rfl⟩
    have hks := ks_len hF3 h3 bf.nd bf.ok
    have hwl : ws.length = ts.length := prT.len
    refine ⟨_, et_test (ev_neNil (ev_var rfl) (sq_of hw5)), fun hb H6 e6 => ?_, fun hb H6 e6 => ?_⟩
    · obtain ⟨ws', x, rfl⟩ : ∃ ws' x, ws = ws' ++ [x] := by
        have hne : ws ≠ [] := fun z => by subst z; cases hb
        exact ⟨ws.dropLast, ws.getLast hne, (List.dropLast_concat_getLast hne).symm⟩
      obtain ⟨ts', tx, rfl⟩ : ∃ ts' tx, ts = ts' ++ [tx] := by
        have hne : ts ≠ [] := fun z => by subst z; simp at hwl
        exact ⟨ts.dropLast, ts.getLast hne, (List.dropLast_concat_getLast hne).symm⟩
      have hl' : ws'.length = ts'.length := by simpa using hwl
      obtain ⟨prT', prx⟩ : Paired (TreeAt K H5) ws' ts' ∧ TreeAt K H5 x tx := by
        have q1 := pr_take ws'.length prT
        rw [List.take_left, hl', List.take_left] at q1
        refine ⟨q1, ?_⟩
        have hx : (ws' ++ [x])[ws'.length]? = some x := by rw [List.getElem?_append_right (Nat.le_refl _), Nat.sub_self]; rfl
        obtain ⟨y, hy, hv⟩ := prT.at1 hx
        rw [hl', List.getElem?_append_right (Nat.le_refl _), Nat.sub_self] at hy
        obtain rfl : tx = y := Option.some.inj hy
        exact hv
      have hlast : ((ws' ++ [x]).map V.ref)[((ws' ++ [x]).map V.ref).length - 1]? = some (.ref x) := by
        rw [List.length_map, List.getElem?_map, List.length_append, List.length_singleton, Nat.add_sub_cancel, List.getElem?_append_right (Nat.le_refl _), Nat.sub_self]
        rfl
      have hdl : ((ws' ++ [x]).map V.ref).dropLast = ws'.map V.ref := by rw [List.map_append]; exact List.dropLast_concat
      refine ⟨fun σ2 H2 => ∃ m', m' < (ts' ++ [tx]).length + 2 * (27 - ks.length) ∧ ∃ ks ts ws c x9 x10 x11 x12, σ2 = [some (.ref a), some (.ref ob), some (.ref ev), some (.ref pp), some (.ref sm), some (.int (arrN T0 F : Int)), some (.ref d), some (.ref wt), some (.int ((c : Nat) : Int)), x9, x10, x11, x12] ∧ Ex H3 H2 ∧ H2 d = some (.dT (kD ks)) ∧ H2 wt = some (.lst (ws.map V.ref)) ∧
        Paired (TreeAt K H2) ws ts ∧ Bf T0 F ks ts c ∧ (∀ s ∈ ks, (∃ t ∈ ts, shapeN t (S0 T0 F) = s) ∨ ClosedAt T0 F ks s) ∧ c + 9 * ts.length ≤ 9 * ks.length ∧ m' = ts.length + 2 * (27 - ks.length), fun _ _ q => q, ?_⟩
      refine q_pop (l := wt) (ev_var rfl) (e6 _ _ hw5) hlast fun H7 e7 => ?_
      rw [hdl]
      have hw7 := (e6.trans e7) _ _ hw5
      have i58 : ExI H5 (upd H7 wt (.lst (ws'.map V.ref))) := (Ex.i (e6.trans e7)).trans (ExI.lst hw7)
      have e38 : Ex H3 (upd H7 wt (.lst (ws'.map V.ref))) := ((e5.trans e6).trans e7).mut hw
      have hd8 : (upd H7 wt (.lst (ws'.map V.ref))) d = some (.dT (kD ks)) := by rw [upd_ne hdw]; exact (e6.trans e7) _ _ hd5
      obtain ⟨tt, tas, hX⟩ := prx.mono i58
      obtain ⟨Ix, hshx⟩ := bf.tr tx (by simp)
      have Gx := Ix.good
      have ho8 := ho3.mono (Ex.i e38)
      have hsx := Ix.some'
      have h3x : (someN tx (looseN tx F)).length ≤ 3 := by rw [Ix.loose, hsx]; exact h3
      refine q_when (b := false) (et_is (et_or (a := false) (b := false) (et_test (ev_opL1 (xs := intsV (looseN T0 F)) ?_ (fun _ _ => ev_var rfl) fun p H1 h1 e => rv_neInts h1 (e _ _ (e38 _ _ hev3)))) fun _ => et_is (et_or (a := false) (b := false) (et_test (ev_opP (evp_call (dvs := []) (ea_cons (ev_var rfl) (ea_cons (ev_var rfl) ea_nil)) (spPieces_p hX Gx ho8 Ix.okF)) (ev_var rfl) ?_)) fun _ => et_is (et_test (ev_op (ev_call (dvs := []) (ea_cons (ev_var rfl) (ea_cons (ev_var rfl) ea_nil)) (spArr_v hX Gx ho8 Ix.okF hF3 h3x)) (ev_var rfl) (rv_ne rfl))) ?_) rfl) rfl) (fun h => by cases h) fun _ H9 e9 => ?_
      · have q := spLoose_l hX Gx ho8 Ix.okF
        rw [Ix.loose] at q
        exact el_call (dvs := []) (ea_cons (ev_var rfl) (ea_cons (ev_var rfl) ea_nil)) q
      · rintro v H1 ⟨p1, rfl, h1⟩ e
        rw [inv_pcs Ix] at h1
        exact rv_neLL h1 ((hpp3.mono e38).mono e)
      · rw [inv_arr Ix]
        simp
      -- each node to each folder
      have hd9 := e9 _ _ hd8
      have hw9 : H9 wt = some (.lst (ws'.map V.ref)) := e9 _ _ upd_same
      have e39 := e38.trans e9
      refine s_forNatsV (l := sm) (ev_var rfl) (e39 _ _ hsm3) (fun i σ' H' => ∃ ks2 ts2 ws2 c2 x10 x11 x12, σ' = [some (.ref a), some (.ref ob), some (.ref ev), some (.ref pp), some (.ref sm), some (.int (arrN T0 F : Int)), some (.ref d), some (.ref wt), some (.int ((c2 : Nat) : Int)), some (.ref x), x10, x11, x12] ∧ Ex H3 H' ∧ ExI H9 H' ∧ H' d = some (.dT (kD ks2)) ∧ H' wt = some (.lst (ws2.map V.ref)) ∧
          Paired (TreeAt K H') ws2 ts2 ∧ Bf T0 F ks2 ts2 c2 ∧ (∀ s ∈ ks2, s = shapeN tx (S0 T0 F) ∨ (∃ t ∈ ts2, shapeN t (S0 T0 F) = s) ∨ ClosedAt T0 F ks2 s) ∧ c ≤ c2 ∧ c2 + 9 * ts2.length + 9 ≤ 9 * ks2.length + i * F.length ∧ ts2.length + 2 * (27 - ks2.length) ≤ ts'.length + 2 * (27 - ks.length) ∧
          shapeN tx (S0 T0 F) ∈ ks2 ∧ ∀ i', i' < i → ∀ g ∈ F, deepS T0 F (shapeN tx (S0 T0 F)) i' g = false → (shapeN tx (S0 T0 F)).set i' g ∈ ks2)
        (fun H10 e10 => ⟨ks, ts', ws', c, _, _, _, rfl, e39.trans e10, Ex.i e10, e10 _ _ hd9, e10 _ _ hw9, prT'.mon fun _ _ q => (q.mono i58).mono (Ex.i (e9.trans e10)), ⟨bf.nd, bf.ok, bf.h0, fun t ht => bf.tr t (by simp [ht])⟩, fun s hs => ?_, Nat.le_refl _, by rw [List.length_append, List.length_singleton] at hc; omega, Nat.le_refl _, hshx, fun i' hi' => absurd hi' (Nat.not_lt_zero _)⟩)
        (fun i σ' H' q => by obtain ⟨_, _, _, _, _, _, _, _, e, _⟩ := q; exact e _ _ hsm3) ?_ ?_
      · rcases cl s hs with ⟨t1, ht1, h1⟩ | h1
        · rcases List.mem_append.mp ht1 with z | z
          · exact .inr (.inl ⟨t1, z, h1⟩)
          · rw [List.mem_singleton.mp z] at h1
            exact .inl h1.symm
        · exact .inr (.inr h1)
      · rintro i n σ' H10 hn ⟨ks2, ts2, ws2, c2, x10, x11, x12, rfl, e310, i910, hd10, hw10, prT2, bf2, cl2, hcc, hc2, hm2, hsx2, dn⟩
        have hFl : i < (S0 T0 F).length := (List.getElem?_eq_some_iff.mp hn).1
        obtain ⟨odx3, tf3, hob3, htf3⟩ := id ho3
        refine s_forNatsT (ev_folders T (ev_var rfl) (e310 _ _ hob3)) (e310 _ _ htf3) (fun j σ' H' => ∃ ks3 ts3 ws3 c3 x11 x12, σ' = [some (.ref a), some (.ref ob), some (.ref ev), some (.ref pp), some (.ref sm), some (.int (arrN T0 F : Int)), some (.ref d), some (.ref wt), some (.int ((c3 : Nat) : Int)), some (.ref x), some (.int (n : Int)), x11, x12] ∧ Ex H3 H' ∧ ExI H10 H' ∧ H' d = some (.dT (kD ks3)) ∧ H' wt = some (.lst (ws3.map V.ref)) ∧
            Paired (TreeAt K H') ws3 ts3 ∧ Bf T0 F ks3 ts3 c3 ∧ (∀ s ∈ ks3, s = shapeN tx (S0 T0 F) ∨ (∃ t ∈ ts3, shapeN t (S0 T0 F) = s) ∨ ClosedAt T0 F ks3 s) ∧ c ≤ c3 ∧ c3 + 9 * ts3.length + 9 ≤ 9 * ks3.length + (i * F.length + j) ∧ ts3.length + 2 * (27 - ks3.length) ≤ ts'.length + 2 * (27 - ks.length) ∧
            shapeN tx (S0 T0 F) ∈ ks3 ∧ (∀ i', i' < i → ∀ g ∈ F, deepS T0 F (shapeN tx (S0 T0 F)) i' g = false → (shapeN tx (S0 T0 F)).set i' g ∈ ks3) ∧ ∀ g ∈ F.take j, deepS T0 F (shapeN tx (S0 T0 F)) i g = false → (shapeN tx (S0 T0 F)).set i g ∈ ks3)
          (fun H11 e11 => ⟨ks2, ts2, ws2, c2, _, _, rfl, e310.trans e11, Ex.i e11, e11 _ _ hd10, e11 _ _ hw10, prT2.mon fun _ _ q => q.mono (Ex.i e11), bf2, cl2, hcc, by omega, hm2, hsx2, dn, fun g hg => by simp at hg⟩) (fun j σ' H' q => by obtain ⟨_, _, _, _, _, _, _, _, q, _⟩ := q; exact q) ?_ ?_
        · rintro j g σ' H11 hg ⟨ks3, ts3, ws3, c3, y11, y12, rfl, e311, i1011, hd11, hw11, prT3, bf3, cl3, hc03, hc3, hm3, hsx3, dn3, dng⟩
          have hjl : j < F.length := (List.getElem?_eq_some_iff.mp hg).1
          have hgF : g ∈ F := List.mem_of_getElem? hg
          have hks3 := ks_len hF3 h3 bf3.nd bf3.ok
          have hij : i * F.length + j ≤ 8 := by
            have h1 : i ≤ 2 := by omega
            have h2 : i * F.length ≤ 2 * F.length := Nat.mul_le_mul_right _ h1
            omega
          have hc250 : c3 < 250 := by omega
          obtain ⟨f, old, st⟩ := inv_step (inv_mono Ix hc03) h3 hn hgF hc250
          have htk : F.take (j + 1) = F.take j ++ [g] := by rw [List.take_succ, hg]; rfl
          have hX11 := (hX.mono (Ex.i e9)).mono (i910.trans i1011)
          have ho11 := ho3.mono (Ex.i e311)
          refine q_asg (v := .int ((c3 + 1 : Nat) : Int)) (ev_op (ev_var rfl) ev_c (fun H1 e Q q => ⟨(c3 : Int), 1, rfl, rfl, q H1 (Evl.Ex.refl H1)⟩)) fun H12 e12 => ?_
          have hX12 := hX11.mono (Ex.i e12)
          have ho12 := ho11.mono (Ex.i e12)
          have harg : ∀ (x12' : Option V), EvA (tCons (tVar 9) (tCons (tVar 1) (tCons (tVar 10) (tCons (tVar 11) (tCons (tOp (fun x y H Q => ∃ i j, x = .str i ∧ y = .str j ∧ i.length + j.length ≤ sizeLine ∧ Q (.str (i ++ j)) H) (tC (.str "q")) (tCB (fun xs H Q => ∃ i, xs = [.int i] ∧ i.natAbs.log2 < 1920 ∧ Q (.str (toString i)) H) (tCons (tVar 8) tNil))) tNil)))))
              [some (.ref a), some (.ref ob), some (.ref ev), some (.ref pp), some (.ref sm), some (.int (arrN T0 F : Int)), some (.ref d), some (.ref wt), some (.int ((c3 + 1 : Nat) : Int)), some (.ref x), some (.int (n : Int)), some (.int (g : Int)), x12'] H12 [.ref x, .ref ob, .int (n : Int), .int (g : Int), .str (qn (c3 + 1))] := fun x12' =>
            ea_cons (ev_var rfl) (ea_cons (ev_var rfl) (ea_cons (ev_var rfl) (ea_cons (ev_var rfl) (ea_cons (ev_op ev_c (ev_cb (ea_cons (ev_var rfl) ea_nil) fun H1 e Q q => ⟨_, rfl, qn_log hc250, q H1 (Evl.Ex.refl H1)⟩) fun H1 e Q q => ⟨_, _, rfl, rfl, sz_of (Nat.le_trans (qn_len (c3 + 1) (by omega)) (by decide)), q H1 (Evl.Ex.refl H1)⟩) ea_nil))))
          by_cases hdp : isF tx n = true ∧ Below tx n g
          · -- not allowed
            have hdeep : deepS T0 F (shapeN tx (S0 T0 F)) i g = true := st.deep.mp hdp
            refine q_asg (v := .non) (ev_call (dvs := []) (harg _) fun H1 e Q q E => ⟨x, ob, tt, tas, tx, o, F, f, g, n, old, qn (c3 + 1), true, rfl, hX12.mono (Ex.i e), ho12.mono (Ex.i e), Gx, st.ok, st.ent, ⟨fun _ => hdp, fun _ => rfl⟩, (fun h => by cases h), fun _ => q, fun h => by cases h⟩) fun H13 e13 => ?_
            refine q_when (b := false) (et_test (ev_op (ev_var rfl) ev_c fun H1 e Q q => .inl ⟨rfl, ⟨_, rfl⟩, q H1 (Evl.Ex.refl H1)⟩)) (fun h => by cases h) fun _ H14 e14 => ?_
            have e1114 := (e12.trans e13).trans e14
            refine s_when (b := false) (et_is (et_and (b := false) (et_test (ev_notN (ev_var rfl))) fun h => by cases h) rfl) (fun h => by cases h) fun _ H15 e15 => ?_
            have e1115 := e1114.trans e15
            refine ⟨ks3, ts3, ws3, c3 + 1, _, _, rfl, e311.trans e1115, i1011.trans (Ex.i e1115), e1115 _ _ hd11, e1115 _ _ hw11, prT3.mon fun _ _ q => q.mono (Ex.i e1115), ⟨bf3.nd, bf3.ok, bf3.h0, fun t ht => ⟨inv_mono (bf3.tr t ht).1 (Nat.le_succ _), (bf3.tr t ht).2⟩⟩, cl3, Nat.le_trans hc03 (Nat.le_succ _), by omega, hm3, hsx3, dn3, fun g' hg' hd' => ?_⟩
            rw [htk] at hg'
            rcases List.mem_append.mp hg' with z | z
            · exact dng g' z hd'
            · rw [List.mem_singleton.mp z, hdeep] at hd'
              cases hd'
          · -- allowed
            have hnd : deepS T0 F (shapeN tx (S0 T0 F)) i g = false := Bool.eq_false_iff.mpr fun z => hdp (st.deep.mpr z)
            have I2 := st.inv hdp
            have hsh := st.shp hdp
            refine q_asgP (R := fun v H' => ∃ x2, v = .ref x2 ∧ TreeAt K H' x2 (moveT tx f old g (qn (c3 + 1)) n)) (evp_call (dvs := []) (harg _) fun H1 e Q q E => ⟨x, ob, tt, tas, tx, o, F, f, g, n, old, qn (c3 + 1), false, rfl, hX12.mono (Ex.i e), ho12.mono (Ex.i e), Gx, st.ok, st.ent, ⟨(fun h => by cases h), fun h => absurd h hdp⟩, fun _ => ⟨I2.good, st.back hdp, st.nobelow hdp, st.undo hdp⟩, (fun h => by cases h), fun _ H' x2 e2 h2 => q _ H' e2 ⟨x2, rfl, h2⟩⟩) fun v H13 e13 hv => ?_
            obtain ⟨x2, rfl, hx2⟩ := hv
            obtain ⟨t2, as2, hX2⟩ := id hx2
            obtain ⟨ndx, hob2⟩ := hX2.ob
            refine q_when (b := false) (et_test (ev_op (ev_var rfl) ev_c fun H1 e Q q => .inr ⟨x2, ndx, _, _, rfl, e _ _ hob2, rfl, fun H' e' => q H' e'⟩)) (fun h => by cases h) fun _ H14 e14 => ?_
            have e1114 := (e12.trans e13).trans e14
            have hX14 := hX2.mono (Ex.i e14)
            have hd14 := e1114 _ _ hd11
            have hsm14 := (e311.trans e1114) _ _ hsm3
            have hSsh : ∀ H1, Ex H14 H1 → EvU (tCall (spShape K) [] C8.E0 (tCons (tVar 12) (tCons (tVar 4) tNil))) [some (.ref a), some (.ref ob), some (.ref ev), some (.ref pp), some (.ref sm), some (.int (arrN T0 F : Int)), some (.ref d), some (.ref wt), some (.int ((c3 + 1 : Nat) : Int)), some (.ref x), some (.int (n : Int)), some (.int (g : Int)), some (.ref x2)] H1 (intsV (shapeN (moveT tx f old g (qn (c3 + 1)) n) (S0 T0 F))) := fun H1 e =>
              eu_callA (dvs := []) (ea_cons (ev_var rfl) (ea_cons (ev_var rfl) ea_nil)) (spShape_u (hX14.mono (Ex.i e)) I2.good.sized (e _ _ hsm14) (by omega) (inv_some I2))
            refine s_when (b := !decide (shapeN (moveT tx f old g (qn (c3 + 1)) n) (S0 T0 F) ∈ ks3)) (et_is (et_and (a := true) (et_is (et_test (ev_notN (ev_var rfl))) rfl) fun _ => et_test (ev_notinT (hSsh _ (Evl.Ex.refl _)) (fun _ _ => ev_var rfl) hd14)) (by rw [Bool.true_and])) (fun hb H15 e15 => ?_) fun hb H15 e15 => ?_
            · have hnew : shapeN (moveT tx f old g (qn (c3 + 1)) n) (S0 T0 F) ∉ ks3 := by simpa using hb
              have hd15 := e15 _ _ hd14
              refine q_putT (ev_var rfl) (hSsh _ e15) ev_c hd15 hnew (by omega) fun H16 e16 => ?_
              have hd16 := e16 _ _ hd15
              have e1116 := (e1114.trans e15).trans e16
              have hw17 : (upd H16 d (.dT (kD (ks3 ++ [shapeN (moveT tx f old g (qn (c3 + 1)) n) (S0 T0 F)])))) wt = some (.lst (ws3.map V.ref)) := by rw [upd_ne hdw.symm]; exact e1116 _ _ hw11
              have hwl3 : ws3.length = ts3.length := prT3.len
              refine s_app (l := wt) (xs := ws3.map V.ref) hw17 (ev_var rfl) (ev_var rfl) (by rw [List.length_map]; omega) fun H18 e18 => ?_
              have hw18 := e18 _ _ hw17
              have i1118 : ExI H11 (upd H18 wt (.lst (ws3.map V.ref ++ [V.ref x2]))) := (((Ex.i e1116).trans (ExI.dt hd16)).trans (Ex.i e18)).trans (ExI.lst hw18)
              have i1418 : ExI H14 (upd H18 wt (.lst (ws3.map V.ref ++ [V.ref x2]))) := (((Ex.i (e15.trans e16)).trans (ExI.dt hd16)).trans (Ex.i e18)).trans (ExI.lst hw18)
              have hshok := inv_shape I2 h3
              have nd2 : (ks3 ++ [shapeN (moveT tx f old g (qn (c3 + 1)) n) (S0 T0 F)]).Nodup := List.nodup_append.mpr ⟨bf3.nd, by simp, fun s1 h1 s2 h2 z => by rw [List.mem_singleton.mp h2] at z; exact hnew (z ▸ h1)⟩
              have ok2 : ∀ s ∈ ks3 ++ [shapeN (moveT tx f old g (qn (c3 + 1)) n) (S0 T0 F)], ShOk T0 F s := fun s hs => by
                rcases List.mem_append.mp hs with z | z
                · exact bf3.ok s z
                · rw [List.mem_singleton.mp z]; exact hshok
              have hk27 := ks_len hF3 h3 nd2 ok2
              have sub : ∀ s ∈ ks3, s ∈ ks3 ++ [shapeN (moveT tx f old g (qn (c3 + 1)) n) (S0 T0 F)] := fun s hs => List.mem_append_left _ hs
              refine ⟨ks3 ++ [shapeN (moveT tx f old g (qn (c3 + 1)) n) (S0 T0 F)], ts3 ++ [moveT tx f old g (qn (c3 + 1)) n], ws3 ++ [x2], c3 + 1, _, _, rfl, (((e311.trans e1116).mut hd).trans e18).mut hw, i1011.trans i1118, by rw [upd_ne hdw]; exact e18 _ _ upd_same, by rw [upd_same, List.map_append]; rfl,
                pr_app (prT3.mon fun _ _ q => q.mono i1118) (.cons ⟨t2, as2, hX14.mono i1418⟩ .nil), ⟨nd2, ok2, sub _ bf3.h0, fun t ht => ?_⟩, fun s hs => ?_, Nat.le_trans hc03 (Nat.le_succ _), ?_, ?_, sub _ hsx3, fun i' hi' g' hg' hd' => sub _ (dn3 i' hi' g' hg' hd'), fun g' hg' hd' => ?_⟩
              · rcases List.mem_append.mp ht with z | z
                · exact ⟨inv_mono (bf3.tr t z).1 (Nat.le_succ _), sub _ (bf3.tr t z).2⟩
                · rw [List.mem_singleton.mp z]
                  exact ⟨I2, List.mem_append_right _ (List.mem_singleton.mpr rfl)⟩
              · rcases List.mem_append.mp hs with z | z
                · rcases cl3 s z with q | ⟨t1, h1, q⟩ | q
                  · exact .inl q
                  · exact .inr (.inl ⟨t1, List.mem_append_left _ h1, q⟩)
                  · exact .inr (.inr (q.mono sub))
                · exact .inr (.inl ⟨_, List.mem_append_right _ (List.mem_singleton.mpr rfl), (List.mem_singleton.mp z).symm⟩)
              · simp only [List.length_append, List.length_singleton]
                omega
              · simp only [List.length_append, List.length_singleton] at hk27 ⊢
                omega
              · rw [htk] at hg'
                rcases List.mem_append.mp hg' with z | z
                · exact sub _ (dng g' z hd')
                · rw [List.mem_singleton.mp z, ← hsh]
                  exact List.mem_append_right _ (List.mem_singleton.mpr rfl)
            · have hold : shapeN (moveT tx f old g (qn (c3 + 1)) n) (S0 T0 F) ∈ ks3 := by simpa using hb
              have e1115 := e1114.trans e15
              refine ⟨ks3, ts3, ws3, c3 + 1, _, _, rfl, e311.trans e1115, i1011.trans (Ex.i e1115), e1115 _ _ hd11, e1115 _ _ hw11, prT3.mon fun _ _ q => q.mono (Ex.i e1115), ⟨bf3.nd, bf3.ok, bf3.h0, fun t ht => ⟨inv_mono (bf3.tr t ht).1 (Nat.le_succ _), (bf3.tr t ht).2⟩⟩, cl3, Nat.le_trans hc03 (Nat.le_succ _), by omega, hm3, hsx3, dn3, fun g' hg' hd' => ?_⟩
              rw [htk] at hg'
              rcases List.mem_append.mp hg' with z | z
              · exact dng g' z hd'
              · rw [List.mem_singleton.mp z, ← hsh]
                exact hold
        · rintro σ' H11 ⟨ks3, ts3, ws3, c3, y11, y12, rfl, e311, i1011, hd11, hw11, prT3, bf3, cl3, hc03, hc3, hm3, hsx3, dn3, dng⟩
          refine ⟨ks3, ts3, ws3, c3, _, _, _, rfl, e311, i910.trans i1011, hd11, hw11, prT3, bf3, cl3, hc03, by have e := Nat.add_one_mul i F.length; omega, hm3, hsx3, fun i' hi' g' hg' hd' => ?_⟩
          rw [List.take_length] at dng
          rcases Nat.lt_succ_iff_lt_or_eq.mp hi' with z | rfl
          · exact dn3 i' z g' hg' hd'
          · exact dng g' hg' hd'
      · rintro σ' H10 ⟨ks2, ts2, ws2, c2, y10, y11, y12, rfl, e310, i910, hd10, hw10, prT2, bf2, cl2, hcc, hc2, hm2, hsx2, dn⟩
        have h9 : (S0 T0 F).length * F.length ≤ 9 := Nat.le_trans (Nat.mul_le_mul h3 hF3) (by decide)
        refine ⟨ts2.length + 2 * (27 - ks2.length), ?_, ks2, ts2, ws2, c2, _, _, _, _, rfl, e310, hd10, hw10, prT2, bf2, fun s hs => ?_, by omega, rfl⟩
        · rw [List.length_append, List.length_singleton]
          omega
        · rcases cl2 s hs with rfl | q | q
          · exact .inr fun i hi g hg hd => dn i hi g hg hd
          · exact .inl q
          · exact .inr q
    · have hts : ts = [] := by
        cases ts with
        | nil => rfl
        | cons y r =>
          cases ws with
          | nil => cases hwl
          | cons z q => cases hb
      subst hts
      have hcount := count_ok I0 hF3 h3 bf.nd bf.ok bf.h0 fun s hs => by
        rcases cl s hs with ⟨t1, ht1, _⟩ | q
        · cases ht1
        · exact q
      refine s_ret (v := .bl true) (ev_is (ev_op (ev_cb (z := .int ((ks.length : Nat) : Int)) (ea_cons (ev_var (v := .ref d) rfl) ea_nil) fun H1 e Q q => ⟨d, kD ks, rfl, (e6.trans e) _ _ hd5, by rw [List.length_map]; exact q H1 (Evl.Ex.refl H1)⟩) (ev_var rfl) (rv_eq rfl)) ?_) fun H7 e7 => k H7 (((e03.trans e5).trans e6).trans e7)
      rw [hcount]
      simp
end
end NW
set_option maxHeartbeats 4000000
/-! The source of what is drawn. -/
namespace NW
open PySem PySem.Spec PyProof.Rows L2 Evl
def SrcAt (H : Hp) (a : Addr) : Prop := ∃ x c d : Int, H a = some (.lst [.int x, .int c, .int d])
theorem SrcAt.mono {H H' : Hp} {a : Addr} (e : Ex H H') (h : SrcAt H a) : SrcAt H' a := let ⟨x, c, d, q⟩ := h; ⟨x, c, d, e _ _ q⟩
/-- all stands but the source, which is one still -/
structure Sr (a : Addr) (H H' : Hp) : Prop where
  bt : Bt a H H'
  src : SrcAt H' a
theorem Sr.of {a : Addr} {H H' : Hp} (h : SrcAt H a) (e : Ex H H') : Sr a H H' := ⟨Ex.bt e, h.mono e⟩
theorem Sr.ex {a : Addr} {H H1 H2 : Hp} (s : Sr a H H1) (e : Ex H1 H2) : Sr a H H2 := ⟨s.bt.trans (Ex.bt e), s.src.mono e⟩
theorem Sr.trans {a : Addr} {H H1 H2 : Hp} (s : Sr a H H1) (t : Sr a H1 H2) : Sr a H H2 := ⟨s.bt.trans t.bt, t.src⟩
theorem Sr.pre {a : Addr} {H H1 H2 : Hp} (e : Ex H H1) (t : Sr a H1 H2) : Sr a H H2 := ⟨(Ex.bt e).trans t.bt, t.src⟩
theorem Sr.i {a : Addr} {H H1 : Hp} (h : SrcAt H a) (s : Sr a H H1) : ExI H H1 := s.bt.exI fun u hu => by
  obtain ⟨x, c, d, q⟩ := h
  rw [q] at hu
  cases hu
  exact id
def spMixed : Sp := fun vs H Q _ => ∃ c d : Int, vs = [.int c, .int d] ∧ ∀ (r : Int) H', Ex H H' → Q (.int r) H'
def spSource : Sp := fun vs H Q _ => ∃ c : Int, vs = [.int c] ∧ ∀ p H', H p = none → Ex H H' → H' p = some (.lst [.int c, .int c, .int 0]) → Q (.ref p) H'
def spTake : Sp := fun vs H Q _ => ∃ (a : Addr) (b : Nat), vs = [.ref a, .int (b : Int)] ∧ SrcAt H a ∧ 1 ≤ b ∧ b ≤ 1000000 ∧ ∀ (r : Nat) H', r < b → Sr a H H' → Q (.int (r : Int)) H'
def spPick : Sp := fun vs H Q _ => ∃ (a l : Addr) (xs : List V), vs = [.ref a, .ref l] ∧ SrcAt H a ∧ l ≠ a ∧ H l = some (.lst xs) ∧ xs ≠ [] ∧ xs.length ≤ 1000000 ∧ ∀ x H', x ∈ xs → Sr a H H' → Q x H'
section
variable {K : PySem.W.Frag} {σ : L2.St} {H H' : Hp} {ta tb te : TE} {x y : Int}
abbrev rInt1 : List V → Hp → VK → Prop := fun xs H Q => (∃ i, xs = [.int i] ∧ Q (.int i) H) ∨ ∃ k, xs = [.bl k] ∧ Q (.int (if k then 1 else 0)) H
theorem ev_int1 (h : Ev te σ H (.int x)) : Ev (tCB rInt1 (tCons te tNil)) σ H (.int x) := fun H1 e Q q => h H1 e _ fun H2 e2 => .inl ⟨x, rfl, q H2 e2⟩
theorem rv_mod (h : 0 < y) : RV (rI (fun _ j => 0 < j) fun i j => .int (i % j)) (.int x) (.int y) H (.int (x % y)) := rv_I h
theorem rv_mul (h : CMul x y) : RV (rI CMul fun i j => .int (i * j)) (.int x) (.int y) H (.int (x * y)) := rv_I h
theorem rv_add {a b : Int} : RV (rI0 fun i j => .int (i + j)) (.int a) (.int b) H (.int (a + b)) := rv_I0
theorem rv_div (h : CDiv x y) : RV (rI CDiv fun i j => .int (i / j)) (.int x) (.int y) H (.int (x / y)) := rv_I h
theorem mod_lt64 {m : Int} (h0 : 0 < m) (h : m < 2 ^ 32) : -(2 ^ 64) < x % m ∧ x % m < 2 ^ 64 := by
  have h1 := Int.emod_nonneg x (show m ≠ 0 by omega)
  have h2 := Int.emod_lt_of_pos x h0
  constructor <;> omega
end
section
variable {P : Program} {w : World} {K : PySem.W.Frag} {mg : Str → Option Value} {base : Heap}
theorem sc_law_mixed : FnScope ["_law_cell", "_law_draw", "_law_figure"] ["_law_cell", "_law_draw"] (defScope s_law_mixed) := ⟨rfl, rfl, rfl, by decide +kernel, rfl, by decide +kernel, by decide +kernel⟩
theorem c_law_mixed (T : Txt K mg) : C8.Cal P w K mg base 1 "_law_mixed" spMixed [] := by
  refine cal_of (fd_law_mixed T) (g_law_mixed T) (fun _ _ _ _ _ _ us hl => match us, hl with | [_, _], _ => rfl) sc_law_mixed (fun vs H Q E h => ?_) (fun cdv A outer s H vs Q E hr h => ?_)
  · obtain ⟨_, _, rfl, _⟩ := h; rfl
  · obtain ⟨c, d, rfl, k⟩ := h
    refine ⟨_, (pss_cons (ps_set (i := 2) sc_law_mixed.nd rfl (Or.inl rfl) (pe_op op_mod (pe_callTy call_int1 (by rfl) (f_int T) b_int (pa_cons (pe_op op_mul (pe_op op_add (pe_op op_mod (pe_callTy call_int1 (by rfl) (f_int T) b_int (pa_cons (pv 0) pa_nil)) pe_int) pe_int) (pe_op op_add (pe_op op_mul (pv 1) pe_int) pe_int)) pa_nil)) pe_int))
      (pss_cons (ps_set (i := 2) sc_law_mixed.nd rfl (Or.inl rfl) (pe_op op_mod (pe_callTy call_int1 (by rfl) (f_int T) b_int (pa_cons (pe_op op_mul (pe_op op_add (pv 2) (pe_op op_mul (pe_op op_mod (pe_callTy call_int1 (by rfl) (f_int T) b_int (pa_cons (pe_op op_fdivW (pv 0) pe_int) pa_nil)) pe_int) (pe_op op_add (pv 1) pe_int))) pe_int) pa_nil)) pe_int))
      (pss_cons (ps_set (i := 2) sc_law_mixed.nd rfl (Or.inl rfl) (pe_op op_mod (pe_callTy call_int1 (by rfl) (f_int T) b_int (pa_cons (pe_op op_mul (pv 2) (pe_op op_add (pe_op op_add (pe_op op_fdiv (pv 2) pe_int) pe_int) (pv 1))) pa_nil)) pe_int))
      (pss_one (ps_ret (pe_op op_mod (pe_callTy call_int1 (by rfl) (f_int T) b_int (pa_cons (pe_op op_mul (pv 2) (pe_op op_add (pe_op op_fdiv (pv 2) pe_int) pe_int)) pa_nil)) pe_int)))))), ?_⟩
    have m1 := mod_lt64 (x := c) (m := 2147483646) (by decide) (by decide)
    refine q_asg (ev_op (ev_int1 (ev_op (ev_op (ev_op (ev_int1 (ev_var rfl)) ev_c (rv_mod (by decide))) ev_c rv_add) (ev_op (ev_op (ev_var rfl) ev_c (rv_mul (.inr (by decide)))) ev_c rv_add) (rv_mul (.inl (by
      have h1 := Int.emod_nonneg c (show (2147483646 : Int) ≠ 0 by decide)
      have h2 := Int.emod_lt_of_pos c (show (0 : Int) < 2147483646 by decide)
      constructor <;> omega))))) ev_c (rv_mod (by decide))) fun H1 e1 => ?_
    generalize hx : ((c % 2147483646 + 1) * (d * 7919 + 104729)) % 2147483647 = x
    refine q_asg (ev_op (ev_int1 (ev_op (ev_op (ev_var rfl) (ev_op (ev_op (ev_int1 (ev_op (ev_var rfl) ev_c (rv_I ⟨by decide, by decide +kernel⟩))) ev_c (rv_mod (by decide))) (ev_op (ev_var rfl) ev_c rv_add) (rv_mul (.inl (mod_lt64 (by decide) (by decide))))) rv_add) ev_c (rv_mul (.inr (by decide))))) ev_c (rv_mod (by decide))) fun H2 e2 => ?_
    generalize hy : ((x + c / 2147483646 % 1000003 * (d + 31)) * 48271) % 2147483629 = y
    have my : -(2 ^ 64) < y ∧ y < 2 ^ 64 := by rw [← hy]; exact mod_lt64 (by decide) (by decide)
    refine q_asg (ev_op (ev_int1 (ev_op (ev_var rfl) (ev_op (ev_op (ev_op (ev_var rfl) ev_c (rv_div ⟨by decide, by decide⟩)) ev_c rv_add) (ev_var rfl) rv_add) (rv_mul (.inl my)))) ev_c (rv_mod (by decide))) fun H3 e3 => ?_
    generalize hz : (y * (y / 1013 + 69621 + d)) % 2147483587 = z
    have mz : -(2 ^ 64) < z ∧ z < 2 ^ 64 := by rw [← hz]; exact mod_lt64 (by decide) (by decide)
    exact s_ret (ev_op (ev_int1 (ev_op (ev_var rfl) (ev_op (ev_op (ev_var rfl) ev_c (rv_div ⟨by decide, by decide⟩)) ev_c rv_add) (rv_mul (.inl mz)))) ev_c (rv_mod (by decide))) fun H4 e4 => k _ H4 (((e1.trans e2).trans e3).trans e4)
theorem sc_law_source : FnScope ["_law_cell"] ["_law_cell"] (defScope s_law_source) := ⟨rfl, rfl, rfl, by decide +kernel, rfl, by decide +kernel, by decide +kernel⟩
theorem c_law_source (T : Txt K mg) : C8.Cal P w K mg base 1 "_law_source" spSource [] := by
  refine cal_of (fd_law_source T) (g_law_source T) (fun _ _ _ _ _ _ us hl => match us, hl with | [_], _ => rfl) sc_law_source (fun vs H Q E h => ?_) (fun cdv A outer s H vs Q E hr h => ?_)
  · obtain ⟨_, rfl, _⟩ := h; rfl
  · obtain ⟨c, rfl, k⟩ := h
    refine ⟨_, (pss_one (ps_ret (pe_lst (pa_cons (pv 0) (pa_cons (pv 0) (pa_cons pe_int pa_nil)))))), ?_⟩
    exact s_retL (el_lst (vs := [.int c, .int c, .int 0]) (ea_cons (ev_var rfl) (ea_cons (ev_var rfl) (ea_cons ev_c ea_nil))) (by simp)) k
theorem sc_law_take : FnScope ["_law_source_here", "_law_bound", "_law_drawn"] ["_law_source_here", "_law_bound"] (defScope s_law_take) := ⟨rfl, rfl, rfl, by decide +kernel, rfl, by decide +kernel, by decide +kernel⟩
theorem c_law_take (T : Txt K mg) : C8.Cal P w K mg base 2 "_law_take" spTake [] := by
  refine cal_of (fd_law_take T) (g_law_take T) (fun _ _ _ _ _ _ us hl => match us, hl with | [_, _], _ => rfl) sc_law_take (fun vs H Q E h => ?_) (fun cdv A outer s H vs Q E hr h => ?_)
  · obtain ⟨_, _, rfl, _⟩ := h; rfl
  · obtain ⟨a, b, rfl, ⟨x, c, d, ha⟩, h1, h2, k⟩ := h
    refine ⟨_, (pss_cons (ps_if (pt_cmpR op_ge (pe_ix ix_list (pv 0) pe_int (fun _ _ => rfl)) (pe_op op_pow pe_int pe_int) (nomark _)) (pss_cons (ps_set (i := 2) sc_law_take.nd rfl (Or.inl rfl) (pe_op op_mod (pe_callTy call_int1 (by rfl) (f_int T) b_int (pa_cons (pe_ix ix_list (pv 0) pe_int (fun _ _ => rfl)) pa_nil)) (pv 1)))
      (pss_cons (ps_asg (pe_op op_fdiv (pe_ix ix_list (pv 0) pe_int (fun _ _ => rfl)) (pv 1)) (pg_sub (pv 0) pe_int set_list))
      (pss_one (ps_ret (pv 2))))) pss_nil)
      (pss_cons (ps_asg (pe_op op_add (pe_ix ix_list (pv 0) pe_int (fun _ _ => rfl)) pe_int) (pg_sub (pv 0) pe_int set_list))
      (pss_one (ps_ret (pe_op op_mod (pe_callTy call_int1 (by rfl) (f_int T) b_int (pa_cons (C8.pe_c (c_law_mixed T) hr (by decide) rfl (pa_cons (pe_ix ix_list (pv 0) pe_int (fun _ _ => rfl)) (pa_cons (pe_ix ix_list (pv 0) pe_int (fun _ _ => rfl)) pa_nil))) pa_nil)) (pv 1)))))), ?_⟩
    have hb0 : (0 : Int) < (b : Int) := by omega
    have fin : ∀ y : Int, ∃ r : Nat, r < b ∧ y % (b : Int) = (r : Int) := fun y => by
      have h1 := Int.emod_nonneg y (show (b : Int) ≠ 0 by omega)
      have h2 := Int.emod_lt_of_pos y hb0
      exact ⟨(y % (b : Int)).toNat, by omega, by omega⟩
    refine q_when (et_test (ev_op (ev_op (ev_var rfl) ev_c (rv_ixL (v := .int x) (sq_of ha) at0)) (ev_op ev_c ev_c (rv_I ⟨by decide, by decide, by decide⟩)) rv_I0)) (fun hb H1 e1 => ?_) fun hb H1 e1 => ?_
    · have ha1 := e1 _ _ ha
      refine q_asg (ev_op (ev_int1 (ev_op (ev_var rfl) ev_c (rv_ixL (v := .int x) (sq_of ha1) at0))) (ev_var rfl) (rv_mod hb0)) fun H2 e2 => ?_
      have ha2 := e2 _ _ ha1
      refine q_setL (j := 0) ha2 (ev_op (ev_op (ev_var rfl) ev_c (rv_ixL (v := .int x) (sq_of ha2) at0)) (ev_var rfl) (rv_div ⟨hb0, by omega⟩)) (ev_var rfl) ev_c (by simp) fun H3 e3 => ?_
      obtain ⟨r, hr1, hr2⟩ := fin x
      rw [hr2]
      refine s_ret (ev_var rfl) fun H4 e4 => k r H4 hr1 ⟨((Ex.bt ((e1.trans e2).trans e3)).trans Bt.upd).trans (Ex.bt e4), _, _, _, e4 _ _ upd_same⟩
    · have ha1 := e1 _ _ ha
      refine q_setL (j := 2) ha1 (ev_op (ev_op (ev_var rfl) ev_c (rv_ixL (v := .int d) (sq_of ha1) (atI_nat (j := 2) rfl))) ev_c rv_add) (ev_var rfl) ev_c (by simp) fun H2 e2 => ?_
      have ha2 : (upd H2 a (.lst ([V.int x, V.int c, V.int d].set 2 (.int (d + 1))))) a = some (.lst [.int x, .int c, .int (d + 1)]) := upd_same
      refine s_retP (R := fun v H' => ∃ y : Int, v = .int (y % (b : Int))) (fun H3 e3 Q q => ?_) fun v H3 e3 hv => ?_
      · refine evp_call (dvs := []) (R := fun v _ => ∃ y : Int, v = .int y) (ea_cons (ev_op (ev_var rfl) ev_c (rv_ixL (v := .int c) (sq_of ha2) (atI_nat (j := 1) rfl))) (ea_cons (ev_op (ev_var rfl) ev_c (rv_ixL (v := .int (d + 1)) (sq_of ha2) (atI_nat (j := 2) rfl))) ea_nil)) (fun H4 e4 Q q E => ⟨c, d + 1, rfl, fun r H5 e5 => q _ H5 e5 ⟨r, rfl⟩⟩) H3 e3 _ fun v H4 e4 ⟨y, hy⟩ => ?_
        subst hy
        exact .inl ⟨y, rfl, ev_var (i := 1) (v := .int (b : Int)) rfl H4 (e3.trans e4) _ fun H5 e5 => ⟨y, (b : Int), rfl, rfl, hb0, q _ H5 (e4.trans e5) ⟨y, rfl⟩⟩⟩
      · obtain ⟨y, rfl⟩ := hv
        obtain ⟨r, hr1, hr2⟩ := fin y
        rw [hr2]
        exact k r H3 hr1 ⟨((Ex.bt (e1.trans e2)).trans Bt.upd).trans (Ex.bt e3), _, _, _, e3 _ _ ha2⟩
theorem sc_law_pick : FnScope ["_law_source_here", "_law_options"] ["_law_source_here", "_law_options"] (defScope s_law_pick) := ⟨rfl, rfl, rfl, by decide +kernel, rfl, by decide +kernel, by decide +kernel⟩
theorem c_law_pick (T : Txt K mg) : C8.Cal P w K mg base 3 "_law_pick" spPick [] := by
  refine cal_of (fd_law_pick T) (g_law_pick T) (fun _ _ _ _ _ _ us hl => match us, hl with | [_, _], _ => rfl) sc_law_pick (fun vs H Q E h => ?_) (fun cdv A outer s H vs Q E hr h => ?_)
  · obtain ⟨_, _, _, rfl, _⟩ := h; rfl
  · obtain ⟨a, l, xs, rfl, hs, hla, hl, hne, hz, k⟩ := h
    refine ⟨_, (pss_one (ps_ret (pe_ix ix_list (pv 1) (C8.pe_c (c_law_take T) hr (by decide) rfl (pa_cons (pv 0) (pa_cons (pe_callB call_len_seq (by rfl) (f_len T) b_len (pa_cons (pv 1) pa_nil)) pa_nil))) (fun _ _ => rfl)))), ?_⟩
    have hpos : 0 < xs.length := List.length_pos_iff.mpr hne
    refine go_op (ev_var rfl) fun H1 e1 => ?_
    refine ea_cons (ev_var rfl) (ea_cons (ev_len (ev_var rfl) (sq_of (e1 _ _ hl))) ea_nil) H1 (Evl.Ex.refl H1) _ fun H2 e2 => ?_
    refine ⟨a, xs.length, rfl, (hs.mono e1).mono e2, hpos, by omega, fun r H3 hr3 s3 => ?_⟩
    have hl3 : H3 l = some (.lst xs) := s3.bt _ _ hla ((e1.trans e2) _ _ hl)
    refine ⟨l, xs, (r : Int), xs[r], rfl, rfl, sq_of hl3, atI_nat (List.getElem?_eq_getElem hr3), k _ H3 (List.getElem_mem hr3) (Sr.pre (e1.trans e2) s3)⟩
end
end NW
set_option maxHeartbeats 4000000
/-! The rows that are drawn, in plain Lean. -/
namespace NW
open PySem
def mn (m : Nat) : Str := ("m" : Str) ++ (toString (m : Int) : Str)
def baseN : List Str := ["a", "b", "ab", "abc", "...", "new", "x_1-y"]
def NmOk (b : Nat) (z : Str) : Prop := z ∈ baseN ∨ ∃ m, m < b ∧ z = mn m
theorem NmOk.mono {b b' : Nat} {z : Str} (h : NmOk b z) (hb : b ≤ b') : NmOk b' z := h.imp id fun ⟨m, h1, h2⟩ => ⟨m, Nat.lt_of_lt_of_le h1 hb, h2⟩
theorem mn_facts : (∀ m, m < 80 → mn m ∉ baseN) ∧ (∀ m, m < 80 → ∀ n, n < 80 → mn m = mn n → m = n) := by
  constructor <;> decide +kernel
theorem mn_new {m : Nat} (h : m < 80) : ¬ NmOk m (mn m) := by
  rintro (z | ⟨n, hn, e⟩)
  · exact mn_facts.1 m h z
  · have := mn_facts.2 m h n (Nat.lt_trans hn h) e
    omega
def cntTo (ns : List Nd) (j : Nat) : Nat := (ns.map fun n => (n.es.filter fun e => decide (e.2 = j)).length).sum
def tot (ns : List Nd) : Nat := (ns.map fun n => n.es.length).sum
theorem sum_set {α : Type} (f : α → Nat) : ∀ {l : List α} {i : Nat} {a : α} (b : α), l[i]? = some a → ((l.set i b).map f).sum + f a = (l.map f).sum + f b
  | [], i, a, b, h => by simp at h
  | x :: l, 0, a, b, h => by
    obtain rfl : x = a := Option.some.inj h
    simp only [List.set_cons_zero, List.map_cons, List.sum_cons]
    omega
  | x :: l, i + 1, a, b, h => by
    have ih := sum_set f (l := l) (i := i) b h
    simp only [List.set_cons_succ, List.map_cons, List.sum_cons]
    omega
/-- one more entry in the folder row i -/
def addRow (ns : List Nd) (i : Nat) (nm : Str) (j : Nat) : List Nd := match ns[i]? with
  | some (.fol o es) => ns.set i (.fol o (es ++ [(nm, j)]))
  | _ => ns
theorem addRow_eq {ns : List Nd} {i o : Nat} {es : Ents} (h : ns[i]? = some (.fol o es)) (nm : Str) (j : Nat) : addRow ns i nm j = ns.set i (.fol o (es ++ [(nm, j)])) := by unfold addRow; rw [h]
theorem addRow_cnt {ns : List Nd} {i o : Nat} {es : Ents} (h : ns[i]? = some (.fol o es)) (nm : Str) (j j' : Nat) : cntTo (addRow ns i nm j) j' = cntTo ns j' + if j' = j then 1 else 0 := by
  rw [addRow_eq h]
  have q := sum_set (fun n : Nd => (n.es.filter fun e => decide (e.2 = j')).length) (.fol o (es ++ [(nm, j)])) h
  have e : ((Nd.fol o (es ++ [(nm, j)])).es.filter fun e => decide (e.2 = j')).length = ((Nd.fol o es).es.filter fun e => decide (e.2 = j')).length + if j' = j then 1 else 0 := by
    show ((es ++ [(nm, j)]).filter fun e => decide (e.2 = j')).length = (es.filter fun e => decide (e.2 = j')).length + _
    rw [List.filter_append, List.length_append, List.filter_cons]
    by_cases c : j' = j
    · rw [if_pos (decide_eq_true c.symm), if_pos c]; rfl
    · rw [if_neg (by rw [decide_eq_true_iff]; exact fun z => c z.symm), if_neg c]; rfl
  unfold cntTo
  omega
theorem addRow_tot {ns : List Nd} {i o : Nat} {es : Ents} (h : ns[i]? = some (.fol o es)) (nm : Str) (j : Nat) : tot (addRow ns i nm j) = tot ns + 1 := by
  rw [addRow_eq h]
  have q := sum_set (fun n : Nd => n.es.length) (.fol o (es ++ [(nm, j)])) h
  have e : (Nd.fol o (es ++ [(nm, j)])).es.length = (Nd.fol o es).es.length + 1 := by
    show (es ++ [(nm, j)]).length = es.length + 1
    rw [List.length_append]; rfl
  unfold tot
  omega
theorem addRow_len (ns : List Nd) (i : Nat) (nm : Str) (j : Nat) : (addRow ns i nm j).length = ns.length := by
  unfold addRow
  split
  · rw [List.length_set]
  · rfl
/-- what holds of the rows: the names' bound b, the number t of entries that lead to the last row -/
structure Rows (ns : List Nd) (b t : Nat) : Prop where
  root : ∃ o es, ns[0]? = some (Nd.fol o es)
  fol' : ∀ (i o : Nat) (es : Ents), ns[i]? = some (Nd.fol o es) → NamesOnce es ∧ ∀ e ∈ es, NmOk b e.1 ∧ i < e.2 ∧ e.2 < ns.length ∧ ∀ o' g, ns[e.2]? ≠ some (Nd.gon o' g)
  lnk' : ∀ (i o : Nat) (z : Str), ns[i]? = some (Nd.lnk o z) → z ∈ texts
  gon' : ∀ (i o g : Nat), ns[i]? = some (Nd.gon o g) → g < i ∧ ((∃ o' es, ns[g]? = some (Nd.fol o' es)) ∨ ∃ o' g', ns[g]? = some (Nd.gon o' g'))
  one : ∀ j : Nat, 1 ≤ j → j + 1 < ns.length → (∃ o es, ns[j]? = some (Nd.fol o es)) → cntTo ns j = 1
  last : 1 < ns.length → cntTo ns (ns.length - 1) = t
  tz : ns.length = 1 → t = 0
  sz : tot ns ≤ t + 2 * (ns.length - 2)
theorem Rows.cnt_high {ns : List Nd} {b t j : Nat} (R : Rows ns b t) (h : ns.length ≤ j) : cntTo ns j = 0 := by
  unfold cntTo
  rw [List.sum_eq_zero_iff_forall_eq_nat]
  intro x hx
  obtain ⟨n, hn, rfl⟩ := List.mem_map.mp hx
  obtain ⟨i, hi⟩ := List.getElem?_of_mem hn
  rw [List.length_eq_zero_iff, List.filter_eq_nil_iff]
  intro e he z
  have z : e.2 = j := of_decide_eq_true z
  cases n with
  | fol o es =>
    have := ((R.fol' i o es hi).2 e he).2.2.1
    omega
  | _ => cases he
/-- the last row has its entries -/
def LastOk (ns : List Nd) (t : Nat) : Prop := t ≤ 2 ∧ ((∃ o es, ns[ns.length - 1]? = some (Nd.fol o es)) → 1 < ns.length → t = 1)
theorem Rows.pos {ns : List Nd} {b t : Nat} (R : Rows ns b t) : 0 < ns.length := by
  obtain ⟨o, es, h⟩ := R.root
  exact (List.getElem?_eq_some_iff.mp h).1
theorem cntTo_app (ns : List Nd) (n : Nd) (j : Nat) : cntTo (ns ++ [n]) j = cntTo ns j + (n.es.filter fun e => decide (e.2 = j)).length := by
  unfold cntTo
  rw [List.map_append, List.sum_append]
  simp
theorem tot_app (ns : List Nd) (n : Nd) : tot (ns ++ [n]) = tot ns + n.es.length := by
  unfold tot
  rw [List.map_append, List.sum_append]
  simp
theorem get_app {α : Type} {ns : List α} {n x : α} {i : Nat} (h : (ns ++ [n])[i]? = some x) : ns[i]? = some x ∨ (i = ns.length ∧ x = n) := by
  by_cases c : i < ns.length
  · rw [List.getElem?_append_left c] at h
    exact .inl h
  · have hl := (List.getElem?_eq_some_iff.mp h).1
    rw [List.length_append, List.length_singleton] at hl
    have e : i = ns.length := by omega
    subst e
    rw [List.getElem?_append_right (Nat.le_refl _), Nat.sub_self] at h
    exact .inr ⟨rfl, (Option.some.inj h).symm⟩
theorem get_app' {α : Type} {ns : List α} {n x : α} {i : Nat} (h : ns[i]? = some x) : (ns ++ [n])[i]? = some x := by
  rw [List.getElem?_append_left (List.getElem?_eq_some_iff.mp h).1]
  exact h
/-- a new row -/
theorem Rows.app {ns : List Nd} {b t : Nat} (R : Rows ns b t) (L : LastOk ns t) {n : Nd} (he : n.es = []) (hl : ∀ o z, n = Nd.lnk o z → z ∈ texts)
    (hg : ∀ o g, n = Nd.gon o g → g < ns.length ∧ ((∃ o' es, ns[g]? = some (Nd.fol o' es)) ∨ ∃ o' g', ns[g]? = some (Nd.gon o' g'))) : Rows (ns ++ [n]) b 0 := by
  have hp := R.pos
  refine ⟨?_, fun i o es h => ?_, fun i o z h => ?_, fun i o g h => ?_, fun j h1 h2 h3 => ?_, fun _ => ?_, fun _ => rfl, ?_⟩
  · obtain ⟨o, es, h⟩ := R.root
    exact ⟨o, es, get_app' h⟩
  · rcases get_app h with h | ⟨_, h⟩
    · obtain ⟨q1, q2⟩ := R.fol' i o es h
      refine ⟨q1, fun e he => ?_⟩
      obtain ⟨z1, z2, z3, z4⟩ := q2 e he
      refine ⟨z1, z2, by rw [List.length_append]; omega, fun o' g hh => ?_⟩
      rw [List.getElem?_append_left z3] at hh
      exact z4 o' g hh
    · rw [← h] at he
      have he : es = [] := he
      subst he
      exact ⟨List.nodup_nil, fun e he => by cases he⟩
  · rcases get_app h with h | ⟨_, h⟩
    · exact R.lnk' i o z h
    · exact hl o z h.symm
  · rcases get_app h with h | ⟨e, h⟩
    · obtain ⟨q1, q2⟩ := R.gon' i o g h
      exact ⟨q1, q2.imp (fun ⟨o', es, z⟩ => ⟨o', es, get_app' z⟩) fun ⟨o', g', z⟩ => ⟨o', g', get_app' z⟩⟩
    · obtain ⟨q1, q2⟩ := hg o g h.symm
      exact ⟨by omega, q2.imp (fun ⟨o', es, z⟩ => ⟨o', es, get_app' z⟩) fun ⟨o', g', z⟩ => ⟨o', g', get_app' z⟩⟩
  · rw [List.length_append, List.length_singleton] at h2
    obtain ⟨o, es, h3⟩ := h3
    rw [List.getElem?_append_left (by omega)] at h3
    rw [cntTo_app, he]
    show cntTo ns j + 0 = 1
    by_cases c : j + 1 < ns.length
    · rw [R.one j h1 c ⟨o, es, h3⟩]
    · have e : j = ns.length - 1 := by omega
      have hl1 : 1 < ns.length := by omega
      subst e
      rw [R.last hl1, L.2 ⟨o, es, h3⟩ hl1]
  · rw [List.length_append, List.length_singleton, Nat.add_sub_cancel, cntTo_app, he, R.cnt_high (Nat.le_refl _)]
    rfl
  · rw [tot_app, he, List.length_append, List.length_singleton]
    have h1 := R.sz
    have h2 := L.1
    show tot ns + 0 ≤ _
    by_cases c : ns.length = 1
    · have := R.tz c
      omega
    · omega
/-- one more entry that leads to the last row -/
theorem Rows.add {ns : List Nd} {b b' t i o : Nat} {es : Ents} {nm : Str} (R : Rows ns b t) (hb : b ≤ b') (hi : ns[i]? = some (Nd.fol o es)) (hl : i + 1 < ns.length) (hn : ∀ e ∈ es, e.1 ≠ nm) (ok : NmOk b' nm) (hg : ∀ o' g, ns[ns.length - 1]? ≠ some (Nd.gon o' g)) :
    Rows (addRow ns i nm (ns.length - 1)) b' (t + 1) := by
  have hlen := addRow_len ns i nm (ns.length - 1)
  have hget : ∀ j, (addRow ns i nm (ns.length - 1))[j]? = if j = i then some (Nd.fol o (es ++ [(nm, ns.length - 1)])) else ns[j]? := fun j => by
    rw [addRow_eq hi]
    by_cases c : j = i
    · subst c
      rw [if_pos rfl, List.getElem?_set_self (by omega)]
    · rw [if_neg c, List.getElem?_set_ne (fun z => c z.symm)]
  have isfol : ∀ j : Nat, (∃ o es, (addRow ns i nm (ns.length - 1))[j]? = some (Nd.fol o es)) → ∃ o es, ns[j]? = some (Nd.fol o es) := by
    rintro j ⟨o', es', h⟩
    rw [hget] at h
    by_cases c : j = i
    · subst c; exact ⟨o, es, hi⟩
    · rw [if_neg c] at h; exact ⟨o', es', h⟩
  have tofol : ∀ j : Nat, (∃ o es, ns[j]? = some (Nd.fol o es)) → ∃ o es, (addRow ns i nm (ns.length - 1))[j]? = some (Nd.fol o es) := by
    rintro j ⟨o', es', h⟩
    rw [hget]
    by_cases c : j = i
    · rw [if_pos c]; exact ⟨_, _, rfl⟩
    · rw [if_neg c]; exact ⟨o', es', h⟩
  have nogon : ∀ j o' g, (addRow ns i nm (ns.length - 1))[j]? = some (Nd.gon o' g) → ns[j]? = some (Nd.gon o' g) := fun j o' g h => by
    rw [hget] at h
    by_cases c : j = i
    · rw [if_pos c] at h; cases h
    · rw [if_neg c] at h; exact h
  refine ⟨tofol 0 R.root, fun j o' es' h => ?_, fun j o' z h => ?_, fun j o' g h => ?_, fun j h1 h2 h3 => ?_, fun h => ?_, fun h => by rw [hlen] at h; omega, ?_⟩
  · rw [hget] at h
    by_cases c : j = i
    · rw [if_pos c] at h
      obtain ⟨rfl, rfl⟩ := Nd.fol.inj (Option.some.inj h)
      obtain ⟨q1, q2⟩ := R.fol' i _ _ hi
      refine ⟨add_once q1 hn, fun e he => ?_⟩
      rw [hlen, c]
      rcases List.mem_append.mp he with z | z
      · obtain ⟨z1, z2, z3, z4⟩ := q2 e z
        exact ⟨z1.mono hb, z2, z3, fun o' g hh => z4 o' g (nogon _ _ _ hh)⟩
      · rw [List.mem_singleton.mp z]
        exact ⟨ok, by show i < ns.length - 1; omega, by show ns.length - 1 < ns.length; omega, fun o' g hh => hg o' g (nogon _ _ _ hh)⟩
    · rw [if_neg c] at h
      obtain ⟨q1, q2⟩ := R.fol' j _ _ h
      refine ⟨q1, fun e he => ?_⟩
      obtain ⟨z1, z2, z3, z4⟩ := q2 e he
      rw [hlen]
      exact ⟨z1.mono hb, z2, z3, fun o' g hh => z4 o' g (nogon _ _ _ hh)⟩
  · rw [hget] at h
    by_cases c : j = i
    · rw [if_pos c] at h; cases h
    · rw [if_neg c] at h; exact R.lnk' j o' z h
  · obtain ⟨q1, q2⟩ := R.gon' j o' g (nogon _ _ _ h)
    refine ⟨q1, q2.imp (tofol g) fun ⟨o2, g2, z⟩ => ⟨o2, g2, ?_⟩⟩
    rw [hget]
    by_cases c : g = i
    · rw [c, hi] at z; cases z
    · rw [if_neg c]; exact z
  · rw [hlen] at h2
    rw [addRow_cnt hi, if_neg (by omega), Nat.add_zero]
    exact R.one j h1 h2 (isfol j h3)
  · rw [hlen] at h ⊢
    rw [addRow_cnt hi, if_pos rfl, R.last h]
  · rw [hlen, addRow_tot hi]
    have := R.sz
    omega
end NW
set_option maxHeartbeats 4000000
/-! list(zip(a, b)). -/
namespace NW
open PySem PySem.Spec PyProof.Rows L2
theorem zip_no_len : typeLookup (.type "zip") "__len__" = pure none := by rw [typeLookup_type, builtinLookup_eq_fast]; kernel_rfl
theorem zip_no_hint : typeLookup (.type "zip") "__length_hint__" = pure none := by rw [typeLookup_type, builtinLookup_eq_fast]; kernel_rfl
/-- a zip of two lists that is walked, i turns done, none of it at S -/
structure ZSt (h : Heap) (z TI TO i1 i2 l1 l2 S : Addr) (xs ys : Array Value) (i : Nat) : Prop where
  ti : PySem.IsPair h TI (.ref i1) (.ref i2)
  h1 : h.IsListIter i1 l1 i
  h2 : h.IsListIter i2 l2 i
  l1 : h.IsList l1 xs
  l2 : h.IsList l2 ys
  st : (IsZip h z TI TO .none ∧ ∃ a b, PySem.IsPair h TO a b) ∨ ∃ T f oT, IsZipHeld h z TI TO T f ∧ h.get? T = some oT ∧ T ≠ z ∧ T ≠ i1 ∧ T ≠ i2 ∧ T ≠ S
theorem ZSt.keep {h h' : Heap} {z TI TO i1 i2 l1 l2 S : Addr} {xs ys : Array Value} {i : Nat} (q : ZSt h z TI TO i1 i2 l1 l2 S xs ys i) (hS : z ≠ S ∧ TI ≠ S ∧ TO ≠ S ∧ i1 ≠ S ∧ i2 ≠ S ∧ l1 ≠ S ∧ l2 ≠ S) (k : ∀ b o, b ≠ S → h.get? b = some o → h'.get? b = some o) : ZSt h' z TI TO i1 i2 l1 l2 S xs ys i := by
  obtain ⟨s1, s2, s3, s4, s5, s6, s7⟩ := hS
  refine ⟨k _ _ s2 q.ti, q.h1.at fun o e => k _ o s4 e, q.h2.at fun o e => k _ o s5 e, q.l1.at fun o e => k _ o s6 e, q.l2.at fun o e => k _ o s7 e, ?_⟩
  rcases q.st with ⟨hz, a, b, hTO⟩ | ⟨T, f, oT, hz, hT, r1, r2, r3, r4⟩
  · exact .inl ⟨k _ _ s1 hz, a, b, k _ _ s3 hTO⟩
  · exact .inr ⟨T, f, oT, k _ _ s1 hz, k _ _ r4 hT, r1, r2, r3, r4⟩
section
variable {prog : Program} {w : World} {A : Around} {E : Value → Shared → Prop} {s : Shared} {z TI TO i1 i2 l1 l2 S : Addr} {xs ys : Array Value} {i : Nat}
theorem z_item {Q : Option Value → Shared → Prop} (D : ZipApart z TI TO i1 i2 l1 l2) (q : ZSt s.heap z TI TO i1 i2 l1 l2 S xs ys i) (hS : S < s.heap.objs.size) {x y : Value} (hx : xs[i]? = some x) (hy : ys[i]? = some y)
    (hQ : ∀ h', ZSt h' z TI TO i1 i2 l1 l2 S xs ys (i + 1) → PySem.IsPair h' s.heap.objs.size x y → h'.objs.size = s.heap.objs.size + 1 → (∀ c o, c ≠ z → c ≠ TO → c ≠ i1 → c ≠ i2 → s.heap.get? c = some o → h'.get? c = some o) → Q (some (.ref s.heap.objs.size)) { s with heap := h' }) :
    wpAny (model prog w) A (pyNext (.ref z)) Q E s := by
  have lt : ∀ {c o}, s.heap.get? c = some o → s.heap.objs.size ≠ c := fun e => Nat.ne_of_gt (Heap.lt_size e)
  have n1 : s.heap.objs.size ≠ i1 := let ⟨_, e, _⟩ := q.h1; lt e
  have n2 : s.heap.objs.size ≠ i2 := let ⟨_, e, _⟩ := q.h2; lt e
  rcases q.st with ⟨hz, a, b, hTO⟩ | ⟨T, f, oT, hz, hT, r1, r2, r3, r4⟩
  · refine wpAny_pyNext_zip_item D hz q.ti hTO q.h1 q.h2 q.l1 q.l2 hx hy fun h' a1 a2 a3 a4 a5 a6 hk => ?_
    exact hQ h' ⟨hk _ _ D.TIz D.TITO D.TIi1 D.TIi2 q.ti, a3, a4, q.l1.at fun o e => hk _ o D.l1z D.l1TO D.l1i1 D.l1i2 e, q.l2.at fun o e => hk _ o D.l2z D.l2TO D.l2i1 D.l2i2 e,
      .inr ⟨s.heap.objs.size, false, _, a1, a5, lt hz, n1, n2, Nat.ne_of_gt hS⟩⟩ a5 a6 hk
  · refine wpAny_pyNext_zip_item_held D hz hT q.ti q.h1 q.h2 q.l1 q.l2 hx hy fun h' a1 a3 a4 a5 a6 hk => ?_
    exact hQ h' ⟨hk _ _ D.TIz D.TIi1 D.TIi2 q.ti, a3, a4, q.l1.at fun o e => hk _ o D.l1z D.l1i1 D.l1i2 e, q.l2.at fun o e => hk _ o D.l2z D.l2i1 D.l2i2 e,
      .inr ⟨T, true, oT, a1, hk _ _ r1 r2 r3 hT, r1, r2, r3, r4⟩⟩ a5 a6 fun c o c1 _ c3 c4 e => hk c o c1 c3 c4 e
theorem z_done {Q : Option Value → Shared → Prop} (hh : A.handled = none) (D : ZipApart z TI TO i1 i2 l1 l2) (q : ZSt s.heap z TI TO i1 i2 l1 l2 S xs ys i) (hx : xs[i]? = none)
    (hQ : ∀ h', (∀ c o, c ≠ z → c ≠ TO → c ≠ i1 → c ≠ i2 → s.heap.get? c = some o → h'.get? c = some o) → Q none { s with heap := h' }) : wpAny (model prog w) A (pyNext (.ref z)) Q E s := by
  rcases q.st with ⟨hz, a, b, hTO⟩ | ⟨T, f, oT, hz, hT, r1, r2, r3, r4⟩
  · exact wpAny_pyNext_zip_end hh D hz q.ti hTO q.h1 q.h2 q.l1 q.l2 (.inl hx) hQ
  · exact wpAny_pyNext_zip_end_held hh D hz hT q.ti q.h1 q.h2 q.l1 q.l2 (.inl hx) fun h' hk => hQ h' fun c o c1 _ c3 c4 e => hk c o c1 c3 c4 e
end
/-- the pairs made -/
structure ZG (xs ys : Array Value) (lo : Addr) (h : Heap) (as : List Addr) : Prop where
  rise : as.Pairwise (· < ·)
  above : ∀ a ∈ as, lo < a
  pairs : ∀ (j : Nat) (a : Addr), as[j]? = some a → ∃ x y, xs[j]? = some x ∧ ys[j]? = some y ∧ PySem.IsPair h a x y
theorem ZG.there {xs ys : Array Value} {lo : Addr} {h : Heap} {as : List Addr} (g : ZG xs ys lo h as) {a : Addr} (ha : a ∈ as) : a < h.objs.size := by
  obtain ⟨j, hj⟩ := List.mem_iff_getElem?.mp ha
  obtain ⟨_, _, _, _, e⟩ := g.pairs j a hj
  exact Heap.lt_size e
section
variable {prog : Program} {w : World} {A : Around} {s : Shared} {R : Result → Shared → Prop} {z TI TO i1 i2 l1 l2 S : Addr} {xs ys : Array Value}
theorem z_loop (hh : A.handled = none) (D : ZipApart z TI TO i1 i2 l1 l2) (hS : z ≠ S ∧ TI ≠ S ∧ TO ≠ S ∧ i1 ≠ S ∧ i2 ≠ S ∧ l1 ≠ S ∧ l2 ≠ S) (lS : z < S ∧ TO < S ∧ i1 < S ∧ i2 < S) (hxy : xs.size = ys.size) (hn : xs.size ≤ sizeLine) (res : Value) {h₁ : Heap}
    (hR : ∀ h' tk acc c as, (∀ b o, b ≠ S → b ≠ z → b ≠ TO → b ≠ i1 → b ≠ i2 → h₁.get? b = some o → h'.get? b = some o) → h'.get? S = some { cls := .type "list", dict := none, data := .seq acc c, slots := #[] } → as.length = xs.size → ZG xs ys S h' as →
      acc.toList = as.map Value.ref → R (.ok (.ret res)) { s with heap := h', toks := tk }) :
    ∀ (k i : Nat) (h : Heap) (tk c : Nat) (acc : Array Value) (as : List Addr), xs.size - i = k → i ≤ xs.size → ZSt h z TI TO i1 i2 l1 l2 S xs ys i → (∀ b o, b ≠ S → b ≠ z → b ≠ TO → b ≠ i1 → b ≠ i2 → h₁.get? b = some o → h.get? b = some o) →
      h.get? S = some { cls := .type "list", dict := none, data := .seq acc c, slots := #[] } → acc.toList = as.map Value.ref → as.length = i → ZG xs ys S h as →
      codeAny (model prog w) A (.builtin "list.extend.loop" ⟨[.ref S, .ref z, res], []⟩) R { s with heap := h, toks := tk } := by
  obtain ⟨s1, s2, s3, s4, s5, s6, s7⟩ := id hS
  obtain ⟨t1, t2, t3, t4⟩ := lS
  intro k
  induction k with
  | zero =>
    intro i h tk c acc as hk hi hst hkeep hSl hacc hal hG
    refine codeAny_builtin PySem.F.entry_extend_loop ?_
    rw [Around.under_plainId PySem.F.plain_extend_loop _]
    show wpAny _ A.in1 (pyNext (.ref z) >>= _) _ _ _
    refine wpAny_bind (z_done (s := { s with heap := h, toks := tk }) (A := A.in1) hh D hst (Array.getElem?_eq_none (by omega)) fun h' he => ?_)
    refine wpAny_pure (hR h' tk acc c as (fun b o h1 h2 h3 h4 h5 e => he b o h2 h3 h4 h5 (hkeep b o h1 h2 h3 h4 h5 e)) (he S _ s1.symm s3.symm s4.symm s5.symm hSl) (by omega) ⟨hG.rise, hG.above, fun j a hj => ?_⟩ hacc)
    obtain ⟨x, y, e1, e2, e3⟩ := hG.pairs j a hj
    have ha := hG.above a (List.mem_of_getElem? hj)
    exact ⟨x, y, e1, e2, he a _ (Nat.ne_of_gt (Nat.lt_trans t1 ha)) (Nat.ne_of_gt (Nat.lt_trans t2 ha)) (Nat.ne_of_gt (Nat.lt_trans t3 ha)) (Nat.ne_of_gt (Nat.lt_trans t4 ha)) e3⟩
  | succ k ih =>
    intro i h tk c acc as hk hi hst hkeep hSl hacc hal hG
    have hlt : i < xs.size := by omega
    have hlt2 : i < ys.size := by omega
    have hsz : acc.size = i := by rw [← Array.length_toList, hacc, List.length_map, hal]
    have hSlt : S < h.objs.size := Heap.lt_size hSl
    refine codeAny_builtin PySem.F.entry_extend_loop ?_
    rw [Around.under_plainId PySem.F.plain_extend_loop _]
    show wpAny _ A.in1 (pyNext (.ref z) >>= _) _ _ _
    refine wpAny_bind (z_item (s := { s with heap := h, toks := tk }) D hst hSlt (Array.getElem?_eq_getElem hlt) (Array.getElem?_eq_getElem hlt2) fun h' hst' ht hz hkp => ?_)
    dsimp only at ht hz hkp ⊢
    have hS' := hkp S _ s1.symm s3.symm s4.symm s5.symm hSl
    have up : ∀ b o, b ≠ S → h'.get? b = some o → (h'.update S (Obj.mapSeq (·.push (Value.ref h.objs.size)))).get? b = some o := fun b o hb e => (Heap.get?_update_other _ _ (Ne.symm hb)).trans e
    show wpAny _ A.in1 (updateSeq S (·.push (Value.ref h.objs.size)) >>= _) _ _ _
    refine wpAny_bind ?_
    refine wpAny_updateSeq hS' rfl (wpAny_pure ⟨plainId_quiet PySem.F.plain_extend_loop _, ih (i + 1) _ tk _ (acc.push (Value.ref h.objs.size)) (as ++ [h.objs.size]) (by omega) hlt (hst'.keep hS up)
      (fun b o h1 h2 h3 h4 h5 e => up b o h1 (hkp b o h2 h3 h4 h5 (hkeep b o h1 h2 h3 h4 h5 e))) (Heap.get?_update_self _ hS' rfl) (by rw [Array.toList_push, hacc, List.map_append]; rfl) (by rw [List.length_append, hal]; rfl) ⟨?_, ?_, ?_⟩⟩) (by rw [hsz]; omega) (by show (acc.push (Value.ref h.objs.size)).size ≤ sizeLine + 1; rw [Array.size_push, hsz]; omega)
    · refine List.pairwise_append.mpr ⟨hG.rise, List.pairwise_singleton _ _, fun a ha b hb => ?_⟩
      rw [List.mem_singleton.mp hb]
      exact hG.there ha
    · intro a ha
      rcases List.mem_append.mp ha with ha | ha
      · exact hG.above a ha
      · rw [List.mem_singleton.mp ha]; exact hSlt
    · intro j b hj
      rcases Nat.lt_trichotomy j as.length with h1 | h1 | h1
      · rw [List.getElem?_append_left h1] at hj
        obtain ⟨x', y', e1, e2, e3⟩ := hG.pairs j b hj
        have hb := hG.above b (List.mem_of_getElem? hj)
        exact ⟨x', y', e1, e2, up b _ (Nat.ne_of_gt hb) (hkp b _ (Nat.ne_of_gt (Nat.lt_trans t1 hb)) (Nat.ne_of_gt (Nat.lt_trans t2 hb)) (Nat.ne_of_gt (Nat.lt_trans t3 hb)) (Nat.ne_of_gt (Nat.lt_trans t4 hb)) e3)⟩
      · subst h1
        have hb : h.objs.size = b := by simpa using hj
        subst hb
        exact ⟨_, _, by rw [hal]; exact Array.getElem?_eq_getElem hlt, by rw [hal]; exact Array.getElem?_eq_getElem hlt2, up _ _ (Nat.ne_of_gt hSlt) ht⟩
      · have hnone : (as ++ [h.objs.size])[j]? = none := List.getElem?_eq_none (by rw [List.length_append, List.length_singleton]; omega)
        rw [hnone] at hj; cases hj
theorem z_hint {E : Value → Shared → Prop} (hT : s.TypeIs (.ref z) "zip") {Q : Bool → Shared → Prop} (h : Q true s) : wpAny (model prog w) A (Builtin.List.listLengthHint (.ref z)) Q E s := by
  unfold Builtin.List.listLengthHint
  refine wpAny_bind (wpAny_specialOf hT zip_no_len ?_)
  show wpAny _ A (specialOf (Value.ref z) (Str.ofString "__length_hint__") >>= _) _ _ _
  refine wpAny_bind (wpAny_specialOf hT zip_no_hint ?_)
  exact wpAny_pure h
theorem z_extend (hh : A.handled = none) (D : ZipApart z TI TO i1 i2 l1 l2) (hS : z ≠ S ∧ TI ≠ S ∧ TO ≠ S ∧ i1 ≠ S ∧ i2 ≠ S ∧ l1 ≠ S ∧ l2 ≠ S) (lS : z < S ∧ TO < S ∧ i1 < S ∧ i2 < S) (hxy : xs.size = ys.size) (hn : xs.size ≤ sizeLine) (res : Value) (c₀ : Nat)
    (hz : IsZip s.heap z TI TO .none) (hst : ZSt s.heap z TI TO i1 i2 l1 l2 S xs ys 0) (hSl : s.heap.get? S = some { cls := .type "list", data := .seq #[] c₀ })
    (hR : ∀ h' tk acc c as, (∀ b o, b ≠ S → b ≠ z → b ≠ TO → b ≠ i1 → b ≠ i2 → s.heap.get? b = some o → h'.get? b = some o) → h'.get? S = some { cls := .type "list", dict := none, data := .seq acc c, slots := #[] } → as.length = xs.size → ZG xs ys S h' as →
      acc.toList = as.map Value.ref → R (.ok (.ret res)) { s with heap := h', toks := tk }) :
    wpAny (model prog w) A.in1 (Builtin.List.listExtendWith (.ref S) (.ref z) res)
      (fun fin s' => match fin with | .done f => R (.ok f) s' | .again c' => c'.quiet = true ∧ codeAny (model prog w) A c' R s') (fun e s' => R (.error e) s') s := by
  have hT : s.TypeIs (.ref z) "zip" := ⟨_, hz, rfl⟩
  unfold Builtin.List.listExtendWith
  refine wpAny_bind (wpAny_typeOf (T := "zip") hT ?_)
  have h1 : Builtin.List.listSameRef (.ref S) (.ref z) = false := by simp [Builtin.List.listSameRef, hS.1.symm]
  have h2 : (Value.type "zip" == Value.type "list") = false := by decide
  have h3 : (Value.type "zip" == Value.type "tuple") = false := by decide
  simp only [h1, h2, h3, Bool.or_false, Bool.false_eq_true, if_false]
  refine wpAny_bind (wpAny_pyIter_zip hz ?_)
  refine wpAny_bind (wpAny_holding (z_hint hT ?_))
  have key : ∀ (h : Heap) (c₁ tk : Nat), (∀ b o, b ≠ S → s.heap.get? b = some o → h.get? b = some o) → h.get? S = some { cls := .type "list", data := .seq #[] c₁ } → codeAny (model prog w) A (.builtin "list.extend.loop" ⟨[.ref S, .ref z, res], []⟩) R { s with heap := h, toks := tk } := by
    intro h c₁ tk hk hS₁
    exact z_loop (s := s) (h₁ := s.heap) hh D hS lS hxy hn res hR xs.size 0 h tk c₁ #[] [] (Nat.sub_zero _) (Nat.zero_le _) (hst.keep hS hk) (fun b o hb _ _ _ _ e => hk b o hb e) hS₁ rfl rfl ⟨List.Pairwise.nil, (fun _ ha => nomatch ha), (fun j a hj => by simp at hj)⟩
  refine wpAny_ite_split (fun _ => ?_) (fun _ => wpAny_pure ⟨plainId_quiet PySem.F.plain_extend_loop _, key _ c₀ _ (fun b o _ e => e) hSl⟩)
  refine wpAny_bind (wpAny_rule ?_)
  refine wpAny_bind ?_
  show wpAny _ _ (updateSeq S (·.push .none) >>= fun _ => updateSeq S (·.pop)) _ _ _
  refine wpAny_bind (wpAny_updateSeq hSl rfl ?_)
  have hS₂ := Heap.get?_update_self (Obj.mapSeq (·.push Value.none)) hSl rfl
  refine wpAny_updateSeq (hz := by seq_fits) hS₂ rfl ?_
  have hS₃ := Heap.get?_update_self (Obj.mapSeq (·.pop)) hS₂ rfl
  refine wpAny_pure ⟨plainId_quiet PySem.F.plain_extend_loop _, key _ _ _ (fun b o hb e => ?_) hS₃⟩
  exact (Heap.get?_update_other _ _ (Ne.symm hb)).trans ((Heap.get?_update_other _ _ (Ne.symm hb)).trans e)
theorem z_init (hh : A.handled = none) (D : ZipApart z TI TO i1 i2 l1 l2) (hS : z ≠ S ∧ TI ≠ S ∧ TO ≠ S ∧ i1 ≠ S ∧ i2 ≠ S ∧ l1 ≠ S ∧ l2 ≠ S) (lS : z < S ∧ TO < S ∧ i1 < S ∧ i2 < S) (hxy : xs.size = ys.size) (hn : xs.size ≤ sizeLine)
    (hz : IsZip s.heap z TI TO .none) (hst : ZSt s.heap z TI TO i1 i2 l1 l2 S xs ys 0) (hSl : s.heap.get? S = some { cls := .type "list", data := .seq #[] })
    (hR : ∀ h' tk acc c as, (∀ b o, b ≠ S → b ≠ z → b ≠ TO → b ≠ i1 → b ≠ i2 → s.heap.get? b = some o → h'.get? b = some o) → h'.get? S = some { cls := .type "list", dict := none, data := .seq acc c, slots := #[] } → as.length = xs.size → ZG xs ys S h' as →
      acc.toList = as.map Value.ref → R (.ok (.ret .none)) { s with heap := h', toks := tk }) :
    wpAny (model prog w) A.in1 (Builtin.«list.__init__» ⟨[.ref S, .ref z], []⟩)
      (fun fin s' => match fin with | .done f => R (.ok f) s' | .again c' => c'.quiet = true ∧ codeAny (model prog w) A c' R s') (fun e s' => R (.error e) s') s := by
  show wpAny _ _ (do let old ← Builtin.List.listItems (.ref S); Builtin.List.listUpdate (.ref S) (fun _ => #[]); letGo old.toList.reverse; Builtin.List.listExtendWith (.ref S) (.ref z) .none) _ _ s
  refine wpAny_bind ?_
  unfold Builtin.List.listItems
  refine wpAny_bind (wpAny_seqItems hSl rfl (wpAny_pure ?_))
  show wpAny _ _ (updateSeq S (fun _ => #[]) >>= fun _ => letGo (#[] : Array Value).toList.reverse >>= fun _ => Builtin.List.listExtendWith (.ref S) (.ref z) .none) _ _ s
  refine wpAny_bind (wpAny_updateSeq hSl rfl ?_)
  have hS₂ := Heap.get?_update_self (Obj.mapSeq (fun _ => (#[] : Array Value))) hSl rfl
  have oth : ∀ b o, b ≠ S → s.heap.get? b = some o → (s.heap.update S (Obj.mapSeq (fun _ => (#[] : Array Value)))).get? b = some o :=
    fun b o hb e => (Heap.get?_update_other _ _ (Ne.symm hb)).trans e
  refine wpAny_bind (wpAny_letGo ?_)
  exact z_extend hh D hS lS hxy hn .none _ (oth _ _ hS.1 hz) (hst.keep hS oth) hS₂ fun h' tk acc c as hk hS' hl hG hacc =>
    hR h' tk acc c as (fun b o hb h2 h3 h4 h5 e => hk b o hb h2 h3 h4 h5 (oth b o hb e)) hS' hl hG hacc
/-- list(zip(a, b)), the zip just made -/
theorem z_call {E : Value → Shared → Prop} {Q : Value → Shared → Prop} (hh : A.handled = none) (l1s : l1 < s.heap.objs.size) (l2s : l2 < s.heap.objs.size) (h1 : s.heap.IsList l1 xs) (h2 : s.heap.IsList l2 ys) (hxy : xs.size = ys.size) (hn : xs.size ≤ sizeLine)
    (hQ : ∀ h' tk acc c as, (∀ b o, s.heap.get? b = some o → h'.get? b = some o) → h'.get? (s.heap.objs.size + 5) = some { cls := .type "list", dict := none, data := .seq acc c, slots := #[] } → as.length = xs.size → ZG xs ys (s.heap.objs.size + 5) h' as →
      acc.toList = as.map Value.ref → Q (.ref (s.heap.objs.size + 5)) { s with heap := h', toks := tk }) :
    wpAny (model prog w) A (call (.type "zip") [.ref l1, .ref l2]) (fun v s' => wpAny (model prog w) A (call (.type "list") [v]) Q E s') E s := by
  refine call_zip_2 h1 h2 fun h hz hTI hTO q1 q2 hsz hk => ?_
  have hsz' : h.objs.size = s.heap.objs.size + 5 := hsz
  have D := PySem.W.ktu_apart s.heap.objs.size l1 l2 l1s l2s
  refine callType_codes (Q₁ := fun obj s₁ => obj = .ref h.objs.size ∧ s₁ = { s with heap := h.push { cls := .type "list", data := .seq #[] } }) PySem.F.called_list (PySem.F.typeCall_list_1 _) PySem.F.entry_list_init
    (code_list_new _ ⟨rfl, rfl⟩) fun obj s₁ h₁ => ?_
  obtain ⟨rfl, rfl⟩ := h₁
  have hS : (h.push { cls := .type "list", data := .seq #[] }).get? h.objs.size = some { cls := .type "list", data := .seq #[] } := Heap.get?_push_size _ rfl
  rw [hsz'] at hS ⊢
  have nb : ∀ k : Nat, k < 5 → s.heap.objs.size + k ≠ s.heap.objs.size + 5 := fun k hk e => by have := Nat.add_left_cancel e; omega
  have n0 : s.heap.objs.size ≠ s.heap.objs.size + 5 := nb 0 (by decide)
  have ol : ∀ {l : Addr}, l < s.heap.objs.size → l ≠ s.heap.objs.size + 5 := fun h => Nat.ne_of_lt (Nat.lt_of_lt_of_le h (Nat.le_add_right _ _))
  have up : ∀ b o, h.get? b = some o → (h.push { cls := .type "list", data := .seq #[] }).get? b = some o := fun b o e => Heap.get?_push_of_some _ e
  refine ⟨⟨_, hS, rfl⟩, PySem.F.args_list_init_2 _ _, z_init (A := A.in1) (xs := xs) (ys := ys) hh D ⟨nb 4 (by decide), nb 2 (by decide), nb 3 (by decide), n0, nb 1 (by decide), ol l1s, ol l2s⟩
    ⟨Nat.add_lt_add_left (by decide) _, Nat.add_lt_add_left (by decide) _, Nat.lt_add_of_pos_right (by decide), Nat.add_lt_add_left (by decide) _⟩ hxy hn (up _ _ hz)
    ⟨up _ _ hTI, q1.at fun o e => up _ o e, q2.at fun o e => up _ o e, h1.at fun o e => up _ o (hk _ o e), h2.at fun o e => up _ o (hk _ o e), .inl ⟨up _ _ hz, _, _, up _ _ hTO⟩⟩ hS fun h' tk acc c as hk' hS' hl hG hacc => ?_⟩
  refine ⟨rfl, hQ h' tk acc c as (fun b o e => ?_) hS' hl hG hacc⟩
  have hb : b < s.heap.objs.size := Heap.lt_size e
  have nk : ∀ k : Nat, b ≠ s.heap.objs.size + k := fun k => Nat.ne_of_lt (Nat.lt_of_lt_of_le hb (Nat.le_add_right _ _))
  exact hk' b o (nk 5) (nk 4) (nk 3) (nk 0) (nk 1) (up _ _ (hk _ _ e))
end
end NW
set_option maxHeartbeats 4000000
/-! list(zip(a, b)) as an expression. -/
namespace NW
open PySem PySem.Spec PyProof.Rows L2
/-- the pairs tracked -/
def putP : Hp → List Addr → List (V × V) → Hp
  | H, a :: as, p :: ps => putP (upd H a (.tup [p.1, p.2])) as ps
  | H, _, _ => H
theorem putP_off {b : Addr} : ∀ (as : List Addr) (ps : List (V × V)) (H : Hp), b ∉ as → putP H as ps b = H b
  | [], _, _, _ => rfl
  | _ :: _, [], _, _ => rfl
  | a :: as, p :: ps, H, h => by
    show putP (upd H a (.tup [p.1, p.2])) as ps b = H b
    rw [putP_off as ps _ (fun z => h (List.mem_cons_of_mem _ z)), upd_ne (fun z => h (by rw [z]; exact List.mem_cons_self))]
theorem putP_at : ∀ (as : List Addr) (ps : List (V × V)) (H : Hp), as.length = ps.length → as.Nodup → Paired (fun (t : Addr) (p : V × V) => putP H as ps t = some (.tup [p.1, p.2])) as ps
  | [], [], _, _, _ => .nil
  | [], _ :: _, _, h, _ => by cases h
  | _ :: _, [], _, h, _ => by cases h
  | a :: as, p :: ps, H, h, hn => by
    have hn' := List.nodup_cons.mp hn
    refine .cons ?_ (putP_at as ps (upd H a (.tup [p.1, p.2])) (Nat.succ.inj h) hn'.2)
    show putP (upd H a (.tup [p.1, p.2])) as ps a = some (.tup [p.1, p.2])
    rw [putP_off as ps _ hn'.1, upd_same]
def rListZip (K : PySem.W.Frag) : List V → Hp → VK → Prop := fun vs H Q => ∃ (a b : Addr) (xs ys : List V), vs = [.ref a, .ref b] ∧ SqL K H a xs ∧ SqL K H b ys ∧ xs.length = ys.length ∧
  ∀ (H' : Hp) (p : Addr) (ts : List Addr), (∀ b o, H b = some o → H' b = some o) → H p = none → H' p = some (.lst (ts.map V.ref)) → Paired (fun (t : Addr) (q : V × V) => H' t = some (.tup [q.1, q.2])) ts (xs.zip ys) → Q (.ref p) H'
def tListZip (K : PySem.W.Frag) (ta : TA) : TE := fun σ H Q => ta σ H fun vs H1 => rListZip K vs H1 Q
section
variable {X : Cx} {e e2 : Expr} {ta : TA} {p p2 pos pos2 : Pos}
theorem zip_get {xs ys : List V} {us ws : List Value} (r : Vals xs us) (r2 : Vals ys ws) {j : Nat} {x y : Value} (hx : us[j]? = some x) (hy : ws[j]? = some y) : ∃ q, (xs.zip ys)[j]? = some q ∧ RelV q.1 x ∧ RelV q.2 y := by
  obtain ⟨a, ha, ra⟩ := pr_at2 r hx
  obtain ⟨b, hb, rb⟩ := pr_at2 r2 hy
  exact ⟨(a, b), by rw [List.getElem?_zip_eq_some]; exact ⟨ha, hb⟩, ra, rb⟩
theorem pe_listZip (hc : X.calm = true) (ha : PA X [e, e2] ta) (hg : Gl X "list") (hm : X.mg "list" = none) (hv : bootBuiltins "list" = some (.type "list")) (hg2 : Gl X "zip") (hm2 : X.mg "zip" = none)
    (hs : starEach [.Call (.Name "zip" p2) [e, e2] [] pos2] X.env = (false, eval (.Call (.Name "zip" p2) [e, e2] [] pos2) X.env) :: starEach [] X.env := by rfl)
    (hs2 : starEach [e, e2] X.env = (false, eval e X.env) :: starEach [e2] X.env := by rfl) (hpl : (backTo pos2 (starEach [e2] X.env)).any (·.1) = false := by rfl) :
    PE X (.Call (.Name "list" p) [.Call (.Name "zip" p2) [e, e2] [] pos2] [] pos) (tListZip X.K ta) := by
  refine ⟨fun pins s σ H Q I hq => ?_⟩
  refine wpAny_Call_Name_kw (ld_blt I hg hm hv ?_)
  refine PyProof.Rows.callWith_type1 ?_ hs rfl
  rw [hs]
  show wpAny _ _ (spliced ((false, eval (.Call (.Name "zip" p2) [e, e2] [] pos2) X.env) :: backTo pos (starEach [] X.env))) _ _ s
  refine Calls.spliced_cons ?_
  refine Call_ (ld_blt I hg2 hm2 PyProof.Rows.boot_zip (PyProof.Rows.callWith_type1 (thn (ha.run pos2 pins s σ H _ I hq) fun us s1 ⟨vs, H1, I1, r1, q1⟩ => ?_) hs2 hpl))
  obtain ⟨a, b, xs, ys, ex, hqx, hqy, hlen, q⟩ := q1
  subst ex
  cases r1 with
  | cons r rr =>
    cases rr with
    | cons r' rr =>
      cases rr
      cases r
      cases r'
      obtain ⟨its, rv, p1, z1⟩ := I1.list hqx
      obtain ⟨its2, rv2, p2', z2⟩ := I1.list hqy
      have la : a < s1.heap.objs.size := p1.lt
      have lb : b < s1.heap.objs.size := p2'.lt
      have l1 := rv.length
      have l2 := rv2.length
      refine wpAny_mono (z_call (A := X.A) (I1.ok.hd hc) la lb p1.isList p2'.isList (by rw [List.size_toArray, List.size_toArray]; omega) (by rw [List.size_toArray]; omega) (Q := EP X pins σ Q) fun h' tk acc c as hk hS hl hG hacc => ?_) (fun v s' h => Calls.spliced_nil h) fun _ _ h => h
      rw [List.size_toArray] at hl
      have hzl : (xs.zip ys).length = as.length := by rw [List.length_zip, hlen, Nat.min_self]; omega
      have nd : as.Nodup := List.Pairwise.imp (fun {a b} (h : a < b) => Nat.ne_of_lt h) hG.rise
      have hge : ∀ t ∈ as, s1.heap.objs.size ≤ t := fun t ht => Nat.le_trans (Nat.le_add_right _ 5) (Nat.le_of_lt (hG.above t ht))
      have new : ∀ t ∈ as, H1 t = none := fun t ht => I1.hok.fresh (hge t ht)
      have newS : H1 (s1.heap.objs.size + 5) = none := I1.hok.fresh (Nat.le_add_right _ _)
      have hSn : (s1.heap.objs.size + 5) ∉ as := fun z => Nat.lt_irrefl _ (hG.above _ z)
      have atP := putP_at as (xs.zip ys) (upd H1 (s1.heap.objs.size + 5) (.lst (as.map V.ref))) hzl.symm nd
      have off : ∀ b, b ∉ as → b ≠ s1.heap.objs.size + 5 → putP (upd H1 (s1.heap.objs.size + 5) (.lst (as.map V.ref))) as (xs.zip ys) b = H1 b := fun b h1 h2 => by rw [putP_off as _ _ h1, upd_ne h2]
      have low : ∀ b o, s1.heap.get? b = some o → b ∉ as ∧ b ≠ s1.heap.objs.size + 5 := fun b o e => ⟨fun z => absurd (Heap.lt_size e) (Nat.not_lt.mpr (hge b z)), Nat.ne_of_lt (Nat.lt_of_lt_of_le (Heap.lt_size e) (Nat.le_add_right _ _))⟩
      have kp : ∀ b u, H1 b = some u → (putP (upd H1 (s1.heap.objs.size + 5) (.lst (as.map V.ref))) as (xs.zip ys)) b = some u := fun b u e => by
        rw [off b (fun z => by rw [new b z] at e; cases e) (fun z => by rw [z, newS] at e; cases e)]
        exact e
      have eS : putP (upd H1 (s1.heap.objs.size + 5) (.lst (as.map V.ref))) as (xs.zip ys) (s1.heap.objs.size + 5) = some (.lst (as.map V.ref)) := by rw [putP_off as _ _ hSn, upd_same]
      refine ⟨.ref (s1.heap.objs.size + 5), _, ?_, rfl, q _ _ as kp newS eS atP⟩
      refine I1.call' (ch := []) rfl ⟨fun b o q _ _ _ => hk b o q, fun b o q _ _ _ => ⟨o.slots, hk b o q⟩, fun b o q n _ => ?_, fun b o q _ => ⟨o, hk b o q⟩, fun b xs q => kp b _ q, fun b o u q => kp b _ q, fun b ps q => ⟨#[], by rw [kp b _ q]; simp⟩⟩ (fun b u q => ?_) I1.bare fun b z => by simp at z
      · obtain ⟨z1, z2⟩ := low b o q
        rw [off b z1 z2]
        exact n
      · by_cases hb : b ∈ as
        · obtain ⟨j, pk, e1, e2, e3⟩ := LiI.paired_ix atP hb
          rw [e3] at q
          cases q
          obtain ⟨x, y, f1, f2, f3⟩ := hG.pairs j b e1
          rw [List.getElem?_toArray] at f1 f2
          obtain ⟨qq, g1, g2, g3⟩ := zip_get rv rv2 f1 f2
          rw [e2] at g1
          cases g1
          exact ⟨by show 2 ≤ sizeLine; decide, [x, y], .cons g2 (.cons g3 .nil), ⟨_, f3, rfl, _, rfl⟩⟩
        · by_cases hb2 : b = s1.heap.objs.size + 5
          · rw [hb2] at q ⊢
            rw [eS] at q
            cases q
            refine ⟨by rw [List.length_map]; omega, acc.toList, c, by rw [hacc]; exact LiI.vals_refs as, ?_⟩
            rw [Array.toArray_toList]
            exact hS
          · rw [off b hb hb2] at q
            exact (I1.hok b u q).stay (fun d v _ y => hk d v y) (fun d y => kp d _ y) fun d xs y => kp d _ y
end
end NW
set_option maxHeartbeats 4000000
/-! xs[::k] where k is drawn: 1 or -1. -/
namespace NW
open PySem PySem.Spec PyProof.Rows L2 Evl
theorem pick_one (items : Array Value) : slicePick items none none (some 1) = items := by
  unfold slicePick
  have e : sliceBounds none none (some 1) items.size = (0, (items.size : Int), 1) := by first | rfl | simp [sliceBounds]
  rw [e]
  show ((sliceRange 0 (items.size : Int) 1).filterMap (items[·]?)).toArray = _
  have r : sliceRange 0 (items.size : Int) 1 = List.range items.size := by
    unfold sliceRange
    have h1 : (1 : Int) > 0 := by decide
    by_cases h : (0 : Int) < items.size
    · have e : ((items.size : Int) - 0 + 1 - 1) / 1 = (items.size : Int) := by
        rw [Int.ediv_one]
        omega
      simp only [h1, if_true, h, e, Int.toNat_natCast]
      have : (fun k : Nat => ((0 : Int) + 1 * (k : Int)).toNat) = id := funext fun k => by simp
      rw [this, List.map_id]
    · have e : items.size = 0 := by omega
      simp only [h1, if_true, h, if_false, e]
      rfl
  rw [r, PySem.W.krv_all]
section
variable {X : Cx}
def tStepL (te ts : TE) : TE := fun σ H Q => te σ H fun x H1 => ∃ a, x = .ref a ∧ ts σ H1 fun y H2 => ∃ xs, H2 a = some (.lst xs) ∧ ((y = .int 1 ∧ ∀ p, H2 p = none → Q (.ref p) (upd H2 p (.lst xs))) ∨ (y = .int (-1) ∧ ∀ p, H2 p = none → Q (.ref p) (upd H2 p (.lst xs.reverse))))
theorem pe_stepL {e es : Expr} {te ts : TE} {p3 pos : Pos} (he : PE X e te) (hs : PE X es ts) : PE X (.Subscript e (.Slice none none (some es) p3) pos) (tStepL te ts) := by
  refine ⟨fun pins s σ H Q I h => ?_⟩
  refine Subscript_ (thn (he.run pins s σ H _ I h) fun v s1 ⟨x, H1, I1, r1, q1⟩ => ?_)
  obtain ⟨a, ex, q⟩ := q1
  subst ex
  cases r1
  refine wpAny_Slice (thn (po_none.run pins s1 σ H1 (fun o H2 => o = none ∧ H2 = H1) I1 ⟨rfl, rfl⟩) fun vl s2 ⟨l, H2, I2, pl, el, e2⟩ => ?_)
  subst el e2
  refine thn (po_none.run pins s2 σ H2 (fun o H3 => o = none ∧ H3 = H2) I2 ⟨rfl, rfl⟩) fun vu s3 ⟨u, H3, I3, pu, eu, e3⟩ => ?_
  subst eu e3
  rw [evalPart_some]
  refine thn (hs.run pins s3 σ H3 _ I3 q) fun vs s4 ⟨y, H4, I4, ry, xs, hx, z⟩ => ?_
  have I5 : L2.Inv X pins σ H4 { s4 with heap := s4.heap.push { cls := .type "slice", data := .fields #[vl, vu, vs] } } := I4.kept (t' := s4.toks) fun b ob q => Heap.get?_push_of_some _ q
  obtain ⟨its, r, ht, hz⟩ := I5.list (sq_of hx)
  have hlen := r.length
  show wpAny (model X.prog X.w) X.A (subscriptTail e (.Slice none none (some es) p3) (.ref a) (.ref s4.heap.objs.size)) (EP X pins σ Q) X.xe { s4 with heap := s4.heap.push { cls := .type "slice", data := .fields #[vl, vu, vs] } }
  refine tail_any (ops := [.ref a, .ref s4.heap.objs.size]) ht.isList.typeIs (PySem.slot_list_getitem.lookup) ?_ (by with_unfolding_all rfl)
  rcases z with ⟨rfl, k⟩ | ⟨rfl, k⟩
  · obtain ⟨t, rfl⟩ := ry
    refine wpAny_getItem_list_slice ht.isList (Heap.IsSliceOf.new _ vl vu _) pl pu (.int 1 t) (by decide) ?_ (by rw [List.size_toArray]; omega)
    rw [pick_one]
    refine ⟨.ref _, _, I5.laid (t' := s4.toks) (o := .lst xs) (fun b ob q => Heap.get?_push_of_some _ q) (Nat.le_refl _) ?_, rfl, k _ (I5.hok.fresh (Nat.le_refl _))⟩
    exact ⟨hz, _, 0, r, Heap.get?_push_size _ rfl⟩
  · obtain ⟨t, rfl⟩ := ry
    refine wpAny_getItem_list_slice ht.isList (Heap.IsSliceOf.new _ vl vu _) pl pu (.int (-1) t) (by decide) ?_ (by rw [List.size_toArray]; omega)
    rw [PySem.W.krv_pick]
    refine ⟨.ref _, _, I5.laid (t' := s4.toks) (o := .lst xs.reverse) (fun b ob q => Heap.get?_push_of_some _ q) (Nat.le_refl _) ?_, rfl, k _ (I5.hok.fresh (Nat.le_refl _))⟩
    exact ⟨by rw [List.length_reverse]; exact hz, _, 0, r.reverse, Heap.get?_push_size _ rfl⟩
end
end NW
set_option maxHeartbeats 4000000
/-! The rows in the heap; _law_turned. -/
namespace NW
open PySem PySem.Spec PyProof.Rows L2 Evl
def eD (es : Ents) : HO := .dK (es.map fun e => ((Sum.inr e.1 : L2.Key), V.int (e.2 : Int)))
def RowAt (H : Hp) (r : Addr × Addr) : Nd → Prop
  | .fol o es => H r.1 = some (.lst [.str "folder", .int (o : Int), .ref r.2]) ∧ H r.2 = some (eD es)
  | .fil o => ∃ v, H r.1 = some (.lst [.str "file", .int (o : Int), v])
  | .lnk o z => H r.1 = some (.lst [.str "link", .int (o : Int), .str z])
  | .gon o g => H r.1 = some (.lst [.str "gone", .int (o : Int), .int (g : Int)])
theorem RowAt.lst {H : Hp} {r : Addr × Addr} {n : Nd} (h : RowAt H r n) : ∃ k o v, H r.1 = some (.lst [.str k, .int o, v]) := by
  cases n with
  | fol o es => exact ⟨_, _, _, h.1⟩
  | fil o => obtain ⟨v, h⟩ := h; exact ⟨_, _, _, h⟩
  | lnk o z => exact ⟨_, _, _, h⟩
  | gon o g => exact ⟨_, _, _, h⟩
theorem RowAt.keep {H H' : Hp} {r : Addr × Addr} {n : Nd} (h : RowAt H r n) (h1 : ∀ u, H r.1 = some u → H' r.1 = some u) (h2 : ∀ es, H r.2 = some (eD es) → H' r.2 = some (eD es)) : RowAt H' r n := by
  cases n with
  | fol o es => exact ⟨h1 _ h.1, h2 _ h.2⟩
  | fil o => obtain ⟨v, h⟩ := h; exact ⟨v, h1 _ h⟩
  | lnk o z => exact h1 _ h
  | gon o g => exact h1 _ h
theorem RowAt.mono {H H' : Hp} {r : Addr × Addr} {n : Nd} (e : Ex H H') (h : RowAt H r n) : RowAt H' r n := h.keep (fun _ q => e _ _ q) fun _ q => e _ _ q
/-- all stands but a list of numbers or of references -/
theorem RowAt.bt {H H' : Hp} {a : Addr} {r : Addr × Addr} {n : Nd} (b : Bt a H H') {xs : List V} (ha : H a = some (.lst xs)) (hx : ∀ z, xs[0]? ≠ some (.str z)) (h : RowAt H r n) : RowAt H' r n := by
  obtain ⟨k, o, v, hl⟩ := h.lst
  refine h.keep (fun u q => b _ _ (fun z => ?_) q) fun es q => b _ _ (fun z => ?_) q
  · rw [z] at hl
    rw [ha] at hl
    have e : xs = [.str k, .int o, v] := HO.lst.inj (Option.some.inj hl)
    rw [e] at hx
    exact hx k rfl
  · rw [z] at q
    rw [ha] at q
    cases q
structure RowsAt (H : Hp) (l : Addr) (rs : List (Addr × Addr)) (ns : List Nd) : Prop where
  l : H l = some (.lst (rs.map fun r => V.ref r.1))
  p : Paired (RowAt H) rs ns
theorem RowsAt.mono {H H' : Hp} {l : Addr} {rs : List (Addr × Addr)} {ns : List Nd} (e : Ex H H') (h : RowsAt H l rs ns) : RowsAt H' l rs ns := ⟨e _ _ h.l, h.p.mon fun _ _ q => q.mono e⟩
theorem SrcAt.noStr {H : Hp} {a : Addr} (h : SrcAt H a) : ∃ xs, H a = some (.lst xs) ∧ (∀ z, xs[0]? ≠ some (V.str z)) ∧ xs.length = 3 ∧ ∃ i, xs[0]? = some (V.int i) := by
  obtain ⟨x, c, d, q⟩ := h
  exact ⟨_, q, (fun z y => by cases y), rfl, x, rfl⟩
theorem rows_src {H : Hp} {a l : Addr} {rs : List (Addr × Addr)} (h : SrcAt H a) (q : H l = some (.lst (rs.map fun r => V.ref r.1))) : l ≠ a := fun z => by
  obtain ⟨x, c, d, e⟩ := h
  rw [z, e] at q
  cases rs with
  | nil => cases q
  | cons y r =>
    have := HO.lst.inj (Option.some.inj q)
    cases (List.cons.inj this).1
theorem RowsAt.sr {H H' : Hp} {a l : Addr} {rs : List (Addr × Addr)} {ns : List Nd} (hs : SrcAt H a) (s : Sr a H H') (h : RowsAt H l rs ns) : RowsAt H' l rs ns := by
  obtain ⟨xs, ha, hx, _⟩ := hs.noStr
  exact ⟨s.bt _ _ (rows_src hs h.l) h.l, h.p.mon fun _ _ q => q.bt s.bt ha hx⟩
def ren (od : List Nat) : Nd → Nd
  | .fol o es => .fol o (es.map fun e => (e.1, od.idxOf e.2))
  | .gon o g => .gon o (od.idxOf g)
  | n => n
def turned (od : List Nat) (ns : List Nd) : List Nd := od.map fun i => ren od ((ns[i]?).getD (.fil 0))
structure TurnOk (ns : List Nd) : Prop where
  len : ns.length ≤ 40
  pos : 0 < ns.length
  fol : ∀ (i o : Nat) (es : Ents), ns[i]? = some (Nd.fol o es) → NamesOnce es ∧ es.length ≤ 60 ∧ ∀ e ∈ es, e.2 < ns.length
  gon : ∀ (i o g : Nat), ns[i]? = some (Nd.gon o g) → g < ns.length
structure PermOk (od : List Nat) (n : Nat) : Prop where
  nd : od.Nodup
  mem : ∀ x, x ∈ od ↔ x < n
  head : od.head? = some 0
def spTurned : Sp := fun vs H Q _ => ∃ (a l : Addr) (rs : List (Addr × Addr)) (ns : List Nd), vs = [.ref a, .ref l] ∧ SrcAt H a ∧ RowsAt H l rs ns ∧ TurnOk ns ∧
  ∀ (od : List Nat) (p : Addr) (rs' : List (Addr × Addr)) H', PermOk od ns.length → Sr a H H' → RowsAt H' p rs' (turned od ns) → Q (.ref p) H'
section
variable {K : PySem.W.Frag} {σ : L2.St} {H H' : Hp} {ta tb te : TE}
theorem el_lstRg2 {a b : Int} (ha : Ev ta σ H (.int a)) (hb : Ev tb σ H (.int b)) (ok : RgOk a b) : EvL (tLstRg (tRg2 ta tb)) σ H (rgV a b) := fun H1 e Q q =>
  ha H1 e _ fun H2 e2 => hb H2 (e.trans e2) _ fun H3 e3 => ⟨a, b, rfl, rfl, ok, fun p hp => q p _ (fresh_back (e2.trans e3) hp) ((e2.trans e3).trans (Evl.Ex.new hp)) upd_same⟩
theorem el_lstRg1 {b : Int} (hb : Ev tb σ H (.int b)) (ok : RgOk 0 b) : EvL (tLstRg (tRg1 tb)) σ H (rgV 0 b) := fun H1 e Q q =>
  hb H1 e _ fun H3 e3 => ⟨b, rfl, ok, fun p hp => q p _ (fresh_back e3 hp) (e3.trans (Evl.Ex.new hp)) upd_same⟩
theorem rgV_nat (k n : Nat) : rgV (k : Int) (n : Int) = intsV ((List.range (n - k)).map fun i => k + i) := by
  unfold rgV
  show _ = ((List.range (n - k)).map fun i => k + i).map fun n : Nat => V.int (n : Int)
  rw [List.map_map, show ((n : Int) - (k : Int)).toNat = n - k by omega]
  refine List.map_congr_left fun i _ => ?_
  show V.int ((k : Int) + (i : Int)) = V.int ((k + i : Nat) : Int)
  rw [Int.natCast_add]
theorem putK_new {kvs : List (L2.Key × V)} {k : L2.Key} {v : V} (h : k ∉ kvs.map (·.1)) : putK kvs k v = kvs ++ [(k, v)] := by
  unfold putK
  rw [if_neg]
  intro z
  obtain ⟨p, hp, q⟩ := List.any_eq_true.mp z
  exact h (by rw [← of_decide_eq_true q]; exact List.mem_map_of_mem hp)
theorem mergeK_new : ∀ (more kvs : List (L2.Key × V)), ((kvs ++ more).map (·.1)).Nodup → mergeK kvs more = kvs ++ more
  | [], kvs, _ => (List.append_nil _).symm
  | p :: r, kvs, nd => by
    show mergeK (putK kvs p.1 p.2) r = _
    have h : p.1 ∉ kvs.map (·.1) := fun z => by
      rw [List.map_append, List.map_cons] at nd
      exact (List.nodup_append.mp nd).2.2 _ z _ List.mem_cons_self rfl
    rw [putK_new h, mergeK_new r (kvs ++ [(p.1, p.2)]) (by rw [List.append_assoc]; exact nd), List.append_assoc]
    rfl
theorem pr_unmap {α β γ : Type} {g : β → γ} {F : α → γ → Prop} : ∀ {xs : List α} {ys : List β}, Paired F xs (ys.map g) → Paired (fun a b => F a (g b)) xs ys
  | [], [], _ => .nil
  | _ :: _, _ :: _, .cons h r => .cons h (pr_unmap r)
theorem numb_get {od : List Nat} {n : Nat} (nd : od.Nodup) (h : n ∈ od) : valV (prN (od.zip (List.range od.length))) (Sum.inl (n : Int)) = some (V.int (od.idxOf n : Int)) := by
  have hm : n ∈ (od.zip (List.range od.length)).map (·.1) := by
    rw [List.map_fst_zip (by rw [List.length_range]; exact Nat.le_refl _)]
    exact h
  obtain ⟨x, hx, e⟩ := prN_some hm
  rw [e]
  obtain ⟨i, hi⟩ := List.getElem?_of_mem hx
  rw [List.getElem?_zip_eq_some] at hi
  obtain ⟨h1, h2⟩ := hi
  have hlt : i < od.length := (List.getElem?_eq_some_iff.mp h1).1
  rw [List.getElem?_range hlt] at h2
  have h2 : i = x := Option.some.inj h2
  subst h2
  have h1 : od[i] = n := (List.getElem?_eq_some_iff.mp h1).2
  rw [← h1, List.Nodup.idxOf_getElem nd]
abbrev rDictP (K : PySem.W.Frag) : List V → Hp → VK → Prop := fun xs H Q => ∃ (a : Addr) (ps : List Addr) (kvs : List (L2.Key × V)), xs = [.ref a] ∧ SqL K H a (ps.map V.ref) ∧ Paired (fun p kv => SqT K H p [kV kv.1, kv.2]) ps kvs ∧
    ∀ p, H p = none → Q (.ref p) (upd H p (.dK (mergeK [] kvs)))
theorem evp_numb {p1 : Addr} {od : List Nat} (ha : Ev ta σ H (.ref p1)) (h : H p1 = some (.lst (intsV od))) (nd : od.Nodup) (hl : od.length ≤ 1000) :
    EvP (tCB (rDictP K) (tCons (tListZip K (tCons ta (tCons (tLstRg (tRg1 (tCB (rLenS K) (tCons ta tNil)))) tNil))) tNil)) σ H fun v H' => ∃ d, v = .ref d ∧ H d = none ∧ H' d = some (.dK (prN (od.zip (List.range od.length)))) := fun H1 e Q q =>
  ha H1 e _ fun H2 e2 => by
    have hlen : (intsV od).length = od.length := by rw [List.length_map]
    refine el_lstRg1 (σ := σ) (H := H2) (tb := tCB (rLenS K) (tCons ta tNil)) (b := (od.length : Int)) (ev_is (ev_len (ha.mono (e.trans e2)) (sq_of ((e.trans e2) _ _ h))) (by rw [hlen])) (RgOk.of_le (by omega) (by omega) (by omega) (by omega)) H2 (Evl.Ex.refl H2) _ fun p H3 hp e3 h3 => ?_
    rw [show (0 : Int) = ((0 : Nat) : Int) from rfl, rgV_nat] at h3
    have hrg : ((List.range (od.length - 0)).map fun i => 0 + i) = List.range od.length := by simp
    rw [hrg] at h3
    refine ⟨p1, p, intsV od, intsV (List.range od.length), rfl, sq_of (e3 _ _ ((e.trans e2) _ _ h)), sq_of h3, by rw [List.length_map, List.length_map, List.length_range], fun H4 pl ts k4 hpl hl4 pr => ?_⟩
    refine ⟨pl, ts, prN (od.zip (List.range od.length)), rfl, sq_of hl4, ?_, fun p' hp' => ?_⟩
    · rw [show (intsV od).zip (intsV (List.range od.length)) = (od.zip (List.range od.length)).map (fun q : Nat × Nat => (V.int (q.1 : Int), V.int (q.2 : Int))) from List.zip_map ..] at pr
      exact pr_mapr' ((pr_unmap pr).mon fun _ _ z => st_of z)
    · have hk : mergeK [] (prN (od.zip (List.range od.length))) = prN (od.zip (List.range od.length)) := by
        refine mergeK_new _ [] ?_
        rw [List.nil_append, List.map_map, show ((fun x : L2.Key × V => x.1) ∘ fun p : Nat × Nat => ((Sum.inl (p.1 : Int) : L2.Key), V.int (p.2 : Int))) = (fun n : Nat => (Sum.inl (n : Int) : L2.Key)) ∘ fun p : Nat × Nat => p.1 from rfl, ← List.map_map, List.map_fst_zip (by rw [List.length_range]; exact Nat.le_refl _)]
        exact List.Pairwise.map _ (fun a b hab z => hab (Int.ofNat.inj (Sum.inl.inj z))) nd
      rw [hk]
      have e4 : Ex H1 H4 := (e2.trans e3).trans k4
      exact q _ _ (e4.trans (Evl.Ex.new hp')) ⟨p', rfl, fresh_back (e.trans e4) hp', upd_same⟩
theorem elp_lock {d : Addr} {u : HO} {Pp : List V → Hp → Prop} (hd : H d = some u) (mu : Mut (some u)) (h : ∀ H1 od, Ex H H1 → EvLP te σ (upd H1 d (.frz od u)) Pp) (hP : ∀ ys H2 od, H2 d = some (.frz od u) → Pp ys H2 → Pp ys (upd H2 d u)) : EvLP (tLockE te) σ H Pp := fun H1 e Q q =>
  ⟨d, u, e _ _ hd, mu, fun od => h H1 od e _ (Evl.Ex.refl _) _ fun p ys H2 hp e2 h2 r => by
    have hpd : p ≠ d := fun z => by subst z; rw [upd_same] at hp; cases hp
    have hf := e2 _ _ upd_same
    refine ⟨hf, q p ys _ (by rw [upd_ne hpd] at hp; exact hp) (fun b o hb => ?_) (by rw [upd_ne hpd]; exact h2) (hP ys H2 od hf r)⟩
    by_cases c : b = d
    · subst c
      rw [upd_same]
      rw [e _ _ hd] at hb
      exact hb
    · rw [upd_ne c]
      exact e2 _ _ (by rw [upd_ne c]; exact hb)⟩
theorem wk_items {d : Addr} {od : Obj} {es : Ents} (h : Ev te σ H (.ref d)) (hd : H d = some (.frz od (eD es))) : Wk (iItems te) σ H es.length (PrOf es) := fun H1 e R r =>
  h H1 e _ fun H2 e2 => ⟨d, od, _, rfl, (e.trans e2) _ _ hd, r _ H2 e2 ⟨fun H3 e3 => ⟨((e.trans e2).trans e3) _ _ hd, by rw [List.length_map]; exact Nat.le_refl _⟩, fun i H3 e3 hi => ⟨⟨((e.trans e2).trans e3) _ _ hd, by rw [List.length_map]; exact hi⟩, fun x H4 y => by
    obtain ⟨T, k, v, hk, rfl, hT, rfl⟩ := y
    rw [List.getElem?_map] at hk
    cases c : es[i]? with
    | none => rw [c] at hk; cases hk
    | some p =>
      rw [c] at hk
      have hk := Option.some.inj hk
      have h1 : (Sum.inr p.1 : L2.Key) = k := congrArg Prod.fst hk
      have h2 : V.int (p.2 : Int) = v := congrArg Prod.snd hk
      subst h1 h2
      exact ⟨Evl.Ex.new hT, T, p, rfl, c, upd_same⟩⟩⟩⟩
theorem pr_refs2 {α : Type} {F : α → Addr → Prop} : ∀ {xs : List α} {ys : List V}, Paired (fun e y => ∃ t, y = V.ref t ∧ F e t) xs ys → ∃ ts : List Addr, ys = ts.map V.ref ∧ Paired (fun t e => F e t) ts xs
  | [], [], _ => ⟨[], rfl, .nil⟩
  | _ :: _, _ :: _, .cons ⟨t, h1, h2⟩ r => by
    obtain ⟨ts, h3, h4⟩ := pr_refs2 r
    exact ⟨t :: ts, by rw [h1, h3]; rfl, .cons h2 h4⟩
/-- dict([(name, numbers[node]) for name, node in more.items()]) -/
theorem evp_more {d dn : Addr} {od : List Nat} {es : Ents} (nm : NamesOnce es) (hz : es.length ≤ 60) (hm : ∀ e ∈ es, e.2 ∈ od) (nd : od.Nodup)
    (hd : H d = some (eD es)) (hdn : H dn = some (.dK (prN (od.zip (List.range od.length))))) (ha : ∀ H1, Ev ta (wipe σ [10, 11]) H1 (.ref d)) (h0 : ∀ H1, Ev ta σ H1 (.ref d))
    (hb : ∀ x y H1, Ev tb (((wipe σ [10, 11]).set 10 x).set 11 y) H1 (.ref dn)) (hl : σ.length = 12) (hdd : dn ≠ d) (hw : ∀ a b, wipe (((wipe σ [10, 11]).set 10 (some a)).set 11 (some b)) [10, 11] = wipe σ [10, 11]) :
    EvP (tCB (rDictP K) (tCons (tLockE (tLc (iItems ta) (gTup K 2 (gCons (gName 10) (gCons (gName 11) gNil))) tYes (tTup (tCons (tVar 10) (tCons (tDGet tb (tVar 11)) tNil))) [10, 11])) tNil)) σ H fun v H' => ∃ d', v = .ref d' ∧ H d' = none ∧ H' d' = some (eD (es.map fun e => (e.1, od.idxOf e.2))) := fun H1 e1 Q q => by
  have hwl : (wipe σ [10, 11]).length = 12 := by rw [show (wipe σ [10, 11]).length = σ.length from by simp [wipe]]; exact hl
  refine elp_lock (Pp := fun ys H' => Paired (fun (e : Str × Nat) y => ∃ t, y = V.ref t ∧ H' t = some (.tup [.str e.1, .int (od.idxOf e.2 : Int)])) es ys) hd trivial (fun H2 ob e2 => ?_) (fun ys H2 ob hf pr => pr.mon fun e y ⟨t, hy, ht⟩ => ⟨t, hy, by rw [upd_ne (fun z => by rw [z, hf] at ht; cases ht)]; exact ht⟩) H1 e1 _ fun p ys H2 hp e2 h2 pr => ?_
  · have q := elp_prs (K := K) (σ := σ) (H := upd H2 d (.frz ob (eD es))) (tt := tYes) (te := tTup (tCons (tVar 10) (tCons (tDGet tb (tVar 11)) tNil))) (vs := [10, 11]) (i := 10) (j := 11) (wk_items (te := ta) (h0 _) upd_same) (by omega) (fun _ => true)
      (fun e y H' => ∃ t, y = V.ref t ∧ H' t = some (.tup [.str e.1, .int (od.idxOf e.2 : Int)])) (fun e v H3 H4 i ⟨t, a, b⟩ => ⟨t, a, i _ _ trivial b⟩) hw (fun e he H3 e3 => et_yes) (fun e he H3 e3 _ => ?_)
    · rw [List.filter_eq_self.mpr fun _ _ => rfl] at q
      exact q
    · refine EvP.imp (evp_tup (vs := [.str e.1, .int (od.idxOf e.2 : Int)]) (ea_cons (ev_var ?_) (ea_cons (ev_getD (hb _ _ _) (ev_var ?_) (e3 _ _ (by rw [upd_ne hdd]; exact e2 _ _ hdn)) (numb_get nd (hm e he))) ea_nil)) (by simp)) fun v H' h => h
      · rw [List.getElem?_set_ne (by decide), List.getElem?_set_self (by omega)]
      · rw [List.getElem?_set_self (by rw [List.length_set]; omega)]
  · obtain ⟨ts, rfl, pt⟩ := pr_refs2 pr
    refine ⟨p, ts, es.map fun e => ((Sum.inr e.1 : L2.Key), V.int (od.idxOf e.2 : Int)), rfl, sq_of h2, pr_mapr' (g := fun e : Str × Nat => ((Sum.inr e.1 : L2.Key), V.int (od.idxOf e.2 : Int))) (pt.mon fun _ _ z => st_of z), fun d' hd' => ?_⟩
    have hk : mergeK [] (es.map fun e => ((Sum.inr e.1 : L2.Key), V.int (od.idxOf e.2 : Int))) = es.map fun e => ((Sum.inr e.1 : L2.Key), V.int (od.idxOf e.2 : Int)) := by
      refine mergeK_new _ [] ?_
      rw [List.nil_append, List.map_map, show ((fun x : L2.Key × V => x.1) ∘ fun e : Str × Nat => ((Sum.inr e.1 : L2.Key), V.int (od.idxOf e.2 : Int))) = (fun z : Str => (Sum.inr z : L2.Key)) ∘ fun e : Str × Nat => e.1 from rfl, ← List.map_map]
      exact List.Pairwise.map _ (fun a b hab z => hab (Sum.inr.inj z)) nm
    rw [hk]
    refine q _ _ (e2.trans (Evl.Ex.new hd')) ⟨d', rfl, fresh_back (e1.trans e2) hd', ?_⟩
    rw [upd_same]
    unfold eD
    rw [List.map_map]
    rfl
theorem Sr.mut {a p : Addr} {H H' : Hp} {o : HO} (hs : SrcAt H a) (s : Sr a H H') (h : H p = none) : Sr a H (upd H' p o) := by
  have hpa : p ≠ a := fun z => by obtain ⟨_, _, _, q⟩ := hs; rw [← z, h] at q; cases q
  refine ⟨fun b u n q => ?_, ?_⟩
  · rw [upd_ne (fun z => by rw [z, h] at q; cases q)]
    exact s.bt b u n q
  · obtain ⟨x, c, d, q⟩ := s.src
    exact ⟨x, c, d, by rw [upd_ne hpa.symm]; exact q⟩
theorem go_app {l : Addr} {xs : List V} {D : Ends} (hl : H l = some (.lst xs)) (ha : Ev ta σ H (.ref l)) (k : ∀ H1, Ex H H1 → te σ H1 fun y H2 => rAppend (.ref l) [y] H2 fun _ H3 => D.nx σ H3) : tDrop (tBM K "list" rAppend ta (tCons te tNil)) D σ H := ha H (Evl.Ex.refl H) _ fun H1 e1 =>
  ⟨Or.inl ⟨rfl, xs, sq_of (e1 l _ hl)⟩, k H1 e1⟩
theorem go_popAt {l : Addr} {xs : List V} {Q : VK} (hl : H l = some (.lst xs)) (ha : Ev ta σ H (.ref l)) (k : ∀ H1, Ex H H1 → te σ H1 fun y H2 => rPopAt (.ref l) [y] H2 Q) : tBM K "list" rPopAt ta (tCons te tNil) σ H Q := ha H (Evl.Ex.refl H) _ fun H1 e1 =>
  ⟨Or.inl ⟨rfl, xs, sq_of (e1 l _ hl)⟩, k H1 e1⟩
theorem go_call {sp : Sp} {dvs vs : List V} {E : XK} {tr : TA} {Q : VK} (h : EvA tr σ H vs) (k : ∀ H1, Ex H H1 → sp (vs ++ dvs) H1 Q E) : tCall sp dvs E tr σ H Q := h H (Evl.Ex.refl H) _ k
theorem erase_perm {l : List Nat} {r : Nat} (h : r < l.length) : ([l[r]] ++ l.eraseIdx r).Perm l := by
  have e : l = l.take r ++ l[r] :: l.drop (r + 1) := by rw [← List.drop_eq_getElem_cons h, List.take_append_drop]
  rw [List.eraseIdx_eq_take_drop_succ]
  exact (List.perm_middle (l₁ := l.take r) (a := l[r]) (l₂ := l.drop (r + 1))).symm.trans (List.Perm.of_eq e.symm)
theorem q_asgG {v : V} {g : TG} {tz : TS} {D : Ends} (h : Ev te σ H v) (k : ∀ H1, Ex H H1 → g v σ H1 fun σ2 H2 => tz D σ2 H2) : tSeq (tAsg te g) tz D σ H := h H (Evl.Ex.refl H) _ k
theorem eraseIdx_mapN (l : List Nat) (i : Nat) : (intsV l).eraseIdx i = intsV (l.eraseIdx i) := by
  show (l.map _).eraseIdx i = (l.eraseIdx i).map _
  rw [List.eraseIdx_eq_take_drop_succ, List.eraseIdx_eq_take_drop_succ, List.map_append, List.map_take, List.map_drop]
end
section
variable {P : Program} {w : World} {K : PySem.W.Frag} {mg : Str → Option Value} {base : Heap}
theorem sc_law_turned : FnScope ["_law_source_here", "_law_nodes_here", "_law_order", "_law_left", "_law_found", "_law_numbers", "_law_old", "_law_kind", "_law_holder", "_law_more", "_law_name", "_law_node"] ["_law_source_here", "_law_nodes_here"] (defScope s_law_turned) := ⟨rfl, rfl, rfl, by decide +kernel, rfl, by decide +kernel, by decide +kernel⟩
theorem c_law_turned (T : Txt K mg) : C8.Cal P w K mg base 3 "_law_turned" spTurned [] := by
  refine cal_of (fd_law_turned T) (g_law_turned T) (fun _ _ _ _ _ _ us hl => match us, hl with | [_, _], _ => rfl) sc_law_turned (fun vs H Q E h => ?_) (fun cdv A outer s H vs Q E hr h => ?_)
  · obtain ⟨_, _, _, _, rfl, _⟩ := h; rfl
  · obtain ⟨a, l, rs, ns, rfl, hs, hR, ok, k⟩ := h
    have hu := hu_of hr
    refine ⟨_, (pss_cons (ps_par3 (i := 2) (j := 3) (l := 4) rfl sc_law_turned.nd rfl rfl rfl (by decide) (by decide) (by decide) rfl rfl rfl (pa_cons (pe_lst (pa_cons pe_int pa_nil)) (pa_cons (pe_listRg rfl (by rfl) (f_list T) (prg_2 (by rfl) (f_range T) pe_int (pe_callB call_len_seq (by rfl) (f_len T) b_len (pa_cons (pv 1) pa_nil)))) (pa_cons (pe_lst pa_nil) pa_nil))) (by rfl))
      (pss_cons (ps_while PassesOwn.never (pt_cmpR (op_neNilL (hu0_of hr)) (pv 3) (pe_lst pa_nil) (nomark _)) (pss_one (ps_expr (pe_bm PySem.F.plainAttrs_list PySem.F.slot_list_append PySem.F.type_list_append mt_append (pv 2) (pa_cons (pe_bm PySem.F.plainAttrs_list PySem.F.slot_list_pop PySem.F.type_list_pop mt_popAt (pv 3) (pa_cons (C8.pe_c (c_law_take T) hr (by decide) rfl (pa_cons (pv 0) (pa_cons (pe_callB call_len_seq (by rfl) (f_len T) b_len (pa_cons (pv 3) pa_nil)) pa_nil))) pa_nil)) pa_nil)))))
      (pss_cons (ps_set (i := 5) sc_law_turned.nd rfl (Or.inr rfl) (pe_callTy (call_dictP rfl) (by rfl) (f_dict T) b_dict (pa_cons (pe_listZip rfl (pa_cons (pv 2) (pa_cons (pe_listRg rfl (by rfl) (f_list T) (prg_1 (by rfl) (f_range T) (pe_callB call_len_seq (by rfl) (f_len T) b_len (pa_cons (pv 2) pa_nil)))) pa_nil)) (by rfl) (f_list T) b_list (by rfl) (f_zip T)) pa_nil)))
      (pss_cons (ps_for PassesOwn.never rfl (pi_list (pv 2)) (pg_name (i := 6) sc_law_turned.nd rfl (Or.inl rfl)) (pss_cons (ps_asg (pe_ix ix_list (pv 1) (pv 6) (fun _ _ => rfl)) (pg_unl rfl (pgs_cons (pg_name (i := 7) sc_law_turned.nd rfl (Or.inl rfl)) (pgs_cons (pg_name (i := 8) sc_law_turned.nd rfl (Or.inl rfl)) (pgs_cons (pg_name (i := 9) sc_law_turned.nd rfl (Or.inl rfl)) pgs_nil)))))
      (pss_cons (ps_if (pt_cmpR op_eq (pv 7) pe_str (nomark _)) (pss_one (ps_set (i := 9) sc_law_turned.nd rfl (Or.inl rfl) (pe_callTy (call_dictP rfl) (by rfl) (f_dict T) b_dict (pa_cons (pe_lock (pe_lc (own := [("_law_name", 10), ("_law_node", 11)]) rfl sc_law_turned.nd (pi_items (pv 9)) (blkOk_by (own := [("_law_name", 10), ("_law_node", 11)]) (N := ["_law_source_here", "_law_nodes_here", "_law_order", "_law_left", "_law_found", "_law_numbers", "_law_old", "_law_kind", "_law_holder", "_law_more", "_law_name", "_law_node"]) (sc := defScope s_law_turned) (by decide +kernel)) (fun _ _ _ _ _ => (k_pgt (K := K) (n := 2) rfl rfl (pgs_cons (pg_name (i := 10) sc_law_turned.nd rfl (Or.inl rfl) (.inr rfl)) (pgs_cons (pg_name (i := 11) sc_law_turned.nd rfl (Or.inl rfl) (.inr rfl)) pgs_nil)) rfl rfl)) (fun _ _ _ _ _ => pts_nil) (fun _ _ _ _ _ => (pe_tup (pa_cons (pv 10) (pa_cons (pe_dget hu (pv 5) (pv 11) (fun _ _ => rfl)) pa_nil)))))) pa_nil)))) pss_nil)
      (pss_one (ps_expr (pe_bm PySem.F.plainAttrs_list PySem.F.slot_list_append PySem.F.type_list_append mt_append (pv 4) (pa_cons (pe_lst (pa_cons (pv 7) (pa_cons (pv 8) (pa_cons (pe_ifExp (pt_cmpR op_eq (pv 7) pe_str (nomark _)) (pe_dget hu (pv 5) (pv 9) (fun _ _ => rfl)) (pv 9)) pa_nil)))) pa_nil)))))))
      (pss_one (ps_ret (pv 4))))))), ?_⟩
    have hpos := ok.pos
    have hlen := ok.len
    have hrl : rs.length = ns.length := hR.p.len
    refine q_par3 (P := fun vs H4 => ∃ p1 p2 p3, vs = [.ref p1, .ref p2, .ref p3] ∧ H4 p1 = some (.lst (intsV [0])) ∧ H4 p2 = some (.lst (intsV ((List.range (ns.length - 1)).map fun i => 1 + i))) ∧ H4 p3 = some (.lst []) ∧ H p1 = none ∧ H p2 = none ∧ H p3 = none ∧ p1 ≠ p2 ∧ p1 ≠ p3 ∧ p2 ≠ p3) (eap_cons (evl_p (el_lst (vs := [.int 0]) (ea_cons ev_c ea_nil) (by simp))) fun v1 H1 e1 hv1 => eap_cons (evl_p (el_lstRg2 (a := 1) (b := (ns.length : Int)) ev_c (ev_is (ev_len (ev_var rfl) (sq_of (e1 _ _ hR.l))) (by rw [List.length_map, hrl])) (RgOk.of_le (by omega) (by omega) (by omega) (by omega)))) fun v2 H2 e2 hv2 => eap_cons (evl_p (el_lst (vs := []) ea_nil (by simp))) fun v3 H3 e3 hv3 => eap_nil fun H4 e4 => ?_) fun vs H1 e1 hv => ?_
    · obtain ⟨p1, rfl, hp1, h1⟩ := hv1
      obtain ⟨p2, rfl, hp2, h2⟩ := hv2
      obtain ⟨p3, rfl, hp3, h3⟩ := hv3
      rw [show rgV 1 (ns.length : Int) = rgV ((1 : Nat) : Int) (ns.length : Int) from rfl, rgV_nat] at h2
      exact ⟨p1, p2, p3, rfl, e4 _ _ (e3 _ _ (e2 _ _ h1)), e4 _ _ (e3 _ _ h2), e4 _ _ h3, hp1, fresh_back e1 hp2, fresh_back (e1.trans e2) hp3, ne_of_none h1 hp2, ne_of_none (e2 _ _ h1) hp3, ne_of_none h2 hp3⟩
    · obtain ⟨p1, p2, p3, rfl, h1, h2, h3, n1, n2, n3, n12, n13, n23⟩ := hv
      refine ⟨_, _, _, rfl, ?_⟩
      refine q_while (fun m σ' H' => ∃ od lf : List Nat, lf.length = m ∧ σ' = [some (.ref a), some (.ref l), some (.ref p1), some (.ref p2), some (.ref p3), none, none, none, none, none, none, none] ∧ Sr a H H' ∧ H' p1 = some (.lst (intsV od)) ∧ H' p2 = some (.lst (intsV lf)) ∧ H' p3 = some (.lst []) ∧ (od ++ lf).Perm (List.range ns.length) ∧ od.head? = some 0)
        (ns.length - 1) ⟨[0], (List.range (ns.length - 1)).map fun i => 1 + i, by rw [List.length_map, List.length_range], rfl, Sr.of hs e1, h1, h2, h3, ?_, rfl⟩ ?_
      · obtain ⟨m, hm⟩ : ∃ m, ns.length = m + 1 := ⟨ns.length - 1, by omega⟩
        rw [hm, List.range_succ_eq_map, Nat.add_sub_cancel, show (List.range m).map (fun i => 1 + i) = (List.range m).map Nat.succ from List.map_congr_left fun i _ => Nat.add_comm 1 i]
        exact List.Perm.refl _
      · rintro m σ' H' ⟨od, lf, rfl, rfl, s1, q1, q2, q3, pm, hh⟩
        refine ⟨_, et_test (ev_neNil (ev_var rfl) (sq_of q2)), fun hb H2 e2 => ?_, fun hb H2 e2 => ?_⟩
        · have hpos2 : 0 < lf.length := by
            cases lf with
            | nil => cases hb
            | cons x r => exact Nat.succ_pos _
          have hlf : lf.length ≤ 40 := by
            have := pm.length_eq
            rw [List.length_append, List.length_range] at this
            omega
          have hod : od.length ≤ 40 := by
            have := pm.length_eq
            rw [List.length_append, List.length_range] at this
            omega
          have s2 := s1.ex e2
          refine ⟨_, fun σ2 H2 h => h, ?_⟩
          refine go_app (l := p1) (e2 _ _ q1) (ev_var rfl) fun H3 e3 => ?_
          refine go_popAt (l := p2) ((e2.trans e3) _ _ q2) (ev_var rfl) fun H4 e4 => ?_
          refine go_call (dvs := []) (ea_cons (ev_var rfl) (ea_cons (ev_len (ev_var rfl) (sq_of (((e2.trans e3).trans e4) _ _ q2))) ea_nil)) fun H5 e5 => ?_
          have e25 := ((e2.trans e3).trans e4).trans e5
          have s5 := s1.ex e25
          refine ⟨a, lf.length, by rw [List.length_map]; rfl, s5.src, hpos2, by omega, fun r H6 hr6 s6 => ?_⟩
          have hp2a : p2 ≠ a := fun z => by obtain ⟨_, _, _, q⟩ := hs; rw [← z, n2] at q; cases q
          have hp1a : p1 ≠ a := fun z => by obtain ⟨_, _, _, q⟩ := hs; rw [← z, n1] at q; cases q
          have hp3a : p3 ≠ a := fun z => by obtain ⟨_, _, _, q⟩ := hs; rw [← z, n3] at q; cases q
          have q26 := s6.bt _ _ hp2a (e25 _ _ q2)
          have q16 := s6.bt _ _ hp1a (e25 _ _ q1)
          have q36 := s6.bt _ _ hp3a (e25 _ _ q3)
          have s06 := s5.trans s6
          refine ⟨p2, intsV lf, (r : Int), r, .int (lf[r] : Int), rfl, rfl, q26, by omega, by omega, PySem.StrLaws.seqIndex_nonneg (by omega) (by rw [List.length_map]; omega), by rw [List.getElem?_map, List.getElem?_eq_getElem hr6]; rfl, ?_⟩
          refine ⟨p1, intsV od, .int (lf[r] : Int), rfl, rfl, by rw [upd_ne n12]; exact q16, sz_lt (by rw [List.length_map]; omega), ?_⟩
          refine ⟨lf.length - 1, by omega, od ++ [lf[r]], lf.eraseIdx r, by rw [List.length_eraseIdx_of_lt hr6], rfl, (s06.mut hs n2).mut hs n1, by rw [upd_same, show intsV (od ++ [lf[r]]) = intsV od ++ [.int (lf[r] : Int)] from List.map_append ..], by rw [upd_ne n12.symm, upd_same, eraseIdx_mapN], by rw [upd_ne n13.symm, upd_ne n23.symm]; exact q36, ?_, ?_⟩
          · refine List.Perm.trans ?_ pm
            rw [List.append_assoc]
            exact List.Perm.append_left od (erase_perm hr6)
          · rw [List.head?_append, hh]
            rfl
        · have hlf0 : lf = [] := by
            cases lf with
            | nil => rfl
            | cons x r => cases hb
          subst hlf0
          rw [List.append_nil] at pm
          have s2 := s1.ex e2
          have nd : od.Nodup := pm.nodup_iff.mpr List.nodup_range
          have hmem : ∀ x, x ∈ od ↔ x < ns.length := fun x => by rw [pm.mem_iff, List.mem_range]
          have hol : od.length = ns.length := by rw [pm.length_eq, List.length_range]
          refine q_asgP (evp_numb (ev_var rfl) (e2 _ _ q1) nd (by omega)) fun v H3 e3 hv => ?_
          obtain ⟨dn, rfl, hdn0, hdn⟩ := hv
          have s3 := s2.ex e3
          have hdnH : ∀ b u, H b = some u → b ≠ dn := fun b u hb z => by
            by_cases c : b = a
            · obtain ⟨_, _, _, qs⟩ := s2.src
              rw [← c, z, hdn0] at qs
              cases qs
            · have := s2.bt _ _ c hb
              rw [z, hdn0] at this
              cases this
          have n3n : p3 ≠ dn := ne_of_none (e2 _ _ q3) hdn0
          have n1n : p1 ≠ dn := ne_of_none (e2 _ _ q1) hdn0
          have htl : (turned od ns).length = od.length := by unfold turned; rw [List.length_map]
          refine q_forLn (j := 6) (a := p1) (xs := intsV od) (ev_var rfl) (sq_of ((e2.trans e3) _ _ q1)) (fun i σ' H' => ∃ (rs' : List (Addr × Addr)) (x6 x7 x8 x9 : Option V), σ' = [some (.ref a), some (.ref l), some (.ref p1), some (.ref p2), some (.ref p3), some (.ref dn), x6, x7, x8, x9, none, none] ∧ Sr a H H' ∧ H' p1 = some (.lst (intsV od)) ∧
              H' dn = some (.dK (prN (od.zip (List.range od.length)))) ∧ H' p3 = some (.lst (rs'.map fun r => V.ref r.1)) ∧ Paired (RowAt H') rs' ((turned od ns).take i))
            (fun H4 e4 => ⟨[], none, none, none, none, rfl, s3.ex e4, ((e2.trans e3).trans e4) _ _ q1, e4 _ _ hdn, ((e2.trans e3).trans e4) _ _ q3, .nil⟩) (fun i σ' H' _ q => by obtain ⟨_, _, _, _, _, _, _, q, _⟩ := q; exact sq_of q) ?_ ?_
          · rintro i x σ' H4 hx ⟨rs', x6, x7, x8, x9, rfl, s4, q14, qn4, q34, pr⟩
            have hio : i < od.length := by
              have := (List.getElem?_eq_some_iff.mp hx).1
              rw [List.length_map] at this
              exact this
            rw [List.getElem?_map, List.getElem?_eq_getElem hio] at hx
            have hx : V.int (od[i] : Int) = x := Option.some.inj hx
            subst hx
            have hn : od[i] < ns.length := (hmem _).mp (List.getElem_mem hio)
            have hR4 := hR.sr hs s4
            obtain ⟨r, hr1, hr2⟩ := hR4.p.at2 (List.getElem?_eq_getElem hn)
            generalize hnd : ns[od[i]] = nd at hr2
            have hnd' : ns[od[i]]? = some nd := by rw [List.getElem?_eq_getElem hn, hnd]
            have hti : (turned od ns)[i]? = some (ren od nd) := by
              unfold turned
              rw [List.getElem?_map, List.getElem?_eq_getElem hio]
              show some (ren od ((ns[od[i]]?).getD (.fil 0))) = _
              rw [hnd']
              rfl
            have htk : (turned od ns).take (i + 1) = (turned od ns).take i ++ [ren od nd] := by rw [List.take_succ, hti]; rfl
            have hrl4 : rs'.length ≤ 40 := by
              have h1 := pr.len
              have h2 := List.length_take_le i (turned od ns)
              omega
            have fin : ∀ (H6 : Hp) (p d' : Addr) (x6 x7 x8 x9 : Option V), Ex H4 H6 → RowAt H6 (p, d') (ren od nd) → ∃ (rs2 : List (Addr × Addr)) (y6 y7 y8 y9 : Option V), [some (V.ref a), some (V.ref l), some (V.ref p1), some (V.ref p2), some (V.ref p3), some (V.ref dn), x6, x7, x8, x9, none, none] = [some (V.ref a), some (V.ref l), some (V.ref p1), some (V.ref p2), some (V.ref p3), some (V.ref dn), y6, y7, y8, y9, none, none] ∧ Sr a H (upd H6 p3 (.lst (rs'.map (fun r => V.ref r.1) ++ [.ref p]))) ∧
                (upd H6 p3 (.lst (rs'.map (fun r => V.ref r.1) ++ [.ref p]))) p1 = some (.lst (intsV od)) ∧ (upd H6 p3 (.lst (rs'.map (fun r => V.ref r.1) ++ [.ref p]))) dn = some (.dK (prN (od.zip (List.range od.length)))) ∧ (upd H6 p3 (.lst (rs'.map (fun r => V.ref r.1) ++ [.ref p]))) p3 = some (.lst (rs2.map fun r => V.ref r.1)) ∧ Paired (RowAt (upd H6 p3 (.lst (rs'.map (fun r => V.ref r.1) ++ [.ref p])))) rs2 ((turned od ns).take (i + 1)) := fun H6 p d' y6 y7 y8 y9 e6 hrow => by
              have kp : ∀ r n, RowAt H6 r n → RowAt (upd H6 p3 (.lst (rs'.map (fun r => V.ref r.1) ++ [.ref p]))) r n := fun r n q => q.bt Bt.upd (e6 _ _ q34) fun z => by
                rw [List.getElem?_map]
                cases rs'[0]? with
                | none => intro z; cases z
                | some y => intro z; cases z
              refine ⟨rs' ++ [(p, d')], _, _, _, _, rfl, (s4.ex e6).mut hs n3, by rw [upd_ne n13]; exact e6 _ _ q14, by rw [upd_ne n3n.symm]; exact e6 _ _ qn4, by rw [upd_same, List.map_append]; rfl, ?_⟩
              rw [htk]
              exact pr_app (pr.mon fun _ _ z => kp _ _ (z.mono e6)) (.cons (kp _ _ hrow) .nil)
            cases nd with
            | fol o es =>
              obtain ⟨hl1, hl2⟩ := hr2
              obtain ⟨f1, f2, f3⟩ := ok.fol _ _ _ hnd'
              obtain ⟨r0, hr10, hr20⟩ := hR.p.at2 hnd'
              obtain rfl : r0 = r := Option.some.inj (hr10.symm.trans hr1)
              have hdd : dn ≠ r0.2 := (hdnH _ _ hr20.2).symm
              refine q_asgG (ev_op (ev_var rfl) (ev_var rfl) (rv_ixL (v := .ref r0.1) (sq_of hR4.l) (atI_nat (by rw [List.getElem?_map, hr1]; rfl)))) fun H5 e5 => ?_
              refine ⟨r0.1, _, rfl, sq_of (e5 _ _ hl1), rfl, _, _, rfl, _, _, rfl, _, _, rfl, rfl, ?_⟩
              refine q_when (b := true) (et_is (et_test (ev_op (ev_var rfl) ev_c (rv_eq rfl))) (by decide +kernel)) (fun _ H6 e6 => ?_) (fun z => by cases z)
              refine s_asgP (evp_more (d := r0.2) (dn := dn) (od := od) (es := es) f1 f2 (fun e he => (hmem _).mpr (f3 e he)) nd (e6 _ _ (e5 _ _ hl2)) (e6 _ _ (e5 _ _ qn4)) (fun _ => ev_var rfl) (fun _ => ev_var rfl) (fun _ _ _ => ev_var rfl) rfl hdd (fun _ _ => rfl)) fun v H7 e7 hv => ?_
              obtain ⟨d', rfl, hd0, hd7⟩ := hv
              have e47 := (e5.trans e6).trans e7
              refine s_appL (l := p3) (e47 _ _ q34) (ev_var rfl) (el_lst (vs := [.str "folder", .int (o : Int), .ref d']) (ea_cons (ev_var rfl) (ea_cons (ev_var rfl) (ea_cons (ev_if (b := false) (et_is (et_test (ev_op (ev_var rfl) ev_c (rv_eq rfl))) (by decide +kernel)) (fun z => by cases z) fun _ => ev_var rfl) ea_nil))) (by simp)) (by rw [List.length_map]; omega) fun p H8 hp e8 h8 => ?_
              exact fin H8 p d' _ _ _ _ (e47.trans e8) ⟨h8, e8 _ _ hd7⟩
            | fil o =>
              obtain ⟨v, hl1⟩ := hr2
              refine q_asgG (ev_op (ev_var rfl) (ev_var rfl) (rv_ixL (v := .ref r.1) (sq_of hR4.l) (atI_nat (by rw [List.getElem?_map, hr1]; rfl)))) fun H5 e5 => ?_
              refine ⟨r.1, _, rfl, sq_of (e5 _ _ hl1), rfl, _, _, rfl, _, _, rfl, _, _, rfl, rfl, ?_⟩
              refine q_when (b := false) (et_is (et_test (ev_op (ev_var rfl) ev_c (rv_eq rfl))) (by decide +kernel)) (fun z => by cases z) fun _ H6 e6 => ?_
              have e46 := e5.trans e6
              refine s_appL (l := p3) (e46 _ _ q34) (ev_var rfl) (el_lst (vs := [.str "file", .int (o : Int), v]) (ea_cons (ev_var rfl) (ea_cons (ev_var rfl) (ea_cons (ev_if (b := false) (et_is (et_test (ev_op (ev_var rfl) ev_c (rv_eq rfl))) (by decide +kernel)) (fun z => by cases z) fun _ => ev_var rfl) ea_nil))) (by simp)) (by rw [List.length_map]; omega) fun p H8 hp e8 h8 => ?_
              exact fin H8 p p _ _ _ _ (e46.trans e8) ⟨v, h8⟩
            | lnk o z =>
              have hl1 : H4 r.1 = some (.lst [.str "link", .int (o : Int), .str z]) := hr2
              refine q_asgG (ev_op (ev_var rfl) (ev_var rfl) (rv_ixL (v := .ref r.1) (sq_of hR4.l) (atI_nat (by rw [List.getElem?_map, hr1]; rfl)))) fun H5 e5 => ?_
              refine ⟨r.1, _, rfl, sq_of (e5 _ _ hl1), rfl, _, _, rfl, _, _, rfl, _, _, rfl, rfl, ?_⟩
              refine q_when (b := false) (et_is (et_test (ev_op (ev_var rfl) ev_c (rv_eq rfl))) (by decide +kernel)) (fun z => by cases z) fun _ H6 e6 => ?_
              have e46 := e5.trans e6
              refine s_appL (l := p3) (e46 _ _ q34) (ev_var rfl) (el_lst (vs := [.str "link", .int (o : Int), .str z]) (ea_cons (ev_var rfl) (ea_cons (ev_var rfl) (ea_cons (ev_if (b := false) (et_is (et_test (ev_op (ev_var rfl) ev_c (rv_eq rfl))) (by decide +kernel)) (fun z => by cases z) fun _ => ev_var rfl) ea_nil))) (by simp)) (by rw [List.length_map]; omega) fun p H8 hp e8 h8 => ?_
              exact fin H8 p p _ _ _ _ (e46.trans e8) h8
            | gon o g =>
              have hl1 : H4 r.1 = some (.lst [.str "gone", .int (o : Int), .int (g : Int)]) := hr2
              have hg : g ∈ od := (hmem _).mpr (ok.gon _ _ _ hnd')
              refine q_asgG (ev_op (ev_var rfl) (ev_var rfl) (rv_ixL (v := .ref r.1) (sq_of hR4.l) (atI_nat (by rw [List.getElem?_map, hr1]; rfl)))) fun H5 e5 => ?_
              refine ⟨r.1, _, rfl, sq_of (e5 _ _ hl1), rfl, _, _, rfl, _, _, rfl, _, _, rfl, rfl, ?_⟩
              refine q_when (b := false) (et_is (et_test (ev_op (ev_var rfl) ev_c (rv_eq rfl))) (by decide +kernel)) (fun z => by cases z) fun _ H6 e6 => ?_
              have e46 := e5.trans e6
              refine s_appL (l := p3) (e46 _ _ q34) (ev_var rfl) (el_lst (vs := [.str "gone", .int (o : Int), .int (od.idxOf g : Int)]) (ea_cons (ev_var rfl) (ea_cons (ev_var rfl) (ea_cons (ev_if (b := true) (et_is (et_test (ev_op (ev_var rfl) ev_c (rv_eq rfl))) (by decide +kernel)) (fun _ => ev_getD (ev_var rfl) (ev_var rfl) (e46 _ _ qn4) (numb_get nd hg)) (fun z => by cases z)) ea_nil))) (by simp)) (by rw [List.length_map]; omega) fun p H8 hp e8 h8 => ?_
              exact fin H8 p p _ _ _ _ (e46.trans e8) h8
          · rintro σ' H4 ⟨rs', x6, x7, x8, x9, rfl, s4, q14, qn4, q34, pr⟩
            rw [List.length_map, ← htl, List.take_length] at pr
            exact s_ret (ev_var rfl) fun H5 e5 => k od p3 rs' H5 ⟨nd, hmem, hh⟩ (s4.ex e5) ⟨e5 _ _ q34, pr.mon fun _ _ z => z.mono e5⟩
end
end NW
set_option maxHeartbeats 4000000
/-! _law_tree, _law_theirs. -/
namespace NW
open PySem PySem.Spec PyProof.Rows L2 Evl
def tn : Nd → Nd
  | .fol o es => .fol o (sortE es.reverse)
  | n => n
def treeOf (ns : List Nd) : Tr := ns.map tn
def spTreeOf (K : PySem.W.Frag) : Sp := fun vs H Q _ => ∃ (l : Addr) (rs : List (Addr × Addr)) (ns : List Nd), vs = [.ref l] ∧ RowsAt H l rs ns ∧ TurnOk ns ∧ Good (treeOf ns) ∧ ∀ x H', Ex H H' → TreeAt K H' x (treeOf ns) → Q (.ref x) H'
section
variable {K : PySem.W.Frag} {σ : L2.St} {H H' : Hp} {ta tb te : TE}
theorem pr_rev {α β : Type} {F : α → β → Prop} : ∀ {xs : List α} {ys : List β}, Paired F xs ys → Paired F xs.reverse ys.reverse
  | _, _, .nil => .nil
  | _, _, .cons h r => by
    rw [List.reverse_cons, List.reverse_cons]
    exact pr_app (pr_rev r) (.cons h .nil)
theorem evp_ifB {t : TT} {b : Bool} {R : V → Hp → Prop} (h : EvT t σ H b) (h1 : b = true → EvP ta σ H R) (h2 : b = false → EvP tb σ H R) : EvP (tIf t ta tb) σ H R := fun H1 e Q q => h H1 e _ fun H2 e2 => by
  cases b with
  | true => exact h1 rfl H2 (e.trans e2) Q fun v H3 e3 r => q v H3 (e2.trans e3) r
  | false => exact h2 rfl H2 (e.trans e2) Q fun v H3 e3 r => q v H3 (e2.trans e3) r
theorem s_appQ {l : Addr} {xs : List V} {D : Ends} {R : V → Hp → Prop} (hl : H l = some (.lst xs)) (ha : Ev ta σ H (.ref l)) (h : ∀ H1, Ex H H1 → EvP te σ H1 R) (hz : xs.length < 100000) (k : ∀ v H1, Ex H H1 → R v H1 → D.nx σ (upd H1 l (.lst (xs ++ [v])))) :
    tDrop (tBM K "list" rAppend ta (tCons te tNil)) D σ H := go_app hl ha fun H1 e1 => h H1 e1 H1 (Evl.Ex.refl H1) _ fun v H2 e2 r => ⟨l, xs, v, rfl, rfl, (e1.trans e2) _ _ hl, sz_lt hz, k v H2 (e1.trans e2) r⟩
theorem evp_revItems {d : Addr} {es : Ents} (ha : Ev ta σ H (.ref d)) (hd : H d = some (eD es)) : EvP (tRevL K (LiI.tListItems ta)) σ H fun v H' => ∃ l, v = .ref l ∧ EntsLT K H' l es.reverse := fun H1 e Q q =>
  ha H1 e _ fun H2 e2 => ⟨d, _, rfl, (e.trans e2) _ _ hd, fun H3 p ts k3 hp _ _ h3 pr => ⟨p, ts.map V.ref, rfl, sq_of h3, fun p' hp' => q _ _ ((e2.trans k3).trans (Evl.Ex.new hp')) ⟨p', rfl, ts.reverse, .inl (by rw [upd_same, List.map_reverse]), (pr_rev (pr_unmap pr)).mon fun t x z => by
    show (upd H3 p' _) t = _
    rw [upd_ne (ne_of_none z hp')]
    exact z⟩⟩⟩
end
section
variable {P : Program} {w : World} {K : PySem.W.Frag} {mg : Str → Option Value} {base : Heap}
theorem sc_law_tree : FnScope ["_law_nodes_here", "_law_found", "_law_kind", "_law_holder", "_law_more"] ["_law_nodes_here"] (defScope s_law_tree) := ⟨rfl, rfl, rfl, by decide +kernel, rfl, by decide +kernel, by decide +kernel⟩
theorem c_law_tree (T : Txt K mg) : C8.Cal P w K mg base 9 "_law_tree" (spTreeOf K) [] := by
  refine cal_of (fd_law_tree T) (g_law_tree T) (fun _ _ _ _ _ _ us hl => match us, hl with | [_], _ => rfl) sc_law_tree (fun vs H Q E h => ?_) (fun cdv A outer s H vs Q E hr h => ?_)
  · obtain ⟨_, _, _, rfl, _⟩ := h; rfl
  · obtain ⟨l, rs, ns, rfl, hR, ok, G, k⟩ := h
    refine ⟨_, (pss_cons (ps_set (i := 1) sc_law_tree.nd rfl (Or.inl rfl) (pe_lst pa_nil))
      (pss_cons (ps_for PassesOwn.never rfl (pi_list (pv 0)) (pg_unl rfl (pgs_cons (pg_name (i := 2) sc_law_tree.nd rfl (Or.inl rfl)) (pgs_cons (pg_name (i := 3) sc_law_tree.nd rfl (Or.inl rfl)) (pgs_cons (pg_name (i := 4) sc_law_tree.nd rfl (Or.inl rfl)) pgs_nil)))) (pss_one (ps_if (pt_cmpR op_eq (pv 2) pe_str (nomark _)) (pss_one (ps_expr (pe_bm PySem.F.plainAttrs_list PySem.F.slot_list_append PySem.F.type_list_append mt_append (pv 1) (pa_cons (C8.pe_mk (k_Folder T) hr (by decide) rfl (pa_cons (pv 3) (pa_cons (pe_revL (LiI.pe_listItems rfl (pv 4) (by rfl) (f_list T) b_list)) pa_nil))) pa_nil)))) (pss_one (ps_if (pt_cmpR op_eq (pv 2) pe_str (nomark _)) (pss_one (ps_expr (pe_bm PySem.F.plainAttrs_list PySem.F.slot_list_append PySem.F.type_list_append mt_append (pv 1) (pa_cons (C8.pe_mk (k_File T) hr (by decide) rfl (pa_cons (pv 3) pa_nil)) pa_nil)))) (pss_one (ps_expr (pe_bm PySem.F.plainAttrs_list PySem.F.slot_list_append PySem.F.type_list_append mt_append (pv 1) (pa_cons (pe_ifExp (pt_cmpR op_eq (pv 2) pe_str (nomark _)) (C8.pe_mk (k_Link T) hr (by decide) rfl (pa_cons (pv 3) (pa_cons (pv 4) pa_nil))) (C8.pe_mk (k_Gone T) hr (by decide) rfl (pa_cons (pv 3) (pa_cons (pv 4) pa_nil)))) pa_nil)))))))))
      (pss_one (ps_ret (C8.pe_mk (k_Tree T) hr (by decide) rfl (pa_cons (pv 1) pa_nil)))))), ?_⟩
    have hlen := ok.len
    have hrl : rs.length = ns.length := hR.p.len
    refine q_asgL (el_lst (vs := []) ea_nil (by simp)) fun pf H1 hpf e1 hf => ?_
    refine q_forL (a := l) (xs := rs.map fun r => V.ref r.1) (ev_var rfl) (sq_of (e1 _ _ hR.l)) (fun i σ' H' => ∃ (as : List Addr) (x2 x3 x4 : Option V), σ' = [some (.ref l), some (.ref pf), x2, x3, x4] ∧ Ex H H' ∧ H' pf = some (.lst (as.map V.ref)) ∧ Paired (NdAt K H') as ((treeOf ns).take i))
      (fun H2 e2 => ⟨[], none, none, none, rfl, e1.trans e2, e2 _ _ hf, .nil⟩) (fun i σ' H' _ q => by obtain ⟨_, _, _, _, _, q, _⟩ := q; exact sq_of (q _ _ hR.l)) ?_ ?_
    · rintro i x σ' H2 hx ⟨as, x2, x3, x4, rfl, e02, hf2, pr⟩
      rw [List.getElem?_map] at hx
      cases hri : rs[i]? with
      | none => rw [hri] at hx; cases hx
      | some r =>
        rw [hri] at hx
        obtain rfl : V.ref r.1 = x := Option.some.inj hx
        obtain ⟨nd, hnd, hrow⟩ := (hR.mono e02).p.at1 hri
        have hti : (treeOf ns)[i]? = some (tn nd) := by unfold treeOf; rw [List.getElem?_map, hnd]; rfl
        have htk : (treeOf ns).take (i + 1) = (treeOf ns).take i ++ [tn nd] := by rw [List.take_succ, hti]; rfl
        have hal : as.length ≤ 40 := by
          have h1 := pr.len
          have h2 := List.length_take_le i (treeOf ns)
          have h3 : (treeOf ns).length = ns.length := by unfold treeOf; rw [List.length_map]
          have h4 := List.length_take_le' i (treeOf ns)
          omega
        have fin : ∀ (H5 : Hp) (v : V) (y2 y3 y4 : Option V), Ex H2 H5 → (∃ b, v = .ref b ∧ NdAt K H5 b (tn nd)) → ∃ (as2 : List Addr) (x2 x3 x4 : Option V), [some (V.ref l), some (V.ref pf), y2, y3, y4] = [some (V.ref l), some (V.ref pf), x2, x3, x4] ∧ Ex H (upd H5 pf (.lst (as.map V.ref ++ [v]))) ∧ (upd H5 pf (.lst (as.map V.ref ++ [v]))) pf = some (.lst (as2.map V.ref)) ∧ Paired (NdAt K (upd H5 pf (.lst (as.map V.ref ++ [v])))) as2 ((treeOf ns).take (i + 1)) := by
          rintro H5 v y2 y3 y4 e5 ⟨b, rfl, hb⟩
          have i5 : ExI H5 (upd H5 pf (.lst (as.map V.ref ++ [.ref b]))) := ExI.lst (e5 _ _ hf2)
          refine ⟨as ++ [b], _, _, _, rfl, (e02.trans e5).mut hpf, by rw [upd_same, List.map_append]; rfl, ?_⟩
          rw [htk]
          exact pr_app (pr.mon fun _ _ z => z.mono ((Ex.i e5).trans i5)) (.cons (hb.mono i5) .nil)
        have hz : (as.map V.ref).length < 100000 := by rw [List.length_map]; omega
        cases nd with
        | fol o es =>
          obtain ⟨hl1, hl2⟩ := hrow
          obtain ⟨f1, f2, f3⟩ := ok.fol _ _ _ hnd
          refine ⟨r.1, _, rfl, sq_of hl1, rfl, _, _, rfl, _, _, rfl, _, _, rfl, rfl, ?_⟩
          refine s_if (b := true) (et_is (et_test (ev_op (ev_var rfl) ev_c (rv_eq rfl))) (by decide +kernel)) (fun _ H3 e3 => ?_) (fun z => by cases z)
          refine s_appQ (l := pf) (R := fun v H' => ∃ b, v = .ref b ∧ NdAt K H' b (.fol o (sortE es.reverse))) (e3 _ _ hf2) (ev_var rfl) (fun H4 e4 => EvP.imp (evp_mkA (dvs := []) (P := fun ws H' => ∃ lst, ws = [.int (o : Int), .ref lst] ∧ EntsLT K H' lst es.reverse) (R := fun b H' => NdAt K H' b (.fol o (sortE es.reverse))) (eap_cons (ev_p (v := .int (o : Int)) (ev_var rfl)) fun v1 H5 e5 hv1 => eap_cons (evp_revItems (d := r.2) (es := es) (ev_var rfl) (e5 _ _ (e4 _ _ (e3 _ _ hl2)))) fun v2 H6 e6 hv2 => eap_nil fun H7 e7 => ?_) fun vs H5 e5 hv => ?_) fun v H' ⟨b, h1, _, h2⟩ => ⟨b, h1, h2⟩) hz fun v H4 e4 hv => fin H4 v _ _ _ (e3.trans e4) hv
          · obtain ⟨lst, rfl, hE⟩ := hv2
            subst hv1
            exact ⟨lst, rfl, hE.mono e7⟩
          · obtain ⟨lst, hvs, hE⟩ := hv
            subst hvs
            exact mkFolder hE (by unfold NamesOnce; rw [List.map_reverse]; exact List.pairwise_reverse.mpr (List.Pairwise.imp (fun h => Ne.symm h) f1)) (by rw [List.length_reverse]; omega)
        | fil o =>
          obtain ⟨w1, hl1⟩ := hrow
          refine ⟨r.1, _, rfl, sq_of hl1, rfl, _, _, rfl, _, _, rfl, _, _, rfl, rfl, ?_⟩
          refine s_if (b := false) (et_is (et_test (ev_op (ev_var rfl) ev_c (rv_eq rfl))) (by decide +kernel)) (fun z => by cases z) (fun _ H3 e3 => ?_)
          refine s_if (b := true) (et_is (et_test (ev_op (ev_var rfl) ev_c (rv_eq rfl))) (by decide +kernel)) (fun _ H4 e4 => ?_) (fun z => by cases z)
          refine s_appQ (l := pf) (R := fun v H' => ∃ b, v = .ref b ∧ NdAt K H' b (.fil o)) (e4 _ _ (e3 _ _ hf2)) (ev_var rfl) (fun H5 e5 => EvP.imp (evp_mkA (dvs := []) (R := fun b H' => NdAt K H' b (.fil o)) (EvA.p (vs := [.int (o : Int)]) (ea_cons (ev_var rfl) ea_nil)) fun vs H6 e6 hv => ?_) fun v H' ⟨b, h1, _, h2⟩ => ⟨b, h1, h2⟩) hz fun v H5 e5 hv => fin H5 v _ _ _ ((e3.trans e4).trans e5) hv
          subst hv
          exact mkFile
        | lnk o z =>
          have hl1 : H2 r.1 = some (.lst [.str "link", .int (o : Int), .str z]) := hrow
          refine ⟨r.1, _, rfl, sq_of hl1, rfl, _, _, rfl, _, _, rfl, _, _, rfl, rfl, ?_⟩
          refine s_if (b := false) (et_is (et_test (ev_op (ev_var rfl) ev_c (rv_eq rfl))) (by decide +kernel)) (fun z => by cases z) (fun _ H3 e3 => ?_)
          refine s_if (b := false) (et_is (et_test (ev_op (ev_var rfl) ev_c (rv_eq rfl))) (by decide +kernel)) (fun z => by cases z) (fun _ H4 e4 => ?_)
          refine s_appQ (l := pf) (R := fun v H' => ∃ b, v = .ref b ∧ NdAt K H' b (.lnk o z)) (e4 _ _ (e3 _ _ hf2)) (ev_var rfl) (fun H5 e5 => evp_ifB (b := true) (et_is (et_test (ev_op (ev_var rfl) ev_c (rv_eq rfl))) (by decide +kernel)) (fun _ => EvP.imp (evp_mkA (dvs := []) (R := fun b H' => NdAt K H' b (.lnk o z)) (EvA.p (vs := [.int (o : Int), .str z]) (ea_cons (ev_var rfl) (ea_cons (ev_var rfl) ea_nil))) fun vs H6 e6 hv => ?_) fun v H' ⟨b, h1, _, h2⟩ => ⟨b, h1, h2⟩) (fun z => by cases z)) hz fun v H5 e5 hv => fin H5 v _ _ _ ((e3.trans e4).trans e5) hv
          subst hv
          exact mkLink
        | gon o g =>
          have hl1 : H2 r.1 = some (.lst [.str "gone", .int (o : Int), .int (g : Int)]) := hrow
          refine ⟨r.1, _, rfl, sq_of hl1, rfl, _, _, rfl, _, _, rfl, _, _, rfl, rfl, ?_⟩
          refine s_if (b := false) (et_is (et_test (ev_op (ev_var rfl) ev_c (rv_eq rfl))) (by decide +kernel)) (fun z => by cases z) (fun _ H3 e3 => ?_)
          refine s_if (b := false) (et_is (et_test (ev_op (ev_var rfl) ev_c (rv_eq rfl))) (by decide +kernel)) (fun z => by cases z) (fun _ H4 e4 => ?_)
          refine s_appQ (l := pf) (R := fun v H' => ∃ b, v = .ref b ∧ NdAt K H' b (.gon o g)) (e4 _ _ (e3 _ _ hf2)) (ev_var rfl) (fun H5 e5 => evp_ifB (b := false) (et_is (et_test (ev_op (ev_var rfl) ev_c (rv_eq rfl))) (by decide +kernel)) (fun z => by cases z) (fun _ => EvP.imp (evp_mkA (dvs := []) (R := fun b H' => NdAt K H' b (.gon o g)) (EvA.p (vs := [.int (o : Int), .int (g : Int)]) (ea_cons (ev_var rfl) (ea_cons (ev_var rfl) ea_nil))) fun vs H6 e6 hv => ?_) fun v H' ⟨b, h1, _, h2⟩ => ⟨b, h1, h2⟩)) hz fun v H5 e5 hv => fin H5 v _ _ _ ((e3.trans e4).trans e5) hv
          subst hv
          exact mkGone
    · rintro σ' H2 ⟨as, x2, x3, x4, rfl, e02, hf2, pr⟩
      have htl : (treeOf ns).length = ns.length := by unfold treeOf; rw [List.length_map]
      rw [List.length_map, hrl, ← htl, List.take_length] at pr
      refine s_retP (evp_mkA (dvs := []) (R := fun x H' => ∃ t, TrA K H' x t as (treeOf ns)) (EvA.p (ea_cons (ev_var rfl) ea_nil)) fun vs H3 e3 hv => ?_) fun v H3 e3 hv => ?_
      · subst hv
        exact mkTree (e3 _ _ hf2) (pr.mon fun _ _ z => z.mono (Ex.i e3)) G
      · obtain ⟨x, rfl, hx, t2, hT2⟩ := hv
        exact k x H3 (e02.trans e3) ⟨t2, as, hT2⟩
end
end NW
set_option maxHeartbeats 4000000
/-! _law_theirs. -/
namespace NW
open PySem PySem.Spec PyProof.Rows L2 Evl
def spTheirs : Sp := fun vs H Q _ => ∃ (a l : Addr) (rs : List (Addr × Addr)) (ns : List Nd), vs = [.ref a, .ref l] ∧ SrcAt H a ∧ RowsAt H l rs ns ∧ ns.length ≤ 40 ∧
  ∀ (F : List Nat) p H', F.Nodup → (∀ f ∈ F, ∃ o es, ns[f]? = some (Nd.fol o es)) → Sr a H H' → p ≠ a → H' p = some (.lst (intsV F)) → Q (.ref p) H'
section
variable {K : PySem.W.Frag} {σ : L2.St} {H H' : Hp} {ta tb te ts : TE} {tr : TA} {tz : TS} {D : Ends}
theorem go_asg {i : Nat} (h : te σ H fun v H1 => tz D (σ.set i (some v)) H1) : tSeq (tAsg te (gName i)) tz D σ H := h
theorem go_testOp {r : R2} {Q : Bool → Hp → Prop} (h : ta σ H fun x H1 => tb σ H1 fun y H2 => r x y H2 fun v H3 => ∃ b, v = .bl b ∧ Q b H3) : tTest (tOp r ta tb) σ H Q := h
theorem go_and {t u : TT} {Q : Bool → Hp → Prop} (h : t σ H fun c H1 => if c = true then u σ H1 Q else Q false H1) : tAnd t u σ H Q := h
theorem go_lcEnum {l : Addr} {xs : List V} {g : TG} {tt : TT} {vs : List Nat} {Q : VK} (h : EvA tr σ H [.ref l]) (hl : SqL K H l xs) (k : ∀ H1, Ex H H1 → ∀ D, H1 D = none → ∃ W : Nat → Nat → Hp → Prop, (∃ m, W 0 m (upd H1 D (.lst []))) ∧ ∀ i m H, W i m H →
  ((Ite K l).stop i H ∧ Q (.ref D) H) ∨ ((Ite K l).go i H ∧ ∃ Nx : Hp → Prop, (∀ H', Nx H' → ∃ m', m' < m ∧ W (i + 1) m' H') ∧ ∀ x H', (Ite K l).yld i H x H' → g x (wipe σ vs) H' fun σ2 H2 => wipe σ2 vs = wipe σ vs ∧ tt σ2 H2 fun b H3 =>
    if b = true then te σ2 H3 fun y H4 => ∃ acc, H4 D = some (.lst acc) ∧ acc.length < sizeLine ∧ Nx (upd H4 D (.lst (acc ++ [y]))) else Nx H3)) : tLc (iEnum K tr) g tt te vs σ H Q := h H (Evl.Ex.refl H) _ fun H1 e => ⟨l, xs, rfl, ex_l e hl, k H1 e⟩
theorem go_retStep (h : te σ H fun x H1 => ∃ a, x = .ref a ∧ ts σ H1 fun y H2 => ∃ xs, H2 a = some (.lst xs) ∧ ((y = .int 1 ∧ ∀ p, H2 p = none → D.rt (.ref p) (upd H2 p (.lst xs))) ∨ (y = .int (-1) ∧ ∀ p, H2 p = none → D.rt (.ref p) (upd H2 p (.lst xs.reverse))))) : tRet (tStepL te ts) D σ H := h
theorem go_callP {sp : Sp} {dvs : List V} {E : XK} {Pp : List V → Hp → Prop} {Q : VK} (h : EvAP tr σ H Pp) (k : ∀ vs H1, Ex H H1 → Pp vs H1 → sp (vs ++ dvs) H1 Q E) : tCall sp dvs E tr σ H Q := h H (Evl.Ex.refl H) _ k
theorem go_var {i : Nat} {v : V} {Q : VK} (h : σ[i]? = some (some v)) (k : Q v H) : tVar i σ H Q := ⟨v, h, k⟩
end
section
variable {P : Program} {w : World} {K : PySem.W.Frag} {mg : Str → Option Value} {base : Heap}
theorem sc_law_theirs : FnScope ["_law_source_here", "_law_nodes_here", "_law_found", "_law_index", "_law_one"] ["_law_source_here", "_law_nodes_here"] (defScope s_law_theirs) := ⟨rfl, rfl, rfl, by decide +kernel, rfl, by decide +kernel, by decide +kernel⟩
theorem c_law_theirs (T : Txt K mg) : C8.Cal P w K mg base 4 "_law_theirs" spTheirs [] := by
  refine cal_of (fd_law_theirs T) (g_law_theirs T) (fun _ _ _ _ _ _ us hl => match us, hl with | [_, _], _ => rfl) sc_law_theirs (fun vs H Q E h => ?_) (fun cdv A outer s H vs Q E hr h => ?_)
  · obtain ⟨_, _, _, _, rfl, _⟩ := h; rfl
  · obtain ⟨a, l, rs, ns, rfl, hs, hR, hlen, k⟩ := h
    refine ⟨_, (pss_cons (ps_setLc (i := 2) (own := [("_law_index", 3), ("_law_one", 4)]) rfl sc_law_theirs.nd rfl rfl (sw_true rfl rfl rfl (by decide +kernel)) (pi_enum (by rfl) (f_enumerate T) (pa_cons (pv 1) pa_nil)) (blkOk_by (own := [("_law_index", 3), ("_law_one", 4)]) (N := ["_law_source_here", "_law_nodes_here", "_law_found", "_law_index", "_law_one"]) (sc := defScope s_law_theirs) (by decide +kernel)) (fun _ _ _ _ _ => (k_pgt (K := K) (n := 2) rfl rfl (pgs_cons (pg_name (i := 3) sc_law_theirs.nd rfl (Or.inl rfl) (.inr rfl)) (pgs_cons (pg_name (i := 4) sc_law_theirs.nd rfl (Or.inl rfl) (.inr rfl)) pgs_nil)) rfl rfl)) (fun _ _ _ _ _ => (pts_one (PW.pt (pw_and (pt_cmpR op_eq (pe_ix (k_ixl (K := K) rfl) (pv 4) pe_int (fun _ _ => rfl)) pe_str (nomark _)) (pw_and1 (pt_cmpR op_eq (C8.pe_c (c_law_take T) hr (by decide) rfl (pa_cons (pv 0) (pa_cons pe_int pa_nil))) pe_int (nomark _))))))) (fun _ _ _ _ _ => (pv 3)))
      (pss_one (ps_ret (pe_stepL (pv 2) (C8.pe_c (c_law_pick T) hr (by decide) rfl (pa_cons (pv 0) (pa_cons (pe_lst (pa_cons pe_int (pa_cons (pe_un un_neg pe_int) pa_nil))) pa_nil))))))), ?_⟩
    have hrl : rs.length = ns.length := hR.p.len
    refine go_asg (go_lcEnum (l := l) (xs := rs.map fun r => V.ref r.1) (ea_cons (ev_var rfl) ea_nil) (sq_of hR.l) fun H1 e1 D hD => ?_)
    have hHD : H D = none := fresh_back e1 hD
    have hDa : D ≠ a := fun z => by obtain ⟨_, _, _, q⟩ := hs; rw [← z, hHD] at q; cases q
    refine ⟨fun i m H' => m = ns.length - i ∧ i ≤ ns.length ∧ Sr a H H' ∧ ∃ F : List Nat, H' D = some (.lst (intsV F)) ∧ F.Pairwise (· < ·) ∧ F.length ≤ i ∧ ∀ f ∈ F, f < i ∧ ∃ o es, ns[f]? = some (Nd.fol o es),
      ⟨ns.length, by simp, Nat.zero_le _, (Sr.of hs e1).ex (Evl.Ex.new hD), [], upd_same, .nil, Nat.le_refl _, fun f hf => by cases hf⟩, ?_⟩
    rintro i m H2 ⟨rfl, hi, s2, F, hF, inc, hFi, mem⟩
    have hR2 := hR.sr hs s2
    by_cases hlt : i < ns.length
    · obtain ⟨r, hr1, hrow⟩ := hR2.p.at2 (List.getElem?_eq_getElem hlt)
      have hxi : (rs.map fun r => V.ref r.1)[i]? = some (.ref r.1) := by rw [List.getElem?_map, hr1]; rfl
      refine .inr ⟨⟨_, _, sq_of hR2.l, hxi⟩, fun H' => Sr a H H' ∧ ∃ F : List Nat, H' D = some (.lst (intsV F)) ∧ F.Pairwise (· < ·) ∧ F.length ≤ i + 1 ∧ ∀ f ∈ F, f < i + 1 ∧ ∃ o es, ns[f]? = some (Nd.fol o es), fun H' ⟨q1, q2⟩ => ⟨ns.length - (i + 1), by omega, rfl, hlt, q1, q2⟩, fun x H3 y => ?_⟩
      obtain ⟨T3, y3, rfl, hT3, rfl, hy3⟩ := y
      have hy3 := hy3 _ (sq_of hR2.l)
      rw [hxi] at hy3
      obtain rfl : V.ref r.1 = y3 := Option.some.inj hy3
      have e3 : Ex H2 (upd H2 T3 (.tup [.int (i : Int), .ref r.1])) := Evl.Ex.new hT3
      refine ⟨T3, _, rfl, st_of upd_same, rfl, .int (i : Int), [.ref r.1], rfl, .ref r.1, [], rfl, rfl, rfl, ?_⟩
      generalize upd H2 T3 (.tup [.int (i : Int), .ref r.1]) = H3 at e3
      have same : ∀ H4, Sr a H H4 → H4 D = some (.lst (intsV F)) → Sr a H H4 ∧ ∃ F : List Nat, H4 D = some (.lst (intsV F)) ∧ F.Pairwise (· < ·) ∧ F.length ≤ i + 1 ∧ ∀ f ∈ F, f < i + 1 ∧ ∃ o es, ns[f]? = some (Nd.fol o es) := fun H4 q1 q2 => ⟨q1, F, q2, inc, Nat.le_succ_of_le hFi, fun f hf => ⟨Nat.lt_succ_of_lt (mem f hf).1, (mem f hf).2⟩⟩
      have hFl : F.length ≤ 40 := by omega
      have no : ∀ kd : Str, (∃ o v, H3 r.1 = some (.lst [.str kd, .int o, v])) → decide (V.str kd = V.str "folder") = false → tAnd (tTest (tOp rEq (tOp (rIxL K) (tVar 4) (tC (.int 0))) (tC (.str "folder")))) (tTest (tOp rEq (tCall spTake [] C8.E0 (tCons (tVar 0) (tCons (tC (.int 2)) tNil))) (tC (.int 0)))) [some (.ref a), some (.ref l), none, some (.int (i : Int)), some (.ref r.1)] H3 fun b H3 =>
          if b = true then tVar 3 [some (.ref a), some (.ref l), none, some (.int (i : Int)), some (.ref r.1)] H3 fun y H4 => ∃ acc, H4 D = some (.lst acc) ∧ acc.length < sizeLine ∧ (fun H' => Sr a H H' ∧ ∃ F : List Nat, H' D = some (.lst (intsV F)) ∧ F.Pairwise (· < ·) ∧ F.length ≤ i + 1 ∧ ∀ f ∈ F, f < i + 1 ∧ ∃ o es, ns[f]? = some (Nd.fol o es)) (upd H4 D (.lst (acc ++ [y]))) else (fun H' => Sr a H H' ∧ ∃ F : List Nat, H' D = some (.lst (intsV F)) ∧ F.Pairwise (· < ·) ∧ F.length ≤ i + 1 ∧ ∀ f ∈ F, f < i + 1 ∧ ∃ o es, ns[f]? = some (Nd.fol o es)) H3 := fun kd ⟨o, v, hl⟩ hb =>
        go_and (et_is (et_test (ev_op (ev_op (ev_var rfl) ev_c (rv_ixL (v := .str kd) (sq_of hl) at0)) ev_c (rv_eq rfl))) hb H3 (Evl.Ex.refl H3) _ fun H4 e4 => iteF (iteF (same H4 ((s2.ex e3).ex e4) (e4 _ _ (e3 _ _ hF)))))
      generalize hnd : ns[i] = nd at hrow
      have hnd' : ns[i]? = some nd := by rw [List.getElem?_eq_getElem hlt, hnd]
      cases nd with
      | fol o es =>
        obtain ⟨hl, _⟩ := hrow
        refine go_and (et_is (et_test (ev_op (ev_op (ev_var rfl) ev_c (rv_ixL (v := .str "folder") (sq_of (e3 _ _ hl)) at0)) ev_c (rv_eq rfl))) (b := true) (by decide +kernel) H3 (Evl.Ex.refl H3) _ fun H4 e4 => iteT ?_)
        have s4 := (s2.ex e3).ex e4
        refine go_testOp (go_call (dvs := []) (ea_cons (ev_var rfl) (ea_cons ev_c ea_nil)) fun H5 e5 => ?_)
        have s5 := s4.ex e5
        have hF5 := e5 _ _ (e4 _ _ (e3 _ _ hF))
        refine ⟨a, 2, rfl, s5.src, by decide, by decide, fun r0 H6 hr6 s6 => ?_⟩
        have hF6 := s6.bt _ _ hDa hF5
        have s06 := s5.trans s6
        refine ⟨rfl, _, rfl, ?_⟩
        cases hb : decide (V.int (r0 : Int) = V.int 0) with
        | false => exact iteF (same H6 s06 hF6)
        | true =>
          refine iteT (go_var rfl ⟨_, hF6, sz_lt (by rw [List.length_map]; omega), s06.mut hs hHD, F ++ [i], by rw [upd_same, show intsV (F ++ [i]) = intsV F ++ [.int (i : Int)] from List.map_append ..], ?_, by rw [List.length_append, List.length_singleton]; omega, fun f hf => ?_⟩)
          · exact List.pairwise_append.mpr ⟨inc, List.pairwise_singleton _ _, fun f hf g hg => by rw [List.mem_singleton.mp hg]; exact (mem f hf).1⟩
          · rcases List.mem_append.mp hf with z | z
            · exact ⟨Nat.lt_succ_of_lt (mem f z).1, (mem f z).2⟩
            · rw [List.mem_singleton.mp z]
              exact ⟨Nat.lt_succ_self i, o, es, hnd'⟩
      | fil o =>
        obtain ⟨v, hl⟩ := hrow
        exact no "file" ⟨_, _, e3 _ _ hl⟩ (by decide +kernel)
      | lnk o z => exact no "link" ⟨_, _, e3 _ _ hrow⟩ (by decide +kernel)
      | gon o g => exact no "gone" ⟨_, _, e3 _ _ hrow⟩ (by decide +kernel)
    · refine .inl ⟨⟨_, sq_of hR2.l, by rw [List.length_map]; omega⟩, ?_⟩
      have nd : F.Nodup := inc.imp fun h => Nat.ne_of_lt h
      refine go_retStep (go_var rfl ⟨D, rfl, ?_⟩)
      refine go_callP (dvs := []) (Pp := fun vs H' => ∃ p, vs = [.ref a, .ref p] ∧ p ≠ a ∧ H' p = some (.lst [.int 1, .int (-1)])) (eap_cons (ev_p (v := .ref a) (ev_var rfl)) fun v1 H3 e3 hv1 => eap_cons (evl_p (el_lst (vs := [.int 1, .int (-1)]) (ea_cons ev_c (ea_cons (ev_un ev_c ru_neg) ea_nil)) (by simp))) fun v2 H4 e4 hv2 => eap_nil fun H5 e5 => ?_) fun vs H3 e3 hv => ?_
      · obtain ⟨p, rfl, hp, h4⟩ := hv2
        subst hv1
        exact ⟨p, rfl, (fun z => by obtain ⟨_, _, _, q⟩ := (s2.ex e3).src; rw [← z, hp] at q; cases q), e5 _ _ h4⟩
      · obtain ⟨p, rfl, hpa, hp⟩ := hv
        have s3 := s2.ex e3
        refine ⟨a, p, [.int 1, .int (-1)], rfl, s3.src, hpa, hp, by simp, by simp, fun x H4 hx s4 => ⟨intsV F, s4.bt _ _ hDa (e3 _ _ hF), ?_⟩⟩
        have s5 := s3.trans s4
        have qna : ∀ q, H4 q = none → q ≠ a := fun q hq z => by obtain ⟨_, _, _, qs⟩ := s5.src; rw [← z, hq] at qs; cases qs
        rcases List.mem_cons.mp hx with hx | hx
        · exact .inl ⟨hx, fun q hq => k F q _ nd (fun f hf => (mem f hf).2) (s5.ex (Evl.Ex.new hq)) (qna q hq) upd_same⟩
        · refine .inr ⟨List.mem_singleton.mp hx, fun q hq => k F.reverse q _ (List.pairwise_reverse.mpr (List.Pairwise.imp (fun h => Ne.symm h) nd)) (fun f hf => (mem f (List.mem_reverse.mp hf)).2) (s5.ex (Evl.Ex.new hq)) (qna q hq) ?_⟩
          rw [upd_same, show (intsV F).reverse = intsV F.reverse from (List.map_reverse ..).symm]
end
end NW
set_option maxHeartbeats 4000000
/-! Rows in the heap that grow. -/
namespace NW
open PySem PySem.Spec PyProof.Rows L2 Evl
structure RowsIn (H0 H : Hp) (a l : Addr) (rs : List (Addr × Addr)) (ns : List Nd) : Prop where
  at' : RowsAt H l rs ns
  lnew : H0 l = none
  new : ∀ (i : Nat) (r : Addr × Addr) (o : Nat) (es : Ents), rs[i]? = some r → ns[i]? = some (Nd.fol o es) → H0 r.2 = none
  apart : ∀ (i j : Nat) (r r' : Addr × Addr) (o o' : Nat) (es es' : Ents), rs[i]? = some r → rs[j]? = some r' → ns[i]? = some (Nd.fol o es) → ns[j]? = some (Nd.fol o' es') → r.2 = r'.2 → i = j
  sr : Sr a H0 H
variable {H0 H H' : Hp} {a l : Addr} {rs : List (Addr × Addr)} {ns : List Nd}
theorem RowsIn.step (R : RowsIn H0 H a l rs ns) (s : Sr a H H') : RowsIn H0 H' a l rs ns := ⟨R.at'.sr R.sr.src s, R.lnew, R.new, R.apart, R.sr.trans s⟩
theorem RowsIn.ex (R : RowsIn H0 H a l rs ns) (e : Ex H H') : RowsIn H0 H' a l rs ns := R.step (Sr.of R.sr.src e)
theorem RowsIn.len (R : RowsIn H0 H a l rs ns) : rs.length = ns.length := R.at'.p.len
theorem RowAt.fol_d {H : Hp} {r : Addr × Addr} {o : Nat} {es : Ents} (h : RowAt H r (.fol o es)) : H r.2 = some (eD es) := h.2
theorem fold_of {H : Hp} {rs : List (Addr × Addr)} {ns : List Nd} (p : Paired (RowAt H) rs ns) {i : Nat} {r : Addr × Addr} {o : Nat} {es : Ents} (h1 : rs[i]? = some r) (h2 : ns[i]? = some (Nd.fol o es)) : H r.2 = some (eD es) := by
  obtain ⟨n, hn, h⟩ := p.at1 h1
  obtain rfl : n = Nd.fol o es := Option.some.inj (hn.symm.trans h2)
  exact h.2
theorem RowsIn.app (hs : SrcAt H0 a) (R : RowsIn H0 H a l rs ns) {p d : Addr} {n : Nd} (hrow : RowAt H (p, d) n) (hn : ∀ o es, n = Nd.fol o es → H0 d = none ∧ ∀ (i : Nat) (r : Addr × Addr) (o : Nat) (es : Ents), rs[i]? = some r → ns[i]? = some (Nd.fol o es) → r.2 ≠ d) :
    RowsIn H0 (upd H l (.lst (rs.map (fun r => V.ref r.1) ++ [.ref p]))) a l (rs ++ [(p, d)]) (ns ++ [n]) := by
  have hx : ∀ z, (rs.map fun r : Addr × Addr => V.ref r.1)[0]? ≠ some (V.str z) := fun z => by
    rw [List.getElem?_map]
    cases rs[0]? with
    | none => intro z; cases z
    | some y => intro z; cases z
  have kp : ∀ r n, RowAt H r n → RowAt (upd H l (.lst (rs.map (fun r => V.ref r.1) ++ [.ref p]))) r n := fun r n q => q.bt Bt.upd R.at'.l hx
  refine ⟨⟨by rw [upd_same, List.map_append]; rfl, pr_app (R.at'.p.mon kp) (.cons (kp _ _ hrow) .nil)⟩, R.lnew, fun i r o es h1 h2 => ?_, fun i j r r' o o' es es' h1 h2 h3 h4 h5 => ?_, R.sr.mut hs R.lnew⟩
  · rcases get_app h1 with h1 | ⟨e1, h1⟩ <;> rcases get_app h2 with h2 | ⟨e2, h2⟩
    · exact R.new i r o es h1 h2
    · have := (List.getElem?_eq_some_iff.mp h1).1
      have := R.len
      omega
    · have := (List.getElem?_eq_some_iff.mp h2).1
      have := R.len
      omega
    · rw [h1]
      exact (hn o es h2.symm).1
  · have hl := R.len
    rcases get_app h1 with h1 | ⟨e1, h1⟩ <;> rcases get_app h2 with h2 | ⟨e2, h2⟩
    · have g1 := (List.getElem?_eq_some_iff.mp h1).1
      have g2 := (List.getElem?_eq_some_iff.mp h2).1
      rw [List.getElem?_append_left (by omega)] at h3 h4
      exact R.apart i j r r' o o' es es' h1 h2 h3 h4 h5
    · have g1 := (List.getElem?_eq_some_iff.mp h1).1
      rw [List.getElem?_append_left (by omega)] at h3
      rcases get_app h4 with h4 | ⟨_, h4⟩
      · have := (List.getElem?_eq_some_iff.mp h4).1
        omega
      · exact absurd h5 (by rw [h2]; exact (hn o' es' h4.symm).2 i r o es h1 h3)
    · have g1 := (List.getElem?_eq_some_iff.mp h2).1
      rw [List.getElem?_append_left (by omega)] at h4
      rcases get_app h3 with h3 | ⟨_, h3⟩
      · have := (List.getElem?_eq_some_iff.mp h3).1
        omega
      · exact absurd h5.symm (by rw [h1]; exact (hn o es h3.symm).2 j r' o' es' h2 h4)
    · omega
theorem pr_ix {α β : Type} {F : α → β → Prop} : ∀ {xs : List α} {ys : List β}, xs.length = ys.length → (∀ (i : Nat) x y, xs[i]? = some x → ys[i]? = some y → F x y) → Paired F xs ys
  | [], [], _, _ => .nil
  | x :: xs, y :: ys, h, k => .cons (k 0 x y rfl rfl) (pr_ix (Nat.succ.inj h) fun i x y h1 h2 => k (i + 1) x y h1 h2)
theorem RowsIn.put (hs : SrcAt H0 a) (R : RowsIn H0 H a l rs ns) {i o j : Nat} {es : Ents} {nm : Str} {r : Addr × Addr} (hr : rs[i]? = some r) (hi : ns[i]? = some (Nd.fol o es)) :
    RowsIn H0 (upd H r.2 (eD (es ++ [(nm, j)]))) a l rs (addRow ns i nm j) := by
  have hd := fold_of R.at'.p hr hi
  have hil : i < ns.length := (List.getElem?_eq_some_iff.mp hi).1
  have hget : ∀ m, (addRow ns i nm j)[m]? = if m = i then some (Nd.fol o (es ++ [(nm, j)])) else ns[m]? := fun m => by
    rw [addRow_eq hi]
    by_cases c : m = i
    · subst c
      rw [if_pos rfl, List.getElem?_set_self hil]
    · rw [if_neg c, List.getElem?_set_ne (fun z => c z.symm)]
  have isf : ∀ m o' es', (addRow ns i nm j)[m]? = some (Nd.fol o' es') → ∃ o2 es2, ns[m]? = some (Nd.fol o2 es2) := fun m o' es' h => by
    rw [hget] at h
    by_cases c : m = i
    · subst c; exact ⟨_, _, hi⟩
    · rw [if_neg c] at h; exact ⟨_, _, h⟩
  have hlst : ∀ (b : Addr) (xs : List V), H b = some (.lst xs) → (upd H r.2 (eD (es ++ [(nm, j)]))) b = some (.lst xs) := fun b xs q => by
    rw [upd_ne (fun z => by rw [z, hd] at q; cases q)]
    exact q
  refine ⟨⟨hlst _ _ R.at'.l, pr_ix (by rw [addRow_len]; exact R.len) fun m r' n h1 h2 => ?_⟩, R.lnew, fun m r' o' es' h1 h2 => ?_, fun m k r1 r2 o1 o2 es1 es2 h1 h2 h3 h4 h5 => ?_, R.sr.mut hs (R.new i r o es hr hi)⟩
  · obtain ⟨n0, hn0, hrow⟩ := R.at'.p.at1 h1
    rw [hget] at h2
    by_cases c : m = i
    · subst c
      rw [if_pos rfl] at h2
      obtain rfl := Option.some.inj h2
      obtain rfl : r = r' := Option.some.inj (hr.symm.trans h1)
      obtain rfl : Nd.fol o es = n0 := Option.some.inj (hi.symm.trans hn0)
      exact ⟨hlst _ _ hrow.1, upd_same⟩
    · rw [if_neg c] at h2
      obtain rfl : n0 = n := Option.some.inj (hn0.symm.trans h2)
      cases n0 with
      | fol o' es' =>
        refine ⟨hlst _ _ hrow.1, ?_⟩
        rw [upd_ne (fun z => c (R.apart m i r' r o' o es' es h1 hr hn0 hi z))]
        exact hrow.2
      | fil o' => obtain ⟨v, h⟩ := hrow; exact ⟨v, hlst _ _ h⟩
      | lnk o' z => exact hlst _ _ hrow
      | gon o' g => exact hlst _ _ hrow
  · obtain ⟨o2, es2, h⟩ := isf m o' es' h2
    exact R.new m r' o2 es2 h1 h
  · obtain ⟨p1, q1, h⟩ := isf m o1 es1 h3
    obtain ⟨p2, q2, h'⟩ := isf k o2 es2 h4
    exact R.apart m k r1 r2 p1 p2 q1 q2 h1 h2 h h' h5
end NW
set_option maxHeartbeats 4000000
/-! _law_nodes. -/
namespace NW
open PySem PySem.Spec PyProof.Rows L2 Evl
structure DrawnOk (ns : List Nd) : Prop where
  rows : ∃ b t, Rows ns b t ∧ LastOk ns t ∧ b ≤ 80
  len : ns.length ≤ 10
def spNodes : Sp := fun vs H Q _ => ∃ (a : Addr), vs = [.ref a, .int 8, .int 1] ∧ SrcAt H a ∧ ∀ (ns : List Nd) (od : List Nat) p rs H', DrawnOk ns → PermOk od ns.length → Sr a H H' → RowsAt H' p rs (turned od ns) → Q (.ref p) H'
theorem Sr.back {a d : Addr} {H H' : Hp} (s : Sr a H H') (hd : H' d = none) : H d = none := by
  cases c : H d with
  | none => rfl
  | some u =>
    have hda : d ≠ a := fun z => by obtain ⟨_, _, _, q⟩ := s.src; rw [← z, hd] at q; cases q
    rw [s.bt _ _ hda c] at hd
    cases hd
theorem cut_last {xs : List V} (h : 0 < xs.length) : cutV xs none (some (-1)) = xs.take (xs.length - 1) := by
  unfold cutV
  rw [HT.sIx_none, List.drop_zero, Nat.sub_zero]
  congr 1
  show (if (-1 : Int) < 0 then ((-1 : Int) + (xs.length : Int)).toNat else min (-1 : Int).toNat xs.length) = _
  rw [if_pos (by decide)]
  omega
/-- what is drawn: all stands but the source -/
def EvS (a : Addr) (te : TE) (σ : L2.St) (H : Hp) (R : V → Hp → Prop) : Prop := ∀ Q : VK, (∀ v H2, Sr a H H2 → R v H2 → Q v H2) → te σ H Q
section
variable {K : PySem.W.Frag} {σ : L2.St} {H H' : Hp} {ta tb te ts td ty : TE} {tr : TA} {tz tu : TS} {D : Ends} {a : Addr} {E : XK}
theorem evs_take {i b : Nat} (ha : σ[i]? = some (some (.ref a))) (hs : SrcAt H a) (h1 : 1 ≤ b) (h2 : b ≤ 1000000) (hb : ∀ H1, Ev tb σ H1 (.int (b : Int))) : EvS a (tCall spTake [] E (tCons (tVar i) (tCons tb tNil))) σ H fun v _ => ∃ r : Nat, r < b ∧ v = .int (r : Int) := fun Q q =>
  go_call (dvs := []) (ea_cons (ev_var ha) (ea_cons (hb H) ea_nil)) fun H1 e1 => ⟨a, b, rfl, hs.mono e1, h1, h2, fun r H2 hr s => q _ H2 (Sr.pre e1 s) ⟨r, hr, rfl⟩⟩
theorem evs_pick {i : Nat} {xs : List V} (ha : σ[i]? = some (some (.ref a))) (hs : SrcAt H a) (h : EvL te σ H xs) (hne : xs ≠ []) (hz : xs.length ≤ 1000000) : EvS a (tCall spPick [] E (tCons (tVar i) (tCons te tNil))) σ H fun v _ => v ∈ xs := fun Q q =>
  go_callP (dvs := []) (Pp := fun vs H' => ∃ p, vs = [.ref a, .ref p] ∧ p ≠ a ∧ H' p = some (.lst xs)) (eap_cons (ev_p (v := .ref a) (ev_var ha)) fun v1 H3 e3 hv1 => eap_cons (evl_p (h.mono e3)) fun v2 H4 e4 hv2 => eap_nil fun H5 e5 => by
    obtain ⟨p, rfl, hp, h4⟩ := hv2
    subst hv1
    exact ⟨p, rfl, (fun z => by obtain ⟨_, _, _, q⟩ := hs.mono e3; rw [← z, hp] at q; cases q), e5 _ _ h4⟩) fun vs H1 e1 ⟨p, hvs, hpa, hp⟩ => by
    subst hvs
    exact ⟨a, p, xs, rfl, hs.mono e1, hpa, hp, hne, hz, fun x H2 hx s => q x H2 (Sr.pre e1 s) hx⟩
theorem q_asgS {i : Nat} {R : V → Hp → Prop} (h : EvS a te σ H R) (k : ∀ v H1, Sr a H H1 → R v H1 → tz D (σ.set i (some v)) H1) : tSeq (tAsg te (gName i)) tz D σ H := h _ k
theorem s_forS {j : Nat} {N : Nat} {C : Nat → Prop} (h : EvS a te σ H fun v _ => ∃ n : Nat, v = .int (n : Int) ∧ n ≤ N ∧ C n) (hN : N ≤ 1000) (Pv : Nat → Nat → L2.St → Hp → Prop) (h0 : ∀ n H1, n ≤ N → C n → Sr a H H1 → Pv n 0 σ H1)
    (hs : ∀ n i σ' H', i < n → n ≤ N → C n → Pv n i σ' H' → tu { D with nx := Pv n (i + 1), ct := Pv n (i + 1), bk := D.nx } (σ'.set j (some (.int (i : Int)))) H') (hd : ∀ n σ' H', n ≤ N → C n → Pv n n σ' H' → D.nx σ' H') : tFor (iRng1 (tCons te tNil)) (gName j) tu D σ H := by
  refine h _ fun v H1 s1 hv => ?_
  obtain ⟨n, rfl, hn, hc⟩ := hv
  exact s_forR1 (ta := tCons (tC (.int (n : Int))) tNil) (n := (n : Int)) (ea_cons ev_c ea_nil) (by omega) (Pv n) (fun H2 e2 => h0 n H2 hn hc (s1.ex e2)) (fun i σ' H' hi p => hs n i σ' H' (by omega) hn hc p) (fun σ' H' p => hd n σ' H' hn hc p)
theorem q_forS {j : Nat} {N : Nat} {C : Nat → Prop} (h : EvS a te σ H fun v _ => ∃ n : Nat, v = .int (n : Int) ∧ n ≤ N ∧ C n) (hN : N ≤ 1000) (Pv : Nat → Nat → L2.St → Hp → Prop) (h0 : ∀ n H1, n ≤ N → C n → Sr a H H1 → Pv n 0 σ H1)
    (hs : ∀ n i σ' H', i < n → n ≤ N → C n → Pv n i σ' H' → tu { D with nx := Pv n (i + 1), ct := Pv n (i + 1), bk := tz D } (σ'.set j (some (.int (i : Int)))) H') (hd : ∀ n σ' H', n ≤ N → C n → Pv n n σ' H' → tz D σ' H') : tSeq (tFor (iRng1 (tCons te tNil)) (gName j) tu) tz D σ H :=
  s_forS (D := { D with nx := tz D }) h hN Pv h0 hs hd
theorem EvS.imp {R R' : V → Hp → Prop} (h : EvS a te σ H R) (c : ∀ v H', R v H' → R' v H') : EvS a te σ H R' := fun Q q => h Q fun v H2 s r => q v H2 s (c v H2 r)
theorem go_c {v : V} {Q : VK} (h : Q v H) : tC v σ H Q := h
theorem go_ret (h : te σ H fun v H1 => D.rt v H1) : tRet te D σ H := h
theorem q_app' {l : Addr} {xs : List V} (hl : H l = some (.lst xs)) (ha : Ev ta σ H (.ref l)) (k : ∀ H1, Ex H H1 → te σ H1 fun y H2 => rAppend (.ref l) [y] H2 fun _ H3 => tz D σ H3) : tSeq (tDrop (tBM K "list" rAppend ta (tCons te tNil))) tz D σ H := go_app (D := { D with nx := tz D }) hl ha k
theorem set_self' {σ : L2.St} {i : Nat} {v : V} (h : σ[i]? = some (some v)) : σ.set i (some v) = σ := by
  apply List.ext_getElem?
  intro j
  by_cases c : j = i
  · subst c
    rw [h, List.getElem?_set_self (List.getElem?_eq_some_iff.mp h).1]
  · rw [List.getElem?_set_ne (fun z => c z.symm)]
theorem q_whenAsg {t : TT} {i : Nat} {v w : V} (hi : σ[i]? = some (some v)) (h : ∃ b, EvT t σ H b) (he : ∀ H1, Ev te σ H1 w) (k : ∀ u H1, Ex H H1 → (u = v ∨ u = w) → tz D (σ.set i (some u)) H1) : tSeq (tIfS t (tAsg te (gName i)) tNext) tz D σ H := by
  obtain ⟨b, hb⟩ := h
  refine q_when hb (fun _ H1 e1 => ?_) fun _ H1 e1 => ?_
  · exact s_asg (he H1) fun H2 e2 => k w H2 (e1.trans e2) (.inr rfl)
  · have := k v H1 e1 (.inl rfl)
    rw [set_self' hi] at this
    exact this
theorem go_dput {d : Addr} {z : Str} {es : Ents} {j : Nat} (hv : Ev te σ H (.int (j : Int))) (hd : Ev td σ H (.ref d)) (hy : Ev ty σ H (.str z)) (h : H d = some (eD es)) (hz : es.length < 100000) (hn : z ∉ es.map (·.1)) (k : ∀ H1, Ex H H1 → D.nx σ (upd H1 d (eD (es ++ [(z, j)])))) : sDPut td ty te D σ H :=
  hv H (Evl.Ex.refl H) _ fun H1 e1 => hd H1 e1 _ fun H2 e2 => hy H2 (e1.trans e2) _ fun H3 e3 => by
    have e13 := (e1.trans e2).trans e3
    refine ⟨d, _, rfl, DPut.k (k := Sum.inr z) (e13 _ _ h) (sz_lt (by rw [List.length_map]; exact hz)), ?_⟩
    rw [putK_new (by
      rw [List.map_map]
      intro c
      obtain ⟨e, he, q⟩ := List.mem_map.mp c
      exact hn (List.mem_map.mpr ⟨e, he, Sum.inr.inj q⟩))]
    have := k H3 e13
    unfold eD at this
    rw [List.map_append] at this
    exact this
theorem ev_cntV {ys : List V} {k : V} (ha : EvL ta σ H ys) (hk : ∀ H1, Ev te σ H1 k) (fk : flatV k = true) (fa : ys.all flatV = true) : Ev (tBM K "list" (rCntV K) ta (tCons te tNil)) σ H (.int ((ys.countP fun y => eqV y k : Nat) : Int)) := fun H1 e Q q =>
  ha H1 e _ fun p H2 hp e2 h2 => ⟨Or.inl ⟨rfl, ys, sq_of h2⟩, hk H2 H2 (Evl.Ex.refl H2) _ fun H3 e3 => ⟨p, ys, k, rfl, rfl, sq_of (e3 _ _ h2), fk, fa, q H3 (e2.trans e3)⟩⟩
theorem q_whenE {t : TT} (h : ∃ b, EvT t σ H b) (h1 : ∀ H1, Ex H H1 → tu { D with nx := tz D } σ H1) (h2 : ∀ H1, Ex H H1 → tz D σ H1) : tSeq (tIfS t tu tNext) tz D σ H := by
  obtain ⟨b, hb⟩ := h
  exact q_when hb (fun _ => h1) fun _ => h2
theorem ev_notinS {d : Addr} {z : Str} {es : Ents} (hy : Ev ta σ H (.str z)) (hd : Ev td σ H (.ref d)) (h : H d = some (eD es)) : Ev (tDNotIn ta td) σ H (.bl (!decide (z ∈ es.map (·.1)))) := fun H1 e Q q =>
  hy H1 e _ fun H2 e2 => hd H2 (e.trans e2) _ fun H3 e3 => ⟨d, _, rfl, DGet.k (k := Sum.inr z) (((e.trans e2).trans e3) _ _ h), by
    have z : (valV (es.map fun e => ((Sum.inr e.1 : L2.Key), V.int (e.2 : Int))) (Sum.inr z)).isSome = decide (z ∈ es.map (·.1)) := by
      rw [← valV_any]
      rw [Bool.eq_iff_iff, decide_eq_true_iff, List.any_eq_true]
      constructor
      · rintro ⟨p, hp, q⟩
        obtain ⟨e, he, rfl⟩ := List.mem_map.mp hp
        have q := Sum.inr.inj (of_decide_eq_true q)
        exact List.mem_map.mpr ⟨e, he, q⟩
      · intro h
        obtain ⟨e, he, q⟩ := List.mem_map.mp h
        exact ⟨_, List.mem_map.mpr ⟨e, he, rfl⟩, decide_eq_true (by rw [q])⟩
    rw [z]
    exact q H3 (e2.trans e3)⟩
theorem go_lst {Q : VK} (h : tr σ H fun xs H1 => xs.length ≤ sizeLine ∧ ∀ p, H1 p = none → Q (.ref p) (upd H1 p (.lst xs))) : tLst tr σ H Q := h
theorem go_cons {Q : List V → Hp → Prop} (h : te σ H fun x H1 => tr σ H1 fun xs H2 => Q (x :: xs) H2) : tCons te tr σ H Q := h
theorem go_if {t : TT} {Q : VK} (h : t σ H fun c H1 => if c = true then ta σ H1 Q else tb σ H1 Q) : tIf t ta tb σ H Q := h
theorem go_dnew {Q : VK} (h : ∀ p, H p = none → Q (.ref p) (upd H p (.dK []))) : tDNewK σ H Q := h
def kinds : List Str := ["folder", "file", "link"]
/-- [kind, take(source, 3), text if kind == 'link' else {}] -/
theorem evs_row {kd z : Str} (h0 : σ[0]? = some (some (.ref a))) (h5 : σ[5]? = some (some (.str kd))) (h6 : σ[6]? = some (some (.str z))) (hk : kd ∈ kinds) (hz : z ∈ texts) (hs : SrcAt H a) :
    EvS a (tLst (tCons (tVar 5) (tCons (tCall spTake [] E (tCons (tVar 0) (tCons (tC (.int 3)) tNil))) (tCons (tIf (tTest (tOp rEq (tVar 5) (tC (.str "link")))) (tVar 6) tDNewK) tNil)))) σ H fun v H' => ∃ p d n, v = .ref p ∧ RowAt H' (p, d) n ∧ n.es = [] ∧ (∀ o es, n = Nd.fol o es → kd = "folder" ∧ H d = none) ∧ (∀ o z, n = Nd.lnk o z → z ∈ texts) ∧ (∀ o g, n ≠ Nd.gon o g) ∧ (kd = "folder" → ∃ o es, n = Nd.fol o es) := fun Q q => by
  refine go_lst (go_cons (go_var h5 (go_cons (evs_take (b := 3) h0 hs (by decide) (by decide) (fun _ => ev_c) _ fun v H2 s2 hv => ?_))))
  obtain ⟨o, ho, rfl⟩ := hv
  refine go_cons (go_if ?_)
  have hk : kd = "folder" ∨ kd = "file" ∨ kd = "link" := by simpa [kinds] using hk
  rcases hk with rfl | rfl | rfl
  · refine (et_is (et_test (ev_op (ev_var h5) ev_c (rv_eq rfl))) (b := false) (by decide +kernel)) H2 (Evl.Ex.refl H2) _ fun H3 e3 => iteF (go_dnew fun d hd => ⟨by show 3 ≤ sizeLine; decide, fun p hp => ?_⟩)
    have hpd : d ≠ p := fun z => by rw [← z, upd_same] at hp; cases hp
    have s3 := (s2.ex e3).ex (Evl.Ex.new (o := .dK []) hd)
    have hdH : H d = none := (s2.ex e3).back hd
    exact q _ _ (s3.ex (Evl.Ex.new hp)) ⟨p, d, .fol o [], rfl, ⟨upd_same, by show upd _ p _ d = _; rw [upd_ne hpd, upd_same]; rfl⟩, rfl, fun o' es' h => ⟨rfl, hdH⟩, fun o' z' h => (by cases h), fun o' g h => (by cases h), fun _ => ⟨o, [], rfl⟩⟩
  · refine (et_is (et_test (ev_op (ev_var h5) ev_c (rv_eq rfl))) (b := false) (by decide +kernel)) H2 (Evl.Ex.refl H2) _ fun H3 e3 => iteF (go_dnew fun d hd => ⟨by show 3 ≤ sizeLine; decide, fun p hp => ?_⟩)
    have s3 := (s2.ex e3).ex (Evl.Ex.new (o := .dK []) hd)
    exact q _ _ (s3.ex (Evl.Ex.new hp)) ⟨p, d, .fil o, rfl, ⟨_, upd_same⟩, rfl, fun o' es' h => (by cases h), fun o' z' h => (by cases h), fun o' g h => (by cases h), fun h => absurd h (by decide +kernel)⟩
  · refine (et_is (et_test (ev_op (ev_var h5) ev_c (rv_eq rfl))) (b := true) (by decide +kernel)) H2 (Evl.Ex.refl H2) _ fun H3 e3 => iteT (go_var h6 ⟨by show 3 ≤ sizeLine; decide, fun p hp => ?_⟩)
    exact q _ _ ((s2.ex e3).ex (Evl.Ex.new hp)) ⟨p, p, .lnk o z, rfl, upd_same, rfl, fun o' es' h => (by cases h), fun o' z' h => (by cases h; exact hz), fun o' g h => (by cases h), fun h => absurd h (by decide +kernel)⟩
/-- pick(source, [one for one in nodes[:-1] if one[0] == 'folder'])[2] -/
theorem evs_ents {l : Addr} {rs : List (Addr × Addr)} {ns : List Nd} (h0 : σ[0]? = some (some (.ref a))) (h3 : σ[3]? = some (some (.ref l))) (hw : ∀ x, wipe ((wipe σ [11]).set 11 (some x)) [11] = wipe σ [11]) (hsl : σ.length = 13) (hs : SrcAt H a) (hR : RowsAt H l rs ns) (hlen : 1 < ns.length) (hl40 : ns.length ≤ 40) (hroot : ∃ o es, ns[0]? = some (Nd.fol o es)) :
    EvS a (tOp (rIxL K) (tCall spPick [] E (tCons (tVar 0) (tCons (tLc (iList K (tSl (rSlL K) (tVar 3) tNoPart (tPart (tUn (rU fun i => .int (-i)) (tC (.int 1)))))) (gName 11) (tTest (tOp rEq (tOp (rIxL K) (tVar 11) (tC (.int 0))) (tC (.str "folder")))) (tVar 11) [11]) tNil))) (tC (.int 2))) σ H
      fun v _ => ∃ (i : Nat) (r : Addr × Addr) (o : Nat) (es : Ents), rs[i]? = some r ∧ ns[i]? = some (Nd.fol o es) ∧ i + 1 < ns.length ∧ v = .ref r.2 := fun Q q => by
  have hrl : rs.length = ns.length := hR.p.len
  have hxl : (rs.map fun r => V.ref r.1).length = ns.length := by rw [List.length_map, hrl]
  let f : Nat → Bool := fun i => match ns[i]? with | some n => n.isFol | none => false
  let g : Nat → V := fun i => match rs[i]? with | some r => .ref r.1 | none => .non
  have hL : EvL (tLc (iList K (tSl (rSlL K) (tVar 3) tNoPart (tPart (tUn (rU fun i => .int (-i)) (tC (.int 1)))))) (gName 11) (tTest (tOp rEq (tOp (rIxL K) (tVar 11) (tC (.int 0))) (tC (.str "folder")))) (tVar 11) [11]) σ H ((kept (ns.length - 1) f).map g) := by
    have hwk : Wk (iList K (tSl (rSlL K) (tVar 3) tNoPart (tPart (tUn (rU fun i => .int (-i)) (tC (.int 1)))))) σ H (ns.length - 1) (ItOf ((rs.map fun r => V.ref r.1).take (ns.length - 1))) := by
      have := wk_newl (K := K) (el_sl (K := K) (tl := tNoPart) (th := tPart (tUn (rU fun i => .int (-i)) (tC (.int 1)))) (ev_var h3) eo_none (eo_some (i := -1) (ev_un ev_c ru_neg)) (sq_of hR.l))
      rw [cut_last (by omega), hxl] at this
      rw [show ((rs.map fun r => V.ref r.1).take (ns.length - 1)).length = ns.length - 1 from by rw [List.length_take]; omega] at this
      exact this
    refine comp_val hwk (by omega) f g fun i x H1 hi e1 it Q q => ?_
    have it : ((rs.map fun r => V.ref r.1).take (ns.length - 1))[i]? = some x := it
    rw [List.getElem?_take, if_pos hi, List.getElem?_map] at it
    cases hri : rs[i]? with
    | none => rw [hri] at it; cases it
    | some r =>
      rw [hri] at it
      obtain rfl : V.ref r.1 = x := Option.some.inj it
      obtain ⟨n, hn, hrow⟩ := hR.p.at1 hri
      have hlw : (wipe σ [11]).length = 13 := by rw [show (wipe σ [11]).length = σ.length from by simp [wipe]]; exact hsl
      refine q _ H1 (Evl.Ex.refl H1) (hw _) ?_ fun _ => ev_is (ev_var (v := .ref r.1) (by rw [List.getElem?_set_self (by omega)])) (by show _ = g i; simp only [g, hri])
      have hf : f i = n.isFol := by simp only [f, hn]
      rw [hf]
      obtain ⟨kd, o, v, hl⟩ : ∃ kd o v, H1 r.1 = some (.lst [.str kd, .int o, v]) ∧ decide (V.str kd = V.str "folder") = n.isFol := by
        cases n with
        | fol o es => exact ⟨_, _, _, e1 _ _ hrow.1, by show _ = true; decide +kernel⟩
        | fil o => obtain ⟨v, h⟩ := hrow; exact ⟨_, _, _, e1 _ _ h, by show _ = false; decide +kernel⟩
        | lnk o z => exact ⟨_, _, _, e1 _ _ hrow, by show _ = false; decide +kernel⟩
        | gon o z => exact ⟨_, _, _, e1 _ _ hrow, by show _ = false; decide +kernel⟩
      exact et_is (et_test (ev_op (ev_op (ev_var (v := .ref r.1) (by rw [List.getElem?_set_self (by omega)])) ev_c (rv_ixL (v := .str kd) (sq_of hl.1) at0)) ev_c (rv_eq rfl))) hl.2
  refine evs_pick h0 hs hL ?_ (by rw [List.length_map]; have := kept_len (ns.length - 1) f; omega) _ fun v H1 s1 hv => ?_
  · intro z
    have h0k : 0 ∈ kept (ns.length - 1) f := List.mem_filter.mpr ⟨List.mem_range.mpr (by omega), by
      obtain ⟨o, es, h⟩ := hroot
      show f 0 = true
      simp only [f, h]
      rfl⟩
    rw [List.map_eq_nil_iff.mp z] at h0k
    cases h0k
  · obtain ⟨i, hi, rfl⟩ := List.mem_map.mp hv
    obtain ⟨hi1, hi2⟩ := List.mem_filter.mp hi
    have hi1 := List.mem_range.mp hi1
    obtain ⟨r, hr, hrow⟩ := hR.p.at2 (List.getElem?_eq_getElem (show i < ns.length by omega))
    have hg : g i = .ref r.1 := by simp only [g, hr]
    rw [hg]
    have hnd : ns[i]? = some ns[i] := List.getElem?_eq_getElem (by omega)
    generalize ns[i] = nd at hnd hrow
    have hf : f i = nd.isFol := by simp only [f, hnd]
    rw [hf] at hi2
    cases nd with
    | fol o es =>
      have hrow1 := (hR.sr hs s1).p
      have : H1 r.1 = some (.lst [.str "folder", .int (o : Int), .ref r.2]) := by
        obtain ⟨nd, h1, h2⟩ := hrow1.at1 hr
        obtain rfl : nd = Nd.fol o es := Option.some.inj (h1.symm.trans hnd)
        exact h2.1
      exact ⟨r.1, _, 2, _, rfl, rfl, sq_of this, atI_nat (j := 2) rfl, q _ H1 s1 ⟨i, r, o, es, hr, hnd, by omega, rfl⟩⟩
    | _ => cases hi2
/-- [index for index, one in enumerate(nodes) if one[0] in ('folder', 'gone')] -/
theorem el_places {l : Addr} {rs : List (Addr × Addr)} {ns : List Nd} (h3 : σ[3]? = some (some (.ref l))) (hw : ∀ x y, wipe (((wipe σ [12, 11]).set 12 (some x)).set 11 (some y)) [12, 11] = wipe σ [12, 11]) (hsl : σ.length = 13) (hR : RowsAt H l rs ns) (hl40 : ns.length ≤ 40) :
    EvL (tLc (iEnum K (tCons (tVar 3) tNil)) (gTup K 2 (gCons (gName 12) (gCons (gName 11) gNil))) (tTest (tOp (rIn K false) (tOp (rIxL K) (tVar 11) (tC (.int 0))) (tTup (tCons (tC (.str "folder")) (tCons (tC (.str "gone")) tNil))))) (tVar 12) [12, 11]) σ H
      ((kept ns.length (fun i => match ns[i]? with | some n => n.isFol || n.isGon | none => false)).map fun i : Nat => V.int (i : Int)) := by
  have hrl : rs.length = ns.length := hR.p.len
  have hxl : (rs.map fun r => V.ref r.1).length = ns.length := by rw [List.length_map, hrl]
  have hwk := wk_enum (K := K) (ta := tCons (tVar 3) tNil) (σ := σ) (H := H) (ea_cons (ev_var h3) ea_nil) (sq_of hR.l)
  rw [hxl] at hwk
  refine comp_val hwk (by omega) _ _ fun i x H1 hi e1 it Q q => ?_
  obtain ⟨T, y, rfl, hT, hy⟩ := it
  rw [List.getElem?_map] at hy
  cases hri : rs[i]? with
  | none => rw [hri] at hy; cases hy
  | some r =>
    rw [hri] at hy
    obtain rfl : V.ref r.1 = y := Option.some.inj hy
    obtain ⟨n, hn, hrow⟩ := hR.p.at1 hri
    have hlw : (wipe σ [12, 11]).length = 13 := by rw [show (wipe σ [12, 11]).length = σ.length from by simp [wipe]]; exact hsl
    refine ⟨T, _, rfl, st_of hT, rfl, .int (i : Int), [.ref r.1], rfl, .ref r.1, [], rfl, rfl, ?_⟩
    refine q _ H1 (Evl.Ex.refl H1) (hw _ _) ?_ fun _ => ev_var (by rw [List.getElem?_set_ne (by decide), List.getElem?_set_self (by omega)])
    simp only [hn]
    obtain ⟨kd, o, v, hl⟩ : ∃ kd o v, H1 r.1 = some (.lst [.str kd, .int o, v]) ∧ inV (V.str kd) [.str "folder", .str "gone"] = (n.isFol || n.isGon) := by
      cases n with
      | fol o es => exact ⟨_, _, _, e1 _ _ hrow.1, by show _ = true; decide +kernel⟩
      | fil o => obtain ⟨v, h⟩ := hrow; exact ⟨_, _, _, e1 _ _ h, by show _ = false; decide +kernel⟩
      | lnk o z => exact ⟨_, _, _, e1 _ _ hrow, by show _ = false; decide +kernel⟩
      | gon o z => exact ⟨_, _, _, e1 _ _ hrow, by show _ = true; decide +kernel⟩
    exact et_is (et_test (ev_inU (ev_op (ev_var (v := .ref r.1) (by rw [List.getElem?_set_self (by rw [List.length_set]; omega)])) ev_c (rv_ixL (v := .str kd) (sq_of hl.1) at0)) (eu_tup (vs := [.str "folder", .str "gone"]) (ea_cons ev_c (ea_cons ev_c ea_nil)) (by simp)) rfl rfl)) hl.2
end
def kdS : Nd → Str
  | .fol _ _ => "folder"
  | .fil _ => "file"
  | .lnk _ _ => "link"
  | .gon _ _ => "gone"
theorem RowAt.kd {H : Hp} {r : Addr × Addr} {n : Nd} (h : RowAt H r n) : ∃ o v, H r.1 = some (.lst [.str (kdS n), .int o, v]) := by
  cases n with
  | fol o es => exact ⟨_, _, h.1⟩
  | fil o => obtain ⟨v, h⟩ := h; exact ⟨_, _, h⟩
  | lnk o z => exact ⟨_, _, h⟩
  | gon o g => exact ⟨_, _, h⟩
theorem all_flat (f : Nat → Str) : ∀ l : List Nat, (l.map fun i => V.str (f i)).all flatV = true
  | [] => rfl
  | x :: l => by
    rw [List.map_cons, List.all_cons, all_flat f l]
    rfl
theorem el_kinds {K : PySem.W.Frag} {σ : L2.St} {H : Hp} {l : Addr} {rs : List (Addr × Addr)} {ns : List Nd} (h3 : σ[3]? = some (some (.ref l))) (hw : ∀ x, wipe ((wipe σ [11]).set 11 (some x)) [11] = wipe σ [11]) (hsl : σ.length = 13) (hR : RowsAt H l rs ns) (hl40 : ns.length ≤ 40) :
    EvL (tLc (iList K (tVar 3)) (gName 11) tYes (tOp (rIxL K) (tVar 11) (tC (.int 0))) [11]) σ H ((kept ns.length (fun _ => true)).map fun i => V.str (kdS ((ns[i]?).getD (.fil 0)))) := by
  have hrl : rs.length = ns.length := hR.p.len
  have hxl : (rs.map fun r => V.ref r.1).length = ns.length := by rw [List.length_map, hrl]
  have hwk := wk_list (K := K) (tl := tVar 3) (σ := σ) (H := H) (ev_var h3) (sq_of hR.l)
  rw [hxl] at hwk
  refine comp_val hwk (by omega) _ (fun i => V.str (kdS ((ns[i]?).getD (.fil 0)))) fun i x H1 hi e1 it Q q => ?_
  have it : (rs.map fun r => V.ref r.1)[i]? = some x := it
  rw [List.getElem?_map] at it
  cases hri : rs[i]? with
  | none => rw [hri] at it; cases it
  | some r =>
    rw [hri] at it
    obtain rfl : V.ref r.1 = x := Option.some.inj it
    obtain ⟨n, hn, hrow⟩ := hR.p.at1 hri
    have hlw : (wipe σ [11]).length = 13 := by rw [show (wipe σ [11]).length = σ.length from by simp [wipe]]; exact hsl
    obtain ⟨o, v, hl⟩ := hrow.kd
    refine q _ H1 (Evl.Ex.refl H1) (hw _) et_yes fun _ => ev_op (ev_var (v := .ref r.1) (by rw [List.getElem?_set_self (by omega)])) ev_c (rv_ixL (sq_of (e1 _ _ hl)) ?_)
    simp only [hn]
    exact at0
def Bld2 (H : Hp) (a l : Addr) (i : Nat) (kd z : Str) (j : Nat) (σ' : L2.St) (H' : Hp) : Prop := ∃ (rs : List (Addr × Addr)) (ns : List Nd) (b : Nat) (x7 x8 x9 x10 : Option V), σ' = [some (.ref a), some (.int 8), some (.int 1), some (.ref l), some (.int (i : Int)), some (.str kd), some (.str z), x7, x8, x9, x10, none, none] ∧
  RowsIn H H' a l rs ns ∧ Rows ns b j ∧ b ≤ 10 * i + j ∧ ns.length = i + 2 ∧ (∀ o g, ns[i + 1]? ≠ some (Nd.gon o g)) ∧ ((∃ o es, ns[i + 1]? = some (Nd.fol o es)) → kd = "folder")
theorem mn_len : ∀ c : Nat, c < 80 → ("m" : Str).length + (toString (c : Int) : Str).length ≤ 20 := by decide +kernel
theorem mn_log : ∀ c : Nat, c < 80 → ((c : Nat) : Int).natAbs.log2 < 1920 := by decide +kernel
theorem es_le_tot {ns : List Nd} {i o : Nat} {es : Ents} (h : ns[i]? = some (Nd.fol o es)) : es.length ≤ tot ns := by
  have q := sum_set (fun n : Nd => n.es.length) (.fil 0) h
  have e1 : (Nd.fol o es).es.length = es.length := rfl
  have e2 : (Nd.fil 0).es.length = 0 := rfl
  unfold tot
  omega
theorem rows_one (o : Nat) : Rows [Nd.fol o []] 0 0 := by
  have h1 : ∀ (i : Nat) (n : Nd), [Nd.fol o []][i]? = some n → i = 0 ∧ n = .fol o [] := fun i n h => by
    cases i with
    | zero => exact ⟨rfl, (Option.some.inj h).symm⟩
    | succ i => cases h
  refine ⟨⟨o, [], rfl⟩, fun i o' es h => ?_, fun i o' z h => ?_, fun i o' g h => ?_, fun j h2 h3 _ => ?_, fun h => absurd h (show ¬ 1 < 1 by decide), fun _ => rfl, by rw [show tot [Nd.fol o []] = 0 from rfl]; exact Nat.zero_le _⟩
  · obtain ⟨_, h⟩ := h1 _ _ h
    obtain ⟨_, rfl⟩ := Nd.fol.inj h
    exact ⟨List.nodup_nil, fun e he => by cases he⟩
  · obtain ⟨_, h⟩ := h1 _ _ h; cases h
  · obtain ⟨_, h⟩ := h1 _ _ h; cases h
  · have : j + 1 < 1 := h3
    omega
/-- m rows are built; names of 10k+turn below c are used -/
def Bld (H : Hp) (a l : Addr) (m c : Nat) (σ' : L2.St) (H' : Hp) : Prop := ∃ (rs : List (Addr × Addr)) (ns : List Nd) (b t : Nat) (x4 x5 x6 x7 x8 x9 x10 : Option V), σ' = [some (.ref a), some (.int 8), some (.int 1), some (.ref l), x4, x5, x6, x7, x8, x9, x10, none, none] ∧ RowsIn H H' a l rs ns ∧ Rows ns b t ∧ LastOk ns t ∧ b ≤ c ∧ ns.length = m
section
variable {P : Program} {w : World} {K : PySem.W.Frag} {mg : Str → Option Value} {base : Heap}
theorem sc_law_nodes : FnScope ["_law_source_here", "_law_most", "_law_links", "_law_nodes_here", "_law_k", "_law_kind", "_law_text", "_law_turn", "_law_entries", "_law_name", "_law_places", "_law_one", "_law_index"] ["_law_source_here", "_law_most", "_law_links"] (defScope s_law_nodes) := ⟨rfl, rfl, rfl, by decide +kernel, rfl, by decide +kernel, by decide +kernel⟩
theorem c_law_nodes (T : Txt K mg) : C8.Cal P w K mg base 4 "_law_nodes" spNodes [] := by
  refine cal_of (fd_law_nodes T) (g_law_nodes T) (fun _ _ _ _ _ _ us hl => match us, hl with | [_, _, _], _ => rfl) sc_law_nodes (fun vs H Q E h => ?_) (fun cdv A outer s H vs Q E hr h => ?_)
  · obtain ⟨_, rfl, _⟩ := h; rfl
  · obtain ⟨a, rfl, hs, k⟩ := h
    have hu := hu_of hr
    refine ⟨_, (pss_cons (ps_set (i := 3) sc_law_nodes.nd rfl (Or.inl rfl) (pe_lst (pa_cons (pe_lst (pa_cons pe_str (pa_cons (C8.pe_c (c_law_take T) hr (by decide) rfl (pa_cons (pv 0) (pa_cons pe_int pa_nil))) (pa_cons pe_dnewK pa_nil)))) pa_nil)))
      (pss_cons (ps_for PassesOwn.never rfl (pi_range1 rfl (f_range T) (pa_cons (C8.pe_c (c_law_take T) hr (by decide) rfl (pa_cons (pv 0) (pa_cons (pv 1) pa_nil))) pa_nil)) (pg_name (i := 4) sc_law_nodes.nd rfl (Or.inl rfl)) (pss_cons (ps_set (i := 5) sc_law_nodes.nd rfl (Or.inl rfl) (C8.pe_c (c_law_pick T) hr (by decide) rfl (pa_cons (pv 0) (pa_cons (pe_lst (pa_cons pe_str (pa_cons pe_str (pa_cons pe_str (pa_cons pe_str (pa_cons pe_str (pa_cons pe_str pa_nil))))))) pa_nil))))
      (pss_cons (ps_if (PW.pt (pw_and (pt_cmpR op_eq (pv 5) pe_str (nomark _)) (pw_and1 (pt_cmpR op_ge (pe_bm PySem.F.plainAttrs_list PySem.F.slot_list_count PySem.F.type_list_count mt_countV (pe_lc (own := [("_law_one", 11)]) rfl sc_law_nodes.nd (pi_list (pv 3)) (blkOk_by (own := [("_law_one", 11)]) (N := ["_law_source_here", "_law_most", "_law_links", "_law_nodes_here", "_law_k", "_law_kind", "_law_text", "_law_turn", "_law_entries", "_law_name", "_law_places", "_law_one", "_law_index"]) (sc := defScope s_law_nodes) (by decide +kernel)) (fun _ _ _ _ _ => (pg_name (i := 11) sc_law_nodes.nd rfl (Or.inl rfl) (.inr rfl))) (fun _ _ _ _ _ => pts_nil) (fun _ _ _ _ _ => (pe_ix (k_ixl (K := K) rfl) (pv 11) pe_int (fun _ _ => rfl)))) (pa_cons pe_str pa_nil)) (pv 2) (nomark _))))) (pss_one (ps_set (i := 5) sc_law_nodes.nd rfl (Or.inl rfl) pe_str)) pss_nil)
      (pss_cons (ps_set (i := 6) sc_law_nodes.nd rfl (Or.inl rfl) (C8.pe_c (c_law_pick T) hr (by decide) rfl (pa_cons (pv 0) (pa_cons (pe_lst (pa_cons pe_str (pa_cons pe_str (pa_cons pe_str (pa_cons pe_str (pa_cons pe_str (pa_cons pe_str (pa_cons pe_str (pa_cons pe_str (pa_cons pe_str (pa_cons pe_str pa_nil))))))))))) pa_nil))))
      (pss_cons (ps_expr (pe_bm PySem.F.plainAttrs_list PySem.F.slot_list_append PySem.F.type_list_append mt_append (pv 3) (pa_cons (pe_lst (pa_cons (pv 5) (pa_cons (C8.pe_c (c_law_take T) hr (by decide) rfl (pa_cons (pv 0) (pa_cons pe_int pa_nil))) (pa_cons (pe_ifExp (pt_cmpR op_eq (pv 5) pe_str (nomark _)) (pv 6) pe_dnewK) pa_nil)))) pa_nil)))
      (pss_one (ps_for PassesOwn.never rfl (pi_range1 rfl (f_range T) (pa_cons (pe_ifExp (pt_cmpR op_eq (pv 5) pe_str (nomark _)) pe_int (C8.pe_c (c_law_pick T) hr (by decide) rfl (pa_cons (pv 0) (pa_cons (pe_lst (pa_cons pe_int (pa_cons pe_int (pa_cons pe_int (pa_cons pe_int (pa_cons pe_int pa_nil)))))) pa_nil)))) pa_nil)) (pg_name (i := 7) sc_law_nodes.nd rfl (Or.inl rfl)) (pss_cons (ps_set (i := 8) sc_law_nodes.nd rfl (Or.inl rfl) (pe_ix ix_list (C8.pe_c (c_law_pick T) hr (by decide) rfl (pa_cons (pv 0) (pa_cons (pe_lc (own := [("_law_one", 11)]) rfl sc_law_nodes.nd (pi_list (pe_slice sl_list (pv 3) po_none (po_some (pe_un un_neg pe_int)))) (blkOk_by (own := [("_law_one", 11)]) (N := ["_law_source_here", "_law_most", "_law_links", "_law_nodes_here", "_law_k", "_law_kind", "_law_text", "_law_turn", "_law_entries", "_law_name", "_law_places", "_law_one", "_law_index"]) (sc := defScope s_law_nodes) (by decide +kernel)) (fun _ _ _ _ _ => (pg_name (i := 11) sc_law_nodes.nd rfl (Or.inl rfl) (.inr rfl))) (fun _ _ _ _ _ => (pts_one (pt_cmpR op_eq (pe_ix (k_ixl (K := K) rfl) (pv 11) pe_int (fun _ _ => rfl)) pe_str (nomark _)))) (fun _ _ _ _ _ => (pv 11))) pa_nil))) pe_int (fun _ _ => rfl)))
      (pss_cons (ps_set (i := 9) sc_law_nodes.nd rfl (Or.inl rfl) (C8.pe_c (c_law_pick T) hr (by decide) rfl (pa_cons (pv 0) (pa_cons (pe_lst (pa_cons pe_str (pa_cons pe_str (pa_cons pe_str (pa_cons pe_str (pa_cons pe_str (pa_cons pe_str (pa_cons pe_str pa_nil)))))))) pa_nil))))
      (pss_one (ps_dput hu (pv 8) (pe_ifExp (pt_cmp (pc_dnotin hu (pv 9) (pv 8)) (by first | exact nobehind _ (by decide) (by decide) | rfl)) (pv 9) (pe_op op_add_str pe_str (pe_callTy call_str_int (by rfl) (f_str T) b_str (pa_cons (pe_op op_add (pe_op op_mul pe_int (pv 4)) (pv 7)) pa_nil)))) (pe_op op_sub (pe_callB call_len_seq (by rfl) (f_len T) b_len (pa_cons (pv 3) pa_nil)) pe_int) rfl)))))))))))
      (pss_cons (ps_for PassesOwn.never rfl (pi_range1 rfl (f_range T) (pa_cons (C8.pe_c (c_law_pick T) hr (by decide) rfl (pa_cons (pv 0) (pa_cons (pe_lst (pa_cons pe_int (pa_cons pe_int (pa_cons pe_int (pa_cons pe_int pa_nil))))) pa_nil))) pa_nil)) (pg_name (i := 4) sc_law_nodes.nd rfl (Or.inl rfl)) (pss_cons (ps_setLc (i := 10) (own := [("_law_index", 12), ("_law_one", 11)]) rfl sc_law_nodes.nd rfl rfl (sw_true rfl rfl rfl (by decide +kernel)) (pi_enum (by rfl) (f_enumerate T) (pa_cons (pv 3) pa_nil)) (blkOk_by (own := [("_law_index", 12), ("_law_one", 11)]) (N := ["_law_source_here", "_law_most", "_law_links", "_law_nodes_here", "_law_k", "_law_kind", "_law_text", "_law_turn", "_law_entries", "_law_name", "_law_places", "_law_one", "_law_index"]) (sc := defScope s_law_nodes) (by decide +kernel)) (fun _ _ _ _ _ => (k_pgt (K := K) (n := 2) rfl rfl (pgs_cons (pg_name (i := 12) sc_law_nodes.nd rfl (Or.inl rfl) (.inr rfl)) (pgs_cons (pg_name (i := 11) sc_law_nodes.nd rfl (Or.inl rfl) (.inr rfl)) pgs_nil)) rfl rfl)) (fun _ _ _ _ _ => (pts_one (pt_cmpR (k_in (K := K) rfl) (pe_ix (k_ixl (K := K) rfl) (pv 11) pe_int (fun _ _ => rfl)) (pe_tup (pa_cons pe_str (pa_cons pe_str pa_nil))) (by rfl)))) (fun _ _ _ _ _ => (pv 12)))
      (pss_one (ps_expr (pe_bm PySem.F.plainAttrs_list PySem.F.slot_list_append PySem.F.type_list_append mt_append (pv 3) (pa_cons (pe_lst (pa_cons pe_str (pa_cons (C8.pe_c (c_law_take T) hr (by decide) rfl (pa_cons (pv 0) (pa_cons pe_int pa_nil))) (pa_cons (C8.pe_c (c_law_pick T) hr (by decide) rfl (pa_cons (pv 0) (pa_cons (pv 10) pa_nil))) pa_nil)))) pa_nil))))))
      (pss_one (ps_ret (C8.pe_c (c_law_turned T) hr (by decide) rfl (pa_cons (pv 0) (pa_cons (pv 3) pa_nil)))))))), ?_⟩
    refine go_asg (go_lst (go_cons (go_lst (go_cons (go_c (go_cons (evs_take (b := 3) rfl hs (by decide) (by decide) (fun _ => ev_c) _ fun v H1 s1 hv => ?_)))))))
    obtain ⟨o, ho, rfl⟩ := hv
    refine go_cons (go_dnew fun d hd => ⟨by show 3 ≤ sizeLine; decide, fun p hp => ⟨by show 1 ≤ sizeLine; decide, fun l hl => ?_⟩⟩)
    have e1 : Ex H1 (upd H1 d (.dK [])) := Evl.Ex.new hd
    have e2 : Ex (upd H1 d (.dK [])) (upd (upd H1 d (.dK [])) p (.lst [.str "folder", .int (o : Int), .ref d])) := Evl.Ex.new hp
    have hdq := e2 _ _ (upd_same (H := H1) (a := d) (o := .dK []))
    have hpq : (upd (upd H1 d (.dK [])) p (.lst [.str "folder", .int (o : Int), .ref d])) p = some (.lst [.str "folder", .int (o : Int), .ref d]) := upd_same
    have e3 : Ex (upd (upd H1 d (.dK [])) p (.lst [.str "folder", .int (o : Int), .ref d])) (upd (upd (upd H1 d (.dK [])) p (.lst [.str "folder", .int (o : Int), .ref d])) l (.lst [.ref p])) := Evl.Ex.new hl
    have R1 : RowsIn H (upd (upd (upd H1 d (.dK [])) p (.lst [.str "folder", .int (o : Int), .ref d])) l (.lst [.ref p])) a l [(p, d)] [.fol o []] := by
      refine ⟨⟨upd_same, .cons ⟨e3 _ _ hpq, e3 _ _ hdq⟩ .nil⟩, s1.back (fresh_back (e1.trans e2) hl), fun i r o es h1 h2 => ?_, fun i j r r' o o' es es' h1 h2 h3 h4 h5 => ?_, s1.ex ((e1.trans e2).trans e3)⟩
      · have : i = 0 := by have := (List.getElem?_eq_some_iff.mp h1).1; simp at this; exact this
        subst this
        obtain rfl : (p, d) = r := Option.some.inj h1
        exact s1.back hd
      · have g1 := (List.getElem?_eq_some_iff.mp h1).1
        have g2 := (List.getElem?_eq_some_iff.mp h2).1
        simp at g1 g2
        omega
    generalize upd (upd (upd H1 d (.dK [])) p (.lst [.str "folder", .int (o : Int), .ref d])) l (.lst [.ref p]) = H2 at R1
    have rows0 : Rows [Nd.fol o []] 0 0 := rows_one o
    have last0 : LastOk [Nd.fol o []] 0 := ⟨by decide, fun _ h => absurd h (show ¬ 1 < 1 by decide)⟩
    refine q_forS (a := a) (N := 7) (C := fun _ => True) (EvS.imp (evs_take (b := 8) rfl R1.sr.src (by decide) (by decide) (fun _ => ev_var rfl)) fun v H' ⟨r, h1, h2⟩ => ⟨r, h2, by omega, trivial⟩) (by decide) (fun n i => Bld H a l (i + 1) (10 * i))
      (fun n H3 _ _ s3 => ⟨[(p, d)], [.fol o []], 0, 0, none, none, none, none, none, none, none, rfl, R1.step s3, rows0, last0, Nat.zero_le _, rfl⟩) (fun n i σ' H3 hin hn _ hb => ?_) (fun n σ' H3 hn _ hb => ?_)
    · obtain ⟨rs, ns, b, t, x4, x5, x6, x7, x8, x9, x10, rfl, R, rows, last, hbc, hm⟩ := hb
      have hrl := R.len
      refine q_asgS (evs_pick (xs := [.str "folder", .str "folder", .str "folder", .str "file", .str "file", .str "link"]) rfl R.sr.src (el_lst (ea_cons ev_c (ea_cons ev_c (ea_cons ev_c (ea_cons ev_c (ea_cons ev_c (ea_cons ev_c ea_nil)))))) (by simp)) (by simp) (by simp)) fun v H4 s4 hv => ?_
      obtain ⟨kd, hkd, rfl⟩ : ∃ kd ∈ kinds, v = V.str kd := by
        simp only [List.mem_cons, List.not_mem_nil, or_false] at hv
        rcases hv with rfl | rfl | rfl | rfl | rfl | rfl <;> exact ⟨_, by simp [kinds], rfl⟩
      have R4 := R.step s4
      refine q_whenAsg (i := 5) (v := .str kd) (w := .str "file") rfl ?_ (fun _ => ev_c) fun u H5 e5 hu5 => ?_
      · exact ⟨_, et_and (et_test (ev_op (ev_var rfl) ev_c (rv_eq rfl))) fun _ => et_test (ev_op (ev_cntV (el_kinds (l := l) (rs := rs) (ns := ns) rfl (fun _ => rfl) rfl R4.at' (by omega)) (fun _ => ev_c) rfl (all_flat _ _)) (ev_var rfl) rv_I0)⟩
      obtain ⟨kd, hkd, rfl⟩ : ∃ kd ∈ kinds, u = V.str kd := by
        rcases hu5 with rfl | rfl
        · exact ⟨kd, hkd, rfl⟩
        · exact ⟨_, by simp [kinds], rfl⟩
      have R5 := R4.ex e5
      refine q_asgS (evs_pick (xs := texts.map V.str) rfl R5.sr.src (el_lst (ea_cons ev_c (ea_cons ev_c (ea_cons ev_c (ea_cons ev_c (ea_cons ev_c (ea_cons ev_c (ea_cons ev_c (ea_cons ev_c (ea_cons ev_c (ea_cons ev_c ea_nil)))))))))) (by simp [texts])) (by simp [texts]) (by simp [texts])) fun v H6 s6 hv => ?_
      obtain ⟨z, hz, rfl⟩ : ∃ z ∈ texts, v = V.str z := by
        obtain ⟨z, hz, h⟩ := List.mem_map.mp hv
        exact ⟨z, hz, h.symm⟩
      have R6 := R5.step s6
      refine q_app' (l := l) (xs := rs.map fun r => V.ref r.1) R6.at'.l (ev_var rfl) fun H7 e7 => ?_
      have R7 := R6.ex e7
      refine evs_row (kd := kd) (z := z) rfl rfl rfl hkd hz R7.sr.src _ fun v H8 s8 hv => ?_
      obtain ⟨p', d', n', rfl, hrow, hes, hfo, hln, hgo, hkf⟩ := hv
      have R8 := R7.step s8
      refine ⟨l, _, _, rfl, rfl, R8.at'.l, sz_lt (by rw [List.length_map]; omega), ?_⟩
      have R9 := R8.app hs hrow fun o' es' hn' => by
        obtain ⟨_, hd'⟩ := hfo o' es' hn'
        refine ⟨R7.sr.back hd', fun i' r' o2 es2 h1 h2 z => ?_⟩
        have := fold_of R7.at'.p h1 h2
        rw [z, hd'] at this
        cases this
      have rows9 := rows.app last hes (fun o' z' h => hln o' z' h) fun o' g h => absurd h (hgo o' g)
      generalize upd H8 l (.lst (rs.map (fun r => V.ref r.1) ++ [.ref p'])) = H9 at R9
      refine s_forS (a := a) (N := 2) (C := fun m => kd = "folder" → m = 1) (fun Q q => go_if ?_) (by decide) (fun _ j => Bld2 H a l i kd z j) (fun m H10 _ _ s10 => ?_) (fun m j σ' H10 hjm hm2 hC hb => ?_) (fun m σ' H10 hm2 hC hb => ?_)
      · have src9 := R9.sr.src
        by_cases hkf2 : kd = "folder"
        · subst hkf2
          exact (et_is (et_test (ev_op (ev_var rfl) ev_c (rv_eq rfl))) (b := true) (by decide +kernel)) H9 (Evl.Ex.refl H9) _ fun H10 e10 => iteT (go_c (q _ _ (Sr.of src9 e10) ⟨1, rfl, by decide, fun _ => rfl⟩))
        · refine (et_is (et_test (ev_op (ev_var rfl) ev_c (rv_eq rfl))) (b := false) (decide_eq_false fun z => hkf2 (V.str.inj z))) H9 (Evl.Ex.refl H9) _ fun H10 e10 => iteF (evs_pick (xs := [.int 0, .int 1, .int 1, .int 1, .int 2]) rfl (src9.mono e10) (el_lst (ea_cons ev_c (ea_cons ev_c (ea_cons ev_c (ea_cons ev_c (ea_cons ev_c ea_nil))))) (by simp)) (by simp) (by simp) _ fun v H11 s11 hv => ?_)
          have hv : ∃ m : Nat, v = V.int (m : Int) ∧ m ≤ 2 := by
            simp only [List.mem_cons, List.not_mem_nil, or_false] at hv
            rcases hv with rfl | rfl | rfl | rfl | rfl
            · exact ⟨0, rfl, by decide⟩
            · exact ⟨1, rfl, by decide⟩
            · exact ⟨1, rfl, by decide⟩
            · exact ⟨1, rfl, by decide⟩
            · exact ⟨2, rfl, by decide⟩
          obtain ⟨m, h1, h2⟩ := hv
          exact q _ _ (Sr.pre e10 s11) ⟨m, h1, h2, fun h => absurd h hkf2⟩
      · have hlast : (ns ++ [n'])[i + 1]? = some n' := by rw [← hm, List.getElem?_append_right (Nat.le_refl _), Nat.sub_self]; rfl
        refine ⟨_, ns ++ [n'], b, _, _, _, _, rfl, R9.step s10, rows9, by omega, by rw [List.length_append, List.length_singleton]; omega, fun o' g h => ?_, fun ⟨o', es', h⟩ => ?_⟩
        · rw [hlast] at h
          exact hgo o' g (Option.some.inj h)
        · rw [hlast] at h
          exact (hfo o' es' (Option.some.inj h)).1
      · obtain ⟨rs2, ns2, b2, y7, y8, y9, y10, rfl, Ri, rowsi, hb2, hl2, hg2, hf2⟩ := hb
        have hrl2 := Ri.len
        refine q_asgS (evs_ents (l := l) (rs := rs2) (ns := ns2) rfl rfl (fun _ => rfl) rfl Ri.sr.src Ri.at' (by omega) (by omega) rowsi.root) fun v H11 s11 hv => ?_
        obtain ⟨i0, r, o1, es1, hr1, hn1, hi0, rfl⟩ := hv
        have Ri1 := Ri.step s11
        refine q_asgS (evs_pick (xs := baseN.map V.str) rfl Ri1.sr.src (el_lst (ea_cons ev_c (ea_cons ev_c (ea_cons ev_c (ea_cons ev_c (ea_cons ev_c (ea_cons ev_c (ea_cons ev_c ea_nil))))))) (by simp [baseN])) (by simp [baseN]) (by simp [baseN])) fun v H12 s12 hv => ?_
        obtain ⟨nm, hnm, rfl⟩ : ∃ nm ∈ baseN, v = V.str nm := by
          obtain ⟨nm, h1, h2⟩ := List.mem_map.mp hv
          exact ⟨nm, h1, h2.symm⟩
        have Ri2 := Ri1.step s12
        have hd12 := fold_of Ri2.at'.p hr1 hn1
        have hez := es_le_tot hn1
        have hsz := rowsi.sz
        obtain ⟨once1, ents1⟩ := rowsi.fol' i0 o1 es1 hn1
        have hm80 : 10 * i + j < 80 := by omega
        have key : ∀ nm', (nm' = if nm ∈ es1.map (·.1) then mn (10 * i + j) else nm) → nm' ∉ es1.map (·.1) ∧ NmOk (10 * i + j + 1) nm' := fun nm' h => by
          by_cases c : nm ∈ es1.map (·.1)
          · rw [if_pos c] at h
            subst h
            refine ⟨fun z => ?_, .inr ⟨_, Nat.lt_succ_self _, rfl⟩⟩
            obtain ⟨e, he, q⟩ := List.mem_map.mp z
            exact mn_new hm80 (by rw [← q]; exact (ents1 e he).1.mono hb2)
          · rw [if_neg c] at h
            subst h
            exact ⟨c, .inl hnm⟩
        obtain ⟨k1, k2⟩ := key _ rfl
        generalize hnm' : (if nm ∈ es1.map (·.1) then mn (10 * i + j) else nm) = nm' at k1 k2
        refine go_dput (d := r.2) (z := nm') (es := es1) (j := ns2.length - 1) ?_ (ev_var rfl) ?_ hd12 (by omega) k1 fun H13 e13 => ?_
        · refine ev_is (ev_op (ev_len (ev_var rfl) (sq_of Ri2.at'.l)) ev_c rv_sub) ?_
          rw [List.length_map, hrl2]
          congr 1
          omega
        · refine ev_if (b := !decide (nm ∈ es1.map (·.1))) (et_test (ev_notinS (ev_var rfl) (ev_var rfl) hd12)) (fun hb => ?_) fun hb => ?_
          · have c : nm ∉ es1.map (·.1) := by simpa using hb
            rw [if_neg c] at hnm'
            subst hnm'
            exact ev_var rfl
          · have c : nm ∈ es1.map (·.1) := by simpa using hb
            rw [if_pos c] at hnm'
            subst hnm'
            refine ev_op ev_c (ev_cb (ea_cons (ev_is (ev_op (ev_op ev_c (ev_var rfl) (rv_mul (.inl (by decide)))) (ev_var rfl) rv_add) (show V.int (10 * (i : Int) + (j : Int)) = V.int ((10 * i + j : Nat) : Int) by congr 1)) ea_nil) fun H1 e Q q => ⟨_, rfl, ?_, q H1 (Evl.Ex.refl H1)⟩) fun H1 e Q q => ⟨_, _, rfl, rfl, sz_of (Nat.le_trans (mn_len (10 * i + j) hm80) (by decide)), q H1 (Evl.Ex.refl H1)⟩
            exact mn_log (10 * i + j) hm80
        · have R13 := (Ri2.ex e13).put hs (nm := nm') (j := ns2.length - 1) hr1 hn1
          have rows13 := rowsi.add (b' := 10 * i + j + 1) (nm := nm') (by omega) hn1 (by omega) (fun e he z => k1 (List.mem_map.mpr ⟨e, he, z⟩)) k2 (fun o' g h => hg2 o' g (by rw [show i + 1 = ns2.length - 1 by omega]; exact h))
          have hadd := addRow_eq hn1 nm' (ns2.length - 1)
          have hgt : (addRow ns2 i0 nm' (ns2.length - 1))[i + 1]? = ns2[i + 1]? := by
            rw [hadd, List.getElem?_set_ne (by omega)]
          exact ⟨rs2, _, 10 * i + j + 1, _, _, _, _, rfl, R13, rows13, by omega, by rw [addRow_len]; exact hl2, fun o' g h => hg2 o' g (by rw [← hgt]; exact h), fun h => hf2 (by rw [hgt] at h; exact h)⟩
      · obtain ⟨rs2, ns2, b2, y7, y8, y9, y10, rfl, Ri, rowsi, hb2, hl2, hg2, hf2⟩ := hb
        exact ⟨rs2, ns2, b2, m, _, _, _, _, _, _, _, rfl, Ri, rowsi, ⟨hm2, fun h _ => hC (hf2 (by rw [show i + 1 = ns2.length - 1 by omega]; exact h))⟩, by omega, by omega⟩
    · obtain ⟨rs, ns, b, t, x4, x5, x6, x7, x8, x9, x10, rfl, R, rows, last, hbc, hm⟩ := hb
      refine q_forS (a := a) (N := 2) (C := fun _ => True) (EvS.imp (evs_pick (xs := [.int 0, .int 0, .int 1, .int 2]) rfl R.sr.src (el_lst (ea_cons ev_c (ea_cons ev_c (ea_cons ev_c (ea_cons ev_c ea_nil)))) (by simp)) (by simp) (by simp)) fun v H' hv => ?_) (by decide) (fun _ j => Bld H a l (n + 1 + j) 80)
        (fun m H3 _ _ s3 => ⟨rs, ns, b, t, _, _, _, _, _, _, _, rfl, R.step s3, rows, last, by omega, hm⟩) (fun m j σ' H3 hjm hm2 _ hb => ?_) (fun m σ' H3 hm2 _ hb => ?_)
      · simp only [List.mem_cons, List.not_mem_nil, or_false] at hv
        rcases hv with rfl | rfl | rfl | rfl
        · exact ⟨0, rfl, by decide, trivial⟩
        · exact ⟨0, rfl, by decide, trivial⟩
        · exact ⟨1, rfl, by decide, trivial⟩
        · exact ⟨2, rfl, by decide, trivial⟩
      · obtain ⟨rs, ns, b, t, x4, x5, x6, x7, x8, x9, x10, rfl, R, rows, last, hbc, hm⟩ := hb
        have hrl := R.len
        refine q_asgL (el_places (l := l) (rs := rs) (ns := ns) rfl (fun _ _ => rfl) rfl R.at' (by omega)) fun pl H4 hpl e4 hpl4 => ?_
        have R4 := R.ex e4
        have hpla : pl ≠ a := fun z => by obtain ⟨_, _, _, q⟩ := R.sr.src; rw [← z, hpl] at q; cases q
        refine go_app (l := l) R4.at'.l (ev_var rfl) fun H5 e5 => ?_
        have R5 := R4.ex e5
        refine go_lst (go_cons (go_c (go_cons (evs_take (b := 3) rfl R5.sr.src (by decide) (by decide) (fun _ => ev_c) _ fun v H6 s6 hv => ?_))))
        obtain ⟨o6, _, rfl⟩ := hv
        have R6 := R5.step s6
        have hpl6 := s6.bt _ _ hpla (e5 _ _ hpl4)
        refine go_cons (go_call (dvs := []) (ea_cons (ev_var rfl) (ea_cons (ev_var rfl) ea_nil)) fun H7 e7 => ?_)
        have R7 := R6.ex e7
        refine ⟨a, pl, _, rfl, R7.sr.src, hpla, e7 _ _ hpl6, ?_, by rw [List.length_map]; have := kept_len ns.length (fun i => match ns[i]? with | some n => n.isFol || n.isGon | none => false); omega, fun x H8 hx s8 => ?_⟩
        · intro z
          have h0k : 0 ∈ kept ns.length (fun i => match ns[i]? with | some n => n.isFol || n.isGon | none => false) := List.mem_filter.mpr ⟨List.mem_range.mpr (by omega), by
            obtain ⟨o, es, h⟩ := rows.root
            show (match ns[0]? with | some n => n.isFol || n.isGon | none => false) = true
            rw [h]
            rfl⟩
          rw [List.map_eq_nil_iff.mp z] at h0k
          cases h0k
        · obtain ⟨g, hg, rfl⟩ := List.mem_map.mp hx
          obtain ⟨hg1, hg2⟩ := List.mem_filter.mp hg
          have hg1 := List.mem_range.mp hg1
          have hnd : ns[g]? = some ns[g] := List.getElem?_eq_getElem hg1
          have hkind : (∃ o' es, ns[g]? = some (Nd.fol o' es)) ∨ ∃ o' g', ns[g]? = some (Nd.gon o' g') := by
            generalize ns[g] = nd at hnd
            have hg2 : (match ns[g]? with | some n => n.isFol || n.isGon | none => false) = true := hg2
            rw [hnd] at hg2 ⊢
            cases nd with
            | fol o es => exact .inl ⟨o, es, rfl⟩
            | gon o g => exact .inr ⟨o, g, rfl⟩
            | fil o => cases hg2
            | lnk o z => cases hg2
          have R8 := R7.step s8
          refine ⟨by show 3 ≤ sizeLine; decide, fun p9 hp9 => ?_⟩
          have e9 : Ex H8 (upd H8 p9 (.lst [.str "gone", .int (o6 : Int), .int (g : Int)])) := Evl.Ex.new hp9
          have R9 := R8.ex e9
          have hrow : RowAt (upd H8 p9 (.lst [.str "gone", .int (o6 : Int), .int (g : Int)])) (p9, p9) (.gon o6 g) := upd_same
          have R10 := R9.app hs hrow fun o' es' h => by cases h
          have rows10 := rows.app last (n := .gon o6 g) rfl (fun o z h => by cases h) fun o' g' h => by
            obtain ⟨_, rfl⟩ := Nd.gon.inj h
            exact ⟨hg1, hkind⟩
          refine ⟨l, _, .ref p9, rfl, rfl, R9.at'.l, sz_lt (by rw [List.length_map]; omega), ?_⟩
          refine ⟨_, _, b, 0, _, _, _, _, _, _, _, rfl, R10, rows10, ⟨by decide, fun ⟨o', es', h⟩ _ => ?_⟩, hbc, by rw [List.length_append, List.length_singleton]; omega⟩
          rw [List.length_append, List.length_singleton, Nat.add_sub_cancel, List.getElem?_append_right (Nat.le_refl _), Nat.sub_self] at h
          cases h
      · obtain ⟨rs, ns, b, t, x4, x5, x6, x7, x8, x9, x10, rfl, R, rows, last, hbc, hm⟩ := hb
        refine go_ret (go_call (dvs := []) (ea_cons (ev_var rfl) (ea_cons (ev_var rfl) ea_nil)) fun H4 e4 => ?_)
        have R4 := R.ex e4
        refine ⟨a, l, rs, ns, rfl, R4.sr.src, R4.at', ⟨by omega, by omega, fun i o es h => ?_, fun i o g h => ?_⟩, fun od p rs' H5 pm s5 hR5 => k ns od p rs' H5 ⟨⟨b, t, rows, last, hbc⟩, by omega⟩ pm (R4.sr.trans s5) hR5⟩
        · obtain ⟨q1, q2⟩ := rows.fol' i o es h
          have := es_le_tot h
          have := rows.sz
          have := last.1
          exact ⟨q1, by omega, fun e he => (q2 e he).2.2.1⟩
        · have h1 := (rows.gon' i o g h).1
          have h2 := (List.getElem?_eq_some_iff.mp h).1
          omega
end
end NW
set_option maxHeartbeats 4000000
/-! What is drawn makes a good tree. -/
namespace NW
open PySem
theorem sum_filter {α : Type} (p : α → Bool) (f : α → Nat) (h : ∀ x, p x = false → f x = 0) : ∀ l : List α, ((l.filter p).map f).sum = (l.map f).sum
  | [] => rfl
  | x :: l => by
    have ih := sum_filter p f h l
    cases c : p x with
    | true => rw [List.filter_cons, if_pos c, List.map_cons, List.map_cons, List.sum_cons, List.sum_cons, ih]
    | false => rw [List.filter_cons, if_neg (by rw [c]; decide), List.map_cons, List.sum_cons, ih, h x c, Nat.zero_add]
theorem range_map {α β : Type} (g : α → β) (d : α) (l : List α) : (List.range l.length).map (fun i => g ((l[i]?).getD d)) = l.map g := by
  apply List.ext_getElem?
  intro i
  rw [List.getElem?_map, List.getElem?_map]
  by_cases c : i < l.length
  · rw [List.getElem?_range c, List.getElem?_eq_getElem c]
    show some (g ((l[i]?).getD d)) = some (g l[i])
    rw [List.getElem?_eq_getElem c]
    rfl
  · rw [List.getElem?_eq_none (by rw [List.length_range]; omega), List.getElem?_eq_none (by omega)]
    rfl
theorem ents_getD (T : Tr) (f : Nat) : ents T f = ((T[f]?).getD (.fil 0)).es := by
  unfold ents
  cases T[f]? with
  | none => rfl
  | some n => rfl
theorem entsTo_len (T : Tr) (j : Nat) : (entsTo T j).length = cntTo T j := by
  unfold entsTo cntTo fols
  rw [List.length_flatMap]
  have e : (fun f => (((ents T f).filter fun e => decide (e.2 = j)).map fun e => (f, e.1)).length) = fun f => ((((T[f]?).getD (.fil 0)).es).filter fun e => decide (e.2 = j)).length := funext fun f => by rw [List.length_map, ents_getD]
  rw [e, sum_filter, ← range_map (fun n : Nd => (n.es.filter fun e => decide (e.2 = j)).length) (.fil 0) T]
  intro f hf
  cases c : T[f]? with
  | none => rfl
  | some n =>
    have : n.isFol = false := by rw [← isF_nd c]; exact hf
    cases n with
    | fol o es => cases this
    | _ => rfl
section
variable {ns : List Nd} {od : List Nat}
theorem PermOk.len (p : PermOk od ns.length) : od.length = ns.length := by
  have : od.Perm (List.range ns.length) := (List.perm_ext_iff_of_nodup p.nd List.nodup_range).mpr fun x => by rw [p.mem, List.mem_range]
  rw [this.length_eq, List.length_range]
theorem PermOk.perm (p : PermOk od ns.length) : od.Perm (List.range ns.length) := (List.perm_ext_iff_of_nodup p.nd List.nodup_range).mpr fun x => by rw [p.mem, List.mem_range]
theorem PermOk.ix (p : PermOk od ns.length) {x : Nat} (h : x < ns.length) : od.idxOf x < ns.length ∧ od[od.idxOf x]? = some x := by
  have hm := (p.mem x).mpr h
  have h1 : od.idxOf x < od.length := List.idxOf_lt_length_of_mem hm
  refine ⟨by rw [← p.len]; exact h1, ?_⟩
  rw [List.getElem?_eq_getElem h1, List.getElem_idxOf h1]
theorem turned_get (p : PermOk od ns.length) {j x : Nat} (h : od[j]? = some x) : ∃ n, ns[x]? = some n ∧ (treeOf (turned od ns))[j]? = some (tn (ren od n)) := by
  have hx : x < ns.length := (p.mem x).mp (List.mem_of_getElem? h)
  refine ⟨ns[x], List.getElem?_eq_getElem hx, ?_⟩
  unfold treeOf turned
  rw [List.getElem?_map, List.getElem?_map, h]
  show some (tn (ren od ((ns[x]?).getD (.fil 0)))) = _
  rw [List.getElem?_eq_getElem hx]
  rfl
theorem es_tn (n : Nd) : (tn n).es.Perm n.es := by
  cases n with
  | fol o es => exact (sortE_perm es.reverse).trans (List.reverse_perm es)
  | _ => exact List.Perm.refl _
theorem es_ren (od : List Nat) (n : Nd) : (ren od n).es = n.es.map fun e => (e.1, od.idxOf e.2) := by
  cases n <;> rfl
theorem ix_iff (p : PermOk od ns.length) {j x y : Nat} (h : od[j]? = some x) : od.idxOf y = j ↔ y = x := by
  obtain ⟨hj, hx⟩ := List.getElem?_eq_some_iff.mp h
  constructor
  · intro e
    have hm : y ∈ od := List.idxOf_lt_length_iff.mp (by rw [e]; exact hj)
    have := List.getElem_idxOf (show od.idxOf y < od.length by rw [e]; exact hj)
    rw [← this, ← hx]
    simp only [e]
  · rintro rfl
    rw [← hx, List.Nodup.idxOf_getElem p.nd]
theorem cnt_turned (p : PermOk od ns.length) {j x : Nat} (h : od[j]? = some x) : cntTo (treeOf (turned od ns)) j = cntTo ns x := by
  unfold cntTo treeOf turned
  rw [List.map_map, List.map_map]
  have e : (((fun n : Nd => (n.es.filter fun e => decide (e.2 = j)).length) ∘ tn) ∘ (fun i : Nat => ren od ((ns[i]?).getD (Nd.fil 0)))) = fun i : Nat => (((ns[i]?).getD (Nd.fil 0)).es.filter fun e => decide (e.2 = x)).length := funext fun i => by
    show ((tn (ren od ((ns[i]?).getD (.fil 0)))).es.filter fun e => decide (e.2 = j)).length = _
    rw [((es_tn _).filter _).length_eq, es_ren, List.filter_map, List.length_map]
    congr 1
    refine List.filter_congr fun e _ => ?_
    exact decide_eq_decide.mpr (ix_iff p h)
  rw [e, (p.perm.map _).sum_nat, range_map (fun n : Nd => (n.es.filter fun e => decide (e.2 = x)).length) (.fil 0) ns]
theorem tot_turned (p : PermOk od ns.length) : ((treeOf (turned od ns)).map fun n => n.es.length).sum = tot ns := by
  unfold tot treeOf turned
  rw [List.map_map, List.map_map]
  have e : (((fun n : Nd => n.es.length) ∘ tn) ∘ (fun i : Nat => ren od ((ns[i]?).getD (Nd.fil 0)))) = fun i : Nat => ((ns[i]?).getD (Nd.fil 0)).es.length := funext fun i => by
    show (tn (ren od ((ns[i]?).getD (.fil 0)))).es.length = _
    rw [(es_tn _).length_eq, es_ren, List.length_map]
  rw [e, (p.perm.map _).sum_nat, range_map (fun n : Nd => n.es.length) (.fil 0) ns]
theorem nm_facts : (∀ z ∈ baseN, nameOk z = true) ∧ ∀ m, m < 80 → nameOk (mn m) = true := by
  constructor <;> decide +kernel
theorem nm_ok {b : Nat} {z : Str} (hb : b ≤ 80) (h : NmOk b z) : NameOk z ∧ z ∈ origs := by
  rcases h with h | ⟨m, hm, rfl⟩
  · exact ⟨nameOk_iff.mp (nm_facts.1 z h), List.mem_append_left _ h⟩
  · exact ⟨nameOk_iff.mp (nm_facts.2 m (by omega)), List.mem_append_right _ (List.mem_map.mpr ⟨m, List.mem_range.mpr (by omega), rfl⟩)⟩
theorem drawn_turn (d : DrawnOk ns) (p : PermOk od ns.length) : TurnOk (turned od ns) := by
  obtain ⟨⟨b, t, R, L, hb⟩, hlen⟩ := d
  have hl : (turned od ns).length = ns.length := by unfold turned; rw [List.length_map, p.len]
  have hpos := R.pos
  have get : ∀ (i : Nat) (n : Nd), (turned od ns)[i]? = some n → ∃ x m, od[i]? = some x ∧ ns[x]? = some m ∧ n = ren od m := fun i n h => by
    unfold turned at h
    rw [List.getElem?_map] at h
    cases c : od[i]? with
    | none => rw [c] at h; cases h
    | some x =>
      rw [c] at h
      have hx : x < ns.length := (p.mem x).mp (List.mem_of_getElem? c)
      have h : ren od ((ns[x]?).getD (.fil 0)) = n := Option.some.inj h
      rw [List.getElem?_eq_getElem hx] at h
      exact ⟨x, ns[x], rfl, List.getElem?_eq_getElem hx, h.symm⟩
  refine ⟨by omega, by omega, fun i o es h => ?_, fun i o g h => ?_⟩
  · obtain ⟨x, m, hx, hm, e⟩ := get i _ h
    cases m with
    | fol o2 es2 =>
      obtain ⟨_, rfl⟩ := Nd.fol.inj e
      obtain ⟨q1, q2⟩ := R.fol' x o2 es2 hm
      have h1 := es_le_tot hm
      have h2 := R.sz
      have h3 := L.1
      refine ⟨?_, by rw [List.length_map]; omega, fun e he => ?_⟩
      · unfold NamesOnce
        rw [List.map_map]
        exact q1
      · obtain ⟨e2, he2, rfl⟩ := List.mem_map.mp he
        rw [hl]
        exact (p.ix (q2 e2 he2).2.2.1).1
    | _ => cases e
  · obtain ⟨x, m, hx, hm, e⟩ := get i _ h
    cases m with
    | gon o2 g2 =>
      obtain ⟨_, rfl⟩ := Nd.gon.inj e
      have h1 := (R.gon' x o2 g2 hm).1
      have h2 := (List.getElem?_eq_some_iff.mp hm).1
      rw [hl]
      exact (p.ix (by omega)).1
    | _ => cases e
theorem tree_get (p : PermOk od ns.length) {i : Nat} {n : Nd} (h : (treeOf (turned od ns))[i]? = some n) : ∃ x m, od[i]? = some x ∧ ns[x]? = some m ∧ n = tn (ren od m) := by
  cases c : od[i]? with
  | none =>
    unfold treeOf turned at h
    rw [List.getElem?_map, List.getElem?_map, c] at h
    cases h
  | some x =>
    obtain ⟨m, h1, h2⟩ := turned_get p c
    exact ⟨x, m, rfl, h1, Option.some.inj (h.symm.trans h2)⟩
theorem drawn_isF (p : PermOk od ns.length) {j x : Nat} (h : od[j]? = some x) : isF (treeOf (turned od ns)) j = true ↔ ∃ o es, ns[x]? = some (Nd.fol o es) := by
  obtain ⟨m, h1, h2⟩ := turned_get p h
  rw [isF_nd h2, h1]
  cases m with
  | fol o es => exact ⟨fun _ => ⟨o, es, rfl⟩, fun _ => rfl⟩
  | _ => exact ⟨(fun z => by cases z), fun ⟨_, _, z⟩ => by cases z⟩
/-- the entries of a folder that is drawn -/
theorem drawn_ents (p : PermOk od ns.length) {f : Nat} {e : Str × Nat} (h : e ∈ ents (treeOf (turned od ns)) f) : ∃ x o es e', od[f]? = some x ∧ ns[x]? = some (Nd.fol o es) ∧ e' ∈ es ∧ e = (e'.1, od.idxOf e'.2) := by
  unfold ents at h
  cases c : (treeOf (turned od ns))[f]? with
  | none => rw [c] at h; cases h
  | some n =>
    rw [c] at h
    obtain ⟨x, m, hx, hm, rfl⟩ := tree_get p c
    have h : e ∈ (tn (ren od m)).es := h
    rw [(es_tn _).mem_iff, es_ren] at h
    obtain ⟨e', he', rfl⟩ := List.mem_map.mp h
    cases m with
    | fol o es => exact ⟨x, o, es, e', hx, hm, he', rfl⟩
    | _ => cases he'
theorem drawn_names (d : DrawnOk ns) (p : PermOk od ns.length) (f : Nat) (e : Str × Nat) (h : e ∈ ents (treeOf (turned od ns)) f) : e.1 ∈ origs := by
  obtain ⟨⟨b, t, R, L, hb⟩, hlen⟩ := d
  obtain ⟨x, o, es, e', hx, hm, he', rfl⟩ := drawn_ents p h
  exact (nm_ok hb ((R.fol' x o es hm).2 e' he').1).2
theorem drawn_good (d : DrawnOk ns) (p : PermOk od ns.length) : Good (treeOf (turned od ns)) := by
  have tu := drawn_turn d p
  obtain ⟨⟨b, t, R, L, hb⟩, hlen⟩ := d
  have hl : (treeOf (turned od ns)).length = ns.length := by unfold treeOf turned; rw [List.length_map, List.length_map, p.len]
  have hpos := R.pos
  have h0 : od[0]? = some 0 := by rw [← List.head?_eq_getElem?]; exact p.head
  have hsz := R.sz
  have ht := L.1
  refine ⟨by omega, (drawn_isF p h0).mpr R.root, fun i n h => ?_, fun j hj hj0 => ?_, by rw [tot_turned p]; omega, ⟨fun j => (od[j]?).getD 0, fun f nm n h hn => ?_⟩⟩
  · obtain ⟨x, m, hx, hm, rfl⟩ := tree_get p h
    cases m with
    | fol o es =>
      obtain ⟨q1, q2⟩ := R.fol' x o es hm
      have hes := es_le_tot hm
      have hpm := (sortE_perm (es.map fun e => (e.1, od.idxOf e.2)).reverse).trans (List.reverse_perm _)
      refine ⟨?_, fun e he => ?_, sortE_srt ?_⟩
      · rw [hpm.length_eq, List.length_map]
        omega
      · obtain ⟨e', he', rfl⟩ := List.mem_map.mp (hpm.mem_iff.mp he)
        obtain ⟨z1, z2, z3, z4⟩ := q2 e' he'
        obtain ⟨i1, i2⟩ := p.ix z3
        refine ⟨(nm_ok hb z1).1, ?_, by rw [hl]; exact i1, ?_⟩
        · show 0 < od.idxOf e'.2
          refine Nat.pos_of_ne_zero fun z => ?_
          rw [z, h0] at i2
          have := Option.some.inj i2
          omega
        · show isG _ (od.idxOf e'.2) = false
          obtain ⟨m2, h1, h2⟩ := turned_get p i2
          unfold isG
          rw [h2]
          cases m2 with
          | gon o2 g2 => exact absurd h1 (z4 o2 g2)
          | _ => rfl
      · unfold NamesOnce
        rw [List.map_reverse, List.map_map]
        exact List.pairwise_reverse.mpr (List.Pairwise.imp (fun h => Ne.symm h) q1)
    | fil o => trivial
    | lnk o z => exact R.lnk' x o z hm
    | gon o g =>
      obtain ⟨g1, g2⟩ := R.gon' x o g hm
      have hxl := (List.getElem?_eq_some_iff.mp hm).1
      obtain ⟨i1, i2⟩ := p.ix (show g < ns.length by omega)
      refine ⟨by rw [hl]; exact i1, fun z => ?_, ?_⟩
      · rw [z, hx] at i2
        have := Option.some.inj i2
        omega
      · rcases g2 with g2 | ⟨o', g', g2⟩
        · exact .inl ((drawn_isF p i2).mpr g2)
        · refine .inr ?_
          obtain ⟨m2, h1, h2⟩ := turned_get p i2
          obtain rfl : Nd.gon o' g' = m2 := Option.some.inj (g2.symm.trans h1)
          unfold isG
          rw [h2]
          rfl
  · obtain ⟨o, es, hjn⟩ := isF_of hj
    obtain ⟨x, m, hx, hm, _⟩ := tree_get p hjn
    have hfx := (drawn_isF p hx).mp hj
    have hxl := (List.getElem?_eq_some_iff.mp hm).1
    have hx0 : x ≠ 0 := fun z => by
      subst z
      have a1 := (ix_iff p hx (y := 0)).mpr rfl
      have a2 := (ix_iff p h0 (y := 0)).mpr rfl
      omega
    rw [entsTo_len, cnt_turned p hx]
    by_cases c : x + 1 < ns.length
    · exact R.one x (by omega) c hfx
    · have e : x = ns.length - 1 := by omega
      have h1 : 1 < ns.length := by omega
      subst e
      rw [R.last h1, L.2 hfx h1]
  · obtain ⟨x, o, es, e', hx, hm, he', e⟩ := drawn_ents p h
    have e2 : n = od.idxOf e'.2 := congrArg Prod.snd e
    subst e2
    obtain ⟨_, z2, z3, _⟩ := (R.fol' x o es hm).2 e' he'
    obtain ⟨i1, i2⟩ := p.ix z3
    show (od[f]?).getD 0 < (od[od.idxOf e'.2]?).getD 0
    rw [hx, i2]
    exact z2
end
end NW
set_option maxHeartbeats 4000000
/-! law. -/
namespace NW
open PySem PySem.Spec PyProof.Rows L2 Evl
def spLaw (K : PySem.W.Frag) : Sp := fun vs H Q _ => ∃ (l : Addr) (ns : List Int), vs = [.ref l] ∧ SqL K H l (ns.map V.int) ∧ ns.length ≤ 63 ∧ ∀ H', Q (.bl true) H'
section
variable {K : PySem.W.Frag} {σ : L2.St} {H H' : Hp} {ta tb te ts : TE} {tr : TA} {tl th : TO} {tz tu : TS} {D : Ends} {E : XK}
theorem el_catS {a : Addr} {xs zs : List V} (ha : Ev ta σ H (.ref a)) (hs : SqL K H a xs) (hb : ∀ H1, Ex H H1 → EvL tb σ H1 zs) (hz : xs.length + zs.length ≤ 100000) : EvL (tOp (rCatL K) ta tb) σ H (xs ++ zs) := fun H1 e Q q =>
  ha H1 e _ fun H2 e2 => hb H2 (e.trans e2) H2 (Evl.Ex.refl H2) _ fun b H3 hb e3 h3 => ⟨a, b, xs, zs, rfl, rfl, ex_l ((e.trans e2).trans e3) hs, sq_of h3, sz_of hz, fun l hl => q l _ (fresh_back (e2.trans e3) hl) ((e2.trans e3).trans (Evl.Ex.new hl)) upd_same⟩
theorem el_slN {xs : List V} {lo hi : Option Int} (h : EvL te σ H xs) (h1 : EvO tl σ H lo) (h2 : EvO th σ H hi) : EvL (tSl (rSlL K) te tl th) σ H (cutV xs lo hi) := fun H1 e Q q =>
  h H1 e _ fun p H2 hp e2 hp2 => h1 H2 (e.trans e2) _ fun H3 e3 => h2 H3 ((e.trans e2).trans e3) _ fun H4 e4 => ⟨p, xs, rfl, sq_of ((e3.trans e4) _ _ hp2), fun l hl => q l _ (fresh_back ((e2.trans e3).trans e4) hl) (((e2.trans e3).trans e4).trans (Evl.Ex.new hl)) upd_same⟩
theorem go_make {C : Addr} {sp : Sp} {dvs : List V} {Q : VK} (h : tr σ H fun vs H1 => ∀ x dx, H1 x = none → H1 dx = none → dx ≠ x → sp (.ref x :: (vs ++ dvs)) (upd (upd H1 dx (.own x)) x (.ins C dx [])) (fun v H2 => v = .non ∧ Q (.ref x) H2) E) : tMake C sp dvs E tr σ H Q := h
theorem go_sl {r : V → Option Int → Option Int → Hp → VK → Prop} {Q : VK} (h : te σ H fun x H1 => tl σ H1 fun l H2 => th σ H2 fun u H3 => r x l u H3 Q) : tSl r te tl th σ H Q := h
theorem go_noPart {Q : Option Int → Hp → Prop} (h : Q none H) : tNoPart σ H Q := h
theorem go_part {Q : Option Int → Hp → Prop} (h : te σ H fun x H1 => ∃ i, x = .int i ∧ Q (some i) H1) : tPart te σ H Q := h
theorem spTreeOf_p {l : Addr} {rs : List (Addr × Addr)} {ns : List Nd} (h : RowsAt H l rs ns) (ok : TurnOk ns) (G : Good (treeOf ns)) : SpP (spTreeOf K) [.ref l] H fun v H' => ∃ x, v = .ref x ∧ TreeAt K H' x (treeOf ns) :=
  fun H1 e Q q E => ⟨l, rs, ns, rfl, h.mono e, ok, G, fun x H' e' hx => q _ H' e' ⟨x, rfl, hx⟩⟩
theorem spRight_v {x ob t : Addr} {as : List Addr} {T0 : Tr} {o : Nat} {F : List Nat} (h : TrA K H x t as T0) (ho : OthAt K H ob o F) (I : Inv T0 F 0 T0) (h3 : F.length ≤ 3) : SpV (spRight K) [.ref x, .ref ob] H (.bl true) :=
  fun H1 e Q q E => ⟨x, ob, t, as, T0, o, F, rfl, h.mono (Ex.i e), ho.mono (Ex.i e), I, h3, q⟩
theorem tn_fol {ns : List Nd} {f : Nat} (h : ∃ o es, ns[f]? = some (Nd.fol o es)) : isF (treeOf ns) f = true := by
  obtain ⟨o, es, h⟩ := h
  unfold isF treeOf
  rw [List.getElem?_map, h]
  rfl
end
section
variable {P : Program} {w : World} {K : PySem.W.Frag} {mg : Str → Option Value} {base : Heap}
theorem sc_law : FnScope ["_law_script", "_law_cell", "_law_source_here", "_law_nodes_here", "_law_theirs_here", "_law_others"] ["_law_script"] (defScope s_law) := ⟨rfl, rfl, rfl, by decide +kernel, rfl, by decide +kernel, by decide +kernel⟩
theorem fn_by {x qual : Str} {st : Stmt} {N ps : List Str} {k : Nat} {sp : Sp} {a : Addr} {fd : FuncData} (F : FunD K x qual (defArgs st) (defBody st) (defScope st) [] [] a fd)
    (S : FnScope N ps (defScope st)) (len : ∀ vs H Q E, sp vs H Q E → vs.length = ps.length)
    (body : ∀ (cdv : Value) (A : Around) (outer : List Env) (s : Shared) (H : Hp) (vs : List V) (Q : VK) (E : XK), Room k (A.deeper (envOfC qual (defScope st) s.heap.objs.size a cdv)) → sp vs H Q E →
      ∃ t, PSs (cxOf CX0 P w K mg base N qual (defScope st) a cdv A outer s H E).nox (defBody st) t ∧ t { nx := fun _ H' => Q .non H', rt := Q } (start N vs) H) : FnOk P w K mg base CX0 (k + 1) a fd ps sp := by
  refine F.ok S len fun cdv A outer s H vs Q E hr h => ?_
  obtain ⟨t, q, z⟩ := body cdv A outer s H vs Q E hr h
  exact ⟨t, q.nox, z⟩
theorem f_law (T : Txt K mg) {fd : FuncData} (F : FunD K "law" "law" (defArgs s_law) (defBody s_law) (defScope s_law) [] [] (He.ga K "law") fd) : FnOk P w K mg base CX0 12 (He.ga K "law") fd ["_law_script"] (spLaw K) := by
  refine fn_by F sc_law (fun vs H Q E h => ?_) (fun cdv A outer s H vs Q E hr h => ?_)
  · obtain ⟨_, _, rfl, _⟩ := h; rfl
  · obtain ⟨l, ns, rfl, hl, hn, k⟩ := h
    refine ⟨_, (pss_cons (ps_for PassesOwn.never rfl (pi_list (pe_slice sl_list (pe_op op_catL (pv 0) (pe_lst (pa_cons pe_int pa_nil))) po_none (po_some pe_int))) (pg_name (i := 1) sc_law.nd rfl (Or.inl rfl)) (pss_cons (ps_set (i := 2) sc_law.nd rfl (Or.inl rfl) (C8.pe_c (c_law_source T) hr (by decide) rfl (pa_cons (pv 1) pa_nil)))
      (pss_cons (ps_set (i := 3) sc_law.nd rfl (Or.inl rfl) (C8.pe_c (c_law_nodes T) hr (by decide) rfl (pa_cons (pv 2) (pa_cons pe_int (pa_cons pe_int pa_nil)))))
      (pss_cons (ps_set (i := 4) sc_law.nd rfl (Or.inl rfl) (C8.pe_c (c_law_theirs T) hr (by decide) rfl (pa_cons (pv 2) (pa_cons (pv 3) pa_nil))))
      (pss_cons (ps_set (i := 5) sc_law.nd rfl (Or.inl rfl) (C8.pe_mk (k_Others T) hr (by decide) rfl (pa_cons (C8.pe_c (c_law_take T) hr (by decide) rfl (pa_cons (pv 2) (pa_cons pe_int pa_nil))) (pa_cons (pe_slice sl_list (pv 4) po_none (po_some (C8.pe_c (c_law_pick T) hr (by decide) rfl (pa_cons (pv 2) (pa_cons (pe_lst (pa_cons pe_int (pa_cons pe_int (pa_cons pe_int pa_nil)))) pa_nil))))) pa_nil))))
      (pss_one (ps_if (pt_not (pt_val (C8.pe_c (c_law_right T) hr (by decide) rfl (pa_cons (C8.pe_c (c_law_tree T) hr (by decide) rfl (pa_cons (pv 3) pa_nil)) (pa_cons (pv 5) pa_nil))))) (pss_one (ps_ret pe_bl)) pss_nil)))))))
      (pss_one (ps_ret pe_bl))), ?_⟩
    have hcut : cutV (ns.map V.int ++ [.int 0]) none (some ((2 : Nat) : Int)) = ((ns ++ [0]).take 2).map V.int := by
      rw [cut_to, List.map_take, List.map_append]
      rfl
    have hEl := el_slN (K := K) (σ := L2.start ["_law_script", "_law_cell", "_law_source_here", "_law_nodes_here", "_law_theirs_here", "_law_others"] [.ref l]) (H := H) (te := tOp (rCatL K) (tVar 0) (tLst (tCons (tC (.int 0)) tNil))) (tl := tNoPart) (th := tPart (tC (.int 2))) (el_catS (K := K) (ev_var rfl) hl (fun H1 e => el_lst (vs := [.int 0]) (ea_cons ev_c ea_nil) (by simp)) (by rw [List.length_map, List.length_singleton]; omega)) eo_none (eo_some (i := ((2 : Nat) : Int)) ev_c)
    rw [hcut] at hEl
    refine q_forNLn (j := 1) hEl (fun p i σ' H' => ∃ x1 x2 x3 x4 x5 : Option V, σ' = [some (.ref l), x1, x2, x3, x4, x5] ∧ H' p = some (.lst (((ns ++ [0]).take 2).map V.int)))
      (fun p H1 _ _ h1 => ⟨none, none, none, none, none, rfl, h1⟩) (fun p i σ' H' _ q => by obtain ⟨_, _, _, _, _, _, q⟩ := q; exact sq_of q) ?_ ?_
    · rintro p i x σ' H1 hx ⟨x1, x2, x3, x4, x5, rfl, hp⟩
      obtain ⟨c, rfl⟩ : ∃ c : Int, x = .int c := by
        rw [List.getElem?_map] at hx
        cases q : ((ns ++ [0]).take 2)[i]? with
        | none => rw [q] at hx; cases hx
        | some c => rw [q] at hx; exact ⟨c, (Option.some.inj hx).symm⟩
      refine go_asg (go_call (dvs := []) (ea_cons (ev_var rfl) ea_nil) fun H2 e2 => ⟨c, rfl, fun a H3 ha e3 h3 => ?_⟩)
      have hpa : p ≠ a := ne_of_none (e2 _ _ hp) ha
      have hp3 := e3 _ _ (e2 _ _ hp)
      have src3 : SrcAt H3 a := ⟨_, _, _, h3⟩
      refine go_asg (go_call (dvs := []) (ea_cons (ev_var rfl) (ea_cons ev_c (ea_cons ev_c ea_nil))) fun H4 e4 => ⟨a, rfl, src3.mono e4, fun nds od q rs H5 dr pm s5 hR5 => ?_⟩)
      have hp5 := s5.bt _ _ hpa (e4 _ _ hp3)
      have hql : (turned od nds).length = nds.length := by unfold turned; rw [List.length_map, pm.len]
      have hlen := dr.len
      refine go_asg (go_call (dvs := []) (ea_cons (ev_var rfl) (ea_cons (ev_var rfl) ea_nil)) fun H6 e6 => ⟨a, q, rs, turned od nds, rfl, s5.src.mono e6, hR5.mono e6, by omega, fun F th H7 hF1 hF2 s7 htha hth => ?_⟩)
      have hp7 := s7.bt _ _ hpa (e6 _ _ hp5)
      have hR7 := (hR5.mono e6).sr (s5.src.mono e6) s7
      refine go_asg (go_make (go_cons (evs_take (b := 3) rfl s7.src (by decide) (by decide) (fun _ => ev_c) _ fun v H8 s8 hv => go_cons (go_sl (go_var rfl (go_noPart (go_part ?_)))))))
      obtain ⟨o, ho, rfl⟩ := hv
      have hp8 := s8.bt _ _ hpa hp7
      have hR8 := hR7.sr s7.src s8
      refine evs_pick (xs := [.int 3, .int 3, .int 2]) rfl s8.src (el_lst (ea_cons ev_c (ea_cons ev_c (ea_cons ev_c ea_nil))) (by simp)) (by simp) (by simp) _ fun v H9 s9 hv => ?_
      obtain ⟨m, rfl, hm3⟩ : ∃ m : Nat, v = V.int (m : Int) ∧ m ≤ 3 := by
        simp only [List.mem_cons, List.not_mem_nil, or_false] at hv
        rcases hv with rfl | rfl | rfl
        · exact ⟨3, rfl, by decide⟩
        · exact ⟨3, rfl, by decide⟩
        · exact ⟨2, rfl, by decide⟩
      have hp9 := s9.bt _ _ hpa hp8
      have hth9 := s9.bt _ _ htha (s8.bt _ _ htha hth)
      have hR9 := hR8.sr s8.src s9
      refine ⟨(m : Int), rfl, th, intsV F, rfl, sq_of hth9, fun fo hfo x dx hx hdx hne => ?_⟩
      have e10 : Ex H9 (upd H9 fo (.lst (cutV (intsV F) none (some (m : Int))))) := Evl.Ex.new hfo
      have hfq : (upd H9 fo (.lst (cutV (intsV F) none (some (m : Int))))) fo = some (.lst (intsV (F.take m))) := by
        rw [upd_same, cut_to, show (intsV F).take m = intsV (F.take m) from (List.map_take ..).symm]
      generalize upd H9 fo (.lst (cutV (intsV F) none (some (m : Int)))) = H10 at hx hdx e10 hfq
      have e11 : Ex H10 (upd (upd H10 dx (.own x)) x (.ins (He.ga K "Others") dx [])) := (Evl.Ex.new hdx).trans (Evl.Ex.new (by rw [upd_ne hne.symm]; exact hx))
      refine ⟨x, dx, fo, o, F.take m, rfl, upd_same, e11 _ _ hfq, fun H12 b12 ho12 => ⟨rfl, ?_⟩⟩
      have e12 : Ex H10 H12 := b12.ex e11 hx
      have hR12 := hR9.mono (e10.trans e12)
      have hp12 := e12 _ _ (e10 _ _ hp9)
      have G := drawn_good dr pm
      have tu := drawn_turn dr pm
      have hOk : OkF (treeOf (turned od nds)) (F.take m) := ⟨fun f hf => tn_fol (hF2 f (List.mem_of_mem_take hf)), hF1.sublist (List.take_sublist _ _)⟩
      have I0 : Inv (treeOf (turned od nds)) (F.take m) 0 (treeOf (turned od nds)) := inv_zero G hOk (drawn_names dr pm)
      have h3 : (F.take m).length ≤ 3 := Nat.le_trans (List.length_take_le _ _) hm3
      refine s_when (b := false) (et_is (et_not (et_B (b := true) (ev_callA (dvs := []) (P := fun vs H' => ∃ y, vs = [.ref y, .ref x] ∧ TreeAt K H' y (treeOf (turned od nds)) ∧ OthAt K H' x o (F.take m)) (eap_cons (evp_call (dvs := []) (ea_cons (ev_var rfl) ea_nil) (spTreeOf_p hR12 tu G)) fun v H13 e13 hv => eap_cons (ev_p (v := .ref x) (ev_var rfl)) fun u H14 e14 hu => eap_nil fun H15 e15 => ?_) fun vs H13 e13 hv => ?_))) rfl) (fun z => by cases z) fun _ H13 e13 => ⟨_, _, _, _, _, rfl, e13 _ _ hp12⟩
      · obtain ⟨y, rfl, hy⟩ := hv
        subst hu
        exact ⟨y, rfl, hy.mono (Ex.i (e14.trans e15)), ho12.mono (Ex.i ((e13.trans e14).trans e15))⟩
      · obtain ⟨y, rfl, ⟨t, as, hy⟩, hx⟩ := hv
        exact spRight_v hy hx I0 h3
    · rintro p σ' H1 ⟨x1, x2, x3, x4, x5, rfl, hp⟩
      exact s_ret ev_c fun H2 e2 => k H2
end
end NW
set_option maxHeartbeats 0
namespace NW
open PySem PySem.Spec PyProof.Rows L2
/-- what the head tells: the defs, the facts, one more Bool -/
abbrev AlN : Type := He.AlD × Bool
abbrev frN (g : Addr → Option Obj) : PySem.W.Frag := He.frG g addrT
def obN (g : Addr → Option Obj) : AlN := (He.obsD faT fnT (frN g), exT (frN g))
def hookN : PySem.W.Hook where
  α := AlN
  obs := fun s => obN s.heap.get?
  val := fun _ => (He.valD fnT, true)
  says := fun _ h => ∃ K : PySem.W.Frag, K.In h ∧ He.SaysD faT fnT K ∧ exT K = true
  of := fun _ _ e => ⟨_, He.frG_in, congrArg (fun z : AlN => z.1) e, congrArg (fun z : AlN => z.2) e⟩
  keeps := fun _ _ _ ⟨K, hK, c⟩ k => ⟨K, PySem.W.Frag.In.keeps hK k, c⟩
abbrev rowN : PySem.W.OpenRow := PySem.W.OpenLaw.row PySem.Challenge.rw_namewalk_k55_whole_arrangements_by_moves
abbrev viewN : Program := PySem.W.view rowN.prog [74]
def seeN (s : PySem.W.SharedT) : AlN := obN (HandSHeadRun.getT s)
theorem seeN_eq (s : PySem.W.SharedT) : seeN s = hookN.obs s.abs := by
  have e : HandSHeadRun.getT s = s.abs.heap.get? := funext (HandSHeadRun.getT_eq s)
  unfold seeN
  rw [e] <;> rfl
theorem runN (w : World) : HandSHeadRun.RunEq rowN viewN hookN seeN 20000 looseT w := by
  intro os
  kernel_rfl
end NW
set_option maxHeartbeats 0
/-! The end: the head and the law. -/
namespace NW
open PySem PySem.Spec PyProof.Rows L2
theorem factsN {P : Program} {w : World} {K : PySem.W.Frag} {h : Heap} {mg : Str → Option Value} {f : Addr} (X : K.In h) (G : h.Ns mainGlobals mg) (hf : mg ("law" : Str) = some (.ref f)) (c : He.SaysD faT fnT K) (x : exT K = true) :
    ∃ fd : FuncData, (∀ (s : Shared) (v : Value), BindsTo s fd ⟨[v], []⟩ [("_law_script", v)]) ∧ ∀ base : Heap, K.In base → base.Ns mainGlobals mg → FnOk P w K mg base CX0 12 f fd ["_law_script"] (spLaw K) := by
  have T : Txt K mg := ⟨c, x, h, X, G⟩
  obtain ⟨fd, F⟩ := fd_law T
  have e := hf.symm.trans (g_law T)
  cases e
  have b := FunD.bindsA (ps := ["_law_script"]) F fun _ _ _ _ _ _ us hl => match us, hl with | [_], _ => rfl
  exact ⟨fd, fun s v => b s [v] rfl, fun base _ _ => f_law T F⟩
end NW
open PySem PySem.W PySem.Calls PyProof.Rows
set_option maxRecDepth 100000 in
set_option maxHeartbeats 0 in
theorem PySem.Challenge.cw_namewalk_k55_whole_arrangements_by_moves_holds : PySem.Challenge.rw_namewalk_k55_whole_arrangements_by_moves.Holds := by
  w_on; o_law
  refine HandSHeadRun.head_any (r := NW.rowN) (q := NW.viewN) (H := NW.hookN) (ob := NW.seeN) (M := 20000) (loose := NW.looseT) (d := HandSHeadRun.topDef NW.rowN.prog 74) (kwd := []) NW.seeN_eq
    (by kernel_rfl) (fun s => by kernel_rfl) NW.runN (by kernel_rfl) (by kernel_rfl) (by kernel_rfl) (by rfl) (by first | assumption | decide +kernel) (by decide +kernel) ⟨rfl, rfl, rfl, rfl, rfl, by decide +kernel⟩ ?hw ?hc
  case hw => w_witness2
  case hc =>
    refine L2.walk_ofE (l := PySem.Challenge.rw_namewalk_k55_whole_arrangements_by_moves) (n := 63) (k := 12) (x := "_law_script") (CX := L2.CX0) rfl (by decide) (by kernel_rfl) ⟨rfl, by decide, by decide⟩ ?F (fun _ _ _ _ z => z)
    intro w mg fa h Y G hmg0
    obtain ⟨K, KX, c, cx⟩ := Y
    have hmg : mg ("law" : PySem.Str) = some (.ref fa) := by
      have e : (HandSHeadRun.topDef NW.rowN.prog 74).name = ("law" : PySem.Str) := by kernel_rfl
      rw [← e]
      exact hmg0
    obtain ⟨fd, hb, hF⟩ := NW.factsN (P := (PySem.Challenge.rw_namewalk_k55_whole_arrangements_by_moves).prog) (w := w) KX G hmg c cx
    exact ⟨K, fd, NW.spLaw K, KX, hb, fun H a ns hl _ hS => ⟨a, ns, rfl, hS, hl, fun _ => rfl⟩, hF⟩
