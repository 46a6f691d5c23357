import PyProof.Rows.All
import Wide.All
import OpenK.AllK
import Wide.FinOn
import HandS.ForMost
import HandS.Exc
import HandS.ExcOwn
import HandS.TryOnly
import HandS.Codes
import HandS.Property
import HandS.IsInst
import HandS.Defaults
import HandS.HeadHook3
import KE.KStateDown
import Lean
import HandS.Head0
import HandS.Head1
import HandS.Head2
import HandS.HeadEnd
import HandS.CallLocal
import HandS.Zip
import HandS.WrittenGet
import HandS.NoneIn
import HandS.Wide
import OpenK.KOps
import HandS.Dict
import HandS.HotCalls
import HandS.TryMany
import HandS.ExcCtx
import PySem.Challenge.RW_appendhall_k37_whole_records_in_a_space
set_option Elab.async false
set_option linter.all false
set_option maxRecDepth 100000
set_option maxHeartbeats 4000000
/-! The text by places; what the top leaves, by names. Printed by gen_head.py. -/
namespace Ah
open PySem PySem.Spec PyProof.Rows L2 He
def top (i : Nat) : Stmt := PySem.Challenge.pw_appendhall_k37_whole_records_in_a_space.main.body.getD i (.Pass ⟨0, 0, 0, 0⟩)
abbrev s_File___init__ : Stmt := inClass (top 6) 0
abbrev s_File_pieces : Stmt := inClass (top 6) 1
abbrev s_File_sealed : Stmt := inClass (top 6) 2
abbrev s_File_length : Stmt := inClass (top 6) 3
abbrev s_File_add_piece : Stmt := inClass (top 6) 4
abbrev s_File_seal : Stmt := inClass (top 6) 5
abbrev s_File_sealed_copy : Stmt := inClass (top 6) 6
abbrev s_Directory___init__ : Stmt := inClass (top 7) 0
abbrev s_Directory_limit : Stmt := inClass (top 7) 1
abbrev s_Directory_set_limit : Stmt := inClass (top 7) 2
abbrev s_Directory_names : Stmt := inClass (top 7) 3
abbrev s_Directory_child : Stmt := inClass (top 7) 4
abbrev s_Directory_put : Stmt := inClass (top 7) 5
abbrev s_Directory_take : Stmt := inClass (top 7) 6
abbrev s_is_name : Stmt := top 12
abbrev s_check_names : Stmt := top 13
abbrev s_split_path : Stmt := top 14
abbrev s_is_integer : Stmt := top 19
abbrev s_is_text : Stmt := top 20
abbrev s_refused : Stmt := top 23
abbrev s_new_place : Stmt := top 24
abbrev s_file_at : Stmt := top 25
abbrev s_exceeds_limit : Stmt := top 26
abbrev s_attach_new : Stmt := top 27
abbrev s_make_directory : Stmt := top 28
abbrev s_create_file : Stmt := top 29
abbrev s_append_text : Stmt := top 30
abbrev s_seal_file : Stmt := top 31
abbrev s_move_entry : Stmt := top 32
abbrev s_snapshot_file : Stmt := top 33
abbrev s_limit_directory : Stmt := top 34
abbrev s_has_form : Stmt := top 37
abbrev s_apply_deed : Stmt := top 38
abbrev s_Tree___init__ : Stmt := inClass (top 40) 0
abbrev s_Tree___len__ : Stmt := inClass (top 40) 1
abbrev s_Tree_node : Stmt := inClass (top 40) 2
abbrev s_Tree_attach : Stmt := inClass (top 40) 3
abbrev s_Tree_move_node : Stmt := inClass (top 40) 4
abbrev s_Tree_look_up : Stmt := inClass (top 40) 5
abbrev s_Tree_above : Stmt := inClass (top 40) 7
abbrev s_Tree_size_of : Stmt := inClass (top 40) 8
abbrev s_Tree_height_of : Stmt := inClass (top 40) 9
abbrev s_content_answer : Stmt := top 42
abbrev s_find_answer : Stmt := top 43
abbrev s_names_answer : Stmt := top 44
abbrev s_answer_query : Stmt := top 45
abbrev s_Space___init__ : Stmt := inClass (top 47) 0
abbrev s_Space_applied : Stmt := inClass (top 47) 1
abbrev s_Space_apply : Stmt := inClass (top 47) 2
abbrev s_Space_last_serial : Stmt := inClass (top 47) 3
abbrev s_Space_last_answer : Stmt := inClass (top 47) 4
abbrev s_Space_query : Stmt := inClass (top 47) 5
abbrev s_law_stream : Stmt := top 49
abbrev s_law_draw : Stmt := top 50
abbrev s_law_good : Stmt := top 51
abbrev s_law_name : Stmt := top 52
abbrev s_law_near : Stmt := top 53
abbrev s_law_names : Stmt := top 54
abbrev s_law_text : Stmt := top 55
abbrev s_law_same : Stmt := top 56
abbrev s_law_split : Stmt := top 57
abbrev s_law_places : Stmt := top 58
abbrev s_law_look : Stmt := top 59
abbrev s_law_place : Stmt := top 60
abbrev s_law_inside : Stmt := top 61
abbrev s_law_size : Stmt := top 62
abbrev s_law_bursts : Stmt := top 63
abbrev s_law_formed : Stmt := top 64
abbrev s_law_make : Stmt := top 65
abbrev s_law_write : Stmt := top 66
abbrev s_law_move : Stmt := top 67
abbrev s_law_snapshot : Stmt := top 68
abbrev s_law_limit : Stmt := top 69
abbrev s_law_apply : Stmt := top 70
abbrev s_law_content : Stmt := top 71
abbrev s_law_listing : Stmt := top 72
abbrev s_law_answer : Stmt := top 73
abbrev s_law_crooked : Stmt := top 74
abbrev s_law_pick : Stmt := top 75
abbrev s_law_odd : Stmt := top 76
abbrev s_law_most : Stmt := top 77
abbrev s_law_deed : Stmt := top 78
abbrev s_law_serial : Stmt := top 79
abbrev s_law_query : Stmt := top 80
abbrev s_law_space_is : Stmt := top 81
abbrev s_law_clients_are : Stmt := top 82
abbrev s_law_fill : Stmt := top 83
abbrev s_law : Stmt := top 84
def faL : List Fa := [
  .glo "is_name",
  .glo "check_names",
  .glo "split_path",
  .glo "is_integer",
  .glo "is_text",
  .glo "refused",
  .glo "new_place",
  .glo "file_at",
  .glo "exceeds_limit",
  .glo "attach_new",
  .glo "make_directory",
  .glo "create_file",
  .glo "append_text",
  .glo "seal_file",
  .glo "move_entry",
  .glo "snapshot_file",
  .glo "limit_directory",
  .glo "has_form",
  .glo "apply_deed",
  .glo "content_answer",
  .glo "find_answer",
  .glo "names_answer",
  .glo "answer_query",
  .glo "_law_stream",
  .glo "_law_draw",
  .glo "_law_good",
  .glo "_law_name",
  .glo "_law_near",
  .glo "_law_names",
  .glo "_law_text",
  .glo "_law_same",
  .glo "_law_split",
  .glo "_law_places",
  .glo "_law_look",
  .glo "_law_place",
  .glo "_law_inside",
  .glo "_law_size",
  .glo "_law_bursts",
  .glo "_law_formed",
  .glo "_law_make",
  .glo "_law_write",
  .glo "_law_move",
  .glo "_law_snapshot",
  .glo "_law_limit",
  .glo "_law_apply",
  .glo "_law_content",
  .glo "_law_listing",
  .glo "_law_answer",
  .glo "_law_crooked",
  .glo "_law_pick",
  .glo "_law_odd",
  .glo "_law_most",
  .glo "_law_deed",
  .glo "_law_serial",
  .glo "_law_query",
  .glo "_law_space_is",
  .glo "_law_clients_are",
  .glo "_law_fill",
  .glo "law",
  .glo "BadPath",
  .glo "HallError",
  .glo "Unknown",
  .glo "File",
  .glo "Directory",
  .glo "Tree",
  .glo "Space",
  .glo "FORMS",
  .glo "ACTIONS",
  .free "tuple",
  .free "len",
  .free "sorted",
  .free "isinstance",
  .free "str",
  .free "int",
  .free "bool",
  .free "ord",
  .free "zip",
  .free "sum",
  .free "max",
  .free "min",
  .free "range",
  .free "list",
  .free "property",
  .int "NAME_MOST" 12,
  .int "NAMES_MOST" 6,
  .int "NUMBER_MOST" 1000000000000000000,
  .int "TEXT_MOST" 200,
  .int "PERCENT" 37,
  .int "NODES_MOST" 64,
  .str "NAME_CHARS" "abcdefghijklmnopqrstuvwxyz0123456789-.",
  .cls "File",
  .mkr "File",
  .cls "Directory",
  .mkr "Directory",
  .cls "Tree",
  .mkr "Tree",
  .cls "Space",
  .mkr "Space",
  .noat "File" "_pieces",
  .noat "File" "_sealed",
  .noat "File" "_length",
  .noat "Directory" "_limit",
  .noat "Directory" "_entries",
  .noat "Tree" "_nodes",
  .noat "Tree" "_places",
  .noat "Space" "_applied",
  .noat "Space" "_clients",
  .noat "Space" "_tree",
  .meth "File" "add_piece",
  .meth "File" "seal",
  .meth "File" "sealed_copy",
  .meth "Directory" "set_limit",
  .meth "Directory" "names",
  .meth "Directory" "child",
  .meth "Directory" "put",
  .meth "Directory" "take",
  .meth "Tree" "__len__",
  .meth "Tree" "node",
  .meth "Tree" "attach",
  .meth "Tree" "move_node",
  .meth "Tree" "look_up",
  .meth "Tree" "above",
  .meth "Tree" "size_of",
  .meth "Tree" "height_of",
  .meth "Space" "apply",
  .meth "Space" "last_serial",
  .meth "Space" "last_answer",
  .meth "Space" "query",
  .exc "BadPath",
  .exc "Unknown",
  .exm "BadPath" "BadPath" true,
  .keep "is_name",
  .keep "check_names",
  .keep "split_path",
  .keep "is_integer",
  .keep "is_text",
  .keep "refused",
  .keep "new_place",
  .keep "file_at",
  .keep "exceeds_limit",
  .keep "attach_new",
  .keep "make_directory",
  .keep "create_file",
  .keep "append_text",
  .keep "seal_file",
  .keep "move_entry",
  .keep "snapshot_file",
  .keep "limit_directory",
  .keep "has_form",
  .keep "apply_deed",
  .keep "content_answer",
  .keep "find_answer",
  .keep "names_answer",
  .keep "answer_query",
  .keep "_law_stream",
  .keep "_law_draw",
  .keep "_law_good",
  .keep "_law_name",
  .keep "_law_near",
  .keep "_law_names",
  .keep "_law_text",
  .keep "_law_same",
  .keep "_law_split",
  .keep "_law_places",
  .keep "_law_look",
  .keep "_law_place",
  .keep "_law_inside",
  .keep "_law_size",
  .keep "_law_bursts",
  .keep "_law_formed",
  .keep "_law_make",
  .keep "_law_write",
  .keep "_law_move",
  .keep "_law_snapshot",
  .keep "_law_limit",
  .keep "_law_apply",
  .keep "_law_content",
  .keep "_law_listing",
  .keep "_law_answer",
  .keep "_law_crooked",
  .keep "_law_pick",
  .keep "_law_odd",
  .keep "_law_most",
  .keep "_law_deed",
  .keep "_law_serial",
  .keep "_law_query",
  .keep "_law_space_is",
  .keep "_law_clients_are",
  .keep "_law_fill",
  .keep "law"]
def d_is_name : DefD := ⟨("is_name", none), "is_name", "is_name", defArgs s_is_name, defBody s_is_name, defScope s_is_name, [], []⟩
def d_check_names : DefD := ⟨("check_names", none), "check_names", "check_names", defArgs s_check_names, defBody s_check_names, defScope s_check_names, [], []⟩
def d_split_path : DefD := ⟨("split_path", none), "split_path", "split_path", defArgs s_split_path, defBody s_split_path, defScope s_split_path, [], []⟩
def d_is_integer : DefD := ⟨("is_integer", none), "is_integer", "is_integer", defArgs s_is_integer, defBody s_is_integer, defScope s_is_integer, [], []⟩
def d_is_text : DefD := ⟨("is_text", none), "is_text", "is_text", defArgs s_is_text, defBody s_is_text, defScope s_is_text, [], []⟩
def d_refused : DefD := ⟨("refused", none), "refused", "refused", defArgs s_refused, defBody s_refused, defScope s_refused, [], []⟩
def d_new_place : DefD := ⟨("new_place", none), "new_place", "new_place", defArgs s_new_place, defBody s_new_place, defScope s_new_place, [], []⟩
def d_file_at : DefD := ⟨("file_at", none), "file_at", "file_at", defArgs s_file_at, defBody s_file_at, defScope s_file_at, [], []⟩
def d_exceeds_limit : DefD := ⟨("exceeds_limit", none), "exceeds_limit", "exceeds_limit", defArgs s_exceeds_limit, defBody s_exceeds_limit, defScope s_exceeds_limit, [], []⟩
def d_attach_new : DefD := ⟨("attach_new", none), "attach_new", "attach_new", defArgs s_attach_new, defBody s_attach_new, defScope s_attach_new, [], []⟩
def d_make_directory : DefD := ⟨("make_directory", none), "make_directory", "make_directory", defArgs s_make_directory, defBody s_make_directory, defScope s_make_directory, [], []⟩
def d_create_file : DefD := ⟨("create_file", none), "create_file", "create_file", defArgs s_create_file, defBody s_create_file, defScope s_create_file, [], []⟩
def d_append_text : DefD := ⟨("append_text", none), "append_text", "append_text", defArgs s_append_text, defBody s_append_text, defScope s_append_text, [], []⟩
def d_seal_file : DefD := ⟨("seal_file", none), "seal_file", "seal_file", defArgs s_seal_file, defBody s_seal_file, defScope s_seal_file, [], []⟩
def d_move_entry : DefD := ⟨("move_entry", none), "move_entry", "move_entry", defArgs s_move_entry, defBody s_move_entry, defScope s_move_entry, [], []⟩
def d_snapshot_file : DefD := ⟨("snapshot_file", none), "snapshot_file", "snapshot_file", defArgs s_snapshot_file, defBody s_snapshot_file, defScope s_snapshot_file, [], []⟩
def d_limit_directory : DefD := ⟨("limit_directory", none), "limit_directory", "limit_directory", defArgs s_limit_directory, defBody s_limit_directory, defScope s_limit_directory, [], []⟩
def d_has_form : DefD := ⟨("has_form", none), "has_form", "has_form", defArgs s_has_form, defBody s_has_form, defScope s_has_form, [], []⟩
def d_apply_deed : DefD := ⟨("apply_deed", none), "apply_deed", "apply_deed", defArgs s_apply_deed, defBody s_apply_deed, defScope s_apply_deed, [], []⟩
def d_content_answer : DefD := ⟨("content_answer", none), "content_answer", "content_answer", defArgs s_content_answer, defBody s_content_answer, defScope s_content_answer, [], []⟩
def d_find_answer : DefD := ⟨("find_answer", none), "find_answer", "find_answer", defArgs s_find_answer, defBody s_find_answer, defScope s_find_answer, [], []⟩
def d_names_answer : DefD := ⟨("names_answer", none), "names_answer", "names_answer", defArgs s_names_answer, defBody s_names_answer, defScope s_names_answer, [], []⟩
def d_answer_query : DefD := ⟨("answer_query", none), "answer_query", "answer_query", defArgs s_answer_query, defBody s_answer_query, defScope s_answer_query, [], []⟩
def d_law_stream : DefD := ⟨("_law_stream", none), "_law_stream", "_law_stream", defArgs s_law_stream, defBody s_law_stream, defScope s_law_stream, [], []⟩
def d_law_draw : DefD := ⟨("_law_draw", none), "_law_draw", "_law_draw", defArgs s_law_draw, defBody s_law_draw, defScope s_law_draw, [], []⟩
def d_law_good : DefD := ⟨("_law_good", none), "_law_good", "_law_good", defArgs s_law_good, defBody s_law_good, defScope s_law_good, [], []⟩
def d_law_name : DefD := ⟨("_law_name", none), "_law_name", "_law_name", defArgs s_law_name, defBody s_law_name, defScope s_law_name, [], []⟩
def d_law_near : DefD := ⟨("_law_near", none), "_law_near", "_law_near", defArgs s_law_near, defBody s_law_near, defScope s_law_near, [], []⟩
def d_law_names : DefD := ⟨("_law_names", none), "_law_names", "_law_names", defArgs s_law_names, defBody s_law_names, defScope s_law_names, [], []⟩
def d_law_text : DefD := ⟨("_law_text", none), "_law_text", "_law_text", defArgs s_law_text, defBody s_law_text, defScope s_law_text, [], []⟩
def d_law_same : DefD := ⟨("_law_same", none), "_law_same", "_law_same", defArgs s_law_same, defBody s_law_same, defScope s_law_same, [], []⟩
def d_law_split : DefD := ⟨("_law_split", none), "_law_split", "_law_split", defArgs s_law_split, defBody s_law_split, defScope s_law_split, [], []⟩
def d_law_places : DefD := ⟨("_law_places", none), "_law_places", "_law_places", defArgs s_law_places, defBody s_law_places, defScope s_law_places, [], []⟩
def d_law_look : DefD := ⟨("_law_look", none), "_law_look", "_law_look", defArgs s_law_look, defBody s_law_look, defScope s_law_look, [], []⟩
def d_law_place : DefD := ⟨("_law_place", none), "_law_place", "_law_place", defArgs s_law_place, defBody s_law_place, defScope s_law_place, [], []⟩
def d_law_inside : DefD := ⟨("_law_inside", none), "_law_inside", "_law_inside", defArgs s_law_inside, defBody s_law_inside, defScope s_law_inside, [], []⟩
def d_law_size : DefD := ⟨("_law_size", none), "_law_size", "_law_size", defArgs s_law_size, defBody s_law_size, defScope s_law_size, [], []⟩
def d_law_bursts : DefD := ⟨("_law_bursts", none), "_law_bursts", "_law_bursts", defArgs s_law_bursts, defBody s_law_bursts, defScope s_law_bursts, [], []⟩
def d_law_formed : DefD := ⟨("_law_formed", none), "_law_formed", "_law_formed", defArgs s_law_formed, defBody s_law_formed, defScope s_law_formed, [], []⟩
def d_law_make : DefD := ⟨("_law_make", none), "_law_make", "_law_make", defArgs s_law_make, defBody s_law_make, defScope s_law_make, [], []⟩
def d_law_write : DefD := ⟨("_law_write", none), "_law_write", "_law_write", defArgs s_law_write, defBody s_law_write, defScope s_law_write, [], []⟩
def d_law_move : DefD := ⟨("_law_move", none), "_law_move", "_law_move", defArgs s_law_move, defBody s_law_move, defScope s_law_move, [], []⟩
def d_law_snapshot : DefD := ⟨("_law_snapshot", none), "_law_snapshot", "_law_snapshot", defArgs s_law_snapshot, defBody s_law_snapshot, defScope s_law_snapshot, [], []⟩
def d_law_limit : DefD := ⟨("_law_limit", none), "_law_limit", "_law_limit", defArgs s_law_limit, defBody s_law_limit, defScope s_law_limit, [], []⟩
def d_law_apply : DefD := ⟨("_law_apply", none), "_law_apply", "_law_apply", defArgs s_law_apply, defBody s_law_apply, defScope s_law_apply, [], []⟩
def d_law_content : DefD := ⟨("_law_content", none), "_law_content", "_law_content", defArgs s_law_content, defBody s_law_content, defScope s_law_content, [], []⟩
def d_law_listing : DefD := ⟨("_law_listing", none), "_law_listing", "_law_listing", defArgs s_law_listing, defBody s_law_listing, defScope s_law_listing, [], []⟩
def d_law_answer : DefD := ⟨("_law_answer", none), "_law_answer", "_law_answer", defArgs s_law_answer, defBody s_law_answer, defScope s_law_answer, [], []⟩
def d_law_crooked : DefD := ⟨("_law_crooked", none), "_law_crooked", "_law_crooked", defArgs s_law_crooked, defBody s_law_crooked, defScope s_law_crooked, [], []⟩
def d_law_pick : DefD := ⟨("_law_pick", none), "_law_pick", "_law_pick", defArgs s_law_pick, defBody s_law_pick, defScope s_law_pick, [], []⟩
def d_law_odd : DefD := ⟨("_law_odd", none), "_law_odd", "_law_odd", defArgs s_law_odd, defBody s_law_odd, defScope s_law_odd, [], []⟩
def d_law_most : DefD := ⟨("_law_most", none), "_law_most", "_law_most", defArgs s_law_most, defBody s_law_most, defScope s_law_most, [], []⟩
def d_law_deed : DefD := ⟨("_law_deed", none), "_law_deed", "_law_deed", defArgs s_law_deed, defBody s_law_deed, defScope s_law_deed, [], []⟩
def d_law_serial : DefD := ⟨("_law_serial", none), "_law_serial", "_law_serial", defArgs s_law_serial, defBody s_law_serial, defScope s_law_serial, [], []⟩
def d_law_query : DefD := ⟨("_law_query", none), "_law_query", "_law_query", defArgs s_law_query, defBody s_law_query, defScope s_law_query, [], []⟩
def d_law_space_is : DefD := ⟨("_law_space_is", none), "_law_space_is", "_law_space_is", defArgs s_law_space_is, defBody s_law_space_is, defScope s_law_space_is, [], []⟩
def d_law_clients_are : DefD := ⟨("_law_clients_are", none), "_law_clients_are", "_law_clients_are", defArgs s_law_clients_are, defBody s_law_clients_are, defScope s_law_clients_are, [], []⟩
def d_law_fill : DefD := ⟨("_law_fill", none), "_law_fill", "_law_fill", defArgs s_law_fill, defBody s_law_fill, defScope s_law_fill, [], []⟩
def d_law : DefD := ⟨("law", none), "law", "law", defArgs s_law, defBody s_law, defScope s_law, [], []⟩
def d_File___init__ : DefD := ⟨("File", some "__init__"), "__init__", "File.__init__", defArgs s_File___init__, defBody s_File___init__, defScope s_File___init__, [], []⟩
def d_File_add_piece : DefD := ⟨("File", some "add_piece"), "add_piece", "File.add_piece", defArgs s_File_add_piece, defBody s_File_add_piece, defScope s_File_add_piece, [], []⟩
def d_File_seal : DefD := ⟨("File", some "seal"), "seal", "File.seal", defArgs s_File_seal, defBody s_File_seal, defScope s_File_seal, [], []⟩
def d_File_sealed_copy : DefD := ⟨("File", some "sealed_copy"), "sealed_copy", "File.sealed_copy", defArgs s_File_sealed_copy, defBody s_File_sealed_copy, defScope s_File_sealed_copy, [], []⟩
def d_Directory___init__ : DefD := ⟨("Directory", some "__init__"), "__init__", "Directory.__init__", defArgs s_Directory___init__, defBody s_Directory___init__, defScope s_Directory___init__, [], []⟩
def d_Directory_set_limit : DefD := ⟨("Directory", some "set_limit"), "set_limit", "Directory.set_limit", defArgs s_Directory_set_limit, defBody s_Directory_set_limit, defScope s_Directory_set_limit, [], []⟩
def d_Directory_names : DefD := ⟨("Directory", some "names"), "names", "Directory.names", defArgs s_Directory_names, defBody s_Directory_names, defScope s_Directory_names, [], []⟩
def d_Directory_child : DefD := ⟨("Directory", some "child"), "child", "Directory.child", defArgs s_Directory_child, defBody s_Directory_child, defScope s_Directory_child, [], []⟩
def d_Directory_put : DefD := ⟨("Directory", some "put"), "put", "Directory.put", defArgs s_Directory_put, defBody s_Directory_put, defScope s_Directory_put, [], []⟩
def d_Directory_take : DefD := ⟨("Directory", some "take"), "take", "Directory.take", defArgs s_Directory_take, defBody s_Directory_take, defScope s_Directory_take, [], []⟩
def d_Tree___init__ : DefD := ⟨("Tree", some "__init__"), "__init__", "Tree.__init__", defArgs s_Tree___init__, defBody s_Tree___init__, defScope s_Tree___init__, [], []⟩
def d_Tree___len__ : DefD := ⟨("Tree", some "__len__"), "__len__", "Tree.__len__", defArgs s_Tree___len__, defBody s_Tree___len__, defScope s_Tree___len__, [], []⟩
def d_Tree_node : DefD := ⟨("Tree", some "node"), "node", "Tree.node", defArgs s_Tree_node, defBody s_Tree_node, defScope s_Tree_node, [], []⟩
def d_Tree_attach : DefD := ⟨("Tree", some "attach"), "attach", "Tree.attach", defArgs s_Tree_attach, defBody s_Tree_attach, defScope s_Tree_attach, [], []⟩
def d_Tree_move_node : DefD := ⟨("Tree", some "move_node"), "move_node", "Tree.move_node", defArgs s_Tree_move_node, defBody s_Tree_move_node, defScope s_Tree_move_node, [], []⟩
def d_Tree_look_up : DefD := ⟨("Tree", some "look_up"), "look_up", "Tree.look_up", defArgs s_Tree_look_up, defBody s_Tree_look_up, defScope s_Tree_look_up, [], []⟩
def d_Tree_above : DefD := ⟨("Tree", some "above"), "above", "Tree.above", defArgs s_Tree_above, defBody s_Tree_above, defScope s_Tree_above, [], []⟩
def d_Tree_size_of : DefD := ⟨("Tree", some "size_of"), "size_of", "Tree.size_of", defArgs s_Tree_size_of, defBody s_Tree_size_of, defScope s_Tree_size_of, [], []⟩
def d_Tree_height_of : DefD := ⟨("Tree", some "height_of"), "height_of", "Tree.height_of", defArgs s_Tree_height_of, defBody s_Tree_height_of, defScope s_Tree_height_of, [], []⟩
def d_Space___init__ : DefD := ⟨("Space", some "__init__"), "__init__", "Space.__init__", defArgs s_Space___init__, defBody s_Space___init__, defScope s_Space___init__, [], []⟩
def d_Space_apply : DefD := ⟨("Space", some "apply"), "apply", "Space.apply", defArgs s_Space_apply, defBody s_Space_apply, defScope s_Space_apply, [], []⟩
def d_Space_last_serial : DefD := ⟨("Space", some "last_serial"), "last_serial", "Space.last_serial", defArgs s_Space_last_serial, defBody s_Space_last_serial, defScope s_Space_last_serial, [], []⟩
def d_Space_last_answer : DefD := ⟨("Space", some "last_answer"), "last_answer", "Space.last_answer", defArgs s_Space_last_answer, defBody s_Space_last_answer, defScope s_Space_last_answer, [], []⟩
def d_Space_query : DefD := ⟨("Space", some "query"), "query", "Space.query", defArgs s_Space_query, defBody s_Space_query, defScope s_Space_query, [], []⟩
def fnL : List DefD := [d_is_name, d_check_names, d_split_path, d_is_integer, d_is_text, d_refused, d_new_place, d_file_at, d_exceeds_limit, d_attach_new, d_make_directory, d_create_file, d_append_text, d_seal_file, d_move_entry, d_snapshot_file, d_limit_directory, d_has_form, d_apply_deed, d_content_answer, d_find_answer, d_names_answer, d_answer_query, d_law_stream, d_law_draw, d_law_good, d_law_name, d_law_near, d_law_names, d_law_text, d_law_same, d_law_split, d_law_places, d_law_look, d_law_place, d_law_inside, d_law_size, d_law_bursts, d_law_formed, d_law_make, d_law_write, d_law_move, d_law_snapshot, d_law_limit, d_law_apply, d_law_content, d_law_listing, d_law_answer, d_law_crooked, d_law_pick, d_law_odd, d_law_most, d_law_deed, d_law_serial, d_law_query, d_law_space_is, d_law_clients_are, d_law_fill, d_law, d_File___init__, d_File_add_piece, d_File_seal, d_File_sealed_copy, d_Directory___init__, d_Directory_set_limit, d_Directory_names, d_Directory_child, d_Directory_put, d_Directory_take, d_Tree___init__, d_Tree___len__, d_Tree_node, d_Tree_attach, d_Tree_move_node, d_Tree_look_up, d_Tree_above, d_Tree_size_of, d_Tree_height_of, d_Space___init__, d_Space_apply, d_Space_last_serial, d_Space_last_answer, d_Space_query]
/-- a property: its class, its name, its getter's text -/
structure PrD where
  cl : Str
  nm : Str
  qual : Str
  st : Stmt
def pAd (K : PySem.W.Frag) (d : PrD) : Addr := ma K (ga K d.cl) d.nm
def gAd (K : PySem.W.Frag) (d : PrD) : Addr := match PySem.W.recIn K (pAd K d) "property" with
  | some (.ref g :: _) => g
  | _ => 0
def fnA (K : PySem.W.Frag) (a : Addr) : FnW := match K.lookup a with
  | some ⟨_, _, .func fd, _⟩ => some (fd.name, fd.qualname, fd.params, fd.body, fd.scope, fd.globals, fd.closure, fd.builtins)
  | _ => none
def PrD.val (d : PrD) : FnW := some (d.nm, d.qual, defArgs d.st, .stmts (defBody d.st), defScope d.st, mainGlobals, [], builtinsNs)
def PrD.ok (K : PySem.W.Frag) (d : PrD) : Bool := eqO (PySem.W.findIn K (.ref (ga K d.cl)) d.nm) (some (some (.ref (pAd K d)))) &&
  (eqO (PySem.W.specialIn K (.ref (pAd K d)) "__get__") (some (some (.builtin "property.__get__"))) && (decide (PySem.W.takesIn K (.ref (pAd K d)) = some true) &&
  ((match PySem.W.recIn K (pAd K d) "property" with
    | some (.ref _ :: _) => true
    | _ => false) && (PySem.W.keepIn K (.ref (gAd K d)) && (match K.lookup (gAd K d) with
    | some ⟨_, _, .func fd, _⟩ => PySem.W.codeIn K fd.code d.qual && (dflB K fd.defaults [] && kwdB K fd.kwdefaults [])
    | _ => false)))))
def p_File_pieces : PrD := ⟨"File", "pieces", "File.pieces", s_File_pieces⟩
def p_File_sealed : PrD := ⟨"File", "sealed", "File.sealed", s_File_sealed⟩
def p_File_length : PrD := ⟨"File", "length", "File.length", s_File_length⟩
def p_Directory_limit : PrD := ⟨"Directory", "limit", "Directory.limit", s_Directory_limit⟩
def p_Space_applied : PrD := ⟨"Space", "applied", "Space.applied", s_Space_applied⟩
def prL : List PrD := [p_File_pieces, p_File_sealed, p_File_length, p_Directory_limit, p_Space_applied]
def insB (K : PySem.W.Frag) (x : Str) : Bool := eqO (PySem.W.findIn K (.ref (ga K x)) "__class__") (some (some (.builtin "object.__class__"))) &&
  (eqO (PySem.W.specialIn K (.builtin "object.__class__") "__get__") (some (some (.builtin "getset_descriptor.__get__"))) && (decide (PySem.W.takesIn K (.builtin "object.__class__") = some true) &&
  decide (PySem.W.mroIn K (ga K x) (.type "object") = some true)))
def kitB (K : PySem.W.Frag) (x y : Str) (b : Bool) : Bool := decide (PySem.W.kitOne K (.ref (ga K x)) (.ref (ga K y)) = some b)
def neB (K : PySem.W.Frag) (x y : Str) : Bool := !decide (ga K x = ga K y)
/-- the tuple that FORMS has for a word -/
def fmAt (K : PySem.W.Frag) (x : Str) : Addr := match PySem.W.nsIn K (ga K "FORMS") x with
  | some (some (.ref a)) => a
  | _ => 0
def fmB (K : PySem.W.Frag) (x : Str) (vs : List Dv) : Bool := eqO (PySem.W.nsIn K (ga K "FORMS") x) (some (some (.ref (fmAt K x)))) && (match K.lookup (fmAt K x) with
  | some ⟨.type c, _, .seq its _, _⟩ => decide (c = "tuple") && (decide (its.size ≤ sizeLine) && relAll (vs.map (Dv.v K)) its.toList)
  | _ => false)
def acB (K : PySem.W.Frag) (x y : Str) : Bool := eqO (PySem.W.nsIn K (ga K "ACTIONS") x) (some (some (.ref (ga K y))))
def miB (K : PySem.W.Frag) (x : Str) : Bool := eqO (PySem.W.nsIn K (ga K "FORMS") x) (some none)
def exL (K : PySem.W.Frag) : List Bool := [
  insB K "File",
  insB K "Directory",
  kitB K "File" "File" true,
  kitB K "Directory" "File" false,
  kitB K "File" "Directory" false,
  kitB K "Directory" "Directory" true,
  neB K "File" "Directory",
  neB K "File" "Tree",
  neB K "File" "Space",
  neB K "Directory" "Tree",
  neB K "Directory" "Space",
  neB K "Tree" "Space",
  fmB K "mkdir" [.str "path"],
  fmB K "create" [.str "path"],
  fmB K "append" [.str "path", .str "text"],
  fmB K "seal" [.str "path"],
  fmB K "move" [.str "path", .str "path"],
  fmB K "snapshot" [.str "path", .str "path"],
  fmB K "limit" [.str "path", .str "most"],
  acB K "mkdir" "make_directory",
  acB K "create" "create_file",
  acB K "append" "append_text",
  acB K "seal" "seal_file",
  acB K "move" "move_entry",
  acB K "snapshot" "snapshot_file",
  acB K "limit" "limit_directory",
  miB K "remove",
  miB K "Mkdir",
  miB K "x",
  miB K "content"]
def taL : List Tab := [((fun K => ga K "FORMS"), ["mkdir", "create", "append", "seal", "move", "snapshot", "limit"]), ((fun K => ga K "ACTIONS"), ["mkdir", "create", "append", "seal", "move", "snapshot", "limit"])]
def ad0 : List Nat := [3, 6, 4, 21, 31, 44, 56, 120, 184, 195, 202, 209, 216, 223, 230, 237, 244, 251, 258, 265, 272, 279, 286, 291, 298, 305, 306, 314, 321, 328, 414, 425, 432, 439, 446, 516, 527, 534, 541, 548, 555, 562, 569, 576, 583, 590, 597, 604, 611, 616, 623, 630, 637, 644, 651, 658, 665, 672, 679, 686]
def ad1 : List Nat := [693, 700, 705, 712, 719, 726, 733, 740, 745, 752, 759, 764, 0, 20, 30, 43, 55, 119, 183, 194, 201, 208, 215, 222, 229, 236, 243, 250, 257, 264, 271, 278, 285, 290, 297, 304, 307, 308, 309, 310, 311, 312, 313, 320, 327, 413, 424, 431, 438, 445, 515, 526, 533, 540, 547, 554, 561, 568, 575, 582]
def ad2 : List Nat := [589, 596, 603, 610, 615, 622, 629, 636, 643, 650, 657, 664, 671, 678, 685, 692, 699, 704, 711, 718, 725, 732, 739, 744, 751, 758, 763, 15, 16, 17, 18, 19, 29, 32, 42, 54, 72, 80, 88, 96, 103, 110, 117, 118, 121, 122, 138, 146, 153, 160, 167, 174, 181, 182, 185, 186, 189, 190, 191, 192]
def ad3 : List Nat := [193, 196, 197, 198, 199, 200, 203, 204, 205, 206, 207, 210, 211, 212, 213, 214, 217, 218, 219, 220, 221, 224, 225, 226, 227, 228, 231, 232, 233, 234, 235, 238, 239, 240, 241, 242, 245, 246, 247, 248, 249, 252, 253, 254, 255, 256, 259, 260, 261, 262, 263, 266, 267, 268, 269, 270, 273, 274, 275, 276]
def ad4 : List Nat := [277, 280, 281, 282, 283, 284, 287, 288, 289, 292, 293, 294, 295, 296, 299, 300, 301, 302, 303, 315, 316, 317, 318, 319, 322, 323, 324, 325, 326, 342, 349, 356, 363, 370, 377, 384, 391, 396, 401, 410, 412, 415, 416, 419, 420, 421, 422, 423, 426, 427, 428, 429, 430, 433, 434, 435, 436, 437, 440, 441]
def ad5 : List Nat := [442, 443, 444, 460, 468, 475, 482, 489, 496, 503, 512, 514, 517, 518, 521, 522, 523, 524, 525, 528, 529, 530, 531, 532, 535, 536, 537, 538, 539, 542, 543, 544, 545, 546, 549, 550, 551, 552, 553, 556, 557, 558, 559, 560, 563, 564, 565, 566, 567, 570, 571, 572, 573, 574, 577, 578, 579, 580, 581, 584]
def ad6 : List Nat := [585, 586, 587, 588, 591, 592, 593, 594, 595, 598, 599, 600, 601, 602, 605, 606, 607, 608, 609, 612, 613, 614, 617, 618, 619, 620, 621, 624, 625, 626, 627, 628, 631, 632, 633, 634, 635, 638, 639, 640, 641, 642, 645, 646, 647, 648, 649, 652, 653, 654, 655, 656, 659, 660, 661, 662, 663, 666, 667, 668]
def ad7 : List Nat := [669, 670, 673, 674, 675, 676, 677, 680, 681, 682, 683, 684, 687, 688, 689, 690, 691, 694, 695, 696, 697, 698, 701, 702, 703, 706, 707, 708, 709, 710, 713, 714, 715, 716, 717, 720, 721, 722, 723, 724, 727, 728, 729, 730, 731, 734, 735, 736, 737, 738, 741, 742, 743, 746, 747, 748, 749, 750, 753, 754]
def ad8 : List Nat := [755, 756, 757, 760, 761, 762, 71, 79, 87, 95, 102, 109, 116, 137, 145, 152, 159, 166, 173, 180, 341, 348, 355, 362, 369, 376, 383, 390, 395, 400, 408, 409, 459, 467, 474, 481, 488, 495, 502, 510, 511, 66, 67, 68, 69, 70, 78, 86, 94, 97, 98, 99, 100, 101, 104, 105, 106, 107, 108, 111]
def ad9 : List Nat := [112, 113, 114, 115, 132, 133, 134, 135, 136, 144, 147, 148, 149, 150, 151, 154, 155, 156, 157, 158, 161, 162, 163, 164, 165, 168, 169, 170, 171, 172, 175, 176, 177, 178, 179, 336, 337, 338, 339, 340, 343, 344, 345, 346, 347, 350, 351, 352, 353, 354, 357, 358, 359, 360, 361, 364, 365, 366, 367, 368]
def ad10 : List Nat := [371, 372, 373, 374, 375, 378, 379, 380, 381, 382, 385, 386, 387, 388, 389, 392, 393, 394, 397, 398, 399, 407, 411, 454, 455, 456, 457, 458, 466, 469, 470, 471, 472, 473, 476, 477, 478, 479, 480, 483, 484, 485, 486, 487, 490, 491, 492, 493, 494, 497, 498, 499, 500, 501, 509, 513]
/-- where the things stand that the facts speak of: what the module's names reach in five steps -/
def adrs : List Addr := ad0 ++ ad1 ++ ad2 ++ ad3 ++ ad4 ++ ad5 ++ ad6 ++ ad7 ++ ad8 ++ ad9 ++ ad10
/-! ### the Hook -/
abbrev AlA : Type := AlT × List FnW × Bool
def obsA (K : PySem.W.Frag) : AlA := (obsT faL fnL taL K, prL.map (fun d => fnA K (gAd K d)), (prL.all fun d => d.ok K) && (exL K).all id)
def valA (w : World) : AlA := (valT fnL taL w, prL.map PrD.val, true)
def SaysA (w : World) (K : PySem.W.Frag) : Prop := obsA K = valA w
def hkA : PySem.W.Hook where
  α := AlA
  obs := fun s => obsA (frG s.heap.get? adrs)
  val := fun w => valA w
  says := fun w h => ∃ K : PySem.W.Frag, K.In h ∧ SaysA w K
  of := fun _ _ e => ⟨_, frG_in, e⟩
  keeps := fun _ _ _ ⟨K, hK, c⟩ k => ⟨K, PySem.W.Frag.In.keeps hK k, c⟩
end Ah
set_option maxHeartbeats 0
namespace Ah
open PySem PySem.Spec PyProof.Rows L2 He
def nm0 : List PySem.Str := [("_wall" : PySem.Str), ("__name__" : PySem.Str), ("HallError" : PySem.Str), ("BadPath" : PySem.Str), ("Unknown" : PySem.Str), ("File" : PySem.Str), ("Directory" : PySem.Str), ("NAME_CHARS" : PySem.Str), ("NAME_MOST" : PySem.Str), ("NAMES_MOST" : PySem.Str), ("is_name" : PySem.Str), ("check_names" : PySem.Str), ("split_path" : PySem.Str), ("NUMBER_MOST" : PySem.Str), ("TEXT_MOST" : PySem.Str), ("PERCENT" : PySem.Str), ("is_integer" : PySem.Str), ("is_text" : PySem.Str), ("NODES_MOST" : PySem.Str), ("refused" : PySem.Str), ("new_place" : PySem.Str), ("file_at" : PySem.Str), ("exceeds_limit" : PySem.Str), ("attach_new" : PySem.Str), ("make_directory" : PySem.Str), ("create_file" : PySem.Str), ("append_text" : PySem.Str), ("seal_file" : PySem.Str), ("move_entry" : PySem.Str), ("snapshot_file" : PySem.Str), ("limit_directory" : PySem.Str), ("FORMS" : PySem.Str), ("ACTIONS" : PySem.Str), ("has_form" : PySem.Str), ("apply_deed" : PySem.Str)]
def nm1 : List PySem.Str := [("Tree" : PySem.Str), ("content_answer" : PySem.Str), ("find_answer" : PySem.Str), ("names_answer" : PySem.Str), ("answer_query" : PySem.Str), ("Space" : PySem.Str), ("_law_stream" : PySem.Str), ("_law_draw" : PySem.Str), ("_law_good" : PySem.Str), ("_law_name" : PySem.Str), ("_law_near" : PySem.Str), ("_law_names" : PySem.Str), ("_law_text" : PySem.Str), ("_law_same" : PySem.Str), ("_law_split" : PySem.Str), ("_law_places" : PySem.Str), ("_law_look" : PySem.Str), ("_law_place" : PySem.Str), ("_law_inside" : PySem.Str), ("_law_size" : PySem.Str), ("_law_bursts" : PySem.Str), ("_law_formed" : PySem.Str), ("_law_make" : PySem.Str), ("_law_write" : PySem.Str), ("_law_move" : PySem.Str), ("_law_snapshot" : PySem.Str), ("_law_limit" : PySem.Str), ("_law_apply" : PySem.Str), ("_law_content" : PySem.Str), ("_law_listing" : PySem.Str), ("_law_answer" : PySem.Str), ("_law_crooked" : PySem.Str), ("_law_pick" : PySem.Str), ("_law_odd" : PySem.Str), ("_law_most" : PySem.Str)]
def nm2 : List PySem.Str := [("_law_deed" : PySem.Str), ("_law_serial" : PySem.Str), ("_law_query" : PySem.Str), ("_law_space_is" : PySem.Str), ("_law_clients_are" : PySem.Str), ("_law_fill" : PySem.Str)]
def nms : List PySem.Str := nm0 ++ nm1 ++ nm2
abbrev R : PySem.W.OpenRow := PySem.W.OpenLaw.row PySem.Challenge.rw_appendhall_k37_whole_records_in_a_space
def ob (s : PySem.W.SharedT) : AlA := obsA (frG (HandSHeadRun.getT s) adrs)
theorem ob_eq (s : PySem.W.SharedT) : ob s = hkA.obs s.abs := by
  have e : HandSHeadRun.getT s = s.abs.heap.get? := funext fun a => HandSHeadRun.getT_eq s a
  unfold ob
  rw [e] <;> rfl
theorem run0 (w : World) : HandSHeadRun.RunEq R (PySem.W.view R.prog [84]) hkA ob 6000 nms (w.withFollow "special-get-raises" false) := by
  intro os
  kernel_rfl
theorem run1 (w : World) : HandSHeadRun.RunEq R (PySem.W.view R.prog [84]) hkA ob 6000 nms (w.withFollow "special-get-raises" true) := by
  intro os
  kernel_rfl
theorem run : ∀ w : World, HandSHeadRun.RunEq R (PySem.W.view R.prog [84]) hkA ob 6000 nms w := PySem.W.byRow2 "special-get-raises" run0 run1
end Ah
/-! What the top has left, fact by fact. Printed by gen_facts.py. -/
namespace Ah
open PySem PySem.Spec PyProof.Rows L2 He
/-- what every def leans on -/
structure Tx (w : World) (K : PySem.W.Frag) (mg : Str → Option Value) : Prop where
  c : SaysA w K
  gl : ∀ (x : Str) (v : Value), PySem.W.nsIn K mainGlobals x = some (some v) → mg x = some v
  fr : ∀ x : Str, PySem.W.nsIn K mainGlobals x = some none → mg x = none
section
variable {w : World} {K : PySem.W.Frag} {mg : Str → Option Value}
theorem Tx.t (T : Tx w K mg) : SaysT faL fnL taL w K := congrArg (fun z : AlA => z.1) T.c
theorem Tx.fa (T : Tx w K mg) (i : Nat) {f : Fa} (h : faL[i]? = some f) : f.ok K = true := SaysD.fact (SaysT.d T.t) i h
theorem Tx.fn (T : Tx w K mg) (i : Nat) {d : DefD} (h : fnL[i]? = some d) : ∃ fd, FunD K d.name d.qual d.params d.body d.scope (d.dvs K) (d.kws K) (fAd K d.at_) fd := SaysD.def_ (SaysT.d T.t) i h
theorem Tx.ex (T : Tx w K mg) (i : Nat) {b : Bool} (h : (exL K)[i]? = some b) : b = true := by
  have e : ((prL.all fun d => d.ok K) && (exL K).all id) = true := congrArg (fun z : AlA => z.2.2) T.c
  exact List.all_eq_true.mp (ba e).2 b (List.mem_of_getElem? h)
theorem Tx.pr (T : Tx w K mg) (i : Nat) {d : PrD} (h : prL[i]? = some d) : PropOf K (ga K d.cl) d.nm (pAd K d) (gAd K d) ∧ ∃ fd, FunD K d.nm d.qual (defArgs d.st) (defBody d.st) (defScope d.st) [] [] (gAd K d) fd := by
  have e : ((prL.all fun d => d.ok K) && (exL K).all id) = true := congrArg (fun z : AlA => z.2.2) T.c
  have ok : d.ok K = true := List.all_eq_true.mp (ba e).1 d (List.mem_of_getElem? h)
  have e1 : prL.map (fun d => fnA K (gAd K d)) = prL.map PrD.val := congrArg (fun z : AlA => z.2.1) T.c
  have e2 : (prL.map fun d => fnA K (gAd K d))[i]? = (prL.map PrD.val)[i]? := by rw [e1]
  rw [List.getElem?_map, List.getElem?_map, h] at e2
  have e3 : fnA K (gAd K d) = d.val := Option.some.inj e2
  unfold PrD.ok at ok
  obtain ⟨h1, ok⟩ := ba ok
  obtain ⟨h2, ok⟩ := ba ok
  obtain ⟨h3, ok⟩ := ba ok
  obtain ⟨h4, ok⟩ := ba ok
  obtain ⟨h5, h6⟩ := ba ok
  refine ⟨⟨eqO_ok h1, eqO_ok h2, of_decide_eq_true h3, ?_⟩, ?_⟩
  · cases q : PySem.W.recIn K (pAd K d) "property" with
    | none =>
      rw [q] at h4
      cases h4
    | some l =>
      cases l with
      | nil =>
        rw [q] at h4
        cases h4
      | cons g r =>
        cases g with
        | ref g =>
          have eg : gAd K d = g := by
            unfold gAd
            rw [q]
          rw [eg]
          exact ⟨r, rfl⟩
        | _ =>
          rw [q] at h4
          cases h4
  · unfold fnA at e3
    cases q : K.lookup (gAd K d) with
    | none =>
      rw [q] at h6
      cases h6
    | some ob =>
      obtain ⟨oc, od, dt, osl⟩ := ob
      rw [q] at h6 e3
      cases dt with
      | func fd =>
        obtain ⟨n1, n2, n3, n4, n5, n6, n7, n8, n9, n10, n11, n12, n13, n14, n15⟩ := fd
        have e4 : (some (n1, n2, n3, n4, n5, n6, n7, n15) : FnW) = some (d.nm, d.qual, defArgs d.st, .stmts (defBody d.st), defScope d.st, mainGlobals, [], builtinsNs) := e3
        simp only [Option.some.injEq, Prod.mk.injEq] at e4
        obtain ⟨g1, g2, g3, g4, g5, g6, g7, g8⟩ := e4
        subst g1 g2 g3 g4 g5 g6 g7 g8
        obtain ⟨k1, k2⟩ := ba (show (PySem.W.codeIn K n13 d.qual && (dflB K n8 [] && kwdB K n9 [])) = true from h6)
        obtain ⟨k3, k4⟩ := ba k2
        exact ⟨_, ⟨oc, od, n8, n9, n10, n11, n12, n13, n14, osl, rfl, q, k1, dflB_ok k3, kwdB_ok k4⟩, h5⟩
      | _ => cases h6
theorem Tx.g_is_name (T : Tx w K mg) : mg "is_name" = some (.ref (ga K "is_name")) := T.gl _ _ (eqO_ok (T.fa 0 (f := .glo "is_name") rfl))
theorem Tx.g_check_names (T : Tx w K mg) : mg "check_names" = some (.ref (ga K "check_names")) := T.gl _ _ (eqO_ok (T.fa 1 (f := .glo "check_names") rfl))
theorem Tx.g_split_path (T : Tx w K mg) : mg "split_path" = some (.ref (ga K "split_path")) := T.gl _ _ (eqO_ok (T.fa 2 (f := .glo "split_path") rfl))
theorem Tx.g_is_integer (T : Tx w K mg) : mg "is_integer" = some (.ref (ga K "is_integer")) := T.gl _ _ (eqO_ok (T.fa 3 (f := .glo "is_integer") rfl))
theorem Tx.g_is_text (T : Tx w K mg) : mg "is_text" = some (.ref (ga K "is_text")) := T.gl _ _ (eqO_ok (T.fa 4 (f := .glo "is_text") rfl))
theorem Tx.g_refused (T : Tx w K mg) : mg "refused" = some (.ref (ga K "refused")) := T.gl _ _ (eqO_ok (T.fa 5 (f := .glo "refused") rfl))
theorem Tx.g_new_place (T : Tx w K mg) : mg "new_place" = some (.ref (ga K "new_place")) := T.gl _ _ (eqO_ok (T.fa 6 (f := .glo "new_place") rfl))
theorem Tx.g_file_at (T : Tx w K mg) : mg "file_at" = some (.ref (ga K "file_at")) := T.gl _ _ (eqO_ok (T.fa 7 (f := .glo "file_at") rfl))
theorem Tx.g_exceeds_limit (T : Tx w K mg) : mg "exceeds_limit" = some (.ref (ga K "exceeds_limit")) := T.gl _ _ (eqO_ok (T.fa 8 (f := .glo "exceeds_limit") rfl))
theorem Tx.g_attach_new (T : Tx w K mg) : mg "attach_new" = some (.ref (ga K "attach_new")) := T.gl _ _ (eqO_ok (T.fa 9 (f := .glo "attach_new") rfl))
theorem Tx.g_make_directory (T : Tx w K mg) : mg "make_directory" = some (.ref (ga K "make_directory")) := T.gl _ _ (eqO_ok (T.fa 10 (f := .glo "make_directory") rfl))
theorem Tx.g_create_file (T : Tx w K mg) : mg "create_file" = some (.ref (ga K "create_file")) := T.gl _ _ (eqO_ok (T.fa 11 (f := .glo "create_file") rfl))
theorem Tx.g_append_text (T : Tx w K mg) : mg "append_text" = some (.ref (ga K "append_text")) := T.gl _ _ (eqO_ok (T.fa 12 (f := .glo "append_text") rfl))
theorem Tx.g_seal_file (T : Tx w K mg) : mg "seal_file" = some (.ref (ga K "seal_file")) := T.gl _ _ (eqO_ok (T.fa 13 (f := .glo "seal_file") rfl))
theorem Tx.g_move_entry (T : Tx w K mg) : mg "move_entry" = some (.ref (ga K "move_entry")) := T.gl _ _ (eqO_ok (T.fa 14 (f := .glo "move_entry") rfl))
theorem Tx.g_snapshot_file (T : Tx w K mg) : mg "snapshot_file" = some (.ref (ga K "snapshot_file")) := T.gl _ _ (eqO_ok (T.fa 15 (f := .glo "snapshot_file") rfl))
theorem Tx.g_limit_directory (T : Tx w K mg) : mg "limit_directory" = some (.ref (ga K "limit_directory")) := T.gl _ _ (eqO_ok (T.fa 16 (f := .glo "limit_directory") rfl))
theorem Tx.g_has_form (T : Tx w K mg) : mg "has_form" = some (.ref (ga K "has_form")) := T.gl _ _ (eqO_ok (T.fa 17 (f := .glo "has_form") rfl))
theorem Tx.g_apply_deed (T : Tx w K mg) : mg "apply_deed" = some (.ref (ga K "apply_deed")) := T.gl _ _ (eqO_ok (T.fa 18 (f := .glo "apply_deed") rfl))
theorem Tx.g_content_answer (T : Tx w K mg) : mg "content_answer" = some (.ref (ga K "content_answer")) := T.gl _ _ (eqO_ok (T.fa 19 (f := .glo "content_answer") rfl))
theorem Tx.g_find_answer (T : Tx w K mg) : mg "find_answer" = some (.ref (ga K "find_answer")) := T.gl _ _ (eqO_ok (T.fa 20 (f := .glo "find_answer") rfl))
theorem Tx.g_names_answer (T : Tx w K mg) : mg "names_answer" = some (.ref (ga K "names_answer")) := T.gl _ _ (eqO_ok (T.fa 21 (f := .glo "names_answer") rfl))
theorem Tx.g_answer_query (T : Tx w K mg) : mg "answer_query" = some (.ref (ga K "answer_query")) := T.gl _ _ (eqO_ok (T.fa 22 (f := .glo "answer_query") rfl))
theorem Tx.g__law_stream (T : Tx w K mg) : mg "_law_stream" = some (.ref (ga K "_law_stream")) := T.gl _ _ (eqO_ok (T.fa 23 (f := .glo "_law_stream") rfl))
theorem Tx.g__law_draw (T : Tx w K mg) : mg "_law_draw" = some (.ref (ga K "_law_draw")) := T.gl _ _ (eqO_ok (T.fa 24 (f := .glo "_law_draw") rfl))
theorem Tx.g__law_good (T : Tx w K mg) : mg "_law_good" = some (.ref (ga K "_law_good")) := T.gl _ _ (eqO_ok (T.fa 25 (f := .glo "_law_good") rfl))
theorem Tx.g__law_name (T : Tx w K mg) : mg "_law_name" = some (.ref (ga K "_law_name")) := T.gl _ _ (eqO_ok (T.fa 26 (f := .glo "_law_name") rfl))
theorem Tx.g__law_near (T : Tx w K mg) : mg "_law_near" = some (.ref (ga K "_law_near")) := T.gl _ _ (eqO_ok (T.fa 27 (f := .glo "_law_near") rfl))
theorem Tx.g__law_names (T : Tx w K mg) : mg "_law_names" = some (.ref (ga K "_law_names")) := T.gl _ _ (eqO_ok (T.fa 28 (f := .glo "_law_names") rfl))
theorem Tx.g__law_text (T : Tx w K mg) : mg "_law_text" = some (.ref (ga K "_law_text")) := T.gl _ _ (eqO_ok (T.fa 29 (f := .glo "_law_text") rfl))
theorem Tx.g__law_same (T : Tx w K mg) : mg "_law_same" = some (.ref (ga K "_law_same")) := T.gl _ _ (eqO_ok (T.fa 30 (f := .glo "_law_same") rfl))
theorem Tx.g__law_split (T : Tx w K mg) : mg "_law_split" = some (.ref (ga K "_law_split")) := T.gl _ _ (eqO_ok (T.fa 31 (f := .glo "_law_split") rfl))
theorem Tx.g__law_places (T : Tx w K mg) : mg "_law_places" = some (.ref (ga K "_law_places")) := T.gl _ _ (eqO_ok (T.fa 32 (f := .glo "_law_places") rfl))
theorem Tx.g__law_look (T : Tx w K mg) : mg "_law_look" = some (.ref (ga K "_law_look")) := T.gl _ _ (eqO_ok (T.fa 33 (f := .glo "_law_look") rfl))
theorem Tx.g__law_place (T : Tx w K mg) : mg "_law_place" = some (.ref (ga K "_law_place")) := T.gl _ _ (eqO_ok (T.fa 34 (f := .glo "_law_place") rfl))
theorem Tx.g__law_inside (T : Tx w K mg) : mg "_law_inside" = some (.ref (ga K "_law_inside")) := T.gl _ _ (eqO_ok (T.fa 35 (f := .glo "_law_inside") rfl))
theorem Tx.g__law_size (T : Tx w K mg) : mg "_law_size" = some (.ref (ga K "_law_size")) := T.gl _ _ (eqO_ok (T.fa 36 (f := .glo "_law_size") rfl))
theorem Tx.g__law_bursts (T : Tx w K mg) : mg "_law_bursts" = some (.ref (ga K "_law_bursts")) := T.gl _ _ (eqO_ok (T.fa 37 (f := .glo "_law_bursts") rfl))
theorem Tx.g__law_formed (T : Tx w K mg) : mg "_law_formed" = some (.ref (ga K "_law_formed")) := T.gl _ _ (eqO_ok (T.fa 38 (f := .glo "_law_formed") rfl))
theorem Tx.g__law_make (T : Tx w K mg) : mg "_law_make" = some (.ref (ga K "_law_make")) := T.gl _ _ (eqO_ok (T.fa 39 (f := .glo "_law_make") rfl))
theorem Tx.g__law_write (T : Tx w K mg) : mg "_law_write" = some (.ref (ga K "_law_write")) := T.gl _ _ (eqO_ok (T.fa 40 (f := .glo "_law_write") rfl))
theorem Tx.g__law_move (T : Tx w K mg) : mg "_law_move" = some (.ref (ga K "_law_move")) := T.gl _ _ (eqO_ok (T.fa 41 (f := .glo "_law_move") rfl))
theorem Tx.g__law_snapshot (T : Tx w K mg) : mg "_law_snapshot" = some (.ref (ga K "_law_snapshot")) := T.gl _ _ (eqO_ok (T.fa 42 (f := .glo "_law_snapshot") rfl))
theorem Tx.g__law_limit (T : Tx w K mg) : mg "_law_limit" = some (.ref (ga K "_law_limit")) := T.gl _ _ (eqO_ok (T.fa 43 (f := .glo "_law_limit") rfl))
theorem Tx.g__law_apply (T : Tx w K mg) : mg "_law_apply" = some (.ref (ga K "_law_apply")) := T.gl _ _ (eqO_ok (T.fa 44 (f := .glo "_law_apply") rfl))
theorem Tx.g__law_content (T : Tx w K mg) : mg "_law_content" = some (.ref (ga K "_law_content")) := T.gl _ _ (eqO_ok (T.fa 45 (f := .glo "_law_content") rfl))
theorem Tx.g__law_listing (T : Tx w K mg) : mg "_law_listing" = some (.ref (ga K "_law_listing")) := T.gl _ _ (eqO_ok (T.fa 46 (f := .glo "_law_listing") rfl))
theorem Tx.g__law_answer (T : Tx w K mg) : mg "_law_answer" = some (.ref (ga K "_law_answer")) := T.gl _ _ (eqO_ok (T.fa 47 (f := .glo "_law_answer") rfl))
theorem Tx.g__law_crooked (T : Tx w K mg) : mg "_law_crooked" = some (.ref (ga K "_law_crooked")) := T.gl _ _ (eqO_ok (T.fa 48 (f := .glo "_law_crooked") rfl))
theorem Tx.g__law_pick (T : Tx w K mg) : mg "_law_pick" = some (.ref (ga K "_law_pick")) := T.gl _ _ (eqO_ok (T.fa 49 (f := .glo "_law_pick") rfl))
theorem Tx.g__law_odd (T : Tx w K mg) : mg "_law_odd" = some (.ref (ga K "_law_odd")) := T.gl _ _ (eqO_ok (T.fa 50 (f := .glo "_law_odd") rfl))
theorem Tx.g__law_most (T : Tx w K mg) : mg "_law_most" = some (.ref (ga K "_law_most")) := T.gl _ _ (eqO_ok (T.fa 51 (f := .glo "_law_most") rfl))
theorem Tx.g__law_deed (T : Tx w K mg) : mg "_law_deed" = some (.ref (ga K "_law_deed")) := T.gl _ _ (eqO_ok (T.fa 52 (f := .glo "_law_deed") rfl))
theorem Tx.g__law_serial (T : Tx w K mg) : mg "_law_serial" = some (.ref (ga K "_law_serial")) := T.gl _ _ (eqO_ok (T.fa 53 (f := .glo "_law_serial") rfl))
theorem Tx.g__law_query (T : Tx w K mg) : mg "_law_query" = some (.ref (ga K "_law_query")) := T.gl _ _ (eqO_ok (T.fa 54 (f := .glo "_law_query") rfl))
theorem Tx.g__law_space_is (T : Tx w K mg) : mg "_law_space_is" = some (.ref (ga K "_law_space_is")) := T.gl _ _ (eqO_ok (T.fa 55 (f := .glo "_law_space_is") rfl))
theorem Tx.g__law_clients_are (T : Tx w K mg) : mg "_law_clients_are" = some (.ref (ga K "_law_clients_are")) := T.gl _ _ (eqO_ok (T.fa 56 (f := .glo "_law_clients_are") rfl))
theorem Tx.g__law_fill (T : Tx w K mg) : mg "_law_fill" = some (.ref (ga K "_law_fill")) := T.gl _ _ (eqO_ok (T.fa 57 (f := .glo "_law_fill") rfl))
theorem Tx.g_law (T : Tx w K mg) : mg "law" = some (.ref (ga K "law")) := T.gl _ _ (eqO_ok (T.fa 58 (f := .glo "law") rfl))
theorem Tx.g_BadPath (T : Tx w K mg) : mg "BadPath" = some (.ref (ga K "BadPath")) := T.gl _ _ (eqO_ok (T.fa 59 (f := .glo "BadPath") rfl))
theorem Tx.g_HallError (T : Tx w K mg) : mg "HallError" = some (.ref (ga K "HallError")) := T.gl _ _ (eqO_ok (T.fa 60 (f := .glo "HallError") rfl))
theorem Tx.g_Unknown (T : Tx w K mg) : mg "Unknown" = some (.ref (ga K "Unknown")) := T.gl _ _ (eqO_ok (T.fa 61 (f := .glo "Unknown") rfl))
theorem Tx.g_File (T : Tx w K mg) : mg "File" = some (.ref (ga K "File")) := T.gl _ _ (eqO_ok (T.fa 62 (f := .glo "File") rfl))
theorem Tx.g_Directory (T : Tx w K mg) : mg "Directory" = some (.ref (ga K "Directory")) := T.gl _ _ (eqO_ok (T.fa 63 (f := .glo "Directory") rfl))
theorem Tx.g_Tree (T : Tx w K mg) : mg "Tree" = some (.ref (ga K "Tree")) := T.gl _ _ (eqO_ok (T.fa 64 (f := .glo "Tree") rfl))
theorem Tx.g_Space (T : Tx w K mg) : mg "Space" = some (.ref (ga K "Space")) := T.gl _ _ (eqO_ok (T.fa 65 (f := .glo "Space") rfl))
theorem Tx.g_FORMS (T : Tx w K mg) : mg "FORMS" = some (.ref (ga K "FORMS")) := T.gl _ _ (eqO_ok (T.fa 66 (f := .glo "FORMS") rfl))
theorem Tx.g_ACTIONS (T : Tx w K mg) : mg "ACTIONS" = some (.ref (ga K "ACTIONS")) := T.gl _ _ (eqO_ok (T.fa 67 (f := .glo "ACTIONS") rfl))
theorem Tx.f_tuple (T : Tx w K mg) : mg "tuple" = none := T.fr _ (eqO_ok (T.fa 68 (f := .free "tuple") rfl))
theorem Tx.f_len (T : Tx w K mg) : mg "len" = none := T.fr _ (eqO_ok (T.fa 69 (f := .free "len") rfl))
theorem Tx.f_sorted (T : Tx w K mg) : mg "sorted" = none := T.fr _ (eqO_ok (T.fa 70 (f := .free "sorted") rfl))
theorem Tx.f_isinstance (T : Tx w K mg) : mg "isinstance" = none := T.fr _ (eqO_ok (T.fa 71 (f := .free "isinstance") rfl))
theorem Tx.f_str (T : Tx w K mg) : mg "str" = none := T.fr _ (eqO_ok (T.fa 72 (f := .free "str") rfl))
theorem Tx.f_int (T : Tx w K mg) : mg "int" = none := T.fr _ (eqO_ok (T.fa 73 (f := .free "int") rfl))
theorem Tx.f_bool (T : Tx w K mg) : mg "bool" = none := T.fr _ (eqO_ok (T.fa 74 (f := .free "bool") rfl))
theorem Tx.f_ord (T : Tx w K mg) : mg "ord" = none := T.fr _ (eqO_ok (T.fa 75 (f := .free "ord") rfl))
theorem Tx.f_zip (T : Tx w K mg) : mg "zip" = none := T.fr _ (eqO_ok (T.fa 76 (f := .free "zip") rfl))
theorem Tx.f_sum (T : Tx w K mg) : mg "sum" = none := T.fr _ (eqO_ok (T.fa 77 (f := .free "sum") rfl))
theorem Tx.f_max (T : Tx w K mg) : mg "max" = none := T.fr _ (eqO_ok (T.fa 78 (f := .free "max") rfl))
theorem Tx.f_min (T : Tx w K mg) : mg "min" = none := T.fr _ (eqO_ok (T.fa 79 (f := .free "min") rfl))
theorem Tx.f_range (T : Tx w K mg) : mg "range" = none := T.fr _ (eqO_ok (T.fa 80 (f := .free "range") rfl))
theorem Tx.f_list (T : Tx w K mg) : mg "list" = none := T.fr _ (eqO_ok (T.fa 81 (f := .free "list") rfl))
theorem Tx.f_property (T : Tx w K mg) : mg "property" = none := T.fr _ (eqO_ok (T.fa 82 (f := .free "property") rfl))
theorem Tx.k_NAME_MOST (T : Tx w K mg) : ∃ u, mg "NAME_MOST" = some u ∧ RelV (.int 12) u := by
  have c : (match PySem.W.nsIn K mainGlobals "NAME_MOST" with
    | some (some (.int j _)) => decide (j = 12)
    | _ => false) = true := T.fa 83 (f := .int "NAME_MOST" 12) rfl
  split at c
  · rename_i j t e
    exact ⟨_, T.gl _ _ e, ⟨t, by rw [of_decide_eq_true c]⟩⟩
  · cases c
theorem Tx.k_NAMES_MOST (T : Tx w K mg) : ∃ u, mg "NAMES_MOST" = some u ∧ RelV (.int 6) u := by
  have c : (match PySem.W.nsIn K mainGlobals "NAMES_MOST" with
    | some (some (.int j _)) => decide (j = 6)
    | _ => false) = true := T.fa 84 (f := .int "NAMES_MOST" 6) rfl
  split at c
  · rename_i j t e
    exact ⟨_, T.gl _ _ e, ⟨t, by rw [of_decide_eq_true c]⟩⟩
  · cases c
theorem Tx.k_NUMBER_MOST (T : Tx w K mg) : ∃ u, mg "NUMBER_MOST" = some u ∧ RelV (.int 1000000000000000000) u := by
  have c : (match PySem.W.nsIn K mainGlobals "NUMBER_MOST" with
    | some (some (.int j _)) => decide (j = 1000000000000000000)
    | _ => false) = true := T.fa 85 (f := .int "NUMBER_MOST" 1000000000000000000) rfl
  split at c
  · rename_i j t e
    exact ⟨_, T.gl _ _ e, ⟨t, by rw [of_decide_eq_true c]⟩⟩
  · cases c
theorem Tx.k_TEXT_MOST (T : Tx w K mg) : ∃ u, mg "TEXT_MOST" = some u ∧ RelV (.int 200) u := by
  have c : (match PySem.W.nsIn K mainGlobals "TEXT_MOST" with
    | some (some (.int j _)) => decide (j = 200)
    | _ => false) = true := T.fa 86 (f := .int "TEXT_MOST" 200) rfl
  split at c
  · rename_i j t e
    exact ⟨_, T.gl _ _ e, ⟨t, by rw [of_decide_eq_true c]⟩⟩
  · cases c
theorem Tx.k_PERCENT (T : Tx w K mg) : ∃ u, mg "PERCENT" = some u ∧ RelV (.int 37) u := by
  have c : (match PySem.W.nsIn K mainGlobals "PERCENT" with
    | some (some (.int j _)) => decide (j = 37)
    | _ => false) = true := T.fa 87 (f := .int "PERCENT" 37) rfl
  split at c
  · rename_i j t e
    exact ⟨_, T.gl _ _ e, ⟨t, by rw [of_decide_eq_true c]⟩⟩
  · cases c
theorem Tx.k_NODES_MOST (T : Tx w K mg) : ∃ u, mg "NODES_MOST" = some u ∧ RelV (.int 64) u := by
  have c : (match PySem.W.nsIn K mainGlobals "NODES_MOST" with
    | some (some (.int j _)) => decide (j = 64)
    | _ => false) = true := T.fa 88 (f := .int "NODES_MOST" 64) rfl
  split at c
  · rename_i j t e
    exact ⟨_, T.gl _ _ e, ⟨t, by rw [of_decide_eq_true c]⟩⟩
  · cases c
theorem Tx.k_NAME_CHARS (T : Tx w K mg) : ∃ u, mg "NAME_CHARS" = some u ∧ RelV (.str "abcdefghijklmnopqrstuvwxyz0123456789-.") u := by
  have c : (match PySem.W.nsIn K mainGlobals "NAME_CHARS" with
    | some (some (.str j _)) => decide (j = ("abcdefghijklmnopqrstuvwxyz0123456789-." : Str))
    | _ => false) = true := T.fa 89 (f := .str "NAME_CHARS" "abcdefghijklmnopqrstuvwxyz0123456789-.") rfl
  split at c
  · rename_i j t e
    exact ⟨_, T.gl _ _ e, ⟨t, by rw [of_decide_eq_true c]⟩⟩
  · cases c
theorem Tx.c_File (T : Tx w K mg) : Cls K (ga K "File") := cls_ok (T.fa 90 (f := .cls "File") rfl)
theorem Tx.mk_File (T : Tx w K mg) : Mk K (ga K "File") (ma K (ga K "File") "__init__") := mkr_ok (T.fa 91 (f := .mkr "File") rfl)
theorem Tx.c_Directory (T : Tx w K mg) : Cls K (ga K "Directory") := cls_ok (T.fa 92 (f := .cls "Directory") rfl)
theorem Tx.mk_Directory (T : Tx w K mg) : Mk K (ga K "Directory") (ma K (ga K "Directory") "__init__") := mkr_ok (T.fa 93 (f := .mkr "Directory") rfl)
theorem Tx.c_Tree (T : Tx w K mg) : Cls K (ga K "Tree") := cls_ok (T.fa 94 (f := .cls "Tree") rfl)
theorem Tx.mk_Tree (T : Tx w K mg) : Mk K (ga K "Tree") (ma K (ga K "Tree") "__init__") := mkr_ok (T.fa 95 (f := .mkr "Tree") rfl)
theorem Tx.c_Space (T : Tx w K mg) : Cls K (ga K "Space") := cls_ok (T.fa 96 (f := .cls "Space") rfl)
theorem Tx.mk_Space (T : Tx w K mg) : Mk K (ga K "Space") (ma K (ga K "Space") "__init__") := mkr_ok (T.fa 97 (f := .mkr "Space") rfl)
theorem Tx.n_File_pieces (T : Tx w K mg) : NoAttr K (ga K "File") "_pieces" := noat_ok (T.fa 98 (f := .noat "File" "_pieces") rfl)
theorem Tx.n_File_sealed (T : Tx w K mg) : NoAttr K (ga K "File") "_sealed" := noat_ok (T.fa 99 (f := .noat "File" "_sealed") rfl)
theorem Tx.n_File_length (T : Tx w K mg) : NoAttr K (ga K "File") "_length" := noat_ok (T.fa 100 (f := .noat "File" "_length") rfl)
theorem Tx.n_Directory_limit (T : Tx w K mg) : NoAttr K (ga K "Directory") "_limit" := noat_ok (T.fa 101 (f := .noat "Directory" "_limit") rfl)
theorem Tx.n_Directory_entries (T : Tx w K mg) : NoAttr K (ga K "Directory") "_entries" := noat_ok (T.fa 102 (f := .noat "Directory" "_entries") rfl)
theorem Tx.n_Tree_nodes (T : Tx w K mg) : NoAttr K (ga K "Tree") "_nodes" := noat_ok (T.fa 103 (f := .noat "Tree" "_nodes") rfl)
theorem Tx.n_Tree_places (T : Tx w K mg) : NoAttr K (ga K "Tree") "_places" := noat_ok (T.fa 104 (f := .noat "Tree" "_places") rfl)
theorem Tx.n_Space_applied (T : Tx w K mg) : NoAttr K (ga K "Space") "_applied" := noat_ok (T.fa 105 (f := .noat "Space" "_applied") rfl)
theorem Tx.n_Space_clients (T : Tx w K mg) : NoAttr K (ga K "Space") "_clients" := noat_ok (T.fa 106 (f := .noat "Space" "_clients") rfl)
theorem Tx.n_Space_tree (T : Tx w K mg) : NoAttr K (ga K "Space") "_tree" := noat_ok (T.fa 107 (f := .noat "Space" "_tree") rfl)
theorem Tx.m_File_add_piece (T : Tx w K mg) : Meth K (ga K "File") "add_piece" (ma K (ga K "File") "add_piece") := meth_ok (T.fa 108 (f := .meth "File" "add_piece") rfl)
theorem Tx.m_File_seal (T : Tx w K mg) : Meth K (ga K "File") "seal" (ma K (ga K "File") "seal") := meth_ok (T.fa 109 (f := .meth "File" "seal") rfl)
theorem Tx.m_File_sealed_copy (T : Tx w K mg) : Meth K (ga K "File") "sealed_copy" (ma K (ga K "File") "sealed_copy") := meth_ok (T.fa 110 (f := .meth "File" "sealed_copy") rfl)
theorem Tx.m_Directory_set_limit (T : Tx w K mg) : Meth K (ga K "Directory") "set_limit" (ma K (ga K "Directory") "set_limit") := meth_ok (T.fa 111 (f := .meth "Directory" "set_limit") rfl)
theorem Tx.m_Directory_names (T : Tx w K mg) : Meth K (ga K "Directory") "names" (ma K (ga K "Directory") "names") := meth_ok (T.fa 112 (f := .meth "Directory" "names") rfl)
theorem Tx.m_Directory_child (T : Tx w K mg) : Meth K (ga K "Directory") "child" (ma K (ga K "Directory") "child") := meth_ok (T.fa 113 (f := .meth "Directory" "child") rfl)
theorem Tx.m_Directory_put (T : Tx w K mg) : Meth K (ga K "Directory") "put" (ma K (ga K "Directory") "put") := meth_ok (T.fa 114 (f := .meth "Directory" "put") rfl)
theorem Tx.m_Directory_take (T : Tx w K mg) : Meth K (ga K "Directory") "take" (ma K (ga K "Directory") "take") := meth_ok (T.fa 115 (f := .meth "Directory" "take") rfl)
theorem Tx.m_Tree___len__ (T : Tx w K mg) : Meth K (ga K "Tree") "__len__" (ma K (ga K "Tree") "__len__") := meth_ok (T.fa 116 (f := .meth "Tree" "__len__") rfl)
theorem Tx.m_Tree_node (T : Tx w K mg) : Meth K (ga K "Tree") "node" (ma K (ga K "Tree") "node") := meth_ok (T.fa 117 (f := .meth "Tree" "node") rfl)
theorem Tx.m_Tree_attach (T : Tx w K mg) : Meth K (ga K "Tree") "attach" (ma K (ga K "Tree") "attach") := meth_ok (T.fa 118 (f := .meth "Tree" "attach") rfl)
theorem Tx.m_Tree_move_node (T : Tx w K mg) : Meth K (ga K "Tree") "move_node" (ma K (ga K "Tree") "move_node") := meth_ok (T.fa 119 (f := .meth "Tree" "move_node") rfl)
theorem Tx.m_Tree_look_up (T : Tx w K mg) : Meth K (ga K "Tree") "look_up" (ma K (ga K "Tree") "look_up") := meth_ok (T.fa 120 (f := .meth "Tree" "look_up") rfl)
theorem Tx.m_Tree_above (T : Tx w K mg) : Meth K (ga K "Tree") "above" (ma K (ga K "Tree") "above") := meth_ok (T.fa 121 (f := .meth "Tree" "above") rfl)
theorem Tx.m_Tree_size_of (T : Tx w K mg) : Meth K (ga K "Tree") "size_of" (ma K (ga K "Tree") "size_of") := meth_ok (T.fa 122 (f := .meth "Tree" "size_of") rfl)
theorem Tx.m_Tree_height_of (T : Tx w K mg) : Meth K (ga K "Tree") "height_of" (ma K (ga K "Tree") "height_of") := meth_ok (T.fa 123 (f := .meth "Tree" "height_of") rfl)
theorem Tx.m_Space_apply (T : Tx w K mg) : Meth K (ga K "Space") "apply" (ma K (ga K "Space") "apply") := meth_ok (T.fa 124 (f := .meth "Space" "apply") rfl)
theorem Tx.m_Space_last_serial (T : Tx w K mg) : Meth K (ga K "Space") "last_serial" (ma K (ga K "Space") "last_serial") := meth_ok (T.fa 125 (f := .meth "Space" "last_serial") rfl)
theorem Tx.m_Space_last_answer (T : Tx w K mg) : Meth K (ga K "Space") "last_answer" (ma K (ga K "Space") "last_answer") := meth_ok (T.fa 126 (f := .meth "Space" "last_answer") rfl)
theorem Tx.m_Space_query (T : Tx w K mg) : Meth K (ga K "Space") "query" (ma K (ga K "Space") "query") := meth_ok (T.fa 127 (f := .meth "Space" "query") rfl)
theorem Tx.x_BadPath (T : Tx w K mg) : PySem.W.excIn K (ga K "BadPath") veBase "ValueError.__new__" = true ∧ PySem.W.keepIn K (.ref (ga K "BadPath")) = true ∧ PySem.W.subIn K (.ref (ga K "BadPath")) (.type "BaseException") = some true ∧
    PySem.W.typeIn K (.ref (ga K "BadPath")) = some (.type "type") := exc_ok (T.fa 128 (f := .exc "BadPath") rfl)
theorem Tx.x_Unknown (T : Tx w K mg) : PySem.W.excIn K (ga K "Unknown") veBase "ValueError.__new__" = true ∧ PySem.W.keepIn K (.ref (ga K "Unknown")) = true ∧ PySem.W.subIn K (.ref (ga K "Unknown")) (.type "BaseException") = some true ∧
    PySem.W.typeIn K (.ref (ga K "Unknown")) = some (.type "type") := exc_ok (T.fa 129 (f := .exc "Unknown") rfl)
theorem Tx.e_BadPath (T : Tx w K mg) : PySem.W.exmOne K (.ref (ga K "BadPath")) (.ref (ga K "BadPath")) = some true := exm_ok (T.fa 130 (f := .exm "BadPath" "BadPath" true) rfl)
theorem Tx.fd_is_name (T : Tx w K mg) : ∃ fd, FunD K "is_name" "is_name" (defArgs s_is_name) (defBody s_is_name) (defScope s_is_name) [] [] (fAd K ("is_name", none)) fd := T.fn 0 (d := Ah.d_is_name) rfl
theorem Tx.fd_check_names (T : Tx w K mg) : ∃ fd, FunD K "check_names" "check_names" (defArgs s_check_names) (defBody s_check_names) (defScope s_check_names) [] [] (fAd K ("check_names", none)) fd := T.fn 1 (d := Ah.d_check_names) rfl
theorem Tx.fd_split_path (T : Tx w K mg) : ∃ fd, FunD K "split_path" "split_path" (defArgs s_split_path) (defBody s_split_path) (defScope s_split_path) [] [] (fAd K ("split_path", none)) fd := T.fn 2 (d := Ah.d_split_path) rfl
theorem Tx.fd_is_integer (T : Tx w K mg) : ∃ fd, FunD K "is_integer" "is_integer" (defArgs s_is_integer) (defBody s_is_integer) (defScope s_is_integer) [] [] (fAd K ("is_integer", none)) fd := T.fn 3 (d := Ah.d_is_integer) rfl
theorem Tx.fd_is_text (T : Tx w K mg) : ∃ fd, FunD K "is_text" "is_text" (defArgs s_is_text) (defBody s_is_text) (defScope s_is_text) [] [] (fAd K ("is_text", none)) fd := T.fn 4 (d := Ah.d_is_text) rfl
theorem Tx.fd_refused (T : Tx w K mg) : ∃ fd, FunD K "refused" "refused" (defArgs s_refused) (defBody s_refused) (defScope s_refused) [] [] (fAd K ("refused", none)) fd := T.fn 5 (d := Ah.d_refused) rfl
theorem Tx.fd_new_place (T : Tx w K mg) : ∃ fd, FunD K "new_place" "new_place" (defArgs s_new_place) (defBody s_new_place) (defScope s_new_place) [] [] (fAd K ("new_place", none)) fd := T.fn 6 (d := Ah.d_new_place) rfl
theorem Tx.fd_file_at (T : Tx w K mg) : ∃ fd, FunD K "file_at" "file_at" (defArgs s_file_at) (defBody s_file_at) (defScope s_file_at) [] [] (fAd K ("file_at", none)) fd := T.fn 7 (d := Ah.d_file_at) rfl
theorem Tx.fd_exceeds_limit (T : Tx w K mg) : ∃ fd, FunD K "exceeds_limit" "exceeds_limit" (defArgs s_exceeds_limit) (defBody s_exceeds_limit) (defScope s_exceeds_limit) [] [] (fAd K ("exceeds_limit", none)) fd := T.fn 8 (d := Ah.d_exceeds_limit) rfl
theorem Tx.fd_attach_new (T : Tx w K mg) : ∃ fd, FunD K "attach_new" "attach_new" (defArgs s_attach_new) (defBody s_attach_new) (defScope s_attach_new) [] [] (fAd K ("attach_new", none)) fd := T.fn 9 (d := Ah.d_attach_new) rfl
theorem Tx.fd_make_directory (T : Tx w K mg) : ∃ fd, FunD K "make_directory" "make_directory" (defArgs s_make_directory) (defBody s_make_directory) (defScope s_make_directory) [] [] (fAd K ("make_directory", none)) fd := T.fn 10 (d := Ah.d_make_directory) rfl
theorem Tx.fd_create_file (T : Tx w K mg) : ∃ fd, FunD K "create_file" "create_file" (defArgs s_create_file) (defBody s_create_file) (defScope s_create_file) [] [] (fAd K ("create_file", none)) fd := T.fn 11 (d := Ah.d_create_file) rfl
theorem Tx.fd_append_text (T : Tx w K mg) : ∃ fd, FunD K "append_text" "append_text" (defArgs s_append_text) (defBody s_append_text) (defScope s_append_text) [] [] (fAd K ("append_text", none)) fd := T.fn 12 (d := Ah.d_append_text) rfl
theorem Tx.fd_seal_file (T : Tx w K mg) : ∃ fd, FunD K "seal_file" "seal_file" (defArgs s_seal_file) (defBody s_seal_file) (defScope s_seal_file) [] [] (fAd K ("seal_file", none)) fd := T.fn 13 (d := Ah.d_seal_file) rfl
theorem Tx.fd_move_entry (T : Tx w K mg) : ∃ fd, FunD K "move_entry" "move_entry" (defArgs s_move_entry) (defBody s_move_entry) (defScope s_move_entry) [] [] (fAd K ("move_entry", none)) fd := T.fn 14 (d := Ah.d_move_entry) rfl
theorem Tx.fd_snapshot_file (T : Tx w K mg) : ∃ fd, FunD K "snapshot_file" "snapshot_file" (defArgs s_snapshot_file) (defBody s_snapshot_file) (defScope s_snapshot_file) [] [] (fAd K ("snapshot_file", none)) fd := T.fn 15 (d := Ah.d_snapshot_file) rfl
theorem Tx.fd_limit_directory (T : Tx w K mg) : ∃ fd, FunD K "limit_directory" "limit_directory" (defArgs s_limit_directory) (defBody s_limit_directory) (defScope s_limit_directory) [] [] (fAd K ("limit_directory", none)) fd := T.fn 16 (d := Ah.d_limit_directory) rfl
theorem Tx.fd_has_form (T : Tx w K mg) : ∃ fd, FunD K "has_form" "has_form" (defArgs s_has_form) (defBody s_has_form) (defScope s_has_form) [] [] (fAd K ("has_form", none)) fd := T.fn 17 (d := Ah.d_has_form) rfl
theorem Tx.fd_apply_deed (T : Tx w K mg) : ∃ fd, FunD K "apply_deed" "apply_deed" (defArgs s_apply_deed) (defBody s_apply_deed) (defScope s_apply_deed) [] [] (fAd K ("apply_deed", none)) fd := T.fn 18 (d := Ah.d_apply_deed) rfl
theorem Tx.fd_content_answer (T : Tx w K mg) : ∃ fd, FunD K "content_answer" "content_answer" (defArgs s_content_answer) (defBody s_content_answer) (defScope s_content_answer) [] [] (fAd K ("content_answer", none)) fd := T.fn 19 (d := Ah.d_content_answer) rfl
theorem Tx.fd_find_answer (T : Tx w K mg) : ∃ fd, FunD K "find_answer" "find_answer" (defArgs s_find_answer) (defBody s_find_answer) (defScope s_find_answer) [] [] (fAd K ("find_answer", none)) fd := T.fn 20 (d := Ah.d_find_answer) rfl
theorem Tx.fd_names_answer (T : Tx w K mg) : ∃ fd, FunD K "names_answer" "names_answer" (defArgs s_names_answer) (defBody s_names_answer) (defScope s_names_answer) [] [] (fAd K ("names_answer", none)) fd := T.fn 21 (d := Ah.d_names_answer) rfl
theorem Tx.fd_answer_query (T : Tx w K mg) : ∃ fd, FunD K "answer_query" "answer_query" (defArgs s_answer_query) (defBody s_answer_query) (defScope s_answer_query) [] [] (fAd K ("answer_query", none)) fd := T.fn 22 (d := Ah.d_answer_query) rfl
theorem Tx.fd_law_stream (T : Tx w K mg) : ∃ fd, FunD K "_law_stream" "_law_stream" (defArgs s_law_stream) (defBody s_law_stream) (defScope s_law_stream) [] [] (fAd K ("_law_stream", none)) fd := T.fn 23 (d := Ah.d_law_stream) rfl
theorem Tx.fd_law_draw (T : Tx w K mg) : ∃ fd, FunD K "_law_draw" "_law_draw" (defArgs s_law_draw) (defBody s_law_draw) (defScope s_law_draw) [] [] (fAd K ("_law_draw", none)) fd := T.fn 24 (d := Ah.d_law_draw) rfl
theorem Tx.fd_law_good (T : Tx w K mg) : ∃ fd, FunD K "_law_good" "_law_good" (defArgs s_law_good) (defBody s_law_good) (defScope s_law_good) [] [] (fAd K ("_law_good", none)) fd := T.fn 25 (d := Ah.d_law_good) rfl
theorem Tx.fd_law_name (T : Tx w K mg) : ∃ fd, FunD K "_law_name" "_law_name" (defArgs s_law_name) (defBody s_law_name) (defScope s_law_name) [] [] (fAd K ("_law_name", none)) fd := T.fn 26 (d := Ah.d_law_name) rfl
theorem Tx.fd_law_near (T : Tx w K mg) : ∃ fd, FunD K "_law_near" "_law_near" (defArgs s_law_near) (defBody s_law_near) (defScope s_law_near) [] [] (fAd K ("_law_near", none)) fd := T.fn 27 (d := Ah.d_law_near) rfl
theorem Tx.fd_law_names (T : Tx w K mg) : ∃ fd, FunD K "_law_names" "_law_names" (defArgs s_law_names) (defBody s_law_names) (defScope s_law_names) [] [] (fAd K ("_law_names", none)) fd := T.fn 28 (d := Ah.d_law_names) rfl
theorem Tx.fd_law_text (T : Tx w K mg) : ∃ fd, FunD K "_law_text" "_law_text" (defArgs s_law_text) (defBody s_law_text) (defScope s_law_text) [] [] (fAd K ("_law_text", none)) fd := T.fn 29 (d := Ah.d_law_text) rfl
theorem Tx.fd_law_same (T : Tx w K mg) : ∃ fd, FunD K "_law_same" "_law_same" (defArgs s_law_same) (defBody s_law_same) (defScope s_law_same) [] [] (fAd K ("_law_same", none)) fd := T.fn 30 (d := Ah.d_law_same) rfl
theorem Tx.fd_law_split (T : Tx w K mg) : ∃ fd, FunD K "_law_split" "_law_split" (defArgs s_law_split) (defBody s_law_split) (defScope s_law_split) [] [] (fAd K ("_law_split", none)) fd := T.fn 31 (d := Ah.d_law_split) rfl
theorem Tx.fd_law_places (T : Tx w K mg) : ∃ fd, FunD K "_law_places" "_law_places" (defArgs s_law_places) (defBody s_law_places) (defScope s_law_places) [] [] (fAd K ("_law_places", none)) fd := T.fn 32 (d := Ah.d_law_places) rfl
theorem Tx.fd_law_look (T : Tx w K mg) : ∃ fd, FunD K "_law_look" "_law_look" (defArgs s_law_look) (defBody s_law_look) (defScope s_law_look) [] [] (fAd K ("_law_look", none)) fd := T.fn 33 (d := Ah.d_law_look) rfl
theorem Tx.fd_law_place (T : Tx w K mg) : ∃ fd, FunD K "_law_place" "_law_place" (defArgs s_law_place) (defBody s_law_place) (defScope s_law_place) [] [] (fAd K ("_law_place", none)) fd := T.fn 34 (d := Ah.d_law_place) rfl
theorem Tx.fd_law_inside (T : Tx w K mg) : ∃ fd, FunD K "_law_inside" "_law_inside" (defArgs s_law_inside) (defBody s_law_inside) (defScope s_law_inside) [] [] (fAd K ("_law_inside", none)) fd := T.fn 35 (d := Ah.d_law_inside) rfl
theorem Tx.fd_law_size (T : Tx w K mg) : ∃ fd, FunD K "_law_size" "_law_size" (defArgs s_law_size) (defBody s_law_size) (defScope s_law_size) [] [] (fAd K ("_law_size", none)) fd := T.fn 36 (d := Ah.d_law_size) rfl
theorem Tx.fd_law_bursts (T : Tx w K mg) : ∃ fd, FunD K "_law_bursts" "_law_bursts" (defArgs s_law_bursts) (defBody s_law_bursts) (defScope s_law_bursts) [] [] (fAd K ("_law_bursts", none)) fd := T.fn 37 (d := Ah.d_law_bursts) rfl
theorem Tx.fd_law_formed (T : Tx w K mg) : ∃ fd, FunD K "_law_formed" "_law_formed" (defArgs s_law_formed) (defBody s_law_formed) (defScope s_law_formed) [] [] (fAd K ("_law_formed", none)) fd := T.fn 38 (d := Ah.d_law_formed) rfl
theorem Tx.fd_law_make (T : Tx w K mg) : ∃ fd, FunD K "_law_make" "_law_make" (defArgs s_law_make) (defBody s_law_make) (defScope s_law_make) [] [] (fAd K ("_law_make", none)) fd := T.fn 39 (d := Ah.d_law_make) rfl
theorem Tx.fd_law_write (T : Tx w K mg) : ∃ fd, FunD K "_law_write" "_law_write" (defArgs s_law_write) (defBody s_law_write) (defScope s_law_write) [] [] (fAd K ("_law_write", none)) fd := T.fn 40 (d := Ah.d_law_write) rfl
theorem Tx.fd_law_move (T : Tx w K mg) : ∃ fd, FunD K "_law_move" "_law_move" (defArgs s_law_move) (defBody s_law_move) (defScope s_law_move) [] [] (fAd K ("_law_move", none)) fd := T.fn 41 (d := Ah.d_law_move) rfl
theorem Tx.fd_law_snapshot (T : Tx w K mg) : ∃ fd, FunD K "_law_snapshot" "_law_snapshot" (defArgs s_law_snapshot) (defBody s_law_snapshot) (defScope s_law_snapshot) [] [] (fAd K ("_law_snapshot", none)) fd := T.fn 42 (d := Ah.d_law_snapshot) rfl
theorem Tx.fd_law_limit (T : Tx w K mg) : ∃ fd, FunD K "_law_limit" "_law_limit" (defArgs s_law_limit) (defBody s_law_limit) (defScope s_law_limit) [] [] (fAd K ("_law_limit", none)) fd := T.fn 43 (d := Ah.d_law_limit) rfl
theorem Tx.fd_law_apply (T : Tx w K mg) : ∃ fd, FunD K "_law_apply" "_law_apply" (defArgs s_law_apply) (defBody s_law_apply) (defScope s_law_apply) [] [] (fAd K ("_law_apply", none)) fd := T.fn 44 (d := Ah.d_law_apply) rfl
theorem Tx.fd_law_content (T : Tx w K mg) : ∃ fd, FunD K "_law_content" "_law_content" (defArgs s_law_content) (defBody s_law_content) (defScope s_law_content) [] [] (fAd K ("_law_content", none)) fd := T.fn 45 (d := Ah.d_law_content) rfl
theorem Tx.fd_law_listing (T : Tx w K mg) : ∃ fd, FunD K "_law_listing" "_law_listing" (defArgs s_law_listing) (defBody s_law_listing) (defScope s_law_listing) [] [] (fAd K ("_law_listing", none)) fd := T.fn 46 (d := Ah.d_law_listing) rfl
theorem Tx.fd_law_answer (T : Tx w K mg) : ∃ fd, FunD K "_law_answer" "_law_answer" (defArgs s_law_answer) (defBody s_law_answer) (defScope s_law_answer) [] [] (fAd K ("_law_answer", none)) fd := T.fn 47 (d := Ah.d_law_answer) rfl
theorem Tx.fd_law_crooked (T : Tx w K mg) : ∃ fd, FunD K "_law_crooked" "_law_crooked" (defArgs s_law_crooked) (defBody s_law_crooked) (defScope s_law_crooked) [] [] (fAd K ("_law_crooked", none)) fd := T.fn 48 (d := Ah.d_law_crooked) rfl
theorem Tx.fd_law_pick (T : Tx w K mg) : ∃ fd, FunD K "_law_pick" "_law_pick" (defArgs s_law_pick) (defBody s_law_pick) (defScope s_law_pick) [] [] (fAd K ("_law_pick", none)) fd := T.fn 49 (d := Ah.d_law_pick) rfl
theorem Tx.fd_law_odd (T : Tx w K mg) : ∃ fd, FunD K "_law_odd" "_law_odd" (defArgs s_law_odd) (defBody s_law_odd) (defScope s_law_odd) [] [] (fAd K ("_law_odd", none)) fd := T.fn 50 (d := Ah.d_law_odd) rfl
theorem Tx.fd_law_most (T : Tx w K mg) : ∃ fd, FunD K "_law_most" "_law_most" (defArgs s_law_most) (defBody s_law_most) (defScope s_law_most) [] [] (fAd K ("_law_most", none)) fd := T.fn 51 (d := Ah.d_law_most) rfl
theorem Tx.fd_law_deed (T : Tx w K mg) : ∃ fd, FunD K "_law_deed" "_law_deed" (defArgs s_law_deed) (defBody s_law_deed) (defScope s_law_deed) [] [] (fAd K ("_law_deed", none)) fd := T.fn 52 (d := Ah.d_law_deed) rfl
theorem Tx.fd_law_serial (T : Tx w K mg) : ∃ fd, FunD K "_law_serial" "_law_serial" (defArgs s_law_serial) (defBody s_law_serial) (defScope s_law_serial) [] [] (fAd K ("_law_serial", none)) fd := T.fn 53 (d := Ah.d_law_serial) rfl
theorem Tx.fd_law_query (T : Tx w K mg) : ∃ fd, FunD K "_law_query" "_law_query" (defArgs s_law_query) (defBody s_law_query) (defScope s_law_query) [] [] (fAd K ("_law_query", none)) fd := T.fn 54 (d := Ah.d_law_query) rfl
theorem Tx.fd_law_space_is (T : Tx w K mg) : ∃ fd, FunD K "_law_space_is" "_law_space_is" (defArgs s_law_space_is) (defBody s_law_space_is) (defScope s_law_space_is) [] [] (fAd K ("_law_space_is", none)) fd := T.fn 55 (d := Ah.d_law_space_is) rfl
theorem Tx.fd_law_clients_are (T : Tx w K mg) : ∃ fd, FunD K "_law_clients_are" "_law_clients_are" (defArgs s_law_clients_are) (defBody s_law_clients_are) (defScope s_law_clients_are) [] [] (fAd K ("_law_clients_are", none)) fd := T.fn 56 (d := Ah.d_law_clients_are) rfl
theorem Tx.fd_law_fill (T : Tx w K mg) : ∃ fd, FunD K "_law_fill" "_law_fill" (defArgs s_law_fill) (defBody s_law_fill) (defScope s_law_fill) [] [] (fAd K ("_law_fill", none)) fd := T.fn 57 (d := Ah.d_law_fill) rfl
theorem Tx.fd_law (T : Tx w K mg) : ∃ fd, FunD K "law" "law" (defArgs s_law) (defBody s_law) (defScope s_law) [] [] (fAd K ("law", none)) fd := T.fn 58 (d := Ah.d_law) rfl
theorem Tx.fd_File___init__ (T : Tx w K mg) : ∃ fd, FunD K "__init__" "File.__init__" (defArgs s_File___init__) (defBody s_File___init__) (defScope s_File___init__) [] [] (fAd K ("File", some "__init__")) fd := T.fn 59 (d := Ah.d_File___init__) rfl
theorem Tx.fd_File_add_piece (T : Tx w K mg) : ∃ fd, FunD K "add_piece" "File.add_piece" (defArgs s_File_add_piece) (defBody s_File_add_piece) (defScope s_File_add_piece) [] [] (fAd K ("File", some "add_piece")) fd := T.fn 60 (d := Ah.d_File_add_piece) rfl
theorem Tx.fd_File_seal (T : Tx w K mg) : ∃ fd, FunD K "seal" "File.seal" (defArgs s_File_seal) (defBody s_File_seal) (defScope s_File_seal) [] [] (fAd K ("File", some "seal")) fd := T.fn 61 (d := Ah.d_File_seal) rfl
theorem Tx.fd_File_sealed_copy (T : Tx w K mg) : ∃ fd, FunD K "sealed_copy" "File.sealed_copy" (defArgs s_File_sealed_copy) (defBody s_File_sealed_copy) (defScope s_File_sealed_copy) [] [] (fAd K ("File", some "sealed_copy")) fd := T.fn 62 (d := Ah.d_File_sealed_copy) rfl
theorem Tx.fd_Directory___init__ (T : Tx w K mg) : ∃ fd, FunD K "__init__" "Directory.__init__" (defArgs s_Directory___init__) (defBody s_Directory___init__) (defScope s_Directory___init__) [] [] (fAd K ("Directory", some "__init__")) fd := T.fn 63 (d := Ah.d_Directory___init__) rfl
theorem Tx.fd_Directory_set_limit (T : Tx w K mg) : ∃ fd, FunD K "set_limit" "Directory.set_limit" (defArgs s_Directory_set_limit) (defBody s_Directory_set_limit) (defScope s_Directory_set_limit) [] [] (fAd K ("Directory", some "set_limit")) fd := T.fn 64 (d := Ah.d_Directory_set_limit) rfl
theorem Tx.fd_Directory_names (T : Tx w K mg) : ∃ fd, FunD K "names" "Directory.names" (defArgs s_Directory_names) (defBody s_Directory_names) (defScope s_Directory_names) [] [] (fAd K ("Directory", some "names")) fd := T.fn 65 (d := Ah.d_Directory_names) rfl
theorem Tx.fd_Directory_child (T : Tx w K mg) : ∃ fd, FunD K "child" "Directory.child" (defArgs s_Directory_child) (defBody s_Directory_child) (defScope s_Directory_child) [] [] (fAd K ("Directory", some "child")) fd := T.fn 66 (d := Ah.d_Directory_child) rfl
theorem Tx.fd_Directory_put (T : Tx w K mg) : ∃ fd, FunD K "put" "Directory.put" (defArgs s_Directory_put) (defBody s_Directory_put) (defScope s_Directory_put) [] [] (fAd K ("Directory", some "put")) fd := T.fn 67 (d := Ah.d_Directory_put) rfl
theorem Tx.fd_Directory_take (T : Tx w K mg) : ∃ fd, FunD K "take" "Directory.take" (defArgs s_Directory_take) (defBody s_Directory_take) (defScope s_Directory_take) [] [] (fAd K ("Directory", some "take")) fd := T.fn 68 (d := Ah.d_Directory_take) rfl
theorem Tx.fd_Tree___init__ (T : Tx w K mg) : ∃ fd, FunD K "__init__" "Tree.__init__" (defArgs s_Tree___init__) (defBody s_Tree___init__) (defScope s_Tree___init__) [] [] (fAd K ("Tree", some "__init__")) fd := T.fn 69 (d := Ah.d_Tree___init__) rfl
theorem Tx.fd_Tree___len__ (T : Tx w K mg) : ∃ fd, FunD K "__len__" "Tree.__len__" (defArgs s_Tree___len__) (defBody s_Tree___len__) (defScope s_Tree___len__) [] [] (fAd K ("Tree", some "__len__")) fd := T.fn 70 (d := Ah.d_Tree___len__) rfl
theorem Tx.fd_Tree_node (T : Tx w K mg) : ∃ fd, FunD K "node" "Tree.node" (defArgs s_Tree_node) (defBody s_Tree_node) (defScope s_Tree_node) [] [] (fAd K ("Tree", some "node")) fd := T.fn 71 (d := Ah.d_Tree_node) rfl
theorem Tx.fd_Tree_attach (T : Tx w K mg) : ∃ fd, FunD K "attach" "Tree.attach" (defArgs s_Tree_attach) (defBody s_Tree_attach) (defScope s_Tree_attach) [] [] (fAd K ("Tree", some "attach")) fd := T.fn 72 (d := Ah.d_Tree_attach) rfl
theorem Tx.fd_Tree_move_node (T : Tx w K mg) : ∃ fd, FunD K "move_node" "Tree.move_node" (defArgs s_Tree_move_node) (defBody s_Tree_move_node) (defScope s_Tree_move_node) [] [] (fAd K ("Tree", some "move_node")) fd := T.fn 73 (d := Ah.d_Tree_move_node) rfl
theorem Tx.fd_Tree_look_up (T : Tx w K mg) : ∃ fd, FunD K "look_up" "Tree.look_up" (defArgs s_Tree_look_up) (defBody s_Tree_look_up) (defScope s_Tree_look_up) [] [] (fAd K ("Tree", some "look_up")) fd := T.fn 74 (d := Ah.d_Tree_look_up) rfl
theorem Tx.fd_Tree_above (T : Tx w K mg) : ∃ fd, FunD K "above" "Tree.above" (defArgs s_Tree_above) (defBody s_Tree_above) (defScope s_Tree_above) [] [] (fAd K ("Tree", some "above")) fd := T.fn 75 (d := Ah.d_Tree_above) rfl
theorem Tx.fd_Tree_size_of (T : Tx w K mg) : ∃ fd, FunD K "size_of" "Tree.size_of" (defArgs s_Tree_size_of) (defBody s_Tree_size_of) (defScope s_Tree_size_of) [] [] (fAd K ("Tree", some "size_of")) fd := T.fn 76 (d := Ah.d_Tree_size_of) rfl
theorem Tx.fd_Tree_height_of (T : Tx w K mg) : ∃ fd, FunD K "height_of" "Tree.height_of" (defArgs s_Tree_height_of) (defBody s_Tree_height_of) (defScope s_Tree_height_of) [] [] (fAd K ("Tree", some "height_of")) fd := T.fn 77 (d := Ah.d_Tree_height_of) rfl
theorem Tx.fd_Space___init__ (T : Tx w K mg) : ∃ fd, FunD K "__init__" "Space.__init__" (defArgs s_Space___init__) (defBody s_Space___init__) (defScope s_Space___init__) [] [] (fAd K ("Space", some "__init__")) fd := T.fn 78 (d := Ah.d_Space___init__) rfl
theorem Tx.fd_Space_apply (T : Tx w K mg) : ∃ fd, FunD K "apply" "Space.apply" (defArgs s_Space_apply) (defBody s_Space_apply) (defScope s_Space_apply) [] [] (fAd K ("Space", some "apply")) fd := T.fn 79 (d := Ah.d_Space_apply) rfl
theorem Tx.fd_Space_last_serial (T : Tx w K mg) : ∃ fd, FunD K "last_serial" "Space.last_serial" (defArgs s_Space_last_serial) (defBody s_Space_last_serial) (defScope s_Space_last_serial) [] [] (fAd K ("Space", some "last_serial")) fd := T.fn 80 (d := Ah.d_Space_last_serial) rfl
theorem Tx.fd_Space_last_answer (T : Tx w K mg) : ∃ fd, FunD K "last_answer" "Space.last_answer" (defArgs s_Space_last_answer) (defBody s_Space_last_answer) (defScope s_Space_last_answer) [] [] (fAd K ("Space", some "last_answer")) fd := T.fn 81 (d := Ah.d_Space_last_answer) rfl
theorem Tx.fd_Space_query (T : Tx w K mg) : ∃ fd, FunD K "query" "Space.query" (defArgs s_Space_query) (defBody s_Space_query) (defScope s_Space_query) [] [] (fAd K ("Space", some "query")) fd := T.fn 82 (d := Ah.d_Space_query) rfl
theorem Tx.pr_File_pieces (T : Tx w K mg) : PropOf K (ga K "File") "pieces" (pAd K Ah.p_File_pieces) (gAd K Ah.p_File_pieces) ∧ ∃ fd, FunD K "pieces" "File.pieces" (defArgs s_File_pieces) (defBody s_File_pieces) (defScope s_File_pieces) [] [] (gAd K Ah.p_File_pieces) fd := T.pr 0 (d := Ah.p_File_pieces) rfl
theorem Tx.pr_File_sealed (T : Tx w K mg) : PropOf K (ga K "File") "sealed" (pAd K Ah.p_File_sealed) (gAd K Ah.p_File_sealed) ∧ ∃ fd, FunD K "sealed" "File.sealed" (defArgs s_File_sealed) (defBody s_File_sealed) (defScope s_File_sealed) [] [] (gAd K Ah.p_File_sealed) fd := T.pr 1 (d := Ah.p_File_sealed) rfl
theorem Tx.pr_File_length (T : Tx w K mg) : PropOf K (ga K "File") "length" (pAd K Ah.p_File_length) (gAd K Ah.p_File_length) ∧ ∃ fd, FunD K "length" "File.length" (defArgs s_File_length) (defBody s_File_length) (defScope s_File_length) [] [] (gAd K Ah.p_File_length) fd := T.pr 2 (d := Ah.p_File_length) rfl
theorem Tx.pr_Directory_limit (T : Tx w K mg) : PropOf K (ga K "Directory") "limit" (pAd K Ah.p_Directory_limit) (gAd K Ah.p_Directory_limit) ∧ ∃ fd, FunD K "limit" "Directory.limit" (defArgs s_Directory_limit) (defBody s_Directory_limit) (defScope s_Directory_limit) [] [] (gAd K Ah.p_Directory_limit) fd := T.pr 3 (d := Ah.p_Directory_limit) rfl
theorem Tx.pr_Space_applied (T : Tx w K mg) : PropOf K (ga K "Space") "applied" (pAd K Ah.p_Space_applied) (gAd K Ah.p_Space_applied) ∧ ∃ fd, FunD K "applied" "Space.applied" (defArgs s_Space_applied) (defBody s_Space_applied) (defScope s_Space_applied) [] [] (gAd K Ah.p_Space_applied) fd := T.pr 4 (d := Ah.p_Space_applied) rfl
theorem Tx.ty_File (T : Tx w K mg) {H : Hp} {a dx : Addr} {fs : List (Str × V)} (e : H a = some (.ins (ga K "File") dx fs)) : TyX K H (.ref a) (.ref (ga K "File")) := by
  have c := T.ex 0 (b := insB K "File") rfl
  unfold insB at c
  obtain ⟨c1, c⟩ := ba c
  obtain ⟨c2, c⟩ := ba c
  obtain ⟨c3, c4⟩ := ba c
  exact .base (.ins e T.c_File (eqO_ok c1) (eqO_ok c2) (of_decide_eq_true c3) (of_decide_eq_true c4))
theorem Tx.ty_Directory (T : Tx w K mg) {H : Hp} {a dx : Addr} {fs : List (Str × V)} (e : H a = some (.ins (ga K "Directory") dx fs)) : TyX K H (.ref a) (.ref (ga K "Directory")) := by
  have c := T.ex 1 (b := insB K "Directory") rfl
  unfold insB at c
  obtain ⟨c1, c⟩ := ba c
  obtain ⟨c2, c⟩ := ba c
  obtain ⟨c3, c4⟩ := ba c
  exact .base (.ins e T.c_Directory (eqO_ok c1) (eqO_ok c2) (of_decide_eq_true c3) (of_decide_eq_true c4))
theorem Tx.kit_File_File (T : Tx w K mg) : PySem.W.kitOne K (.ref (ga K "File")) (.ref (ga K "File")) = some true := of_decide_eq_true (T.ex 2 (b := kitB K "File" "File" true) rfl)
theorem Tx.kit_Directory_File (T : Tx w K mg) : PySem.W.kitOne K (.ref (ga K "Directory")) (.ref (ga K "File")) = some false := of_decide_eq_true (T.ex 3 (b := kitB K "Directory" "File" false) rfl)
theorem Tx.kit_File_Directory (T : Tx w K mg) : PySem.W.kitOne K (.ref (ga K "File")) (.ref (ga K "Directory")) = some false := of_decide_eq_true (T.ex 4 (b := kitB K "File" "Directory" false) rfl)
theorem Tx.kit_Directory_Directory (T : Tx w K mg) : PySem.W.kitOne K (.ref (ga K "Directory")) (.ref (ga K "Directory")) = some true := of_decide_eq_true (T.ex 5 (b := kitB K "Directory" "Directory" true) rfl)
theorem Tx.ne_File_Directory (T : Tx w K mg) : ga K "File" ≠ ga K "Directory" := by simpa [neB] using T.ex 6 (b := neB K "File" "Directory") rfl
theorem Tx.ne_File_Tree (T : Tx w K mg) : ga K "File" ≠ ga K "Tree" := by simpa [neB] using T.ex 7 (b := neB K "File" "Tree") rfl
theorem Tx.ne_File_Space (T : Tx w K mg) : ga K "File" ≠ ga K "Space" := by simpa [neB] using T.ex 8 (b := neB K "File" "Space") rfl
theorem Tx.ne_Directory_Tree (T : Tx w K mg) : ga K "Directory" ≠ ga K "Tree" := by simpa [neB] using T.ex 9 (b := neB K "Directory" "Tree") rfl
theorem Tx.ne_Directory_Space (T : Tx w K mg) : ga K "Directory" ≠ ga K "Space" := by simpa [neB] using T.ex 10 (b := neB K "Directory" "Space") rfl
theorem Tx.ne_Tree_Space (T : Tx w K mg) : ga K "Tree" ≠ ga K "Space" := by simpa [neB] using T.ex 11 (b := neB K "Tree" "Space") rfl
theorem Tx.fm_mkdir (T : Tx w K mg) : fmB K "mkdir" [.str "path"] = true := T.ex 12 (b := fmB K "mkdir" [.str "path"]) rfl
theorem Tx.fm_create (T : Tx w K mg) : fmB K "create" [.str "path"] = true := T.ex 13 (b := fmB K "create" [.str "path"]) rfl
theorem Tx.fm_append (T : Tx w K mg) : fmB K "append" [.str "path", .str "text"] = true := T.ex 14 (b := fmB K "append" [.str "path", .str "text"]) rfl
theorem Tx.fm_seal (T : Tx w K mg) : fmB K "seal" [.str "path"] = true := T.ex 15 (b := fmB K "seal" [.str "path"]) rfl
theorem Tx.fm_move (T : Tx w K mg) : fmB K "move" [.str "path", .str "path"] = true := T.ex 16 (b := fmB K "move" [.str "path", .str "path"]) rfl
theorem Tx.fm_snapshot (T : Tx w K mg) : fmB K "snapshot" [.str "path", .str "path"] = true := T.ex 17 (b := fmB K "snapshot" [.str "path", .str "path"]) rfl
theorem Tx.fm_limit (T : Tx w K mg) : fmB K "limit" [.str "path", .str "most"] = true := T.ex 18 (b := fmB K "limit" [.str "path", .str "most"]) rfl
theorem Tx.ac_mkdir (T : Tx w K mg) : PySem.W.nsIn K (ga K "ACTIONS") "mkdir" = some (some (.ref (ga K "make_directory"))) := eqO_ok (T.ex 19 (b := acB K "mkdir" "make_directory") rfl)
theorem Tx.ac_create (T : Tx w K mg) : PySem.W.nsIn K (ga K "ACTIONS") "create" = some (some (.ref (ga K "create_file"))) := eqO_ok (T.ex 20 (b := acB K "create" "create_file") rfl)
theorem Tx.ac_append (T : Tx w K mg) : PySem.W.nsIn K (ga K "ACTIONS") "append" = some (some (.ref (ga K "append_text"))) := eqO_ok (T.ex 21 (b := acB K "append" "append_text") rfl)
theorem Tx.ac_seal (T : Tx w K mg) : PySem.W.nsIn K (ga K "ACTIONS") "seal" = some (some (.ref (ga K "seal_file"))) := eqO_ok (T.ex 22 (b := acB K "seal" "seal_file") rfl)
theorem Tx.ac_move (T : Tx w K mg) : PySem.W.nsIn K (ga K "ACTIONS") "move" = some (some (.ref (ga K "move_entry"))) := eqO_ok (T.ex 23 (b := acB K "move" "move_entry") rfl)
theorem Tx.ac_snapshot (T : Tx w K mg) : PySem.W.nsIn K (ga K "ACTIONS") "snapshot" = some (some (.ref (ga K "snapshot_file"))) := eqO_ok (T.ex 24 (b := acB K "snapshot" "snapshot_file") rfl)
theorem Tx.ac_limit (T : Tx w K mg) : PySem.W.nsIn K (ga K "ACTIONS") "limit" = some (some (.ref (ga K "limit_directory"))) := eqO_ok (T.ex 25 (b := acB K "limit" "limit_directory") rfl)
theorem Tx.mi_remove (T : Tx w K mg) : PySem.W.nsIn K (ga K "FORMS") "remove" = some none := eqO_ok (T.ex 26 (b := miB K "remove") rfl)
theorem Tx.mi_Mkdir (T : Tx w K mg) : PySem.W.nsIn K (ga K "FORMS") "Mkdir" = some none := eqO_ok (T.ex 27 (b := miB K "Mkdir") rfl)
theorem Tx.mi_x (T : Tx w K mg) : PySem.W.nsIn K (ga K "FORMS") "x" = some none := eqO_ok (T.ex 28 (b := miB K "x") rfl)
theorem Tx.mi_content (T : Tx w K mg) : PySem.W.nsIn K (ga K "FORMS") "content" = some none := eqO_ok (T.ex 29 (b := miB K "content") rfl)
end
end Ah
/-! Calls by promises, in short; three rules that the layer lacks. -/
namespace Ah
open PySem PySem.Spec PyProof.Rows L2 He
/-- a def that raises nothing, by its address -/
structure Cal (P : Program) (w : World) (K : PySem.W.Frag) (mg : Str → Option Value) (base : Heap) (k : Nat) (f : Addr) (sp : Sp) : Prop where
  ex : ∃ (fd : FuncData) (ps : List Str), FnOk P w K mg base CX0 k f fd ps sp ∧ PySem.W.keepIn K (.ref f) = true ∧ Binds K fd ps []
theorem Cal.mono {P : Program} {w : World} {K : PySem.W.Frag} {mg : Str → Option Value} {base : Heap} {j k : Nat} {f : Addr} {sp : Sp} (c : Cal P w K mg base j f sp) (h : j ≤ k) : Cal P w K mg base k f sp := by
  obtain ⟨fd, ps, F, a, b⟩ := c.ex
  exact ⟨fd, ps, F.mono h, a, b⟩
theorem Cal.imp {P : Program} {w : World} {K : PySem.W.Frag} {mg : Str → Option Value} {base : Heap} {k : Nat} {f : Addr} {sp sp' : Sp} (c : Cal P w K mg base k f sp) (h : ∀ vs H Q E, sp' vs H Q E → sp vs H Q E) : Cal P w K mg base k f sp' := by
  obtain ⟨fd, ps, F, a, b⟩ := c.ex
  exact ⟨fd, ps, F.imp h, a, b⟩
/-! ### promises by the number of arguments -/
def Sp1 (S : V → Hp → VK → Prop) : Sp := fun vs H Q _ => match vs with | [a] => S a H Q | _ => False
def Sp2 (S : V → V → Hp → VK → Prop) : Sp := fun vs H Q _ => match vs with | [a, b] => S a b H Q | _ => False
def Sp3 (S : V → V → V → Hp → VK → Prop) : Sp := fun vs H Q _ => match vs with | [a, b, c] => S a b c H Q | _ => False
def Sp4 (S : V → V → V → V → Hp → VK → Prop) : Sp := fun vs H Q _ => match vs with | [a, b, c, d] => S a b c d H Q | _ => False
def Sp5 (S : V → V → V → V → V → Hp → VK → Prop) : Sp := fun vs H Q _ => match vs with | [a, b, c, d, e] => S a b c d e H Q | _ => False
section
variable {P : Program} {w : World} {K : PySem.W.Frag} {mg : Str → Option Value} {base : Heap} {x qual : Str} {st : Stmt} {f : Addr} {N ps : List Str} {k : Nat}
theorem mk {sp : Sp} (F : ∃ fd, FunD K x qual (defArgs st) (defBody st) (defScope st) [] [] f fd) (S : FnScope N ps (defScope st))
    (hb : ∀ (kV doc pm : Value) (an : Option Addr) (cdv ct : Value) (us : List Value), us.length = ps.length → bindArgs (PySem.W.fnOf x qual (defArgs st) (defBody st) (defScope st) .none kV doc pm an cdv ct) ⟨us, []⟩ = pure (ps.zip us))
    (len : ∀ vs H Q E, sp vs H Q E → vs.length = ps.length)
    (hbody : ∀ (cdv : Value) (A : Around) (outer : List Env) (s : Shared) (H : Hp) (vs : List V) (Q : VK) (E : XK), Room k (A.deeper (envOfC qual (defScope st) s.heap.objs.size f cdv)) → sp vs H Q E →
      ∃ t, PSs (cxOf CX0 P w K mg base N qual (defScope st) f cdv A outer s H E).nox (defBody st) t ∧ t { nx := fun _ H' => Q .non H', rt := Q } (start N vs) H) : Cal P w K mg base (k + 1) f sp := by
  obtain ⟨fd, F⟩ := F
  refine ⟨fd, ps, F.ok S len fun cdv A outer s H vs Q E hr h => ?_, F.kp, F.bindsN hb⟩
  obtain ⟨t, h1, h2⟩ := hbody cdv A outer s H vs Q E hr h
  exact ⟨t, h1.nox, h2⟩
theorem mk1 {S1 : V → Hp → VK → Prop} {a : Str} (F : ∃ fd, FunD K x qual (defArgs st) (defBody st) (defScope st) [] [] f fd) (S : FnScope N [a] (defScope st))
    (hb : ∀ (kV doc pm : Value) (an : Option Addr) (cdv ct u : Value), bindArgs (PySem.W.fnOf x qual (defArgs st) (defBody st) (defScope st) .none kV doc pm an cdv ct) ⟨[u], []⟩ = pure [(a, u)])
    (hbody : ∀ (cdv : Value) (A : Around) (outer : List Env) (s : Shared) (H : Hp) (E : XK) (va : V) (Q : VK), Room k (A.deeper (envOfC qual (defScope st) s.heap.objs.size f cdv)) → S1 va H Q →
      ∃ t, PSs (cxOf CX0 P w K mg base N qual (defScope st) f cdv A outer s H E).nox (defBody st) t ∧ t { nx := fun _ H' => Q .non H', rt := Q } (start N [va]) H) : Cal P w K mg base (k + 1) f (Sp1 S1) := by
  refine mk F S (fun kV doc pm an cdv ct us hl => match us, hl with | [u], _ => hb kV doc pm an cdv ct u) (fun vs H Q E h => ?_) fun cdv A outer s H vs Q E hr h => ?_
  · match vs, h with | [_], _ => rfl
  · match vs, h with | [va], h => exact hbody cdv A outer s H E va Q hr h
theorem mk2 {S2 : V → V → Hp → VK → Prop} {a b : Str} (F : ∃ fd, FunD K x qual (defArgs st) (defBody st) (defScope st) [] [] f fd) (S : FnScope N [a, b] (defScope st))
    (hb : ∀ (kV doc pm : Value) (an : Option Addr) (cdv ct u v : Value), bindArgs (PySem.W.fnOf x qual (defArgs st) (defBody st) (defScope st) .none kV doc pm an cdv ct) ⟨[u, v], []⟩ = pure [(a, u), (b, v)])
    (hbody : ∀ (cdv : Value) (A : Around) (outer : List Env) (s : Shared) (H : Hp) (E : XK) (va vb : V) (Q : VK), Room k (A.deeper (envOfC qual (defScope st) s.heap.objs.size f cdv)) → S2 va vb H Q →
      ∃ t, PSs (cxOf CX0 P w K mg base N qual (defScope st) f cdv A outer s H E).nox (defBody st) t ∧ t { nx := fun _ H' => Q .non H', rt := Q } (start N [va, vb]) H) : Cal P w K mg base (k + 1) f (Sp2 S2) := by
  refine mk F S (fun kV doc pm an cdv ct us hl => match us, hl with | [u, v], _ => hb kV doc pm an cdv ct u v) (fun vs H Q E h => ?_) fun cdv A outer s H vs Q E hr h => ?_
  · match vs, h with | [_, _], _ => rfl
  · match vs, h with | [va, vb], h => exact hbody cdv A outer s H E va vb Q hr h
theorem mk3 {S3 : V → V → V → Hp → VK → Prop} {a b c : Str} (F : ∃ fd, FunD K x qual (defArgs st) (defBody st) (defScope st) [] [] f fd) (S : FnScope N [a, b, c] (defScope st))
    (hb : ∀ (kV doc pm : Value) (an : Option Addr) (cdv ct u v y : Value), bindArgs (PySem.W.fnOf x qual (defArgs st) (defBody st) (defScope st) .none kV doc pm an cdv ct) ⟨[u, v, y], []⟩ = pure [(a, u), (b, v), (c, y)])
    (hbody : ∀ (cdv : Value) (A : Around) (outer : List Env) (s : Shared) (H : Hp) (E : XK) (va vb vc : V) (Q : VK), Room k (A.deeper (envOfC qual (defScope st) s.heap.objs.size f cdv)) → S3 va vb vc H Q →
      ∃ t, PSs (cxOf CX0 P w K mg base N qual (defScope st) f cdv A outer s H E).nox (defBody st) t ∧ t { nx := fun _ H' => Q .non H', rt := Q } (start N [va, vb, vc]) H) : Cal P w K mg base (k + 1) f (Sp3 S3) := by
  refine mk F S (fun kV doc pm an cdv ct us hl => match us, hl with | [u, v, y], _ => hb kV doc pm an cdv ct u v y) (fun vs H Q E h => ?_) fun cdv A outer s H vs Q E hr h => ?_
  · match vs, h with | [_, _, _], _ => rfl
  · match vs, h with | [va, vb, vc], h => exact hbody cdv A outer s H E va vb vc Q hr h
theorem mk4 {S4 : V → V → V → V → Hp → VK → Prop} {a b c d : Str} (F : ∃ fd, FunD K x qual (defArgs st) (defBody st) (defScope st) [] [] f fd) (S : FnScope N [a, b, c, d] (defScope st))
    (hb : ∀ (kV doc pm : Value) (an : Option Addr) (cdv ct u v y z : Value), bindArgs (PySem.W.fnOf x qual (defArgs st) (defBody st) (defScope st) .none kV doc pm an cdv ct) ⟨[u, v, y, z], []⟩ = pure [(a, u), (b, v), (c, y), (d, z)])
    (hbody : ∀ (cdv : Value) (A : Around) (outer : List Env) (s : Shared) (H : Hp) (E : XK) (va vb vc vd : V) (Q : VK), Room k (A.deeper (envOfC qual (defScope st) s.heap.objs.size f cdv)) → S4 va vb vc vd H Q →
      ∃ t, PSs (cxOf CX0 P w K mg base N qual (defScope st) f cdv A outer s H E).nox (defBody st) t ∧ t { nx := fun _ H' => Q .non H', rt := Q } (start N [va, vb, vc, vd]) H) : Cal P w K mg base (k + 1) f (Sp4 S4) := by
  refine mk F S (fun kV doc pm an cdv ct us hl => match us, hl with | [u, v, y, z], _ => hb kV doc pm an cdv ct u v y z) (fun vs H Q E h => ?_) fun cdv A outer s H vs Q E hr h => ?_
  · match vs, h with | [_, _, _, _], _ => rfl
  · match vs, h with | [va, vb, vc, vd], h => exact hbody cdv A outer s H E va vb vc vd Q hr h
theorem mk5 {S5 : V → V → V → V → V → Hp → VK → Prop} {a b c d e : Str} (F : ∃ fd, FunD K x qual (defArgs st) (defBody st) (defScope st) [] [] f fd) (S : FnScope N [a, b, c, d, e] (defScope st))
    (hb : ∀ (kV doc pm : Value) (an : Option Addr) (cdv ct u v y z t : Value), bindArgs (PySem.W.fnOf x qual (defArgs st) (defBody st) (defScope st) .none kV doc pm an cdv ct) ⟨[u, v, y, z, t], []⟩ = pure [(a, u), (b, v), (c, y), (d, z), (e, t)])
    (hbody : ∀ (cdv : Value) (A : Around) (outer : List Env) (s : Shared) (H : Hp) (E : XK) (va vb vc vd ve : V) (Q : VK), Room k (A.deeper (envOfC qual (defScope st) s.heap.objs.size f cdv)) → S5 va vb vc vd ve H Q →
      ∃ t, PSs (cxOf CX0 P w K mg base N qual (defScope st) f cdv A outer s H E).nox (defBody st) t ∧ t { nx := fun _ H' => Q .non H', rt := Q } (start N [va, vb, vc, vd, ve]) H) : Cal P w K mg base (k + 1) f (Sp5 S5) := by
  refine mk F S (fun kV doc pm an cdv ct us hl => match us, hl with | [u, v, y, z, t], _ => hb kV doc pm an cdv ct u v y z t) (fun vs H Q E h => ?_) fun cdv A outer s H vs Q E hr h => ?_
  · match vs, h with | [_, _, _, _, _], _ => rfl
  · match vs, h with | [va, vb, vc, vd, ve], h => exact hbody cdv A outer s H E va vb vc vd ve Q hr h
end
/-! ### calls -/
def tCl (sp : Sp) (t : TA) : TE := fun σ H Q => t σ H fun vs H1 => sp vs H1 Q E0
def tMt (C : Addr) (m : Str) (sp : Sp) (ta : TE) (t : TA) : TE := fun σ H Q => ta σ H fun x H1 => ∃ a dx fs, x = .ref a ∧ H1 a = some (.ins C dx fs) ∧ fs.lookup m = none ∧ t σ H1 fun vs H2 => sp (x :: vs) H2 Q E0
def tMk0 (C : Addr) (sp : Sp) : TE := fun _ H Q => ∀ x dx, H x = none → H dx = none → dx ≠ x → sp [.ref x] (upd (upd H dx (.own x)) x (.ins C dx [])) (fun v H2 => v = .non ∧ Q (.ref x) H2) E0
def tPr (C : Addr) (sp : Sp) (ta : TE) : TE := fun σ H Q => ta σ H fun x H1 => ∃ a dx fs, x = .ref a ∧ H1 a = some (.ins C dx fs) ∧ sp [.ref a] H1 Q E0
section
variable {X : Cx} {k j : Nat} {C f : Addr} {x m : Str} {sp : Sp} {p pos apos : Pos} {e o : Expr} {es : List Expr} {ta : TE} {t : TA}
theorem pcall (c : Cal X.prog X.w X.K X.mg X.base k f sp) (hr : Room j X.A) (hk : k ≤ j) (hg : Gl X x) (hm : X.mg x = some (.ref f)) (ha : PA X (e :: es) t)
    (hdb : (x == ("__debug__" : Str)) = false := by decide) (he : starEach (e :: es) X.env = (false, eval e X.env) :: starEach es X.env := by rfl) (hpl : (backTo pos (starEach es X.env)).any (·.1) = false := by rfl) :
    PE X (.Call (.Name x p) (e :: es) [] pos) (tCl sp t) := by
  obtain ⟨fd, ps, F, kp, b⟩ := c.ex
  have h := pe_call (pos := pos) (p := p) F (hr.mono hk) hg hm kp b .nil pass0 ha hdb he hpl
  have e0 : tCall sp [] E0 t = tCl sp t := by
    funext σ H Q
    show (t σ H fun vs H1 => sp (vs ++ []) H1 Q E0) = t σ H fun vs H1 => sp vs H1 Q E0
    simp only [List.append_nil]
  rw [e0] at h
  exact h
theorem pmeth {pl : Sem Bool} (c : Cls X.K C) (hm : Meth X.K C m f) (cl : Cal X.prog X.w X.K X.mg X.base k f sp) (hr : Room j X.A) (hk : k ≤ j) (he : PE X o ta) (ha : PA X (e :: es) t)
    (hst : starEach (e :: es) X.env = (false, eval e X.env) :: starEach es X.env := by rfl) (hpl : (backTo pos (starEach es X.env)).any (·.1) = false := by rfl)
    (ht : eval (.Call (.Attribute o m apos) (e :: es) [] pos) X.env = (do
      let ov ← eval o X.env
      standAt apos.atName
      let (f, first) ← holding [ov] (getMethod ov m pl)
      callWith pos f first (backTo pos (starEach (e :: es) X.env)) (backToKw pos (keywordEach [] X.env))) := by rfl) :
    PE X (.Call (.Attribute o m apos) (e :: es) [] pos) (tMt C m sp ta t) := by
  obtain ⟨fd, ps, F, kp, b⟩ := cl.ex
  have h := pe_meth (pl := pl) he c hm F (hr.mono hk) b .nil pass0 ha hst hpl ht
  have e0 : tMeth C m sp [] E0 ta t = tMt C m sp ta t := by
    funext σ H Q
    simp only [tMeth, tMt, List.append_nil]
  rw [e0] at h
  exact h
theorem pmeth0 {pl : Sem Bool} (c : Cls X.K C) (hm : Meth X.K C m f) (cl : Cal X.prog X.w X.K X.mg X.base k f sp) (hr : Room j X.A) (hk : k ≤ j) (he : PE X o ta)
    (ht : eval (.Call (.Attribute o m apos) [] [] pos) X.env = (do
      let ov ← eval o X.env
      standAt apos.atName
      let (f, first) ← holding [ov] (getMethod ov m pl)
      callWith pos f first (backTo pos (starEach [] X.env)) (backToKw pos (keywordEach [] X.env))) := by rfl) :
    PE X (.Call (.Attribute o m apos) [] [] pos) (tMt C m sp ta tNil) := by
  obtain ⟨fd, ps, F, kp, b⟩ := cl.ex
  have h := pe_meth0 (pl := pl) he c hm F (hr.mono hk) b .nil pass0 ht
  have e0 : tMeth C m sp [] E0 ta tNil = tMt C m sp ta tNil := by
    funext σ H Q
    simp only [tMeth, tMt, List.append_nil]
  rw [e0] at h
  exact h
theorem pmake0 (M : Mk X.K C f) (cl : Cal X.prog X.w X.K X.mg X.base k f sp) (hr : Room j X.A) (hk : k + 1 ≤ j) (hg : Gl X x) (hm : X.mg x = some (.ref C)) (hdb : (x == ("__debug__" : Str)) = false := by decide) :
    PE X (.Call (.Name x p) [] [] pos) (tMk0 C sp) := by
  obtain ⟨fd, ps, F, kp, b⟩ := cl.ex
  exact pe_make0 (E := E0) M F (hr.mono hk) hg hm b .nil pass0 hdb
theorem pprop {pa : Addr} (c : Cls X.K C) (hp : PropOf X.K C m pa f) (cl : Cal X.prog X.w X.K X.mg X.base k f sp) (hr : Room j X.A) (hk : k + 1 ≤ j) (he : PE X e ta)
    (hab : attributeBase e m X.env (eval e X.env) = eval e X.env := by rfl) : PE X (.Attribute e m pos) (tPr C sp ta) := by
  obtain ⟨fd, ps, F, kp, b⟩ := cl.ex
  exact pe_prop (E := E0) he c hp F (hr.mono hk) b .nil pass0 hab
end
/-! ### len of an instance whose class has __len__ -/
section
variable {X : Cx} {k j : Nat} {C f : Addr} {sp : Sp}
theorem len_ok {pins : List (Addr × Obj)} {σ : L2.St} {H : Hp} {s : Shared} {Q : VK} {a dx : Addr} {fs : List (Str × V)} (I : Inv X pins σ H s) (ea : H a = some (.ins C dx fs)) (hm : Meth X.K C "__len__" f)
    (cl : Cal X.prog X.w X.K X.mg X.base k f sp) (hr : Room (k + 1) X.A) (h : sp [.ref a] H (fun v H' => ∃ n : Nat, v = .int n ∧ n ≤ sizeLine ∧ Q (.int n) H') E0) :
    wpAny (model X.prog X.w) X.A (call (.builtin "len") [.ref a]) (EP X pins σ Q) X.xe s := by
  obtain ⟨fd, ps, F, kp, b⟩ := cl.ex
  obtain ⟨mA, O, _, _, _, _⟩ := ins_get I.hok ea
  obtain ⟨od, J, _⟩ := O.look
  obtain ⟨m, Fm⟩ := I.fr
  have hl : ([Value.ref a] ++ ([] : List Value)).length = ps.length := by
    rw [← F.len _ _ _ _ h]
    rfl
  refine PySem.W.len_K (h₀ := X.base) (L := X.env.locals) (m := m) Fm I.ok.mod.kin J hm.at_ hm.fn (wpAny_call ?_)
  refine codeAny_mono (F.run X.A.in1 X.stack s H ⟨[.ref a], []⟩ [.ref a] [.ref a] _ E0 hr.in1 I.env0.in1 (b _ [.ref a] I.kIn hl) (.cons rfl .nil) h) fun r s' hq => ?_
  cases r with
  | error er => exact False.elim hq
  | ok fl =>
    cases fl with
    | ret u =>
      obtain ⟨v, H', I3, rv, n, rfl, hn, q3⟩ := I.after hq
      obtain ⟨t, rfl⟩ := rv
      have hz : n ≤ 16777216 := by rw [← sizeLine_eq]; exact hn
      exact ⟨⟨by omega, by omega⟩, ⟨.int n, H', I3.tok _, ⟨_, rfl⟩, q3⟩⟩
    | next => exact False.elim hq
    | brk => exact False.elim hq
    | cont => exact False.elim hq
end
end Ah
/-! The plain part: paths, the list of nodes, what a deed and a query do to it. -/
namespace Ah
open PySem L2 SX
/-! ### texts -/
abbrev Nm := List Nat
theorem starts_S (a b : List Nat) : Txt.startswith (S a) (S b) = decide (b <+: a) := by
  unfold Txt.startswith
  rw [PySem.StrLaws.subAt_eq, List.drop_zero]
  show (decide (0 + (S b).length ≤ (S a).length) && (a.take (S b).length == b)) = _
  rw [S_len, S_len, Bool.eq_iff_iff]
  simp only [Bool.and_eq_true, decide_eq_true_eq, beq_iff_eq, Nat.zero_add]
  constructor
  · rintro ⟨_, h⟩
    exact h ▸ List.take_prefix _ _
  · intro h
    exact ⟨h.length_le, (List.prefix_iff_eq_take.mp h).symm⟩
theorem S_eq_iff {a b : List Nat} : S a = S b ↔ a = b := ⟨S_inj, fun h => by rw [h]⟩
/-! ### paths -/
/-- the text of a path: a slash ahead of each name -/
def pcat (p : List Nm) : Nm := p.flatMap fun n => 47 :: n
theorem pcat_nil : pcat [] = [] := rfl
theorem pcat_cons (n : Nm) (p : List Nm) : pcat (n :: p) = 47 :: (n ++ pcat p) := rfl
theorem pcat_app (p q : List Nm) : pcat (p ++ q) = pcat p ++ pcat q := List.flatMap_append
theorem pcat_one (n : Nm) : pcat [n] = 47 :: n := by simp [pcat]
/-- no slash in any of its names -/
def Fr (p : List Nm) : Prop := ∀ n ∈ p, 47 ∉ n
theorem Fr.cons {n : Nm} {p : List Nm} (h : Fr (n :: p)) : 47 ∉ n ∧ Fr p := ⟨h n List.mem_cons_self, fun m hm => h m (List.mem_cons_of_mem _ hm)⟩
theorem Fr.app {p q : List Nm} (h : Fr (p ++ q)) : Fr p ∧ Fr q := ⟨fun m hm => h m (List.mem_append_left _ hm), fun m hm => h m (List.mem_append_right _ hm)⟩
theorem Fr.mk_app {p q : List Nm} (h : Fr p) (h' : Fr q) : Fr (p ++ q) := fun m hm => (List.mem_append.mp hm).elim (h m) (h' m)
theorem Fr.one {n : Nm} (h : 47 ∉ n) : Fr [n] := fun m hm => by rw [List.mem_singleton.mp hm]; exact h
/-- what stands behind a name begins with a slash, or is nothing -/
theorem cut_eq {n m a b : Nm} (hn : 47 ∉ n) (hm : 47 ∉ m) (ha : a = [] ∨ ∃ r, a = 47 :: r) (hb : b = [] ∨ ∃ r, b = 47 :: r) (h : n ++ a = m ++ b) : n = m ∧ a = b := by
  induction n generalizing m with
  | nil =>
    cases m with
    | nil => exact ⟨rfl, h⟩
    | cons y m =>
      rcases ha with rfl | ⟨r, rfl⟩
      · simp at h
      · rw [List.nil_append, List.cons_append] at h
        injection h with h1 _
        exact absurd (by rw [h1]; exact List.mem_cons_self) hm
  | cons x n ih =>
    cases m with
    | nil =>
      rcases hb with rfl | ⟨r, rfl⟩
      · simp at h
      · rw [List.nil_append, List.cons_append] at h
        injection h with h1 _
        exact absurd (by rw [h1]; exact List.mem_cons_self) hn
    | cons y m =>
      rw [List.cons_append, List.cons_append] at h
      injection h with h1 h2
      obtain ⟨e1, e2⟩ := ih (fun z => hn (List.mem_cons_of_mem _ z)) (fun z => hm (List.mem_cons_of_mem _ z)) h2
      exact ⟨by rw [h1, e1], e2⟩
theorem pcat_begins (p : List Nm) : pcat p = [] ∨ ∃ r, pcat p = 47 :: r := by
  cases p with
  | nil => exact .inl rfl
  | cons n p => exact .inr ⟨_, rfl⟩
theorem pcat_inj : ∀ {p q : List Nm}, Fr p → Fr q → pcat p = pcat q → p = q
  | [], [], _, _, _ => rfl
  | [], _ :: _, _, _, h => by rw [pcat_nil, pcat_cons] at h; cases h
  | _ :: _, [], _, _, h => by rw [pcat_nil, pcat_cons] at h; cases h
  | n :: p, m :: q, hp, hq, h => by
    rw [pcat_cons, pcat_cons] at h
    injection h with _ h
    obtain ⟨e1, e2⟩ := cut_eq hp.cons.1 hq.cons.1 (pcat_begins p) (pcat_begins q) h
    rw [e1, pcat_inj hp.cons.2 hq.cons.2 e2]
/-- a text of a path and a slash is a prefix: the path is a proper prefix -/
theorem pcat_pre : ∀ {p q : List Nm}, Fr p → Fr q → ((pcat p ++ [47]) <+: pcat q ↔ p <+: q ∧ p ≠ q)
  | [], [], _, _ => by simp [pcat_nil]
  | [], m :: q, _, _ => by simp [pcat_nil, pcat_cons]
  | n :: p, [], _, _ => by simp [pcat_nil, pcat_cons]
  | n :: p, m :: q, hp, hq => by
    have ih := pcat_pre hp.cons.2 hq.cons.2
    constructor
    · rintro ⟨r, h⟩
      rw [pcat_cons, pcat_cons, List.cons_append, List.cons_append, List.append_assoc, List.append_assoc] at h
      injection h with _ h
      have hb : (pcat p ++ ([47] ++ r)) = [] ∨ ∃ r', (pcat p ++ ([47] ++ r)) = 47 :: r' := by
        rcases pcat_begins p with e | ⟨z, e⟩
        · exact .inr ⟨r, by rw [e]; rfl⟩
        · exact .inr ⟨_, by rw [e]; rfl⟩
      obtain ⟨e1, e2⟩ := cut_eq hp.cons.1 hq.cons.1 hb (pcat_begins q) h
      subst e1
      obtain ⟨h1, h2⟩ := ih.mp ⟨r, by rw [List.append_assoc]; exact e2⟩
      exact ⟨(List.cons_prefix_cons).mpr ⟨rfl, h1⟩, fun z => h2 (List.cons.inj z).2⟩
    · rintro ⟨h, ne⟩
      obtain ⟨e, h1⟩ := List.cons_prefix_cons.mp h
      subst e
      obtain ⟨r, e2⟩ := ih.mpr ⟨h1, fun z => ne (by rw [z])⟩
      refine ⟨r, ?_⟩
      rw [pcat_cons, pcat_cons, ← e2]
      simp
theorem pcat_in {p q : List Nm} (hp : Fr p) (hq : Fr q) : (pcat q = pcat p ∨ (pcat p ++ [47]) <+: pcat q) ↔ p <+: q := by
  rw [pcat_pre hp hq]
  constructor
  · rintro (h | h)
    · rw [pcat_inj hq hp h]
      exact List.prefix_refl _
    · exact h.1
  · intro h
    by_cases e : p = q
    · exact .inl (by rw [e])
    · exact .inr ⟨h, e⟩
theorem pcat_count : ∀ {p : List Nm}, Fr p → (pcat p).count 47 = p.length
  | [], _ => rfl
  | n :: p, h => by
    rw [pcat_cons, List.count_cons_self, List.count_append, pcat_count h.cons.2, List.count_eq_zero.mpr h.cons.1, List.length_cons]
    omega
/-- one name behind: no slash in the rest -/
theorem pcat_kid {p q : List Nm} (hq : Fr q) (h : p <+: q) (ne : p ≠ q) : (47 ∉ (pcat q).drop ((pcat p).length + 1)) ↔ ∃ n, q = p ++ [n] := by
  obtain ⟨r, rfl⟩ := h
  cases r with
  | nil => simp at ne
  | cons n r =>
    have e : (pcat (p ++ n :: r)).drop ((pcat p).length + 1) = n ++ pcat r := by
      rw [pcat_app, pcat_cons, ← List.drop_drop, List.drop_left]
      rfl
    rw [e]
    have hn : 47 ∉ n := hq n (by simp)
    constructor
    · intro h
      cases r with
      | nil => exact ⟨n, rfl⟩
      | cons m r => exact absurd (by rw [pcat_cons]; simp) h
    · rintro ⟨m, hm⟩
      have := List.append_cancel_left hm
      injection this with h1 h2
      rw [h2, pcat_nil, List.append_nil]
      exact hn
theorem pcat_drop1 (p : List Nm) (n : Nm) : (pcat (p ++ [n])).drop ((pcat p).length + 1) = n := by
  rw [pcat_app, pcat_one, ← List.drop_drop, List.drop_left]
  rfl
theorem pcat_len {p : List Nm} {b : Nat} (h : ∀ n ∈ p, n.length ≤ b) : (pcat p).length ≤ p.length * (b + 1) := by
  induction p with
  | nil => simp [pcat_nil]
  | cons n p ih =>
    have h1 := h n List.mem_cons_self
    have h2 := ih fun m hm => h m (List.mem_cons_of_mem _ hm)
    rw [pcat_cons, List.length_cons, List.length_append, List.length_cons, Nat.add_mul]
    omega
/-! ### names, the text of a path taken apart -/
def chars : List Nat := [97, 98, 99, 100, 101, 102, 103, 104, 105, 106, 107, 108, 109, 110, 111, 112, 113, 114, 115, 116, 117, 118, 119, 120, 121, 122, 48, 49, 50, 51, 52, 53, 54, 55, 56, 57, 45, 46]
theorem chars_S : ("abcdefghijklmnopqrstuvwxyz0123456789-." : Str) = S chars := by decide +kernel
def isNm (n : Nm) : Bool := decide (1 ≤ n.length) && decide (n.length ≤ 12) && n.all (fun c => decide (c ∈ chars)) && decide (n ≠ [46]) && decide (n ≠ [46, 46])
theorem isNm_iff {n : Nm} : isNm n = true ↔ (1 ≤ n.length ∧ n.length ≤ 12) ∧ (∀ c ∈ n, c ∈ chars) ∧ n ≠ [46] ∧ n ≠ [46, 46] := by
  unfold isNm
  simp only [Bool.and_eq_true, decide_eq_true_eq, List.all_eq_true]
  constructor
  · rintro ⟨⟨⟨⟨a, b⟩, c⟩, d⟩, e⟩
    exact ⟨⟨a, b⟩, c, d, e⟩
  · rintro ⟨⟨a, b⟩, c, d, e⟩
    exact ⟨⟨⟨⟨a, b⟩, c⟩, d⟩, e⟩
theorem isNm_free {n : Nm} (h : isNm n = true) : 47 ∉ n := fun z => absurd ((isNm_iff.mp h).2.1 47 z) (by decide)
def Good (p : List Nm) : Prop := ∀ n ∈ p, isNm n = true
theorem Good.fr {p : List Nm} (h : Good p) : Fr p := fun n hn => isNm_free (h n hn)
/-- the names of the path that the text writes, if it writes one -/
def split (x : Nm) : Option (List Nm) := match x with
  | 47 :: r => if r = [] then some [] else if (TL.spl [47] 0 [] r).length ≤ 6 ∧ (TL.spl [47] 0 [] r).all isNm = true then some (TL.spl [47] 0 [] r) else none
  | _ => none
theorem split_good {x : Nm} {p : List Nm} (h : split x = some p) : Good p ∧ p.length ≤ 6 := by
  unfold split at h
  split at h
  · split at h
    · cases h
      exact ⟨fun _ z => (nomatch z), Nat.zero_le _⟩
    · split at h
      · rename_i c
        cases h
        exact ⟨fun n hn => List.all_eq_true.mp c.2 n hn, c.1⟩
      · cases h
  · cases h
end Ah
/-! The state: a list of nodes, each with the names of its path. What a deed and a query do to it. -/
namespace Ah
open PySem L2 SX
/-- a piece: the record's number, the client, the serial, the text -/
structure Pc where
  num : Int
  cl : Int
  ser : Int
  tx : Nm
  deriving DecidableEq
structure Nd where
  file : Bool
  path : List Nm
  pcs : List Pc
  shut : Bool
  lim : Option Int
  deriving DecidableEq
def Nd.size (n : Nd) : Nat := (n.pcs.map fun p => p.tx.length).sum
abbrev Tr := List Nd
def idx (Z : Tr) (p : List Nm) : Option Nat := Z.findIdx? fun n => decide (n.path = p)
def isF (Z : Tr) (p : List Nm) : Bool := Z.any fun n => decide (n.path = p) && n.file
/-- answers, deeds -/
inductive D where
  | i (n : Int)
  | s (x : Str)
  | t (l : List D)
inductive It where
  | i (n : Int)
  | s (x : Nm)
  deriving DecidableEq
inductive Res where
  | no (w : Str)
  | at (k : Nat)
def refu (w : Str) : D := .t [.s "refused", .s w]
def look (Z : Tr) : List Nm → List Nm → Res
  | pre, [] => match idx Z pre with | some k => .at k | none => .no "missing"
  | pre, n :: r => if isF Z pre = true then .no "kind" else match idx Z (pre ++ [n]) with | some _ => look Z (pre ++ [n]) r | none => .no "missing"
def place (Z : Tr) (p : List Nm) : Res :=
  if p = [] then .no "exists" else match look Z [] p.dropLast with
    | .no w => .no w
    | .at k => if isF Z p.dropLast = true then .no "kind" else match idx Z p with | some _ => .no "exists" | none => .at k
def inside (p : List Nm) (n : Nd) : Bool := decide (p <+: n.path)
def sizeAt (Z : Tr) (p : List Nm) : Nat := ((Z.filter (inside p)).map Nd.size).sum
def heightAt (Z : Tr) (p : List Nm) : Nat := ((Z.filter (inside p)).map fun n => n.path.length - p.length).foldr max 0
/-- a proper prefix -/
def pp (p q : List Nm) : Bool := decide (p <+: q) && decide (p ≠ q)
def bursts (Z : Tr) (path old : List Nm) (more : Nat) : Bool := Z.any fun n => !n.file && pp n.path path && !pp n.path old && (match n.lim with | some m => decide (m < ((sizeAt Z n.path + more : Nat) : Int)) | none => false)
structure St3 where
  num : Int
  cl : Int
  ser : Int
def mkN (Z : Tr) (file : Bool) (p : List Nm) : Tr × D := match place Z p with
  | .no w => (Z, refu w)
  | .at _ => if 64 ≤ Z.length then (Z, refu "full") else (Z ++ [⟨file, p, [], false, none⟩], .t [.s "made", .i (Z.length : Int)])
def wrN (Z : Tr) (st : St3) (p : List Nm) (x : Nm) : Tr × D := match look Z [] p with
  | .no w => (Z, refu w)
  | .at k => match Z[k]? with
    | none => (Z, refu "missing")
    | some n => if n.file = false then (Z, refu "kind") else if n.shut = true then (Z, refu "sealed") else if x = [] then (Z, refu "empty") else if bursts Z p [] x.length = true then (Z, refu "limit") else
      (Z.set k { n with pcs := n.pcs ++ [⟨st.num, st.cl, st.ser, x⟩] }, .t [.s "written", .i st.num, .i (k : Int), .i (n.size : Int)])
def seN (Z : Tr) (p : List Nm) : Tr × D := match look Z [] p with
  | .no w => (Z, refu w)
  | .at k => match Z[k]? with
    | none => (Z, refu "missing")
    | some n => if n.file = false then (Z, refu "kind") else if n.shut = true then (Z, refu "sealed") else (Z.set k { n with shut := true }, .t [.s "sealed", .i (k : Int), .i (n.size : Int)])
/-- the path of a node once what is at o stands at p -/
def moved (o p : List Nm) (n : Nd) : Nd := if o <+: n.path then { n with path := p ++ n.path.drop o.length } else n
def mvN (Z : Tr) (o p : List Nm) : Tr × D := if o = [] then (Z, refu "root") else match look Z [] o with
  | .no w => (Z, refu w)
  | .at k => if o <+: p then (Z, refu "within") else match place Z p with
    | .no w => (Z, refu w)
    | .at _ => if 6 < p.length + heightAt Z o then (Z, refu "deep") else if bursts Z p o (sizeAt Z o) = true then (Z, refu "limit") else (Z.map (moved o p), .t [.s "moved", .i (k : Int)])
def snN (Z : Tr) (o p : List Nm) : Tr × D := match look Z [] o with
  | .no w => (Z, refu w)
  | .at k => match Z[k]? with
    | none => (Z, refu "missing")
    | some n => if n.file = false then (Z, refu "kind") else match place Z p with
      | .no w => (Z, refu w)
      | .at _ => if 64 ≤ Z.length then (Z, refu "full") else if bursts Z p [] n.size = true then (Z, refu "limit") else (Z ++ [⟨true, p, n.pcs, true, none⟩], .t [.s "made", .i (Z.length : Int)])
def liN (Z : Tr) (p : List Nm) (m : Int) : Tr × D := match look Z [] p with
  | .no w => (Z, refu w)
  | .at k => match Z[k]? with
    | none => (Z, refu "missing")
    | some n => if n.file = true then (Z, refu "kind") else if m < (sizeAt Z p : Int) then (Z, refu "limit") else (Z.set k { n with lim := some m }, .t [.s "limited", .i (k : Int), .i (sizeAt Z p : Int)])
def cMkdir : Nm := [109, 107, 100, 105, 114]
def cCreate : Nm := [99, 114, 101, 97, 116, 101]
def cAppend : Nm := [97, 112, 112, 101, 110, 100]
def cSeal : Nm := [115, 101, 97, 108]
def cMove : Nm := [109, 111, 118, 101]
def cSnapshot : Nm := [115, 110, 97, 112, 115, 104, 111, 116]
def cLimit : Nm := [108, 105, 109, 105, 116]
def cRemove : Nm := [114, 101, 109, 111, 118, 101]
def cMkdirU : Nm := [77, 107, 100, 105, 114]
def cX : Nm := [120]
def cContent : Nm := [99, 111, 110, 116, 101, 110, 116]
/-- the seven forms -/
inductive Deed where
  | mkdir (x : Nm) | create (x : Nm) | append (x t : Nm) | shut (x : Nm) | move (x y : Nm) | snapshot (x y : Nm) | limit (x : Nm) (m : Int)
def Deed.its : Deed → List It
  | .mkdir x => [.s cMkdir, .s x]
  | .create x => [.s cCreate, .s x]
  | .append x t => [.s cAppend, .s x, .s t]
  | .shut x => [.s cSeal, .s x]
  | .move x y => [.s cMove, .s x, .s y]
  | .snapshot x y => [.s cSnapshot, .s x, .s y]
  | .limit x m => [.s cLimit, .s x, .i m]
/-- a deed of one of the seven forms, applied -/
def doD (Z : Tr) (st : St3) : Deed → Tr × D
  | .mkdir x => match split x with | some p => mkN Z false p | none => (Z, refu "path")
  | .create x => match split x with | some p => mkN Z true p | none => (Z, refu "path")
  | .append x t => match split x with | some p => wrN Z st p t | none => (Z, refu "path")
  | .shut x => match split x with | some p => seN Z p | none => (Z, refu "path")
  | .move x y => match split x, split y with | some p, some q => mvN Z p q | _, _ => (Z, refu "path")
  | .snapshot x y => match split x, split y with | some p, some q => snN Z p q | _, _ => (Z, refu "path")
  | .limit x m => match split x with | some p => liN Z p m | none => (Z, refu "path")
/-- what is handed in: a deed of a form (its texts fit, its number fits), or something that has none -/
def tOk (x : Nm) : Prop := x.length ≤ 200 ∧ ∀ c ∈ x, 32 ≤ c ∧ c ≤ 126 ∧ c ≠ 37
def iOk (n : Int) : Prop := -(10 ^ 18) ≤ n ∧ n ≤ 10 ^ 18
inductive Ent where
  | deed (d : Deed)
  | odd (l : List It)
def Ent.its : Ent → List It
  | .deed d => d.its
  | .odd l => l
def Deed.Ok : Deed → Prop
  | .mkdir x => tOk x
  | .create x => tOk x
  | .append x t => tOk x ∧ tOk t
  | .shut x => tOk x
  | .move x y => tOk x ∧ tOk y
  | .snapshot x y => tOk x ∧ tOk y
  | .limit x m => tOk x ∧ iOk m ∧ 0 ≤ m
/-- the forms of none that are drawn -/
inductive Odd : List It → Prop where
  | w1 (x : Nm) : x = cMkdir ∨ x = cX → Odd [.s x]
  | create (x : Nm) : Odd [.s cCreate, .s x, .s x]
  | append2 (x : Nm) : Odd [.s cAppend, .s x]
  | append3 (x : Nm) (n : Int) : tOk x → Odd [.s cAppend, .s x, .i n]
  | appendI (n : Int) (x : Nm) : Odd [.s cAppend, .i n, .s x]
  | limitS (x y : Nm) : tOk x → Odd [.s cLimit, .s x, .s y]
  | limitN (x : Nm) (n : Int) : tOk x → n < 0 → iOk n → Odd [.s cLimit, .s x, .i n]
  | limit2 (x : Nm) : Odd [.s cLimit, .s x]
  | move2 (x : Nm) : Odd [.s cMove, .s x]
  | moveI (x : Nm) (n : Int) : tOk x → Odd [.s cMove, .s x, .i n]
  | seal3 (x y : Nm) : Odd [.s cSeal, .s x, .s y]
  | miss2 (w x : Nm) : w = cRemove ∨ w = cMkdirU → Odd [.s w, .s x]
  | snap4 (x : Nm) : Odd [.s cSnapshot, .s x, .s x, .s x]
  | contentI (n : Int) : Odd [.s cContent, .i n]
  | sealI (n : Int) : Odd [.s cSeal, .i n]
  | limitI (n m : Int) : Odd [.s cLimit, .i n, .i m]
def Ent.Ok : Ent → Prop
  | .deed d => d.Ok
  | .odd l => Odd l
def doE (Z : Tr) (st : St3) : Ent → Tr × D
  | .deed d => doD Z st d
  | .odd _ => (Z, refu "deed")
/-! ### queries -/
inductive Qy where
  | content (n : Int) | find (x : Nm) | names (x : Nm)
def Pc.d (p : Pc) : D := .t [.i p.num, .i p.cl, .i p.ser, .s (S p.tx)]
def kidsN (Z : Tr) (p : List Nm) : List Nm := Z.filterMap fun n => if n.path ≠ [] ∧ n.path.dropLast = p then n.path.getLast? else none
/-- into a rising list of texts -/
def insN (x : Nm) : List Nm → List Nm
  | [] => [x]
  | y :: r => if x < y then x :: y :: r else y :: insN x r
def sortN (l : List Nm) : List Nm := l.foldr insN []
def ask (Z : Tr) : Qy → D
  | .content n => if 0 ≤ n ∧ n < (Z.length : Int) then match Z[n.toNat]? with
      | some nd => if nd.file = false then refu "kind" else .t [.s "content", .i n, .i (if nd.shut then 1 else 0), .t (nd.pcs.map Pc.d)]
      | none => refu "missing"
    else refu "missing"
  | .find x => match split x with
    | none => refu "path"
    | some p => match look Z [] p with
      | .no w => refu w
      | .at k => .t [.s "node", .i (k : Int), .i (if isF Z p then 1 else 0), .i (sizeAt Z p : Int)]
  | .names x => match split x with
    | none => refu "path"
    | some p => match look Z [] p with
      | .no w => refu w
      | .at _ => if isF Z p = true then refu "kind" else .t [.s "names", .t ((sortN (kidsN Z p)).map fun n => .s (S n))]
def Qy.Ok : Qy → Prop
  | .content n => iOk n
  | .find x => tOk x
  | .names x => tOk x
/-! ### what always holds of the state; c bounds the pieces -/
structure WF (c : Nat) (Z : Tr) : Prop where
  root : ∃ l, Z[0]? = some ⟨false, [], [], false, l⟩
  len : Z.length ≤ 64
  dist : (Z.map (·.path)).Nodup
  good : ∀ n ∈ Z, Good n.path ∧ n.path.length ≤ 6
  par : ∀ n ∈ Z, n.path ≠ [] → ∃ d ∈ Z, d.file = false ∧ d.path = n.path.dropLast
  dirp : ∀ n ∈ Z, n.file = false → n.pcs = [] ∧ n.shut = false
  limp : ∀ n ∈ Z, ∀ m, n.lim = some m → n.file = false ∧ 0 ≤ m
  pcn : ∀ n ∈ Z, n.pcs.length ≤ c
  ptx : ∀ n ∈ Z, ∀ p ∈ n.pcs, p.tx.length ≤ 200
end Ah
/-! What is true of the state. -/
namespace Ah
open PySem L2 SX
theorem rev_ind {α : Type} {M : List α → Prop} (h0 : M []) (h1 : ∀ l x, M l → M (l ++ [x])) (l : List α) : M l := by
  have h : ∀ l : List α, M l.reverse := fun l => by
    induction l with
    | nil => exact h0
    | cons a l ih =>
      rw [List.reverse_cons]
      exact h1 _ _ ih
  have g := h l.reverse
  rwa [List.reverse_reverse] at g
section
variable {Z : Tr} {c k j : Nat} {p q o : List Nm} {n m : Nd} {x : Nm}
/-! ### places in the list -/
theorem at_inj (h : (Z.map (·.path)).Nodup) (a : Z[k]? = some n) (b : Z[j]? = some m) (e : n.path = m.path) : k = j := by
  have e1 : (Z.map (·.path))[k]? = some n.path := by rw [List.getElem?_map, a] <;> rfl
  have e2 : (Z.map (·.path))[j]? = some n.path := by rw [List.getElem?_map, b, e] <;> rfl
  obtain ⟨h1, g1⟩ := List.getElem?_eq_some_iff.mp e1
  obtain ⟨h2, g2⟩ := List.getElem?_eq_some_iff.mp e2
  exact (List.getElem_inj h).mp (g1.trans g2.symm)
theorem idx_some (h : (Z.map (·.path)).Nodup) : idx Z p = some k ↔ ∃ n, Z[k]? = some n ∧ n.path = p := by
  unfold idx
  rw [List.findIdx?_eq_some_iff_getElem]
  constructor
  · rintro ⟨hk, h1, _⟩
    exact ⟨Z[k], List.getElem?_eq_getElem hk, of_decide_eq_true h1⟩
  · rintro ⟨n, hn, e⟩
    obtain ⟨hk, g⟩ := List.getElem?_eq_some_iff.mp hn
    refine ⟨hk, decide_eq_true (by rw [g]; exact e), fun j hj => ?_⟩
    have hj' : j < Z.length := Nat.lt_trans hj hk
    intro z
    have z := of_decide_eq_true z
    have := at_inj h (List.getElem?_eq_getElem hj') hn (z.trans e.symm)
    omega
theorem idx_none : idx Z p = none ↔ ∀ n ∈ Z, n.path ≠ p := by
  unfold idx
  rw [List.findIdx?_eq_none_iff]
  simp
theorem idx_of_mem (h : (Z.map (·.path)).Nodup) (hn : n ∈ Z) : ∃ k, idx Z n.path = some k ∧ Z[k]? = some n := by
  obtain ⟨k, hk, e⟩ := List.mem_iff_getElem.mp hn
  have h1 : Z[k]? = some n := by rw [List.getElem?_eq_getElem hk, e]
  exact ⟨k, (idx_some h).mpr ⟨n, h1, rfl⟩, h1⟩
theorem isF_iff : isF Z p = true ↔ ∃ n ∈ Z, n.path = p ∧ n.file = true := by
  unfold isF
  rw [List.any_eq_true]
  simp only [Bool.and_eq_true, decide_eq_true_eq]
theorem isF_at (h : (Z.map (·.path)).Nodup) (a : Z[k]? = some n) : isF Z n.path = n.file := by
  rw [Bool.eq_iff_iff, isF_iff]
  constructor
  · rintro ⟨m, hm, e, f⟩
    obtain ⟨j, hj, g⟩ := List.mem_iff_getElem.mp hm
    have hj1 : Z[j]? = some m := by rw [List.getElem?_eq_getElem hj, g]
    have := at_inj h a hj1 e.symm
    subst this
    rw [a] at hj1
    rw [Option.some.inj hj1]
    exact f
  · intro f
    exact ⟨n, List.mem_of_getElem? a, rfl, f⟩
theorem WF.idx0 (W : WF c Z) : idx Z [] = some 0 := by
  obtain ⟨l, h⟩ := W.root
  exact (idx_some W.dist).mpr ⟨_, h, rfl⟩
theorem WF.pos (W : WF c Z) : 0 < Z.length := by
  obtain ⟨l, h⟩ := W.root
  exact (List.getElem?_eq_some_iff.mp h).1
/-- each prefix of a node's path is a node's; a proper one a directory's -/
theorem WF.closed (W : WF c Z) : ∀ (r : List Nm) (n : Nd), n ∈ Z → ∀ p, n.path = p ++ r → ∃ d ∈ Z, d.path = p ∧ (r ≠ [] → d.file = false) := by
  refine rev_ind (fun n hn p e => ⟨n, hn, by rw [e, List.append_nil], fun z => absurd rfl z⟩) fun r x ih => ?_
  · intro n hn p e
    have ne : n.path ≠ [] := by rw [e]; simp
    obtain ⟨d, hd, hf, he⟩ := W.par n hn ne
    have e2 : d.path = p ++ r := by
      rw [he, e, ← List.append_assoc, List.dropLast_concat]
    obtain ⟨d', h1, h2, h3⟩ := ih d hd p e2
    refine ⟨d', h1, h2, fun _ => ?_⟩
    by_cases hr : r = []
    · subst hr
      rw [List.append_nil] at e2
      obtain ⟨j, hj⟩ := idx_of_mem W.dist hd
      obtain ⟨j', hj'⟩ := idx_of_mem W.dist h1
      rw [e2, ← h2, hj'.1] at hj
      obtain ⟨a, b⟩ := hj
      cases a
      rw [hj'.2] at b
      cases b
      exact hf
    · exact h3 hr
theorem WF.closed' (W : WF c Z) (hn : n ∈ Z) (h : p <+: n.path) : ∃ d ∈ Z, d.path = p ∧ (p ≠ n.path → d.file = false) := by
  obtain ⟨r, e⟩ := h
  obtain ⟨d, h1, h2, h3⟩ := W.closed r n hn p e.symm
  exact ⟨d, h1, h2, fun ne => h3 fun z => ne (by rw [← e, z, List.append_nil])⟩
/-! ### look-ups -/
theorem look_at (W : WF c Z) : ∀ (r pre : List Nm), look Z pre r = .at k → idx Z (pre ++ r) = some k
  | [], pre, h => by
    unfold look at h
    cases e : idx Z pre with
    | none => rw [e] at h; cases h
    | some j => rw [e] at h; cases h; rw [List.append_nil, e]
  | x :: r, pre, h => by
    unfold look at h
    split at h
    · cases h
    · cases e : idx Z (pre ++ [x]) with
      | none => rw [e] at h; cases h
      | some j =>
        rw [e] at h
        have := look_at W r (pre ++ [x]) h
        rw [List.append_assoc] at this
        exact this
theorem look_node (W : WF c Z) (h : look Z [] p = .at k) : ∃ n, Z[k]? = some n ∧ n.path = p := (idx_some W.dist).mp (look_at W p [] h)
theorem place_at (W : WF c Z) (h : place Z p = .at k) : p ≠ [] ∧ idx Z p = none ∧ ∃ d, Z[k]? = some d ∧ d.path = p.dropLast ∧ d.file = false := by
  unfold place at h
  split at h
  · cases h
  · rename_i hp
    cases e : look Z [] p.dropLast with
    | no w => rw [e] at h; cases h
    | «at» j =>
      rw [e] at h
      obtain ⟨d, hd, ed⟩ := look_node W e
      simp only at h
      split at h
      · cases h
      · rename_i hf
        cases e2 : idx Z p with
        | some _ => rw [e2] at h; cases h
        | none =>
          rw [e2] at h
          cases h
          refine ⟨hp, rfl, d, hd, ed, ?_⟩
          rw [← ed, isF_at W.dist hd] at hf
          simpa using hf
/-! ### places of the program's: the parent and the last name -/
structure Lk (P : List (Nat × Nm)) (Z : Tr) : Prop where
  len : P.length = Z.length
  up : ∀ k i x n, 0 < k → P[k]? = some (i, x) → Z[k]? = some n → ∃ d, Z[i]? = some d ∧ d.file = false ∧ n.path = d.path ++ [x]
variable {P : List (Nat × Nm)}
theorem Lk.kid (L : Lk P Z) (W : WF c Z) {d : Nd} {i : Nat} (hd : Z[i]? = some d) : (0 < k ∧ P[k]? = some (i, x)) ↔ idx Z (d.path ++ [x]) = some k := by
  rw [idx_some W.dist]
  constructor
  · rintro ⟨hk, hp⟩
    have hl : k < Z.length := by rw [← L.len]; exact (List.getElem?_eq_some_iff.mp hp).1
    obtain ⟨d', h1, _, h3⟩ := L.up k i x Z[k] hk hp (List.getElem?_eq_getElem hl)
    rw [hd] at h1
    cases h1
    exact ⟨Z[k], List.getElem?_eq_getElem hl, h3⟩
  · rintro ⟨n, hn, e⟩
    have hk : 0 < k := by
      rcases Nat.eq_zero_or_pos k with z | z
      · subst z
        obtain ⟨l, h0⟩ := W.root
        rw [h0] at hn
        cases hn
        simp at e
      · exact z
    have hl : k < P.length := by rw [L.len]; exact (List.getElem?_eq_some_iff.mp hn).1
    obtain ⟨d', h1, _, h3⟩ := L.up k P[k].1 P[k].2 n hk (List.getElem?_eq_getElem hl) hn
    rw [e] at h3
    obtain ⟨e1, e2⟩ := List.append_inj' h3 rfl
    have := at_inj W.dist hd h1 e1
    refine ⟨hk, ?_⟩
    rw [List.getElem?_eq_getElem hl, this]
    have e3 : x = P[k].2 := List.head_eq_of_cons_eq e2
    rw [e3]
/-! ### sums over what is inside -/
theorem sum_add_map {α : Type} (l : List α) (f g : α → Nat) : (l.map fun a => f a + g a).sum = (l.map f).sum + (l.map g).sum := by
  induction l with
  | nil => rfl
  | cons a l ih => simp only [List.map_cons, List.sum_cons, ih]; omega
theorem sum_one {α : Type} [DecidableEq α] (l : List α) (a : α) (v : Nat) (hn : l.Nodup) : (l.map fun b => if b = a then v else 0).sum = if a ∈ l then v else 0 := by
  induction l with
  | nil => simp
  | cons b l ih =>
    obtain ⟨h1, h2⟩ := List.nodup_cons.mp hn
    rw [List.map_cons, List.sum_cons, ih h2]
    by_cases e : b = a
    · subst e
      rw [if_pos rfl, if_neg h1, if_pos List.mem_cons_self]
      omega
    · rw [if_neg e]
      by_cases m : a ∈ l
      · rw [if_pos m, if_pos (List.mem_cons_of_mem _ m)]
        omega
      · rw [if_neg m, if_neg (by simp [m, Ne.symm e])]
theorem sizeAt_cons (n : Nd) (Z : Tr) (p : List Nm) : sizeAt (n :: Z) p = (if p <+: n.path then n.size else 0) + sizeAt Z p := by
  unfold sizeAt
  rw [List.filter_cons]
  unfold inside
  by_cases h : p <+: n.path
  · rw [if_pos (by simpa using h), if_pos h, List.map_cons, List.sum_cons]
  · rw [if_neg (by simpa using h), if_neg h]
    omega
/-- the size of a directory is that of its entries together -/
theorem size_kids (ns : List Nm) (hn : ns.Nodup) : ∀ (Z : Tr), (∀ n ∈ Z, ∀ x r, n.path = p ++ x :: r → x ∈ ns) → (∀ n ∈ Z, n.path = p → n.size = 0) → (ns.map fun x => sizeAt Z (p ++ [x])).sum = sizeAt Z p
  | [], _, _ => by
    have : ∀ l : List Nm, (l.map fun x => sizeAt [] (p ++ [x])).sum = 0 := by
      intro l
      induction l with
      | nil => rfl
      | cons a l ih => rw [List.map_cons, List.sum_cons, ih] <;> rfl
    rw [this] <;> rfl
  | n :: Z, h1, h2 => by
    have ih := size_kids ns hn Z (fun m hm => h1 m (List.mem_cons_of_mem _ hm)) (fun m hm => h2 m (List.mem_cons_of_mem _ hm))
    rw [sizeAt_cons, ← ih]
    have e : (fun x => sizeAt (n :: Z) (p ++ [x])) = fun x => (if p ++ [x] <+: n.path then n.size else 0) + sizeAt Z (p ++ [x]) := by
      funext x
      rw [sizeAt_cons]
    rw [e, sum_add_map]
    congr 1
    by_cases hp : p <+: n.path
    · rw [if_pos hp]
      obtain ⟨r, hr⟩ := hp
      cases r with
      | nil =>
        rw [List.append_nil] at hr
        have h0 := h2 n List.mem_cons_self hr.symm
        have : ∀ l : List Nm, (l.map fun x => if p ++ [x] <+: n.path then n.size else 0).sum = 0 := by
          intro l
          induction l with
          | nil => rfl
          | cons a l ih => rw [List.map_cons, List.sum_cons, ih, h0] <;> simp
        rw [this, h0]
      | cons y r =>
        have hy := h1 n List.mem_cons_self y r hr.symm
        have e2 : (fun x => if p ++ [x] <+: n.path then n.size else 0) = fun x => if x = y then n.size else 0 := by
          funext x
          by_cases hx : x = y
          · subst hx
            rw [if_pos ⟨r, by rw [← hr]; simp⟩, if_pos rfl]
          · rw [if_neg hx, if_neg]
            rintro ⟨z, hz⟩
            rw [← hr, List.append_assoc] at hz
            have := List.append_cancel_left hz
            injection this with e3 _
            exact hx e3
        rw [e2, sum_one ns y n.size hn, if_pos hy]
    · rw [if_neg hp]
      have : ∀ l : List Nm, (l.map fun x => if p ++ [x] <+: n.path then n.size else 0).sum = 0 := by
        intro l
        induction l with
        | nil => rfl
        | cons a l ih =>
          rw [List.map_cons, List.sum_cons, ih, if_neg]
          intro z
          exact hp (List.IsPrefix.trans (List.prefix_append _ _) z)
      exact this ns
/-! ### heights -/
theorem max_le {l : List Nat} {b : Nat} : l.foldr max 0 ≤ b ↔ ∀ y ∈ l, y ≤ b := by
  induction l with
  | nil => simp
  | cons a l ih =>
    rw [List.foldr_cons, Nat.max_le, ih]
    simp
theorem max_mem (l : List Nat) : l.foldr max 0 = 0 ∨ l.foldr max 0 ∈ l := by
  induction l with
  | nil => exact .inl rfl
  | cons a l ih =>
    rw [List.foldr_cons]
    rcases Nat.le_total a (l.foldr max 0) with h | h
    · rw [Nat.max_eq_right h]
      exact ih.imp id (List.mem_cons_of_mem _)
    · rw [Nat.max_eq_left h]
      exact .inr List.mem_cons_self
theorem height_le {b : Nat} : heightAt Z p ≤ b ↔ ∀ n ∈ Z, p <+: n.path → n.path.length - p.length ≤ b := by
  unfold heightAt
  rw [max_le]
  simp only [List.mem_map, List.mem_filter, inside, decide_eq_true_eq]
  constructor
  · intro h n hn hp
    exact h _ ⟨n, ⟨hn, hp⟩, rfl⟩
  · rintro h y ⟨n, ⟨hn, hp⟩, rfl⟩
    exact h n hn hp
theorem height_ge {n : Nd} (hn : n ∈ Z) (hp : p <+: n.path) : n.path.length - p.length ≤ heightAt Z p := height_le.mp (Nat.le_refl _) n hn hp
/-- a directory's height by its entries' -/
theorem height_kids (ns : List Nm) (h1 : ∀ n ∈ Z, ∀ x r, n.path = p ++ x :: r → x ∈ ns) (h2 : ∀ x ∈ ns, ∃ n ∈ Z, n.path = p ++ [x]) {b : Nat} (hm : b ∈ 0 :: ns.map fun x => 1 + heightAt Z (p ++ [x])) (hb : ∀ y ∈ 0 :: ns.map fun x => 1 + heightAt Z (p ++ [x]), y ≤ b) : b = heightAt Z p := by
  have kid : ∀ x ∈ ns, 1 + heightAt Z (p ++ [x]) ≤ heightAt Z p := by
    intro x hx
    have key : ∀ n ∈ Z, p ++ [x] <+: n.path → n.path.length - (p ++ [x]).length + 1 ≤ heightAt Z p := by
      intro n hn hp
      have h3 := height_ge hn (List.IsPrefix.trans (List.prefix_append _ _) hp)
      have h4 := hp.length_le
      rw [List.length_append, List.length_singleton] at h4 ⊢
      omega
    obtain ⟨n, hn, en⟩ := h2 x hx
    have h5 := key n hn (by rw [en]; exact List.prefix_refl _)
    have : heightAt Z (p ++ [x]) ≤ heightAt Z p - 1 := height_le.mpr fun m hm hp => by
      have := key m hm hp
      omega
    omega
  apply Nat.le_antisymm
  · rcases List.mem_cons.mp hm with e | e
    · omega
    · obtain ⟨x, hx, rfl⟩ := List.mem_map.mp e
      exact kid x hx
  · refine height_le.mpr fun n hn hp => ?_
    obtain ⟨r, hr⟩ := hp
    cases r with
    | nil => rw [← hr]; simp
    | cons y r =>
      have hy := h1 n hn y r hr.symm
      have h3 := hb _ (List.mem_cons_of_mem _ (List.mem_map.mpr ⟨y, hy, rfl⟩))
      have h4 : n.path.length - (p ++ [y]).length ≤ heightAt Z (p ++ [y]) := height_ge hn ⟨r, by rw [← hr]; simp⟩
      rw [List.length_append, List.length_singleton] at h4
      omega
theorem height_file (W : WF c Z) (hn : n ∈ Z) (hf : n.file = true) : heightAt Z n.path = 0 := by
  refine Nat.le_antisymm (height_le.mpr fun m hm hp => ?_) (Nat.zero_le _)
  by_cases e : n.path = m.path
  · rw [e]; omega
  · obtain ⟨d, hd, e1, e2⟩ := W.closed' hm hp
    obtain ⟨j, hj⟩ := idx_of_mem W.dist hd
    obtain ⟨j', hj'⟩ := idx_of_mem W.dist hn
    rw [e1, hj'.1] at hj
    obtain ⟨a, b⟩ := hj
    cases a
    rw [hj'.2] at b
    cases b
    rw [e2 e] at hf
    cases hf
theorem size_file (W : WF c Z) (hn : n ∈ Z) (hf : n.file = true) : sizeAt Z n.path = n.size := by
  have alone : ∀ m ∈ Z, n.path <+: m.path → m.path = n.path := fun m hm hp => by
    by_cases e : n.path = m.path
    · exact e.symm
    · obtain ⟨d, hd, e1, e2⟩ := W.closed' hm hp
      obtain ⟨j, hj⟩ := idx_of_mem W.dist hd
      obtain ⟨j', hj'⟩ := idx_of_mem W.dist hn
      rw [e1, hj'.1] at hj
      obtain ⟨a, b⟩ := hj
      cases a
      rw [hj'.2] at b
      cases b
      rw [e2 e] at hf
      cases hf
  have gen : ∀ (L : Tr), (∀ m ∈ L, n.path <+: m.path → m.path = n.path) → (L.map (·.path)).Nodup → sizeAt L n.path = if n ∈ L then n.size else ((L.filter fun m => decide (m.path = n.path)).map Nd.size).sum := by
    intro L
    induction L with
    | nil => intro _ _; simp [sizeAt]
    | cons a L ih =>
      intro h1 h2
      rw [List.map_cons] at h2
      obtain ⟨g1, g2⟩ := List.nodup_cons.mp h2
      have ih := ih (fun m hm => h1 m (List.mem_cons_of_mem _ hm)) g2
      have none_of : ∀ (M : Tr), (∀ m ∈ M, m.path ≠ n.path) → (M.filter fun m => decide (m.path = n.path)) = [] := fun M hM => List.filter_eq_nil_iff.mpr fun m hm => by simpa using hM m hm
      rw [sizeAt_cons, ih]
      by_cases e : a.path = n.path
      · have hL : ∀ m ∈ L, m.path ≠ n.path := fun m hm z => g1 (by rw [e, ← z]; exact List.mem_map.mpr ⟨m, hm, rfl⟩)
        have nL : n ∉ L := fun z => hL n z rfl
        rw [if_pos (by rw [e]; exact List.prefix_refl _), if_neg nL, none_of L hL]
        by_cases ea : n = a
        · rw [if_pos (by rw [ea]; exact List.mem_cons_self), ea]
          simp
        · rw [if_neg (by simp [ea, nL]), List.filter_cons, if_pos (by simpa using e), none_of L hL]
          simp
      · rw [if_neg (fun z => e (h1 a List.mem_cons_self z))]
        have ea : n ≠ a := fun z => e (by rw [z])
        by_cases m : n ∈ L
        · rw [if_pos m, if_pos (List.mem_cons_of_mem _ m)]
          omega
        · rw [if_neg m, if_neg (by simp [ea, m]), List.filter_cons, if_neg (by simpa using e)]
          omega
  rw [gen Z alone W.dist, if_pos hn]
end
end Ah
/-! What each deed keeps. -/
namespace Ah
open PySem L2 SX
section
variable {Z : Tr} {c k j : Nat} {p q o : List Nm} {n m : Nd} {x : Nm}
theorem pp_iff : pp p q = true ↔ p <+: q ∧ p ≠ q := by
  unfold pp
  simp only [Bool.and_eq_true, decide_eq_true_eq]
theorem pp_take : pp p q = true ↔ ∃ i, i < q.length ∧ p = q.take i := by
  rw [pp_iff]
  constructor
  · rintro ⟨h, ne⟩
    refine ⟨p.length, ?_, List.prefix_iff_eq_take.mp h⟩
    have h1 := h.length_le
    have h2 : p.length ≠ q.length := fun z => ne (h.eq_of_length z)
    omega
  · rintro ⟨i, hi, rfl⟩
    refine ⟨List.take_prefix _ _, fun z => ?_⟩
    have := congrArg List.length z
    rw [List.length_take] at this
    omega
theorem pp_nil : pp p [] = false := by
  cases h : pp p [] with
  | false => rfl
  | true =>
    obtain ⟨i, hi, _⟩ := pp_take.mp h
    simp at hi
/-- the directories above, the parent first -/
def abv (Z : Tr) (p : List Nm) : List Nat := (List.range p.length).reverse.map fun i => (idx Z (p.take i)).getD 0
theorem abv_nil : abv Z [] = [] := rfl
theorem abv_snoc : abv Z (p ++ [x]) = (idx Z p).getD 0 :: abv Z p := by
  unfold abv
  rw [List.length_append, List.length_singleton, List.range_succ, List.reverse_append, List.map_append]
  show [(idx Z ((p ++ [x]).take p.length)).getD 0] ++ _ = _
  rw [List.take_left, List.singleton_append]
  congr 1
  refine List.map_congr_left fun i hi => ?_
  have hi : i < p.length := List.mem_range.mp (List.mem_reverse.mp hi)
  rw [List.take_append_of_le_length (Nat.le_of_lt hi)]
/-- p is a node's path, or that of a free place in a directory -/
def Hung (Z : Tr) (p : List Nm) : Prop := ∀ i, i < p.length → ∃ k, idx Z (p.take i) = some k
theorem hung_node (W : WF c Z) (hn : n ∈ Z) : Hung Z n.path := fun i _ => by
  obtain ⟨d, hd, e, _⟩ := W.closed' hn (List.take_prefix i n.path)
  obtain ⟨k, hk, _⟩ := idx_of_mem W.dist hd
  exact ⟨k, by rw [← e]; exact hk⟩
theorem hung_place (W : WF c Z) (hn : n ∈ Z) (e : n.path = p.dropLast) (hp : p ≠ []) : Hung Z p := fun i hi => by
  have h1 : p.take i = p.dropLast.take i := by
    rw [List.dropLast_eq_take, List.take_take, Nat.min_eq_left (by omega)]
  rw [h1, ← e]
  by_cases hl : i < n.path.length
  · exact hung_node W hn i hl
  · rw [List.take_of_length_le (Nat.le_of_not_lt hl)]
    obtain ⟨k, hk, _⟩ := idx_of_mem W.dist hn
    exact ⟨k, hk⟩
theorem mem_abv (W : WF c Z) (H : Hung Z p) : k ∈ abv Z p ↔ ∃ d, Z[k]? = some d ∧ pp d.path p = true := by
  unfold abv
  simp only [List.mem_map, List.mem_reverse, List.mem_range]
  constructor
  · rintro ⟨i, hi, rfl⟩
    obtain ⟨k, hk⟩ := H i hi
    obtain ⟨d, hd, e⟩ := (idx_some W.dist).mp hk
    rw [hk]
    exact ⟨d, hd, pp_take.mpr ⟨i, hi, e⟩⟩
  · rintro ⟨d, hd, h⟩
    obtain ⟨i, hi, e⟩ := pp_take.mp h
    refine ⟨i, hi, ?_⟩
    rw [(idx_some W.dist).mpr ⟨d, hd, e⟩] <;> rfl
def overAt (Z : Tr) (more : Nat) (k : Nat) : Bool := match Z[k]? with
  | some d => (match d.lim with | some m => decide (m < ((sizeAt Z d.path + more : Nat) : Int)) | none => false)
  | none => false
theorem bursts_any (W : WF c Z) {path old : List Nm} {more : Nat} {ds : List Nat} (h : ∀ k, k ∈ ds ↔ ∃ d, Z[k]? = some d ∧ pp d.path path = true ∧ pp d.path old = false) : bursts Z path old more = ds.any (overAt Z more) := by
  rw [Bool.eq_iff_iff]
  unfold bursts
  rw [List.any_eq_true, List.any_eq_true]
  constructor
  · rintro ⟨d, hd, h1⟩
    simp only [Bool.and_eq_true, Bool.not_eq_true'] at h1
    obtain ⟨⟨⟨_, h3⟩, h4⟩, h5⟩ := h1
    obtain ⟨k, hk, h6⟩ := idx_of_mem W.dist hd
    refine ⟨k, (h k).mpr ⟨d, h6, h3, h4⟩, ?_⟩
    unfold overAt
    rw [h6]
    exact h5
  · rintro ⟨k, hk, h1⟩
    obtain ⟨d, hd, h3, h4⟩ := (h k).mp hk
    unfold overAt at h1
    rw [hd] at h1
    have hm := List.mem_of_getElem? hd
    refine ⟨d, hm, ?_⟩
    simp only [Bool.and_eq_true, Bool.not_eq_true']
    refine ⟨⟨⟨?_, h3⟩, h4⟩, h1⟩
    cases e : d.lim with
    | none =>
      simp only [e] at h1
      cases h1
    | some b => exact (W.limp d hm b e).1
/-! ### what is kept -/
theorem WF.mono {b : Nat} (W : WF c Z) (h : c ≤ b) : WF b Z := ⟨W.root, W.len, W.dist, W.good, W.par, W.dirp, W.limp, fun n hn => Nat.le_trans (W.pcn n hn) h, W.ptx⟩
/-- a new node at a free place -/
theorem wf_new (W : WF c Z) (hl : Z.length < 64) (h : place Z p = .at k) (g : Good p) (g6 : p.length ≤ 6) (hp : n.path = p) (hd : n.file = false → n.pcs = [] ∧ n.shut = false) (hlim : n.lim = none) (hc : n.pcs.length ≤ c) (hx : ∀ z ∈ n.pcs, z.tx.length ≤ 200) : WF c (Z ++ [n]) := by
  obtain ⟨ne, hi, d, hk, ed, df⟩ := place_at W h
  have hm := List.mem_of_getElem? hk
  refine ⟨?_, by rw [List.length_append, List.length_singleton]; omega, ?_, ?_, ?_, ?_, ?_, ?_, ?_⟩
  · obtain ⟨l, h0⟩ := W.root
    exact ⟨l, by rw [List.getElem?_append_left W.pos]; exact h0⟩
  · rw [List.map_append]
    refine List.nodup_append.mpr ⟨W.dist, by simp, fun a ha b hb => ?_⟩
    rw [List.map_singleton, List.mem_singleton] at hb
    obtain ⟨z, hz, rfl⟩ := List.mem_map.mp ha
    rw [hb, hp]
    exact idx_none.mp hi z hz
  · intro z hz
    rcases List.mem_append.mp hz with hz | hz
    · exact W.good z hz
    · rw [List.mem_singleton.mp hz, hp]
      exact ⟨g, g6⟩
  · intro z hz nz
    rcases List.mem_append.mp hz with hz | hz
    · obtain ⟨d', h1, h2⟩ := W.par z hz nz
      exact ⟨d', List.mem_append_left _ h1, h2⟩
    · rw [List.mem_singleton.mp hz, hp]
      exact ⟨d, List.mem_append_left _ hm, df, ed⟩
  all_goals
    intro z hz
    rcases List.mem_append.mp hz with hz | hz
  · exact W.dirp z hz
  · rw [List.mem_singleton.mp hz]
    exact hd
  · exact W.limp z hz
  · rw [List.mem_singleton.mp hz, hlim]
    intro m hm
    cases hm
  · exact W.pcn z hz
  · rw [List.mem_singleton.mp hz]
    exact hc
  · exact W.ptx z hz
  · rw [List.mem_singleton.mp hz]
    exact hx
/-- a node changed in place -/
theorem wf_set {b : Nat} (W : WF c Z) (hcb : c ≤ b) (hk : Z[k]? = some n) (hp : m.path = n.path) (hf : m.file = n.file) (hd : m.file = false → m.pcs = [] ∧ m.shut = false) (hlim : ∀ y, m.lim = some y → m.file = false ∧ 0 ≤ y) (hc : m.pcs.length ≤ b) (hx : ∀ z ∈ m.pcs, z.tx.length ≤ 200) : WF b (Z.set k m) := by
  obtain ⟨hkl, gk⟩ := List.getElem?_eq_some_iff.mp hk
  have emap : (Z.set k m).map (·.path) = Z.map (·.path) := by
    rw [List.map_set, hp]
    refine List.ext_getElem (by simp) fun i h1 h2 => ?_
    rw [List.getElem_set]
    split
    · rename_i e
      subst e
      simp [gk]
    · rfl
  have old : ∀ z ∈ Z.set k m, z = m ∨ z ∈ Z := fun z hz => (List.mem_or_eq_of_mem_set hz).elim .inr .inl
  have dir : ∀ d ∈ Z, ∃ d' ∈ Z.set k m, d'.path = d.path ∧ d'.file = d.file := by
    intro d hd
    obtain ⟨i, hi, e⟩ := List.mem_iff_getElem.mp hd
    by_cases z : k = i
    · subst z
      refine ⟨m, List.mem_iff_getElem.mpr ⟨k, by simpa using hi, by simp⟩, ?_⟩
      rw [← e, gk]
      exact ⟨hp, hf⟩
    · exact ⟨d, List.mem_iff_getElem.mpr ⟨i, by simpa using hi, by rw [List.getElem_set_ne z]; exact e⟩, rfl, rfl⟩
  refine ⟨?_, by rw [List.length_set]; exact W.len, by rw [emap]; exact W.dist, ?_, ?_, ?_, ?_, ?_, ?_⟩
  · obtain ⟨l, h0⟩ := W.root
    by_cases z : k = 0
    · subst z
      rw [h0] at hk
      cases hk
      obtain ⟨e1, e2⟩ := hd hf
      obtain ⟨mf, mp, mc, ms, ml⟩ := m
      simp only at hp hf e1 e2
      subst hp hf e1 e2
      exact ⟨ml, by rw [List.getElem?_set_self hkl]⟩
    · exact ⟨l, by rw [List.getElem?_set_ne z]; exact h0⟩
  · intro z hz
    rcases old z hz with rfl | hz
    · rw [hp]
      exact W.good n (List.mem_of_getElem? hk)
    · exact W.good z hz
  · intro z hz nz
    have : ∃ d ∈ Z, d.file = false ∧ d.path = z.path.dropLast := by
      rcases old z hz with rfl | hz
      · rw [hp] at nz ⊢
        exact W.par n (List.mem_of_getElem? hk) nz
      · exact W.par z hz nz
    obtain ⟨d, h1, h2, h3⟩ := this
    obtain ⟨d', g1, g2, g3⟩ := dir d h1
    exact ⟨d', g1, by rw [g3]; exact h2, by rw [g2]; exact h3⟩
  all_goals
    intro z hz
    rcases old z hz with rfl | hz
  · exact hd
  · exact W.dirp z hz
  · exact hlim
  · exact W.limp z hz
  · exact hc
  · exact Nat.le_trans (W.pcn z hz) hcb
  · exact hx
  · exact W.ptx z hz
theorem moved_in (h : o <+: n.path) : moved o p n = { n with path := p ++ n.path.drop o.length } := if_pos h
theorem moved_out (h : ¬ o <+: n.path) : moved o p n = n := if_neg h
theorem moved_same : (moved o p n).file = n.file ∧ (moved o p n).pcs = n.pcs ∧ (moved o p n).shut = n.shut ∧ (moved o p n).lim = n.lim := by
  unfold moved
  split
  · exact ⟨rfl, rfl, rfl, rfl⟩
  · exact ⟨rfl, rfl, rfl, rfl⟩
theorem moved_path : (moved o p n).path = if o <+: n.path then p ++ n.path.drop o.length else n.path := by
  unfold moved
  split
  · rfl
  · rfl
theorem wf_moved (W : WF c Z) (ho : o ≠ []) (hop : ¬ o <+: p) (h : place Z p = .at k) (g : Good p) (h6 : p.length + heightAt Z o ≤ 6) : WF c (Z.map (moved o p)) := by
  obtain ⟨ne, hi, d, hk, ed, df⟩ := place_at W h
  have hm := List.mem_of_getElem? hk
  have free : ∀ z ∈ Z, ¬ p <+: z.path := fun z hz hp => by
    obtain ⟨d', h1, h2, _⟩ := W.closed' hz hp
    exact idx_none.mp hi d' h1 h2
  have dpath : (moved o p d).path = p.dropLast := by
    rw [moved_path, if_neg, ed]
    intro z
    rw [ed] at z
    exact hop (List.IsPrefix.trans z (List.dropLast_prefix p))
  have back : ∀ z ∈ Z, ∀ y ∈ Z, (moved o p z).path = (moved o p y).path → z.path = y.path := by
    intro z hz y hy e
    rw [moved_path, moved_path] at e
    by_cases h1 : o <+: z.path
    · by_cases h2 : o <+: y.path
      · rw [if_pos h1, if_pos h2] at e
        obtain ⟨r, hr⟩ := h1
        obtain ⟨s, hs⟩ := h2
        rw [← hr, ← hs, List.drop_left, List.drop_left] at e
        rw [← hr, ← hs, List.append_cancel_left e]
      · rw [if_pos h1, if_neg h2] at e
        exact absurd ⟨_, e⟩ (free y hy)
    · by_cases h2 : o <+: y.path
      · rw [if_neg h1, if_pos h2] at e
        exact absurd ⟨_, e.symm⟩ (free z hz)
      · rw [if_neg h1, if_neg h2] at e
        exact e
  refine ⟨?_, by rw [List.length_map]; exact W.len, ?_, ?_, ?_, ?_, ?_, ?_, ?_⟩
  · obtain ⟨l, h0⟩ := W.root
    refine ⟨l, ?_⟩
    rw [List.getElem?_map, h0]
    show some (moved o p _) = _
    rw [moved_out]
    show ¬ o <+: []
    intro z
    exact ho (List.prefix_nil.mp z)
  · have key : ∀ L : Tr, (∀ z ∈ L, z ∈ Z) → (L.map (·.path)).Nodup → ((L.map (moved o p)).map (·.path)).Nodup := by
      intro L
      induction L with
      | nil => intro _ _; exact List.nodup_nil
      | cons a L ih =>
        intro h1 h2
        rw [List.map_cons] at h2
        obtain ⟨g1, g2⟩ := List.nodup_cons.mp h2
        rw [List.map_cons, List.map_cons]
        refine List.nodup_cons.mpr ⟨fun z => ?_, ih (fun y hy => h1 y (List.mem_cons_of_mem _ hy)) g2⟩
        obtain ⟨y, hy, e⟩ := List.mem_map.mp z
        obtain ⟨v, hv, rfl⟩ := List.mem_map.mp hy
        have := back v (h1 v (List.mem_cons_of_mem _ hv)) a (h1 a List.mem_cons_self) e
        exact g1 (by rw [← this]; exact List.mem_map.mpr ⟨v, hv, rfl⟩)
    exact key Z (fun _ z => z) W.dist
  · intro z hz
    obtain ⟨y, hy, rfl⟩ := List.mem_map.mp hz
    rw [moved_path]
    by_cases h1 : o <+: y.path
    · rw [if_pos h1]
      refine ⟨fun a ha => (List.mem_append.mp ha).elim (g a) fun b => (W.good y hy).1 a (List.mem_of_mem_drop b), ?_⟩
      rw [List.length_append, List.length_drop]
      have := height_ge hy h1
      omega
    · rw [if_neg h1]
      exact W.good y hy
  · intro z hz nz
    obtain ⟨y, hy, rfl⟩ := List.mem_map.mp hz
    by_cases h1 : o <+: y.path
    · by_cases h2 : o = y.path
      · refine ⟨moved o p d, List.mem_map.mpr ⟨d, hm, rfl⟩, by rw [moved_same.1]; exact df, ?_⟩
        rw [dpath, moved_path, if_pos h1, ← h2, List.drop_length, List.append_nil]
      · have ny : y.path ≠ [] := fun z => by
          rw [z] at h1
          exact ho (List.prefix_nil.mp h1)
        obtain ⟨d', g1, g2, g3⟩ := W.par y hy ny
        obtain ⟨r, hr⟩ := h1
        have nr : r ≠ [] := fun z => h2 (by rw [← hr, z, List.append_nil])
        have e1 : d'.path = o ++ r.dropLast := by rw [g3, ← hr, List.dropLast_append_of_ne_nil nr]
        refine ⟨moved o p d', List.mem_map.mpr ⟨d', g1, rfl⟩, by rw [moved_same.1]; exact g2, ?_⟩
        rw [moved_path, moved_path, if_pos ⟨_, e1.symm⟩, if_pos ⟨r, hr⟩, e1, ← hr, List.drop_left, List.drop_left, List.dropLast_append_of_ne_nil nr]
    · rw [moved_out h1] at nz ⊢
      obtain ⟨d', g1, g2, g3⟩ := W.par y hy nz
      refine ⟨moved o p d', List.mem_map.mpr ⟨d', g1, rfl⟩, by rw [moved_same.1]; exact g2, ?_⟩
      rw [moved_path, if_neg, g3]
      intro z
      rw [g3] at z
      exact h1 (List.IsPrefix.trans z (List.dropLast_prefix _))
  all_goals
    intro z hz
    obtain ⟨y, hy, rfl⟩ := List.mem_map.mp hz
    obtain ⟨e1, e2, e3, e4⟩ := moved_same (o := o) (p := p) (n := y)
  · rw [e1, e2, e3]
    exact W.dirp y hy
  · rw [e4, e1]
    exact W.limp y hy
  · rw [e2]
    exact W.pcn y hy
  · rw [e2]
    exact W.ptx y hy
/-! ### the program's places -/
variable {P : List (Nat × Nm)}
theorem lk_new (L : Lk P Z) (h : Z[k]? = some m) (hf : m.file = false) (hp : n.path = m.path ++ [x]) : Lk (P ++ [(k, x)]) (Z ++ [n]) := by
  have hkl : k < Z.length := (List.getElem?_eq_some_iff.mp h).1
  refine ⟨by simp [L.len], fun j i y z hj h1 h2 => ?_⟩
  by_cases hjl : j < Z.length
  · rw [List.getElem?_append_left (by rw [L.len]; exact hjl)] at h1
    rw [List.getElem?_append_left hjl] at h2
    obtain ⟨d, g1, g2⟩ := L.up j i y z hj h1 h2
    exact ⟨d, by rw [List.getElem?_append_left (List.getElem?_eq_some_iff.mp g1).1]; exact g1, g2⟩
  · have e : j = Z.length := by
      have := (List.getElem?_eq_some_iff.mp h2).1
      rw [List.length_append, List.length_singleton] at this
      omega
    subst e
    rw [List.getElem?_append_right (Nat.le_refl _), Nat.sub_self] at h2
    rw [← L.len, List.getElem?_append_right (Nat.le_refl _), Nat.sub_self] at h1
    cases h1
    cases h2
    exact ⟨m, by rw [List.getElem?_append_left hkl]; exact h, hf, hp⟩
theorem lk_set (L : Lk P Z) (h : Z[k]? = some n) (hp : m.path = n.path) (hf : m.file = n.file) : Lk P (Z.set k m) := by
  have hkl : k < Z.length := (List.getElem?_eq_some_iff.mp h).1
  refine ⟨by rw [List.length_set]; exact L.len, fun j i y z hj h1 h2 => ?_⟩
  have hz : ∃ z', Z[j]? = some z' ∧ z'.path = z.path := by
    by_cases e : k = j
    · subst e
      rw [List.getElem?_set_self hkl] at h2
      cases h2
      exact ⟨n, h, hp.symm⟩
    · rw [List.getElem?_set_ne e] at h2
      exact ⟨z, h2, rfl⟩
  obtain ⟨z', g1, g2⟩ := hz
  obtain ⟨d, g3, g4, g5⟩ := L.up j i y z' hj h1 g1
  rw [g2] at g5
  by_cases e : k = i
  · subst e
    rw [h] at g3
    cases g3
    exact ⟨m, by rw [List.getElem?_set_self hkl], by rw [hf]; exact g4, by rw [hp]; exact g5⟩
  · exact ⟨d, by rw [List.getElem?_set_ne e]; exact g3, g4, g5⟩
theorem lk_moved (L : Lk P Z) (W : WF c Z) (hn : Z[k]? = some n) (ho : n.path ≠ []) (hop : ¬ n.path <+: p) (hd : Z[j]? = some m) (hf : m.file = false) (hp : p = m.path ++ [x]) : Lk (P.set k (j, x)) (Z.map (moved n.path p)) := by
  have hkl : k < P.length := by rw [L.len]; exact (List.getElem?_eq_some_iff.mp hn).1
  refine ⟨by rw [List.length_set, List.length_map]; exact L.len, fun i a y z hi h1 h2 => ?_⟩
  rw [List.getElem?_map] at h2
  obtain ⟨v, hv, rfl⟩ := Option.map_eq_some_iff.mp h2
  by_cases e : k = i
  · subst e
    rw [List.getElem?_set_self hkl] at h1
    cases h1
    rw [hn] at hv
    cases hv
    refine ⟨moved n.path p m, by rw [List.getElem?_map, hd] <;> rfl, by rw [moved_same.1]; exact hf, ?_⟩
    have : ¬ n.path <+: m.path := fun z => hop (by rw [hp]; exact List.IsPrefix.trans z (List.prefix_append _ _))
    rw [moved_path, moved_path, if_pos (List.prefix_refl _), if_neg this, List.drop_length, List.append_nil, hp]
  · rw [List.getElem?_set_ne e] at h1
    obtain ⟨d, g1, g2, g3⟩ := L.up i a y v hi h1 hv
    refine ⟨moved n.path p d, by rw [List.getElem?_map, g1] <;> rfl, by rw [moved_same.1]; exact g2, ?_⟩
    rw [moved_path, moved_path]
    by_cases h3 : n.path <+: d.path
    · have h4 : n.path <+: v.path := by rw [g3]; exact List.IsPrefix.trans h3 (List.prefix_append _ _)
      rw [if_pos h3, if_pos h4, g3, List.drop_append_of_le_length h3.length_le, List.append_assoc]
    · have h4 : ¬ n.path <+: v.path := fun z => by
        rw [g3] at z
        rcases List.prefix_concat_iff.mp z with z | z
        · rw [← g3] at z
          exact e (at_inj W.dist hn hv z)
        · exact h3 z
      rw [if_neg h3, if_neg h4, g3]
end
/-! ### sorted texts -/
theorem ltCps_iff : ∀ (a b : List Nat), PySem.Spec.ltCps a b = decide (a < b)
  | [], [] => by simp [PySem.Spec.ltCps]
  | [], _ :: _ => by simp [PySem.Spec.ltCps]
  | _ :: _, [] => by simp [PySem.Spec.ltCps]
  | a :: r, b :: t => by
    rw [PySem.Spec.ltCps, ltCps_iff r t, Bool.eq_iff_iff]
    simp only [Bool.or_eq_true, Bool.and_eq_true, decide_eq_true_eq, beq_iff_eq, List.cons_lt_cons_iff]
theorem insN_perm (x : Nm) : ∀ l : List Nm, (insN x l).Perm (x :: l)
  | [] => List.Perm.refl _
  | y :: r => by
    unfold insN
    split
    · exact List.Perm.refl _
    · exact (List.Perm.cons y (insN_perm x r)).trans (List.Perm.swap x y r)
theorem sortN_perm : ∀ l : List Nm, (sortN l).Perm l
  | [] => List.Perm.refl _
  | x :: l => (insN_perm x (sortN l)).trans (List.Perm.cons x (sortN_perm l))
theorem insN_sorted (x : Nm) : ∀ {l : List Nm}, l.Pairwise (· ≤ ·) → (insN x l).Pairwise (· ≤ ·)
  | [], _ => List.pairwise_singleton _ _
  | y :: r, h => by
    obtain ⟨h1, h2⟩ := List.pairwise_cons.mp h
    unfold insN
    split
    · rename_i c
      have cxy : x ≤ y := List.not_lt.mp fun z => List.lt_irrefl x (List.lt_trans c z)
      exact List.pairwise_cons.mpr ⟨fun z hz => (List.mem_cons.mp hz).elim (fun e => by rw [e]; exact cxy) fun e => List.le_trans cxy (h1 z e), h⟩
    · rename_i c
      have cyx : y ≤ x := List.not_lt.mp c
      refine List.pairwise_cons.mpr ⟨fun z hz => ?_, insN_sorted x h2⟩
      rcases List.mem_cons.mp ((insN_perm x r).mem_iff.mp hz) with e | e
      · rw [e]; exact cyx
      · exact h1 z e
theorem sortN_sorted : ∀ l : List Nm, (sortN l).Pairwise (· ≤ ·)
  | [] => List.Pairwise.nil
  | x :: l => insN_sorted x (sortN_sorted l)
theorem rising_sorted : ∀ (l : List Str) (p : Str), PyProof.Rows.risingS p l = true → ((p :: l).map TL.tl).Pairwise (· ≤ ·)
  | [], p, _ => List.pairwise_singleton _ _
  | x :: l, p, h => by
    unfold PyProof.Rows.risingS at h
    rw [Bool.and_eq_true, Bool.not_eq_true', ltCps_iff, decide_eq_false_iff_not] at h
    have ih := rising_sorted l x h.2
    have px : TL.tl p ≤ TL.tl x := List.not_lt.mp h.1
    rw [List.map_cons]
    refine List.pairwise_cons.mpr ⟨fun z hz => ?_, ih⟩
    rw [List.map_cons] at hz ih
    rcases List.mem_cons.mp hz with e | e
    · rw [e]; exact px
    · exact List.le_trans px ((List.pairwise_cons.mp ih).1 z e)
theorem sorted_is {ys : List Str} {xs : List Nm} (hp : ys.Perm (xs.map S)) (hs : PyProof.Rows.sortedS ys = true) : ys = (sortN xs).map S := by
  have h1 : (ys.map TL.tl).Pairwise (· ≤ ·) := by
    cases ys with
    | nil => exact List.Pairwise.nil
    | cons y r => exact rising_sorted r y hs
  have h2 : (ys.map TL.tl).Perm (sortN xs) := by
    have := hp.map TL.tl
    rw [map_S_tl] at this
    exact this.trans (sortN_perm xs).symm
  have h3 := h2.eq_of_pairwise (fun a b _ _ h1 h2 => List.le_antisymm h1 h2) h1 (sortN_sorted xs)
  rw [← h3, List.map_map]
  have : ∀ l : List Str, l = l.map (S ∘ TL.tl) := fun l => by
    induction l with
    | nil => rfl
    | cons a l ih =>
      rw [List.map_cons, ← ih]
      show a :: l = S a.cps.toList :: l
      rw [S_tl]
  exact this ys
theorem sortN_same {l m : List Nm} (h : l.Perm m) : sortN l = sortN m :=
  (((sortN_perm l).trans h).trans (sortN_perm m).symm).eq_of_pairwise (fun a b _ _ h1 h2 => List.le_antisymm h1 h2) (sortN_sorted l) (sortN_sorted m)
end Ah
/-! How the state lies in the heap: the program's tree, the law's list of lists. -/
namespace Ah
open PySem PySem.Spec PyProof.Rows L2 He SX
/-! ### fields by places -/
def ixF : List Str → Str → Option Nat
  | [], _ => none
  | a :: r, m => if a = m then some 0 else (ixF r m).map (· + 1)
theorem zget : ∀ {ns : List Str} {vs : List V} {m : Str} {i : Nat} {v : V}, ixF ns m = some i → vs[i]? = some v → (ns.zip vs).lookup m = some v
  | [], _, _, _, _, h, _ => by cases h
  | a :: r, [], _, _, _, _, h => by simp at h
  | a :: r, x :: vs, m, i, v, h, hv => by
    unfold ixF at h
    rw [List.zip_cons_cons, List.lookup_cons]
    by_cases e : a = m
    · rw [if_pos e] at h
      cases h
      subst e
      simp only [beq_self_eq_true]
      simpa using hv
    · rw [if_neg e] at h
      obtain ⟨j, h1, rfl⟩ := Option.map_eq_some_iff.mp h
      have : (m == a) = false := beq_eq_false_iff_ne.mpr (Ne.symm e)
      rw [this]
      exact zget h1 (by simpa using hv)
theorem znone : ∀ {ns : List Str} {vs : List V} {m : Str}, ixF ns m = none → (ns.zip vs).lookup m = none
  | [], _, _, _ => rfl
  | a :: r, [], _, _ => rfl
  | a :: r, x :: vs, m, h => by
    unfold ixF at h
    rw [List.zip_cons_cons, List.lookup_cons]
    by_cases e : a = m
    · rw [if_pos e] at h
      cases h
    · rw [if_neg e] at h
      have h1 : ixF r m = none := by simpa using h
      have : (m == a) = false := beq_eq_false_iff_ne.mpr (Ne.symm e)
      rw [this]
      exact znone h1
theorem zput0 : ∀ {ns : List Str} {vs : List V} {m : Str} {i : Nat} {v : V}, ixF ns m = some i → i < vs.length → putF m v (ns.zip vs) = ns.zip (vs.set i v)
  | [], _, _, _, _, h, _ => by cases h
  | a :: r, [], _, _, _, _, h => by simp at h
  | a :: r, x :: vs, m, i, v, h, hv => by
    unfold ixF at h
    rw [List.zip_cons_cons]
    unfold putF
    by_cases e : a = m
    · rw [if_pos e] at h
      cases h
      rw [if_pos e] <;> rfl
    · rw [if_neg e] at h
      obtain ⟨j, h1, rfl⟩ := Option.map_eq_some_iff.mp h
      rw [if_neg e, zput0 h1 (by simpa using hv)] <;> rfl
theorem zput {ns : List Str} {vs : List V} {m : Str} {i : Nat} {v : V} (h : ixF ns m = some i) (hv : Nat.ble (i + 1) vs.length = true := by rfl) : putF m v (ns.zip vs) = ns.zip (vs.set i v) := zput0 h (Nat.le_of_ble_eq_true hv)
theorem znew : ∀ {ns : List Str} {vs : List V} {m : Str} {v : V}, ixF ns m = none → ns.length = vs.length → putF m v (ns.zip vs) = (ns ++ [m]).zip (vs ++ [v])
  | [], [], _, _, _, _ => rfl
  | [], _ :: _, _, _, _, h => by cases h
  | a :: r, [], _, _, _, h => by cases h
  | a :: r, x :: vs, m, v, h, hl => by
    unfold ixF at h
    rw [List.zip_cons_cons]
    unfold putF
    by_cases e : a = m
    · rw [if_pos e] at h
      cases h
    · rw [if_neg e] at h
      have h1 : ixF r m = none := by simpa using h
      rw [if_neg e, znew h1 (Nat.succ.inj hl)] <;> rfl
theorem zlen {ns : List Str} {vs : List V} (h : ns.length ≤ 10) : (ns.zip vs).length < 1000 := by
  rw [List.length_zip]
  omega
def FF : List Str := ["_pieces", "_sealed", "_length"]
def FD : List Str := ["_limit", "_entries"]
def FT : List Str := ["_nodes", "_places"]
def FS : List Str := ["_applied", "_clients", "_tree"]
abbrev fFile (l : Addr) (s : Bool) (n : Int) : List (Str × V) := FF.zip [.ref l, .bl s, .int n]
abbrev fDir (l : V) (e : Addr) : List (Str × V) := FD.zip [l, .ref e]
abbrev fTree (n p : Addr) : List (Str × V) := FT.zip [.ref n, .ref p]
abbrev fSpace (n : Int) (c t : Addr) : List (Str × V) := FS.zip [.int n, .ref c, .ref t]
theorem fF0 : ixF FF "_pieces" = some 0 := by decide +kernel
theorem fF1 : ixF FF "_sealed" = some 1 := by decide +kernel
theorem fF2 : ixF FF "_length" = some 2 := by decide +kernel
theorem fD0 : ixF FD "_limit" = some 0 := by decide +kernel
theorem fD1 : ixF FD "_entries" = some 1 := by decide +kernel
theorem fT0 : ixF FT "_nodes" = some 0 := by decide +kernel
theorem fT1 : ixF FT "_places" = some 1 := by decide +kernel
theorem fS0 : ixF FS "_applied" = some 0 := by decide +kernel
theorem fS1 : ixF FS "_clients" = some 1 := by decide +kernel
theorem fS2 : ixF FS "_tree" = some 2 := by decide +kernel
theorem putF_len {f : Str} {v : V} : ∀ {fs : List (Str × V)}, (putF f v fs).length ≤ fs.length + 1
  | [] => by unfold putF; exact Nat.le_refl _
  | (g, x) :: r => by
    unfold putF
    split
    · rw [List.length_cons, List.length_cons]; omega
    · have := putF_len (f := f) (v := v) (fs := r)
      rw [List.length_cons, List.length_cons]; omega
theorem putF_few {f : Str} {v : V} {fs : List (Str × V)} {n : Nat} (h : fs.length ≤ n) (h2 : n < 500) : (putF f v fs).length < 1000 := by
  have := putF_len (f := f) (v := v) (fs := fs)
  omega
theorem init3 {a b c : Str} {x y z : V} (h1 : ixF [a] b = none) (h2 : ixF [a, b] c = none) : putF c z (putF b y (putF a x [])) = [a, b, c].zip [x, y, z] := by
  rw [show putF a x [] = [a].zip [x] from rfl, znew h1 rfl]
  exact znew h2 rfl
theorem init2 {a b : Str} {x y : V} (h1 : ixF [a] b = none) : putF b y (putF a x []) = [a, b].zip [x, y] := by
  rw [show putF a x [] = [a].zip [x] from rfl]
  exact znew h1 rfl
/-! ### data -/
mutual
def isV (H : Hp) : D → V → Prop
  | .i n, v => v = .int n
  | .s x, v => v = .str x
  | .t l, v => ∃ a vs, v = .ref a ∧ H a = some (.tup vs) ∧ isVs H l vs
def isVs (H : Hp) : List D → List V → Prop
  | [], vs => vs = []
  | d :: l, vs => ∃ v r, vs = v :: r ∧ isV H d v ∧ isVs H l r
end
def TupK (H H' : Hp) : Prop := ∀ b xs, H b = some (.tup xs) → H' b = some (.tup xs)
theorem TupK.refl (H : Hp) : TupK H H := fun _ _ h => h
theorem TupK.trans {H H1 H2 : Hp} (a : TupK H H1) (b : TupK H1 H2) : TupK H H2 := fun c xs h => b c xs (a c xs h)
theorem Same.tup {H H' : Hp} (s : Same H H') : TupK H H' := fun b xs h => s b _ h
mutual
theorem isV.keep {H H' : Hp} (k : TupK H H') : ∀ {d : D} {v : V}, isV H d v → isV H' d v
  | .i _, _, h => h
  | .s _, _, h => h
  | .t l, v, h => by
    unfold isV at h ⊢
    obtain ⟨a, vs, e, ha, hr⟩ := h
    exact ⟨a, vs, e, k _ _ ha, isVs.keep k hr⟩
theorem isVs.keep {H H' : Hp} (k : TupK H H') : ∀ {l : List D} {vs : List V}, isVs H l vs → isVs H' l vs
  | [], _, h => h
  | d :: l, vs, h => by
    unfold isVs at h ⊢
    obtain ⟨v, r, e, h1, h2⟩ := h
    exact ⟨v, r, e, isV.keep k h1, isVs.keep k h2⟩
end
theorem isVs.nil {H : Hp} : isVs H [] [] := by unfold isVs; rfl
theorem isVs.cons {H : Hp} {d : D} {l : List D} {v : V} {vs : List V} (h1 : isV H d v) (h2 : isVs H l vs) : isVs H (d :: l) (v :: vs) := by
  unfold isVs
  exact ⟨v, vs, rfl, h1, h2⟩
theorem isV.int {H : Hp} {n : Int} : isV H (.i n) (.int n) := by unfold isV; rfl
theorem isV.str {H : Hp} {x : Str} : isV H (.s x) (.str x) := by unfold isV; rfl
theorem isV.tup {H : Hp} {l : List D} {a : Addr} {vs : List V} (h : H a = some (.tup vs)) (r : isVs H l vs) : isV H (.t l) (.ref a) := by
  unfold isV
  exact ⟨a, vs, rfl, h, r⟩
theorem isVs.length {H : Hp} : ∀ {l : List D} {vs : List V}, isVs H l vs → vs.length = l.length
  | [], vs, h => by unfold isVs at h; rw [h] <;> rfl
  | d :: l, vs, h => by
    unfold isVs at h
    obtain ⟨v, r, e, _, h2⟩ := h
    rw [e, List.length_cons, List.length_cons, isVs.length h2]
theorem isVs.get {H : Hp} : ∀ {l : List D} {vs : List V} {i : Nat} {d : D}, isVs H l vs → l[i]? = some d → ∃ v, vs[i]? = some v ∧ isV H d v
  | [], _, _, _, _, h => by simp at h
  | a :: l, vs, i, d, h, hd => by
    unfold isVs at h
    obtain ⟨v, r, e, h1, h2⟩ := h
    subst e
    cases i with
    | zero =>
      have : a = d := by simpa using hd
      subst this
      exact ⟨v, rfl, h1⟩
    | succ i => exact isVs.get (l := l) (i := i) h2 (by simpa using hd)
theorem isVs.app {H : Hp} : ∀ {l m : List D} {vs us : List V}, isVs H l vs → isVs H m us → isVs H (l ++ m) (vs ++ us)
  | [], m, vs, us, h, g => by unfold isVs at h; rw [h]; exact g
  | d :: l, m, vs, us, h, g => by
    unfold isVs at h
    obtain ⟨v, r, e, h1, h2⟩ := h
    subst e
    exact isVs.cons h1 (isVs.app h2 g)
theorem isVs.set {H : Hp} : ∀ {l : List D} {vs : List V} {i : Nat} {d : D} {v : V}, isVs H l vs → isV H d v → isVs H (l.set i d) (vs.set i v)
  | [], vs, i, d, v, h, g => by unfold isVs at h; rw [h]; exact isVs.nil
  | a :: l, vs, i, d, v, h, g => by
    unfold isVs at h
    obtain ⟨u, r, e, h1, h2⟩ := h
    subst e
    cases i with
    | zero => exact isVs.cons g h2
    | succ i => exact isVs.cons h1 (isVs.set h2 g)
theorem TupK.new {H : Hp} {p : Addr} {o : HO} (h : H p = none) : TupK H (upd H p o) := fun b xs e => by
  rw [upd_ne (ne_of_none e h)]
  exact e
theorem TupK.upd {H : Hp} {p : Addr} {o : HO} (h : ∀ xs, H p ≠ some (.tup xs)) : TupK H (upd H p o) := fun b xs e => by
  rw [upd_ne fun z => h xs (by rw [← z]; exact e)]
  exact e
/-! ### steps -/
/-- what is not at fp stays; what comes to fp' is new -/
structure Post (fp fp' : List Addr) (H H' : Hp) : Prop where
  keep : ∀ b o, H b = some o → b ∉ fp → H' b = some o
  tup : TupK H H'
  new : ∀ b ∈ fp', b ∈ fp ∨ H b = none
theorem Post.same {fp : List Addr} {H H' : Hp} (s : Same H H') : Post fp fp H H' := ⟨fun b o h _ => s b o h, Same.tup s, fun _ h => .inl h⟩
theorem Post.trans {fp fp1 fp2 : List Addr} {H H1 H2 : Hp} (a : Post fp fp1 H H1) (b : Post fp1 fp2 H1 H2) : Post fp fp2 H H2 where
  keep := fun c o h hc => b.keep c o (a.keep c o h hc) fun z => (a.new c z).elim hc fun e => by rw [h] at e; cases e
  tup := a.tup.trans b.tup
  new := fun c hc => (b.new c hc).elim (a.new c) fun e => by
    by_cases z : c ∈ fp
    · exact .inl z
    · refine .inr ?_
      cases q : H c with
      | none => rfl
      | some o =>
        rw [a.keep c o q z] at e
        cases e
/-! ### the program's tree -/
structure Gh where
  t : Addr
  nl : Addr
  pl : Addr
  na : List Addr
  sb : List Addr
  P : List (Nat × Nm)
def Gh.fp (g : Gh) : List Addr := g.t :: g.nl :: g.pl :: (g.na ++ g.sb)
def limV : Option Int → V
  | some m => .int m
  | none => .non
structure KidsAt (P : List (Nat × Nm)) (k : Nat) (kvs : List (Key × V)) : Prop where
  nd : (kvs.map (·.1)).Nodup
  mem : ∀ key v, (key, v) ∈ kvs ↔ ∃ (x : Nm) (j : Nat), 0 < j ∧ P[j]? = some (k, x) ∧ key = Sum.inr (S x) ∧ v = .int (j : Int)
def NodeAt (K : PySem.W.Frag) (H : Hp) (P : List (Nat × Nm)) (k : Nat) (a b : Addr) (n : Nd) : Prop :=
  if n.file = true then ∃ dx vs, H a = some (.ins (ga K "File") dx (fFile b n.shut (n.size : Int))) ∧ H b = some (.lst vs) ∧ isVs H (n.pcs.map Pc.d) vs
  else ∃ dx kvs, H a = some (.ins (ga K "Directory") dx (fDir (limV n.lim) b)) ∧ H b = some (.dK kvs) ∧ KidsAt P k kvs
def plD (p : Nat × Nm) : D := .t [.i (p.1 : Int), .s (S p.2)]
structure TreeAt (K : PySem.W.Frag) (H : Hp) (g : Gh) (Z : Tr) : Prop where
  lk : Lk g.P Z
  lna : g.na.length = Z.length
  lsb : g.sb.length = Z.length
  nd : g.fp.Nodup
  tr : ∃ dx, H g.t = some (.ins (ga K "Tree") dx (fTree g.nl g.pl))
  nls : H g.nl = some (.lst (g.na.map V.ref))
  pls : ∃ pa, H g.pl = some (.lst pa) ∧ isVs H (g.P.map plD) pa
  node : ∀ (k : Nat) (a b : Addr) (n : Nd), g.na[k]? = some a → g.sb[k]? = some b → Z[k]? = some n → NodeAt K H g.P k a b n
section
variable {K : PySem.W.Frag} {H H' : Hp} {g : Gh} {Z : Tr} {P : List (Nat × Nm)} {k : Nat} {a b : Addr} {n m : Nd}
theorem NodeAt.keep (h : NodeAt K H P k a b n) (ha : ∀ o, H a = some o → H' a = some o) (hb : ∀ o, H b = some o → H' b = some o) (t : TupK H H') : NodeAt K H' P k a b n := by
  unfold NodeAt at h ⊢
  split
  · rename_i hf
    rw [if_pos hf] at h
    obtain ⟨dx, vs, h1, h2, h3⟩ := h
    exact ⟨dx, vs, ha _ h1, hb _ h2, h3.keep t⟩
  · rename_i hf
    rw [if_neg hf] at h
    obtain ⟨dx, kvs, h1, h2, h3⟩ := h
    exact ⟨dx, kvs, ha _ h1, hb _ h2, h3⟩
theorem Gh.mem_na (h : g.na[k]? = some a) : a ∈ g.fp := List.mem_cons_of_mem _ (List.mem_cons_of_mem _ (List.mem_cons_of_mem _ (List.mem_append_left _ (List.mem_of_getElem? h))))
theorem Gh.mem_sb (h : g.sb[k]? = some b) : b ∈ g.fp := List.mem_cons_of_mem _ (List.mem_cons_of_mem _ (List.mem_cons_of_mem _ (List.mem_append_right _ (List.mem_of_getElem? h))))
theorem Gh.mem_t : g.t ∈ g.fp := List.mem_cons_self
theorem Gh.mem_nl : g.nl ∈ g.fp := List.mem_cons_of_mem _ List.mem_cons_self
theorem Gh.mem_pl : g.pl ∈ g.fp := List.mem_cons_of_mem _ (List.mem_cons_of_mem _ List.mem_cons_self)
theorem TreeAt.frame (T : TreeAt K H g Z) (h : ∀ b o, b ∈ g.fp → H b = some o → H' b = some o) (t : TupK H H') : TreeAt K H' g Z := by
  obtain ⟨dx, ht⟩ := T.tr
  obtain ⟨pa, hp, hv⟩ := T.pls
  exact ⟨T.lk, T.lna, T.lsb, T.nd, ⟨dx, h _ _ Gh.mem_t ht⟩, h _ _ Gh.mem_nl T.nls, ⟨pa, h _ _ Gh.mem_pl hp, hv.keep t⟩, fun k a b n ha hb hn => (T.node k a b n ha hb hn).keep (fun o => h a o (Gh.mem_na ha)) (fun o => h b o (Gh.mem_sb hb)) t⟩
theorem TreeAt.same (T : TreeAt K H g Z) (s : Same H H') : TreeAt K H' g Z := T.frame (fun b o _ h => s b o h) (Same.tup s)
/-- a node by its number -/
theorem TreeAt.at (T : TreeAt K H g Z) (h : Z[k]? = some n) : ∃ a b, g.na[k]? = some a ∧ g.sb[k]? = some b ∧ NodeAt K H g.P k a b n := by
  have hl := (List.getElem?_eq_some_iff.mp h).1
  have h1 : g.na[k]? = some (g.na[k]'(by rw [T.lna]; exact hl)) := List.getElem?_eq_getElem _
  have h2 : g.sb[k]? = some (g.sb[k]'(by rw [T.lsb]; exact hl)) := List.getElem?_eq_getElem _
  exact ⟨_, _, h1, h2, T.node _ _ _ _ h1 h2 h⟩
theorem NodeAt.fileE (h : NodeAt K H P k a b n) (hf : n.file = true) : ∃ dx vs, H a = some (.ins (ga K "File") dx (fFile b n.shut (n.size : Int))) ∧ H b = some (.lst vs) ∧ isVs H (n.pcs.map Pc.d) vs := by
  unfold NodeAt at h
  rw [if_pos hf] at h
  exact h
theorem NodeAt.dirE (h : NodeAt K H P k a b n) (hf : n.file = false) : ∃ dx kvs, H a = some (.ins (ga K "Directory") dx (fDir (limV n.lim) b)) ∧ H b = some (.dK kvs) ∧ KidsAt P k kvs := by
  unfold NodeAt at h
  rw [if_neg (by rw [hf]; decide)] at h
  exact h
/-- the addresses differ -/
theorem TreeAt.ne_na {k j : Nat} {a c : Addr} (T : TreeAt K H g Z) (h1 : g.na[k]? = some a) (h2 : g.na[j]? = some c) (ne : k ≠ j) : a ≠ c := by
  have nd := (List.nodup_append.mp (List.nodup_cons.mp (List.nodup_cons.mp (List.nodup_cons.mp T.nd).2).2).2).1
  rintro rfl
  exact ne (nd_ix nd h1 h2)
theorem TreeAt.ne_sb {k j : Nat} {a c : Addr} (T : TreeAt K H g Z) (h1 : g.sb[k]? = some a) (h2 : g.sb[j]? = some c) (ne : k ≠ j) : a ≠ c := by
  have nd := (List.nodup_append.mp (List.nodup_cons.mp (List.nodup_cons.mp (List.nodup_cons.mp T.nd).2).2).2).2.1
  rintro rfl
  exact ne (nd_ix nd h1 h2)
theorem TreeAt.ne_ns {k j : Nat} {a c : Addr} (T : TreeAt K H g Z) (h1 : g.na[k]? = some a) (h2 : g.sb[j]? = some c) : a ≠ c := by
  have h := (List.nodup_append.mp (List.nodup_cons.mp (List.nodup_cons.mp (List.nodup_cons.mp T.nd).2).2).2).2.2
  exact h a (List.mem_of_getElem? h1) c (List.mem_of_getElem? h2)
theorem TreeAt.top {c : Addr} (T : TreeAt K H g Z) (h : c ∈ g.na ++ g.sb) : c ≠ g.t ∧ c ≠ g.nl ∧ c ≠ g.pl := by
  obtain ⟨h1, h2⟩ := List.nodup_cons.mp T.nd
  obtain ⟨h3, h4⟩ := List.nodup_cons.mp h2
  obtain ⟨h5, _⟩ := List.nodup_cons.mp h4
  refine ⟨?_, ?_, ?_⟩
  · rintro rfl
    exact h1 (List.mem_cons_of_mem _ (List.mem_cons_of_mem _ h))
  · rintro rfl
    exact h3 (List.mem_cons_of_mem _ h)
  · rintro rfl
    exact h5 h
theorem TreeAt.nlpl (T : TreeAt K H g Z) : g.t ≠ g.nl ∧ g.t ≠ g.pl ∧ g.nl ≠ g.pl := by
  obtain ⟨h1, h2⟩ := List.nodup_cons.mp T.nd
  obtain ⟨h3, _⟩ := List.nodup_cons.mp h2
  refine ⟨fun z => h1 ?_, fun z => h1 ?_, fun z => h3 ?_⟩
  · rw [z]; exact List.mem_cons_self
  · rw [z]; exact List.mem_cons_of_mem _ List.mem_cons_self
  · rw [z]; exact List.mem_cons_self
/-- a node changed where it is -/
theorem TreeAt.setN (T : TreeAt K H g Z) (ha : g.na[k]? = some a) (hb : g.sb[k]? = some b) (hn : Z[k]? = some n) (hp : m.path = n.path) (hf : m.file = n.file) (keep : ∀ c o, c ≠ a → c ≠ b → H c = some o → H' c = some o) (t : TupK H H')
    (new : NodeAt K H' g.P k a b m) : TreeAt K H' g (Z.set k m) := by
  have hkl := (List.getElem?_eq_some_iff.mp hn).1
  obtain ⟨a1, a2, a3⟩ := T.top (List.mem_append_left _ (List.mem_of_getElem? ha))
  obtain ⟨b1, b2, b3⟩ := T.top (List.mem_append_right _ (List.mem_of_getElem? hb))
  obtain ⟨dx, ht⟩ := T.tr
  obtain ⟨pa, hpl, hv⟩ := T.pls
  refine ⟨lk_set T.lk hn hp hf, by rw [List.length_set]; exact T.lna, by rw [List.length_set]; exact T.lsb, T.nd, ⟨dx, keep _ _ a1.symm b1.symm ht⟩, keep _ _ a2.symm b2.symm T.nls, ⟨pa, keep _ _ a3.symm b3.symm hpl, hv.keep t⟩, ?_⟩
  intro j c d z hc hd hz
  by_cases e : k = j
  · subst e
    rw [ha] at hc
    rw [hb] at hd
    rw [List.getElem?_set_self hkl] at hz
    cases hc
    cases hd
    cases hz
    exact new
  · rw [List.getElem?_set_ne e] at hz
    exact (T.node j c d z hc hd hz).keep (fun o => keep c o (T.ne_na hc ha (Ne.symm e)) (T.ne_ns hc hb)) (fun o => keep d o (T.ne_ns ha hd).symm (T.ne_sb hd hb (Ne.symm e))) t
end
/-! ### the law's list -/
structure Lg where
  a : Addr
  la : List Addr
  pb : List Addr
def Lg.fp (g : Lg) : List Addr := g.a :: (g.la ++ g.pb)
def b2 (b : Bool) : Int := if b then 1 else 0
def rowV (y : Addr) (n : Nd) : List V := [.int (b2 n.file), .str (S (pcat n.path)), .ref y, .bl n.shut, .int (n.lim.getD (-1)), .int (n.size : Int)]
structure LawAt (H : Hp) (g : Lg) (Z : Tr) : Prop where
  lla : g.la.length = Z.length
  lpb : g.pb.length = Z.length
  nd : g.fp.Nodup
  top : H g.a = some (.lst (g.la.map V.ref))
  row : ∀ (k : Nat) (x y : Addr) (n : Nd), g.la[k]? = some x → g.pb[k]? = some y → Z[k]? = some n → H x = some (.lst (rowV y n)) ∧ ∃ vs, H y = some (.lst vs) ∧ isVs H (n.pcs.map Pc.d) vs
section
variable {H H' : Hp} {g : Lg} {Z : Tr} {k : Nat} {x y : Addr} {n m : Nd}
theorem Lg.mem_la (h : g.la[k]? = some x) : x ∈ g.fp := List.mem_cons_of_mem _ (List.mem_append_left _ (List.mem_of_getElem? h))
theorem Lg.mem_pb (h : g.pb[k]? = some y) : y ∈ g.fp := List.mem_cons_of_mem _ (List.mem_append_right _ (List.mem_of_getElem? h))
theorem Lg.mem_a : g.a ∈ g.fp := List.mem_cons_self
theorem LawAt.frame (T : LawAt H g Z) (h : ∀ b o, b ∈ g.fp → H b = some o → H' b = some o) (t : TupK H H') : LawAt H' g Z :=
  ⟨T.lla, T.lpb, T.nd, h _ _ Lg.mem_a T.top, fun k x y n hx hy hn => by
    obtain ⟨h1, vs, h2, h3⟩ := T.row k x y n hx hy hn
    exact ⟨h _ _ (Lg.mem_la hx) h1, vs, h _ _ (Lg.mem_pb hy) h2, h3.keep t⟩⟩
theorem LawAt.same (T : LawAt H g Z) (s : Same H H') : LawAt H' g Z := T.frame (fun b o _ h => s b o h) (Same.tup s)
theorem LawAt.at (T : LawAt H g Z) (h : Z[k]? = some n) : ∃ x y, g.la[k]? = some x ∧ g.pb[k]? = some y ∧ H x = some (.lst (rowV y n)) ∧ ∃ vs, H y = some (.lst vs) ∧ isVs H (n.pcs.map Pc.d) vs := by
  have hl := (List.getElem?_eq_some_iff.mp h).1
  have h1 : g.la[k]? = some (g.la[k]'(by rw [T.lla]; exact hl)) := List.getElem?_eq_getElem _
  have h2 : g.pb[k]? = some (g.pb[k]'(by rw [T.lpb]; exact hl)) := List.getElem?_eq_getElem _
  exact ⟨_, _, h1, h2, T.row _ _ _ _ h1 h2 h⟩
theorem LawAt.ne_la {j : Nat} {c : Addr} (T : LawAt H g Z) (h1 : g.la[k]? = some x) (h2 : g.la[j]? = some c) (ne : k ≠ j) : x ≠ c := by
  have nd := (List.nodup_append.mp (List.nodup_cons.mp T.nd).2).1
  rintro rfl
  exact ne (nd_ix nd h1 h2)
theorem LawAt.ne_pb {j : Nat} {c : Addr} (T : LawAt H g Z) (h1 : g.pb[k]? = some x) (h2 : g.pb[j]? = some c) (ne : k ≠ j) : x ≠ c := by
  have nd := (List.nodup_append.mp (List.nodup_cons.mp T.nd).2).2.1
  rintro rfl
  exact ne (nd_ix nd h1 h2)
theorem LawAt.ne_lp {j : Nat} {c : Addr} (T : LawAt H g Z) (h1 : g.la[k]? = some x) (h2 : g.pb[j]? = some c) : x ≠ c :=
  (List.nodup_append.mp (List.nodup_cons.mp T.nd).2).2.2 x (List.mem_of_getElem? h1) c (List.mem_of_getElem? h2)
theorem LawAt.ne_a {c : Addr} (T : LawAt H g Z) (h : c ∈ g.la ++ g.pb) : c ≠ g.a := by
  rintro rfl
  exact (List.nodup_cons.mp T.nd).1 h
/-- a row changed where it is -/
theorem LawAt.setR (T : LawAt H g Z) (hx : g.la[k]? = some x) (hy : g.pb[k]? = some y) (hn : Z[k]? = some n) (keep : ∀ c o, c ≠ x → c ≠ y → H c = some o → H' c = some o) (t : TupK H H')
    (new : H' x = some (.lst (rowV y m)) ∧ ∃ vs, H' y = some (.lst vs) ∧ isVs H' (m.pcs.map Pc.d) vs) : LawAt H' g (Z.set k m) := by
  have hkl := (List.getElem?_eq_some_iff.mp hn).1
  refine ⟨by rw [List.length_set]; exact T.lla, by rw [List.length_set]; exact T.lpb, T.nd, keep _ _ (T.ne_a (List.mem_append_left _ (List.mem_of_getElem? hx))).symm (T.ne_a (List.mem_append_right _ (List.mem_of_getElem? hy))).symm T.top, ?_⟩
  intro j c d z hc hd hz
  by_cases e : k = j
  · subst e
    rw [hx] at hc
    rw [hy] at hd
    rw [List.getElem?_set_self hkl] at hz
    cases hc
    cases hd
    cases hz
    exact new
  · rw [List.getElem?_set_ne e] at hz
    obtain ⟨h1, vs, h2, h3⟩ := T.row j c d z hc hd hz
    exact ⟨keep c _ (T.ne_la hc hx (Ne.symm e)) (T.ne_lp hc hy) h1, vs, keep d _ (T.ne_lp hx hd).symm (T.ne_pb hd hy (Ne.symm e)) h2, h3.keep t⟩
end
end Ah
/-! Small forms of rules that come often. -/
namespace Ah
open PySem PySem.Spec PyProof.Rows L2 He SX
section
variable {K : PySem.W.Frag} {H : Hp} {Q : VK}
theorem isi_ss {x : Str} {q : Prop} (h : q) : ClsV (.ty "str") (.type "str") ∧ TyX K H (.str x) (.type "str") ∧ PySem.W.kitOne K (.type "str") (.type "str") = some true ∧ q := ⟨.ty _, .base (.str x), kit_ty (by decide +kernel), h⟩
theorem isi_is {n : Int} {q : Prop} (h : q) : ClsV (.ty "str") (.type "str") ∧ TyX K H (.int n) (.type "int") ∧ PySem.W.kitOne K (.type "int") (.type "str") = some false ∧ q := ⟨.ty _, .base (.int n), kit_ty (by decide +kernel), h⟩
theorem isi_ii {n : Int} {q : Prop} (h : q) : ClsV (.ty "int") (.type "int") ∧ TyX K H (.int n) (.type "int") ∧ PySem.W.kitOne K (.type "int") (.type "int") = some true ∧ q := ⟨.ty _, .base (.int n), kit_ty (by decide +kernel), h⟩
theorem isi_si {x : Str} {q : Prop} (h : q) : ClsV (.ty "int") (.type "int") ∧ TyX K H (.str x) (.type "str") ∧ PySem.W.kitOne K (.type "str") (.type "int") = some false ∧ q := ⟨.ty _, .base (.str x), kit_ty (by decide +kernel), h⟩
theorem isi_ib {n : Int} {q : Prop} (h : q) : ClsV (.ty "bool") (.type "bool") ∧ TyX K H (.int n) (.type "int") ∧ PySem.W.kitOne K (.type "int") (.type "bool") = some false ∧ q := ⟨.ty _, .base (.int n), kit_ty (by decide +kernel), h⟩
theorem isi_it {n : Int} {q : Prop} (h : q) : ClsV (.ty "tuple") (.type "tuple") ∧ TyX K H (.int n) (.type "int") ∧ PySem.W.kitOne K (.type "int") (.type "tuple") = some false ∧ q := ⟨.ty _, .base (.int n), kit_ty (by decide +kernel), h⟩
theorem isi_st {x : Str} {q : Prop} (h : q) : ClsV (.ty "tuple") (.type "tuple") ∧ TyX K H (.str x) (.type "str") ∧ PySem.W.kitOne K (.type "str") (.type "tuple") = some false ∧ q := ⟨.ty _, .base (.str x), kit_ty (by decide +kernel), h⟩
theorem isi_tt {a : Addr} {xs : List V} (e : H a = some (.tup xs)) {q : Prop} (h : q) : ClsV (.ty "tuple") (.type "tuple") ∧ TyX K H (.ref a) (.type "tuple") ∧ PySem.W.kitOne K (.type "tuple") (.type "tuple") = some true ∧ q := ⟨.ty _, .base (.tup e), kit_ty (by decide +kernel), h⟩
theorem isi_ts {a : Addr} {xs : List V} (e : H a = some (.tup xs)) {q : Prop} (h : q) : ClsV (.ty "str") (.type "str") ∧ TyX K H (.ref a) (.type "tuple") ∧ PySem.W.kitOne K (.type "tuple") (.type "str") = some false ∧ q := ⟨.ty _, .base (.tup e), kit_ty (by decide +kernel), h⟩
variable {w : World} {mg : Str → Option Value} {a dx : Addr} {fs : List (Str × V)}
theorem isi_FF (T : Tx w K mg) (e : H a = some (.ins (ga K "File") dx fs)) {q : Prop} (h : q) : ClsV (.ref (ga K "File")) (.ref (ga K "File")) ∧ TyX K H (.ref a) (.ref (ga K "File")) ∧ PySem.W.kitOne K (.ref (ga K "File")) (.ref (ga K "File")) = some true ∧ q := ⟨.own _, T.ty_File e, T.kit_File_File, h⟩
theorem isi_DF (T : Tx w K mg) (e : H a = some (.ins (ga K "Directory") dx fs)) {q : Prop} (h : q) : ClsV (.ref (ga K "File")) (.ref (ga K "File")) ∧ TyX K H (.ref a) (.ref (ga K "Directory")) ∧ PySem.W.kitOne K (.ref (ga K "Directory")) (.ref (ga K "File")) = some false ∧ q := ⟨.own _, T.ty_Directory e, T.kit_Directory_File, h⟩
theorem isi_FD (T : Tx w K mg) (e : H a = some (.ins (ga K "File") dx fs)) {q : Prop} (h : q) : ClsV (.ref (ga K "Directory")) (.ref (ga K "Directory")) ∧ TyX K H (.ref a) (.ref (ga K "File")) ∧ PySem.W.kitOne K (.ref (ga K "File")) (.ref (ga K "Directory")) = some false ∧ q := ⟨.own _, T.ty_File e, T.kit_File_Directory, h⟩
theorem isi_DD (T : Tx w K mg) (e : H a = some (.ins (ga K "Directory") dx fs)) {q : Prop} (h : q) : ClsV (.ref (ga K "Directory")) (.ref (ga K "Directory")) ∧ TyX K H (.ref a) (.ref (ga K "Directory")) ∧ PySem.W.kitOne K (.ref (ga K "Directory")) (.ref (ga K "Directory")) = some true ∧ q := ⟨.own _, T.ty_Directory e, T.kit_Directory_Directory, h⟩
end
/-- len of an instance -/
theorem call_lenO {X : Cx} {k j : Nat} {C f : Addr} {sp : Sp} (hm : Meth X.K C "__len__" f) (cl : Cal X.prog X.w X.K X.mg X.base k f sp) (hr : Room j X.A) (hk : k + 1 ≤ j) :
    CallR X (.builtin "len") (fun xs H Q => ∃ a dx fs, xs = [.ref a] ∧ H a = some (.ins C dx fs) ∧ sp [.ref a] H (fun v H' => ∃ n : Nat, v = .int n ∧ n ≤ sizeLine ∧ Q (.int n) H') E0) := by
  intro pins s σ H xs us Q I r h
  obtain ⟨a, dx, fs, rfl, ha, q⟩ := h
  obtain ⟨u, rfl, ru⟩ := vals1 r
  cases ru
  exact len_ok I ha hm cl (hr.mono hk) q
theorem fold_rep (l : List Nat) : ∀ (n : Nat) (acc : Array Nat), (List.replicate n l.toArray).foldl (· ++ ·) acc = acc ++ ((List.replicate n l).flatten).toArray
  | 0, acc => by simp
  | n + 1, acc => by
    rw [List.replicate_succ, List.foldl_cons, fold_rep l n, List.replicate_succ, List.flatten_cons]
    simp
/-- text times a positive number -/
theorem op_mulS {X : Cx} : OpR X (binaryOp .Mult) (fun x y H Q => ∃ (l : List Nat) (n : Nat), x = .str (S l) ∧ y = .int n ∧ 2 ≤ n ∧ n ≤ 1000 ∧ l.length * n ≤ 1000 ∧ Q (.str (S ((List.replicate n l).flatten))) H) := by
  intro pins s σ H x y v u Q I rx ry h
  obtain ⟨l, n, rfl, rfl, h2, h3, hl, q⟩ := h
  obtain ⟨t, rfl⟩ := rx
  obtain ⟨t', rfl⟩ := ry
  have h4 : l.length ≤ 1000 := Nat.le_trans (Nat.le_mul_of_pos_right l.length (by omega)) hl
  have hz : (S l).length = l.length := SX.S_len l
  have e1 : ((n : Int) == 1) = false := by
    rw [beq_eq_false_iff_ne]
    omega
  have nlt : ¬ (n : Int) < 1 := by omega
  have ef : (⟨(List.replicate n (S l).cps).foldl (· ++ ·) #[]⟩ : Str) = S ((List.replicate n l).flatten) := by
    show (⟨(List.replicate n l.toArray).foldl (· ++ ·) #[]⟩ : Str) = _
    rw [fold_rep]
    simp [S]
  refine P.mul_str ?_ (fun _ _ => ?_) (fun _ _ => ?_) ?_
  · rw [decide_eq_false (by omega), decide_eq_false (by omega)] <;> rfl
  · have : (1000 : Int) ≤ (2 ^ 63 - 1) / (n : Int) := by
      rw [Int.le_ediv_iff_mul_le (by omega)]
      have : (n : Int) ≤ 1000 := by omega
      omega
    rw [hz]
    omega
  · rw [Int.toNat_natCast, hz]
    unfold PySem.Builtin.Str.tooLong
    exact decide_eq_false (by rw [sizeLine_eq]; omega)
  · rw [if_neg nlt, e1]
    by_cases h0 : l = []
    · subst h0
      have e2 : ((S []).length == 0) = true := rfl
      rw [e2]
      have ee : (List.replicate n ([] : List Nat)).flatten = [] := by simp
      rw [ee] at q
      exact ⟨.str _, _, I, ⟨_, rfl⟩, q⟩
    · have e2 : ((S l).length == 0) = false := by
        rw [beq_eq_false_iff_ne, hz]
        exact fun z => h0 (List.length_eq_zero_iff.mp z)
      rw [e2]
      show (Made.str _).post _ _
      rw [Int.toNat_natCast, ef]
      refine ⟨?_, ⟨.str _, _, I.tok _, ⟨_, rfl⟩, q⟩⟩
      rw [SX.S_len, sizeLine_eq]
      simp
      rw [Nat.mul_comm]
      omega
/-- a loop over a text -/
theorem for_str {x : Str} {g : TG} {tb : TS} {D : Ends} {σ : L2.St} {H : Hp} (Pv : Nat → L2.St → Hp → Prop) (h0 : Pv 0 σ H)
    (hs : ∀ i c σ H, x.cps[i]? = some c → Pv i σ H → g (.str ⟨#[c]⟩) σ H fun σ2 H2 => tb { D with nx := Pv (i + 1), ct := Pv (i + 1), bk := D.nx } σ2 H2) (hd : ∀ σ H, Pv x.cps.size σ H → D.nx σ H) :
    ∃ W : Nat → Nat → L2.St → Hp → Prop, (∃ m, W 0 m σ H) ∧ ∀ i m σ H, W i m σ H →
      ((Its x).stop i H ∧ D.nx σ H) ∨ ((Its x).go i H ∧ ∃ N : L2.St → Hp → Prop, (∀ σ' H', N σ' H' → ∃ m', m' < m ∧ W (i + 1) m' σ' H') ∧ ∀ v H', (Its x).yld i H v H' → g v σ H' fun σ2 H2 => tb { D with nx := N, ct := N, bk := D.nx } σ2 H2) := by
  refine ⟨fun i m σ H => m = x.cps.size - i ∧ i ≤ x.cps.size ∧ Pv i σ H, ⟨x.cps.size, rfl, Nat.zero_le _, h0⟩, ?_⟩
  rintro i m σ H ⟨rfl, hi, p⟩
  by_cases hlt : i < x.cps.size
  · refine .inr ⟨hlt, Pv (i + 1), fun σ' H' p' => ⟨x.cps.size - (i + 1), by omega, rfl, hlt, p'⟩, fun v H' y => ?_⟩
    obtain ⟨e, c, hc, ev⟩ := y
    subst e ev
    exact hs i c σ _ hc p
  · have e : i = x.cps.size := by omega
    subst e
    exact .inl ⟨Nat.le_refl _, hd σ H p⟩
/-! ### defs that may raise -/
structure CalX (P : Program) (w : World) (K : PySem.W.Frag) (mg : Str → Option Value) (base : Heap) (k : Nat) (f : Addr) (sp : Sp) : Prop where
  ex : ∃ (fd : FuncData) (ps : List Str), FnOk P w K mg base (L2N.CX P w) k f fd ps sp ∧ PySem.W.keepIn K (.ref f) = true ∧ Binds K fd ps []
def SpX (S1 : V → Hp → VK → XK → Prop) : Sp := fun vs H Q E => match vs with | [a] => S1 a H Q E | _ => False
theorem mkX {P : Program} {w : World} {K : PySem.W.Frag} {mg : Str → Option Value} {base : Heap} {x qual : Str} {st : Stmt} {f : Addr} {N : List Str} {k : Nat} {S1 : V → Hp → VK → XK → Prop} {a : Str}
    (F : ∃ fd, FunD K x qual (defArgs st) (defBody st) (defScope st) [] [] f fd) (S : FnScope N [a] (defScope st))
    (hb : ∀ (kV doc pm : Value) (an : Option Addr) (cdv ct u : Value), bindArgs (PySem.W.fnOf x qual (defArgs st) (defBody st) (defScope st) .none kV doc pm an cdv ct) ⟨[u], []⟩ = pure [(a, u)])
    (hbody : ∀ (cdv : Value) (A : Around) (outer : List Env) (s : Shared) (H : Hp) (E : XK) (va : V) (Q : VK), Room k (A.deeper (envOfC qual (defScope st) s.heap.objs.size f cdv)) → S1 va H Q E →
      ∃ t, PSs (cxOf (L2N.CX P w) P w K mg base N qual (defScope st) f cdv A outer s H E) (defBody st) t ∧ t { nx := fun _ H' => Q .non H', rt := Q } (start N [va]) H) : CalX P w K mg base (k + 1) f (SpX S1) := by
  obtain ⟨fd, F⟩ := F
  refine ⟨fd, [a], F.ok S (fun vs H Q E h => ?_) fun cdv A outer s H vs Q E hr h => ?_, F.kp, F.bindsN fun kV doc pm an cdv ct us hl => match us, hl with | [u], _ => hb kV doc pm an cdv ct u⟩
  · match vs, h with | [_], _ => rfl
  · match vs, h with | [va], h => exact hbody cdv A outer s H E va Q hr h
theorem pcallX {X : Cx} {k j : Nat} {f : Addr} {x : Str} {sp : Sp} {p pos : Pos} {e : Expr} {es : List Expr} {t : TA} {W : WX} (c : CalX X.prog X.w X.K X.mg X.base k f sp) (hr : Room j X.A) (hk : k ≤ j) (hg : Gl X x) (hm : X.mg x = some (.ref f)) (tk : L2N.Takes X W) (ha : PA X (e :: es) t)
    (hdb : (x == ("__debug__" : Str)) = false := by decide) (he : starEach (e :: es) X.env = (false, eval e X.env) :: starEach es X.env := by rfl) (hpl : (backTo pos (starEach es X.env)).any (·.1) = false := by rfl) :
    PE X (.Call (.Name x p) (e :: es) [] pos) (tCallS sp (WE W) t) := by
  obtain ⟨fd, ps, F, kp, b⟩ := c.ex
  exact pe_callS F (hr.mono hk) hg hm kp b (fun σ => L2N.passAt tk σ) ha hdb he hpl
end Ah
/-! Files and directories. -/
namespace Ah
open PySem PySem.Spec PyProof.Rows L2 He SX
section
variable {P : Program} {w : World} {K : PySem.W.Frag} {mg : Str → Option Value} {base : Heap}
def P_File___init__ (K : PySem.W.Frag) (a : V) (H : Hp) (Q : VK) : Prop := ∃ x dx, a = .ref x ∧ H x = some (.ins (ga K "File") dx []) ∧
  ∀ l, H l = none → Q .non (upd (upd H l (.lst [])) x (.ins (ga K "File") dx (fFile l false 0)))
abbrev N_File___init__ : List Str := ["self"]
theorem sc_File___init__ : FnScope N_File___init__ ["self"] (defScope s_File___init__) := ⟨rfl, rfl, rfl, by decide +kernel, rfl, by decide +kernel, by decide +kernel⟩
theorem ok_File___init__ (T : Tx w K mg) : Cal P w K mg base 1 (fAd K ("File", some "__init__")) (Sp1 (P_File___init__ K)) := by
  refine mk1 (k := 0) T.fd_File___init__ sc_File___init__ (fun _ _ _ _ _ _ _  => rfl) fun cdv A outer s H E va Q hr h => ?_
  have hu := hu_of hr
  obtain ⟨x, dx, rfl, hx, k⟩ := h
  refine ⟨_, (pss_cons (ps_fld (pv 0) (pe_lst pa_nil) rfl)
      (pss_cons (ps_fld (pv 0) pe_bl rfl)
      (pss_one (ps_fld (pv 0) pe_int rfl)))), ?_⟩
  refine ⟨Nat.zero_le _, fun l hl => ?_⟩
  have nl : x ≠ l := ne_of_none hx hl
  refine ⟨_, rfl, x, _, dx, _, rfl, (by rw [upd_ne nl]; exact hx), T.c_File, T.n_File_pieces, (by show 0 < 1000; decide), ?_⟩
  refine ⟨_, rfl, x, _, dx, _, rfl, upd_same, T.c_File, T.n_File_sealed, (by show 1 < 1000; decide), ?_⟩
  refine ⟨_, rfl, x, _, dx, _, rfl, upd_same, T.c_File, T.n_File_length, putF_few (n := 1) (by exact Nat.le_refl 1) (by decide), ?_⟩
  rw [init3 (by decide +kernel) (by decide +kernel), upd_upd, upd_upd]
  exact k l hl
def P_File_pieces (K : PySem.W.Frag) (a : V) (H : Hp) (Q : VK) : Prop := ∃ x dx l s n vs, a = .ref x ∧ H x = some (.ins (ga K "File") dx (fFile l s n)) ∧ H l = some (.lst vs) ∧ ∀ t, H t = none → Q (.ref t) (upd H t (.tup vs))
abbrev N_File_pieces : List Str := ["self"]
theorem sc_File_pieces : FnScope N_File_pieces ["self"] (defScope s_File_pieces) := ⟨rfl, rfl, rfl, by decide +kernel, rfl, by decide +kernel, by decide +kernel⟩
theorem ok_File_pieces (T : Tx w K mg) : Cal P w K mg base 1 (gAd K Ah.p_File_pieces) (Sp1 (P_File_pieces K)) := by
  refine mk1 (k := 0) T.pr_File_pieces.2 sc_File_pieces (fun _ _ _ _ _ _ _  => rfl) fun cdv A outer s H E va Q hr h => ?_
  have hu := hu_of hr
  obtain ⟨x, dx, l, sh, n, vs, rfl, hx, hl, k⟩ := h
  refine ⟨_, (pss_one (ps_ret (pe_callTy call_tuple_of (by rfl) T.f_tuple (by decide +kernel) (pa_cons (pe_fld (pv 0) rfl) pa_nil)))), ?_⟩
  exact ⟨_, rfl, x, _, dx, _, _, rfl, hx, T.c_File, T.n_File_pieces, zget fF0 rfl, l, vs, rfl, .inl ⟨SqL.of hl, k⟩⟩
def P_File_sealed (K : PySem.W.Frag) (a : V) (H : Hp) (Q : VK) : Prop := ∃ x dx l s n, a = .ref x ∧ H x = some (.ins (ga K "File") dx (fFile l s n)) ∧ Q (.bl s) H
abbrev N_File_sealed : List Str := ["self"]
theorem sc_File_sealed : FnScope N_File_sealed ["self"] (defScope s_File_sealed) := ⟨rfl, rfl, rfl, by decide +kernel, rfl, by decide +kernel, by decide +kernel⟩
theorem ok_File_sealed (T : Tx w K mg) : Cal P w K mg base 1 (gAd K Ah.p_File_sealed) (Sp1 (P_File_sealed K)) := by
  refine mk1 (k := 0) T.pr_File_sealed.2 sc_File_sealed (fun _ _ _ _ _ _ _  => rfl) fun cdv A outer s H E va Q hr h => ?_
  have hu := hu_of hr
  obtain ⟨x, dx, l, sh, n, rfl, hx, k⟩ := h
  refine ⟨_, (pss_one (ps_ret (pe_fld (pv 0) rfl))), ?_⟩
  exact ⟨_, rfl, x, _, dx, _, _, rfl, hx, T.c_File, T.n_File_sealed, zget fF1 rfl, k⟩
def P_File_length (K : PySem.W.Frag) (a : V) (H : Hp) (Q : VK) : Prop := ∃ x dx l s n, a = .ref x ∧ H x = some (.ins (ga K "File") dx (fFile l s n)) ∧ Q (.int n) H
abbrev N_File_length : List Str := ["self"]
theorem sc_File_length : FnScope N_File_length ["self"] (defScope s_File_length) := ⟨rfl, rfl, rfl, by decide +kernel, rfl, by decide +kernel, by decide +kernel⟩
theorem ok_File_length (T : Tx w K mg) : Cal P w K mg base 1 (gAd K Ah.p_File_length) (Sp1 (P_File_length K)) := by
  refine mk1 (k := 0) T.pr_File_length.2 sc_File_length (fun _ _ _ _ _ _ _  => rfl) fun cdv A outer s H E va Q hr h => ?_
  have hu := hu_of hr
  obtain ⟨x, dx, l, sh, n, rfl, hx, k⟩ := h
  refine ⟨_, (pss_one (ps_ret (pe_fld (pv 0) rfl))), ?_⟩
  exact ⟨_, rfl, x, _, dx, _, _, rfl, hx, T.c_File, T.n_File_length, zget fF2 rfl, k⟩
def P_File_add_piece (K : PySem.W.Frag) (a b : V) (H : Hp) (Q : VK) : Prop := ∃ x dx l s n vs q u1 u2 u3 tx, a = .ref x ∧ b = .ref q ∧ H x = some (.ins (ga K "File") dx (fFile l s n)) ∧ H l = some (.lst vs) ∧ H q = some (.tup [u1, u2, u3, .str tx]) ∧
  tx.length ≤ 1000 ∧ vs.length ≤ 1000 ∧ Q (.int n) (upd (upd H l (.lst (vs ++ [.ref q]))) x (.ins (ga K "File") dx (fFile l s (n + tx.length))))
abbrev N_File_add_piece : List Str := ["self", "piece", "offset"]
theorem sc_File_add_piece : FnScope N_File_add_piece ["self", "piece"] (defScope s_File_add_piece) := ⟨rfl, rfl, rfl, by decide +kernel, rfl, by decide +kernel, by decide +kernel⟩
theorem ok_File_add_piece (T : Tx w K mg) : Cal P w K mg base 1 (fAd K ("File", some "add_piece")) (Sp2 (P_File_add_piece K)) := by
  refine mk2 (k := 0) T.fd_File_add_piece sc_File_add_piece (fun _ _ _ _ _ _ _ _  => rfl) fun cdv A outer s H E va vb Q hr h => ?_
  have hu := hu_of hr
  obtain ⟨x, dx, l, sh, n, vs, q, u1, u2, u3, tx, rfl, rfl, hx, hl, hq, ht, hv, k⟩ := h
  refine ⟨_, (pss_cons (ps_set (i := 2) sc_File_add_piece.nd rfl (Or.inl rfl) (pe_fld (pv 0) rfl))
      (pss_cons (ps_expr (pe_bm PySem.F.plainAttrs_list PySem.F.slot_list_append PySem.F.type_list_append mt_append (pe_fld (pv 0) rfl) (pa_cons (pv 1) pa_nil)))
      (pss_cons (ps_fldaug (pv 0) (pe_callB call_len_str (by rfl) T.f_len (by decide +kernel) (pa_cons (pe_ix ix_tup (pv 1) pe_int (fun _ _ => rfl)) pa_nil)) in_add)
      (pss_one (ps_ret (pv 2)))))), ?_⟩
  have nx : x ≠ l := ne_of hx hl (by intro z; cases z)
  have nq : q ≠ l := ne_of hq hl (by intro z; cases z)
  refine ⟨_, rfl, x, _, dx, _, _, rfl, hx, T.c_File, T.n_File_length, zget fF2 rfl, ?_⟩
  refine ⟨_, rfl, x, _, dx, _, _, rfl, hx, T.c_File, T.n_File_pieces, zget fF0 rfl, .inl ⟨rfl, _, SqL.of hl⟩, _, rfl, l, _, _, rfl, rfl, hl, small1000 hv, ?_⟩
  have hx' : ∀ o, (upd H l o) x = some (.ins (ga K "File") dx (fFile l sh n)) := fun o => by rw [upd_ne nx]; exact hx
  refine ⟨_, rfl, x, _, dx, _, _, rfl, hx' _, T.c_File, T.n_File_length, zget fF2 rfl, _, rfl, q, _, _, _, rfl, rfl, SqT.of (by rw [upd_ne nq]; exact hq), atI_nat (j := 3) rfl, tx, rfl, Nat.le_trans ht (by decide), _, _, rfl, rfl, dx, _, hx' _, zlen (by decide), ?_⟩
  rw [zput fF2]
  exact ⟨_, rfl, k⟩
def P_File_seal (K : PySem.W.Frag) (a : V) (H : Hp) (Q : VK) : Prop := ∃ x dx l s n, a = .ref x ∧ H x = some (.ins (ga K "File") dx (fFile l s n)) ∧ Q .non (upd H x (.ins (ga K "File") dx (fFile l true n)))
abbrev N_File_seal : List Str := ["self"]
theorem sc_File_seal : FnScope N_File_seal ["self"] (defScope s_File_seal) := ⟨rfl, rfl, rfl, by decide +kernel, rfl, by decide +kernel, by decide +kernel⟩
theorem ok_File_seal (T : Tx w K mg) : Cal P w K mg base 1 (fAd K ("File", some "seal")) (Sp1 (P_File_seal K)) := by
  refine mk1 (k := 0) T.fd_File_seal sc_File_seal (fun _ _ _ _ _ _ _  => rfl) fun cdv A outer s H E va Q hr h => ?_
  have hu := hu_of hr
  obtain ⟨x, dx, l, sh, n, rfl, hx, k⟩ := h
  refine ⟨_, (pss_one (ps_fld (pv 0) pe_bl rfl)), ?_⟩
  refine ⟨_, rfl, x, _, dx, _, rfl, hx, T.c_File, T.n_File_sealed, zlen (by decide), ?_⟩
  rw [zput fF1]
  exact k
def P_File_sealed_copy (K : PySem.W.Frag) (a : V) (H : Hp) (Q : VK) : Prop := ∃ (x dx l : Addr) (s : Bool) (n : Int) (vs : List V) (ps : List Pc), a = .ref x ∧ H x = some (.ins (ga K "File") dx (fFile l s n)) ∧ H l = some (.lst vs) ∧ isVs H (ps.map Pc.d) vs ∧
  (∀ p ∈ ps, p.tx.length ≤ 200) ∧ ps.length ≤ 900 ∧ ∀ c dc l' H', H c = none → H l' = none → c ≠ l' → Same H H' → H' c = some (.ins (ga K "File") dc (fFile l' true (((ps.map fun p => p.tx.length).sum : Nat) : Int))) → H' l' = some (.lst vs) → Q (.ref c) H'
abbrev N_File_sealed_copy : List Str := ["self", "copied", "piece"]
theorem sc_File_sealed_copy : FnScope N_File_sealed_copy ["self"] (defScope s_File_sealed_copy) := ⟨rfl, rfl, rfl, by decide +kernel, rfl, by decide +kernel, by decide +kernel⟩
theorem ok_File_sealed_copy (T : Tx w K mg) : Cal P w K mg base 4 (fAd K ("File", some "sealed_copy")) (Sp1 (P_File_sealed_copy K)) := by
  refine mk1 (k := 3) T.fd_File_sealed_copy sc_File_sealed_copy (fun _ _ _ _ _ _ _  => rfl) fun cdv A outer s H E va Q hr h => ?_
  have hu := hu_of hr
  obtain ⟨x, dx, l, sh, n, vs, ps, rfl, hx, hl, hv, hp, hn, k⟩ := h
  refine ⟨_, (pss_cons (ps_set (i := 1) sc_File_sealed_copy.nd rfl (Or.inl rfl) (pmake0 T.mk_File (ok_File___init__ T) hr (by decide) rfl T.g_File))
      (pss_cons (ps_for PassesOwn.never rfl (pi_list (pe_fld (pv 0) rfl)) (pg_name (i := 2) sc_File_sealed_copy.nd rfl (Or.inl rfl))
      (pss_one (ps_expr (pmeth T.c_File T.m_File_add_piece (ok_File_add_piece T) hr (by decide) (pv 1) (pa_cons (pv 2) pa_nil)))))
      (pss_cons (ps_expr (pmeth0 T.c_File T.m_File_seal (ok_File_seal T) hr (by decide) (pv 1)))
      (pss_one (ps_ret (pv 1)))))), ?_⟩
  intro c dc nc ndc ne
  have s0 : Same H (upd (upd H dc (.own c)) c (.ins (ga K "File") dc [])) := fun b o e => by
    rw [upd_ne (ne_of_none e nc), upd_ne (ne_of_none e ndc)]
    exact e
  refine ⟨c, dc, rfl, upd_same, fun l' hl' => ⟨rfl, ?_⟩⟩
  have ncl : c ≠ l' := fun z => by rw [z, upd_same] at hl'; cases hl'
  have nl' : H l' = none := s0.free hl'
  -- the turns
  have elen := hv.length
  rw [List.length_map] at elen
  have hx1 : (upd (upd (upd (upd H dc (.own c)) c (.ins (ga K "File") dc [])) l' (.lst [])) c (.ins (ga K "File") dc (fFile l' false 0))) x = some (.ins (ga K "File") dx (fFile l sh n)) := by
    rw [upd_ne (ne_of_none hx nc), upd_ne (ne_of_none hx nl')]
    exact s0 _ _ hx
  refine ⟨_, rfl, x, _, dx, _, _, rfl, hx1, T.c_File, T.n_File_pieces, zget fF0 rfl, l, rfl, ⟨vs, SqL.of ?_⟩, for_list (K := K) (a := l) (xs := vs) (fun i σ H2 => ∃ v : Option V, σ = [some (.ref x), some (.ref c), v] ∧ Same H H2 ∧
    H2 c = some (.ins (ga K "File") dc (fFile l' false ((((ps.take i).map fun p => p.tx.length).sum : Nat) : Int))) ∧ H2 l' = some (.lst (vs.take i)))
    ⟨none, rfl, ?_, upd_same, ?_⟩ (fun i σ H2 _ ⟨_, _, s2, _⟩ => SqL.of (s2 _ _ hl)) ?_ ?_⟩
  · rw [upd_ne (ne_of_none hl nc), upd_ne (ne_of_none hl nl')]
    exact s0 _ _ hl
  · intro b o e
    rw [upd_ne (ne_of_none e nc), upd_ne (ne_of_none e nl')]
    exact s0 _ _ e
  · rw [upd_ne (Ne.symm ncl), upd_same] <;> rfl
  · rintro i y σ H2 hi ⟨v, rfl, s2, hc2, hl2⟩
    obtain ⟨hil, egi⟩ := List.getElem?_eq_some_iff.mp hi
    have hpi : ps[i]? = some (ps[i]'(by omega)) := List.getElem?_eq_getElem _
    generalize ps[i]'(by omega) = pc at hpi
    obtain ⟨y', hy1, hy2⟩ := hv.get (i := i) (d := Pc.d pc) (by rw [List.getElem?_map, hpi] <;> rfl)
    rw [hi] at hy1
    cases hy1
    have hy2 := hy2
    unfold Pc.d at hy2
    unfold isV at hy2
    obtain ⟨q, qs, rfl, hq, hqs⟩ := hy2
    unfold isVs at hqs
    obtain ⟨u1, r1, rfl, _, hqs⟩ := hqs
    unfold isVs at hqs
    obtain ⟨u2, r2, rfl, _, hqs⟩ := hqs
    unfold isVs at hqs
    obtain ⟨u3, r3, rfl, _, hqs⟩ := hqs
    unfold isVs at hqs
    obtain ⟨u4, r4, rfl, h4, hqs⟩ := hqs
    unfold isVs at hqs
    subst hqs
    unfold isV at h4
    subst h4
    have hm := hp pc (List.mem_of_getElem? hpi)
    refine ⟨_, rfl, c, dc, _, rfl, hc2, znone (by decide +kernel), _, rfl, c, dc, l', false, _, vs.take i, q, u1, u2, u3, S pc.tx, rfl, rfl, hc2, hl2, s2 _ _ hq, by rw [S_len]; omega, by rw [List.length_take]; omega, ?_⟩
    refine ⟨_, rfl, ?_, ?_, ?_⟩
    · intro b o e
      rw [upd_ne (ne_of_none e nc), upd_ne (ne_of_none e nl')]
      exact s2 _ _ e
    · rw [upd_same, S_len, List.take_add_one, hpi, List.map_append, List.sum_append]
      show some (HO.ins (ga K "File") dc (fFile l' false _)) = some (HO.ins (ga K "File") dc (fFile l' false _))
      congr 4
    · rw [upd_ne (Ne.symm ncl), upd_same, List.take_add_one, hi] <;> rfl
  · rintro σ H2 ⟨v, rfl, s2, hc2, hl2⟩
    rw [List.take_of_length_le (by omega)] at hc2
    rw [List.take_of_length_le (Nat.le_refl _)] at hl2
    refine ⟨_, rfl, c, dc, _, rfl, hc2, znone (by decide +kernel), c, dc, l', false, _, rfl, hc2, ?_⟩
    refine ⟨_, rfl, k c dc l' _ nc nl' ncl ?_ upd_same (by rw [upd_ne (Ne.symm ncl)]; exact hl2)⟩
    intro b o e
    rw [upd_ne (ne_of_none e nc)]
    exact s2 _ _ e
def P_Directory___init__ (K : PySem.W.Frag) (a : V) (H : Hp) (Q : VK) : Prop := ∃ x dx, a = .ref x ∧ H x = some (.ins (ga K "Directory") dx []) ∧
  ∀ e, H e = none → Q .non (upd (upd H e (.dK [])) x (.ins (ga K "Directory") dx (fDir .non e)))
abbrev N_Directory___init__ : List Str := ["self"]
theorem sc_Directory___init__ : FnScope N_Directory___init__ ["self"] (defScope s_Directory___init__) := ⟨rfl, rfl, rfl, by decide +kernel, rfl, by decide +kernel, by decide +kernel⟩
theorem ok_Directory___init__ (T : Tx w K mg) : Cal P w K mg base 1 (fAd K ("Directory", some "__init__")) (Sp1 (P_Directory___init__ K)) := by
  refine mk1 (k := 0) T.fd_Directory___init__ sc_Directory___init__ (fun _ _ _ _ _ _ _  => rfl) fun cdv A outer s H E va Q hr h => ?_
  have hu := hu_of hr
  obtain ⟨x, dx, rfl, hx, k⟩ := h
  refine ⟨_, (pss_cons (ps_fld (pv 0) pe_non rfl)
      (pss_one (ps_fld (pv 0) pe_dnewK rfl))), ?_⟩
  refine ⟨_, rfl, x, _, dx, _, rfl, hx, T.c_Directory, T.n_Directory_limit, (by show 0 < 1000; decide), ?_⟩
  intro e he
  have nxe : x ≠ e := fun z => by rw [z, upd_same] at he; cases he
  refine ⟨_, rfl, x, _, dx, _, rfl, (by rw [upd_ne nxe]; exact upd_same), T.c_Directory, T.n_Directory_entries, (by show 1 < 1000; decide), ?_⟩
  rw [init2 (by decide +kernel)]
  have e1 : upd (upd (upd H x (.ins (ga K "Directory") dx (putF "_limit" .non []))) e (.dK [])) x (.ins (ga K "Directory") dx (fDir .non e)) = upd (upd H e (.dK [])) x (.ins (ga K "Directory") dx (fDir .non e)) := by
    funext b
    unfold upd
    split
    · rfl
    · split
      · rfl
      · rfl
  show Q .non (upd (upd (upd H x (.ins (ga K "Directory") dx (putF "_limit" .non []))) e (.dK [])) x (.ins (ga K "Directory") dx (fDir .non e)))
  rw [e1]
  refine k e ?_
  rw [upd_ne (Ne.symm nxe)] at he
  exact he
def P_Directory_limit (K : PySem.W.Frag) (a : V) (H : Hp) (Q : VK) : Prop := ∃ x dx l e, a = .ref x ∧ H x = some (.ins (ga K "Directory") dx (fDir l e)) ∧ Q l H
abbrev N_Directory_limit : List Str := ["self"]
theorem sc_Directory_limit : FnScope N_Directory_limit ["self"] (defScope s_Directory_limit) := ⟨rfl, rfl, rfl, by decide +kernel, rfl, by decide +kernel, by decide +kernel⟩
theorem ok_Directory_limit (T : Tx w K mg) : Cal P w K mg base 1 (gAd K Ah.p_Directory_limit) (Sp1 (P_Directory_limit K)) := by
  refine mk1 (k := 0) T.pr_Directory_limit.2 sc_Directory_limit (fun _ _ _ _ _ _ _  => rfl) fun cdv A outer s H E va Q hr h => ?_
  have hu := hu_of hr
  obtain ⟨x, dx, l, e, rfl, hx, k⟩ := h
  refine ⟨_, (pss_one (ps_ret (pe_fld (pv 0) rfl))), ?_⟩
  exact ⟨_, rfl, x, _, dx, _, _, rfl, hx, T.c_Directory, T.n_Directory_limit, zget fD0 rfl, k⟩
def P_Directory_set_limit (K : PySem.W.Frag) (a b : V) (H : Hp) (Q : VK) : Prop := ∃ x dx l e, a = .ref x ∧ H x = some (.ins (ga K "Directory") dx (fDir l e)) ∧ Q .non (upd H x (.ins (ga K "Directory") dx (fDir b e)))
abbrev N_Directory_set_limit : List Str := ["self", "most"]
theorem sc_Directory_set_limit : FnScope N_Directory_set_limit ["self", "most"] (defScope s_Directory_set_limit) := ⟨rfl, rfl, rfl, by decide +kernel, rfl, by decide +kernel, by decide +kernel⟩
theorem ok_Directory_set_limit (T : Tx w K mg) : Cal P w K mg base 1 (fAd K ("Directory", some "set_limit")) (Sp2 (P_Directory_set_limit K)) := by
  refine mk2 (k := 0) T.fd_Directory_set_limit sc_Directory_set_limit (fun _ _ _ _ _ _ _ _  => rfl) fun cdv A outer s H E va vb Q hr h => ?_
  have hu := hu_of hr
  obtain ⟨x, dx, l, e, rfl, hx, k⟩ := h
  refine ⟨_, (pss_one (ps_fld (pv 0) (pv 1) rfl)), ?_⟩
  refine ⟨_, rfl, _, rfl, x, _, dx, _, rfl, hx, T.c_Directory, T.n_Directory_limit, zlen (by decide), ?_⟩
  rw [zput fD0]
  exact k
def P_Directory_names (K : PySem.W.Frag) (a : V) (H : Hp) (Q : VK) : Prop := ∃ x dx l e kvs ks, a = .ref x ∧ H x = some (.ins (ga K "Directory") dx (fDir l e)) ∧ H e = some (.dK kvs) ∧ kvs.map (·.1) = ks.map Sum.inr ∧ ks.length < 64 ∧
  ∀ ys p, ys.Perm ks → sortedS ys = true → H p = none → Q (.ref p) (upd H p (.lst (ys.map V.str)))
abbrev N_Directory_names : List Str := ["self"]
theorem sc_Directory_names : FnScope N_Directory_names ["self"] (defScope s_Directory_names) := ⟨rfl, rfl, rfl, by decide +kernel, rfl, by decide +kernel, by decide +kernel⟩
theorem ok_Directory_names (T : Tx w K mg) : Cal P w K mg base 1 (fAd K ("Directory", some "names")) (Sp1 (P_Directory_names K)) := by
  refine mk1 (k := 0) T.fd_Directory_names sc_Directory_names (fun _ _ _ _ _ _ _  => rfl) fun cdv A outer s H E va Q hr h => ?_
  have hu := hu_of hr
  obtain ⟨x, dx, l, e, kvs, ks, rfl, hx, he, hk, hl, k⟩ := h
  refine ⟨_, (pss_one (ps_ret (pe_callB (call_sortedD rfl) (by rfl) T.f_sorted (by decide +kernel) (pa_cons (pe_fld (pv 0) rfl) pa_nil)))), ?_⟩
  exact ⟨_, rfl, x, _, dx, _, _, rfl, hx, T.c_Directory, T.n_Directory_entries, zget fD1 rfl, e, kvs, ks, rfl, Rd.of he, hk, hl, k⟩
def P_Directory_child (K : PySem.W.Frag) (a b : V) (H : Hp) (Q : VK) : Prop := ∃ x dx l e kvs y, a = .ref x ∧ b = .str y ∧ H x = some (.ins (ga K "Directory") dx (fDir l e)) ∧ H e = some (.dK kvs) ∧ Q ((valV kvs (Sum.inr y)).getD .non) H
abbrev N_Directory_child : List Str := ["self", "name"]
theorem sc_Directory_child : FnScope N_Directory_child ["self", "name"] (defScope s_Directory_child) := ⟨rfl, rfl, rfl, by decide +kernel, rfl, by decide +kernel, by decide +kernel⟩
theorem ok_Directory_child (T : Tx w K mg) : Cal P w K mg base 1 (fAd K ("Directory", some "child")) (Sp2 (P_Directory_child K)) := by
  refine mk2 (k := 0) T.fd_Directory_child sc_Directory_child (fun _ _ _ _ _ _ _ _  => rfl) fun cdv A outer s H E va vb Q hr h => ?_
  have hu := hu_of hr
  obtain ⟨x, dx, l, e, kvs, y, rfl, rfl, hx, he, k⟩ := h
  refine ⟨_, (pss_one (ps_ret (pe_dget1 hu (pe_fld (pv 0) rfl) (pv 1) ⟨rfl, rfl, rfl, rfl⟩))), ?_⟩
  exact ⟨_, rfl, x, _, dx, _, _, rfl, hx, T.c_Directory, T.n_Directory_entries, zget fD1 rfl, e, rfl, .inl ⟨kvs, Rd.of he⟩, _, rfl, _, DGet.k (k := Sum.inr y) he, k⟩
def P_Directory_put (K : PySem.W.Frag) (a b c : V) (H : Hp) (Q : VK) : Prop := ∃ x dx l e kvs y, a = .ref x ∧ b = .str y ∧ H x = some (.ins (ga K "Directory") dx (fDir l e)) ∧ H e = some (.dK kvs) ∧ kvs.length ≤ 1000 ∧ Q .non (upd H e (.dK (putK kvs (Sum.inr y) c)))
abbrev N_Directory_put : List Str := ["self", "name", "number"]
theorem sc_Directory_put : FnScope N_Directory_put ["self", "name", "number"] (defScope s_Directory_put) := ⟨rfl, rfl, rfl, by decide +kernel, rfl, by decide +kernel, by decide +kernel⟩
theorem ok_Directory_put (T : Tx w K mg) : Cal P w K mg base 1 (fAd K ("Directory", some "put")) (Sp3 (P_Directory_put K)) := by
  refine mk3 (k := 0) T.fd_Directory_put sc_Directory_put (fun _ _ _ _ _ _ _ _ _  => rfl) fun cdv A outer s H E va vb vc Q hr h => ?_
  have hu := hu_of hr
  obtain ⟨x, dx, l, e, kvs, y, rfl, rfl, hx, he, hl, k⟩ := h
  refine ⟨_, (pss_one (ps_dput hu (pe_fld (pv 0) rfl) (pv 1) (pv 2) rfl)), ?_⟩
  exact ⟨_, rfl, _, rfl, x, _, dx, _, _, rfl, hx, T.c_Directory, T.n_Directory_entries, zget fD1 rfl, _, rfl, e, _, rfl, DPut.k (k := Sum.inr y) he (small1000 hl), k⟩
def P_Directory_take (K : PySem.W.Frag) (a b : V) (H : Hp) (Q : VK) : Prop := ∃ x dx l e kvs y v, a = .ref x ∧ b = .str y ∧ H x = some (.ins (ga K "Directory") dx (fDir l e)) ∧ H e = some (.dK kvs) ∧ valV kvs (Sum.inr y) = some v ∧ Q v (upd H e (.dK (dropK kvs (Sum.inr y))))
abbrev N_Directory_take : List Str := ["self", "name", "number"]
theorem sc_Directory_take : FnScope N_Directory_take ["self", "name"] (defScope s_Directory_take) := ⟨rfl, rfl, rfl, by decide +kernel, rfl, by decide +kernel, by decide +kernel⟩
theorem ok_Directory_take (T : Tx w K mg) : Cal P w K mg base 1 (fAd K ("Directory", some "take")) (Sp2 (P_Directory_take K)) := by
  refine mk2 (k := 0) T.fd_Directory_take sc_Directory_take (fun _ _ _ _ _ _ _ _  => rfl) fun cdv A outer s H E va vb Q hr h => ?_
  have hu := hu_of hr
  obtain ⟨x, dx, l, e, kvs, y, v, rfl, rfl, hx, he, hv, k⟩ := h
  refine ⟨_, (pss_cons (ps_if (pt_cmp (pc_dnotin hu (pv 1) (pe_fld (pv 0) rfl))) (pss_one ps_never) pss_nil)
      (pss_cons (ps_set (i := 2) sc_Directory_take.nd rfl (Or.inl rfl) (pe_dget hu (pe_fld (pv 0) rfl) (pv 1) (fun _ _ => rfl)))
      (pss_cons (ps_ddel (pe_fld (pv 0) rfl) (pv 1))
      (pss_one (ps_ret (pv 2)))))), ?_⟩
  refine ⟨_, rfl, _, rfl, x, _, dx, _, _, rfl, hx, T.c_Directory, T.n_Directory_entries, zget fD1 rfl, e, _, rfl, DGet.k (k := Sum.inr y) he, _, rfl, ?_⟩
  rw [hv]
  refine iteF ?_
  refine ⟨_, rfl, x, _, dx, _, _, rfl, hx, T.c_Directory, T.n_Directory_entries, zget fD1 rfl, _, rfl, e, v, rfl, by rw [← hv]; exact DGet.k (k := Sum.inr y) he, ?_⟩
  exact ⟨_, rfl, x, _, dx, _, _, rfl, hx, T.c_Directory, T.n_Directory_entries, zget fD1 rfl, _, rfl, e, kvs, Sum.inr y, rfl, he, rfl, by rw [hv] <;> rfl, _, rfl, k⟩
end
end Ah
/-! Names, paths, values. -/
namespace Ah
open PySem PySem.Spec PyProof.Rows L2 He SX
theorem lDot : ("." : Str) = S [46] := by decide +kernel
theorem lDot2 : (".." : Str) = S [46, 46] := by decide +kernel
theorem lSl : ("/" : Str) = S [47] := by decide +kernel
theorem lEmp : ("" : Str) = S [] := by decide +kernel
theorem cut_to (l : List Nat) (k : Nat) : cutS (S l) none (some (k : Int)) = S (l.take k) := by
  rw [C8.cutS_slice, SX.slice_to (Int.natCast_nonneg k), Int.toNat_natCast]
theorem cut_from (l : List Nat) (k : Nat) : cutS (S l) (some (k : Int)) none = S (l.drop k) := by
  rw [C8.cutS_slice, SX.slice_from (Int.natCast_nonneg k), Int.toNat_natCast]
theorem iteB {A B : Prop} {b : Bool} (h1 : b = true → A) (h2 : b = false → B) : if b = true then A else B := by
  cases b with
  | true => rw [if_pos rfl]; exact h1 rfl
  | false => rw [if_neg (by decide)]; exact h2 rfl
theorem all_take {α : Type} {l : List α} {M : α → Prop} {i : Nat} {c : α} (h : ∀ x ∈ l.take i, M x) (hc : l[i]? = some c) (m : M c) : ∀ x ∈ l.take (i + 1), M x := fun x hx => by
  rw [List.take_add_one, hc, List.mem_append] at hx
  rcases hx with hx | hx
  · exact h x hx
  · have e : x = c := by simpa using hx
    rw [e]
    exact m
theorem spl_le : ∀ (l acc : List Nat), ∀ x ∈ TL.spl [47] 0 acc l, x.length ≤ acc.length + l.length
  | [], acc, x, h => by
    rw [TL.spl_nil] at h
    rw [List.mem_singleton.mp h]
    exact Nat.le_add_right _ _
  | c :: r, acc, x, h => by
    cases e : TL.pre [47] (c :: r) with
    | true =>
      rw [TL.spl_hit e] at h
      rcases List.mem_cons.mp h with rfl | h
      · exact Nat.le_add_right _ _
      · have := spl_le r [] x h
        rw [List.length_nil] at this
        rw [List.length_cons]
        omega
    | false =>
      rw [TL.spl_miss e] at h
      have := spl_le r _ x h
      rw [List.length_append, List.length_singleton] at this
      rw [List.length_cons]
      omega
def nmV (p : List Nm) : List V := p.map fun n => V.str (S n)
theorem one_lt (c d : Nat) : (decide ((⟨#[c]⟩ : Str).cps.toList < (⟨#[d]⟩ : Str).cps.toList)) = decide (c < d) := by
  show decide ([c] < [d]) = decide (c < d)
  rw [Bool.eq_iff_iff, decide_eq_true_eq, decide_eq_true_eq]
  simp [List.cons_lt_cons_iff]
theorem S_len63 {l : List Nat} {b : Nat} (h : l.length ≤ b) (hb : b ≤ 10000) : (S l).length ≤ sizeLine := by
  rw [S_len, sizeLine_eq]
  omega
def isTx (x : Nm) : Bool := decide (x.length ≤ 200) && x.all fun c => decide (32 ≤ c) && decide (c ≤ 126) && decide (c ≠ 37)
theorem isTx_iff {x : Nm} : isTx x = true ↔ tOk x := by
  unfold isTx tOk
  simp only [Bool.and_eq_true, List.all_eq_true, decide_eq_true_eq]
  exact ⟨fun h => ⟨h.1, fun c hc => ⟨(h.2 c hc).1.1, (h.2 c hc).1.2, (h.2 c hc).2⟩⟩, fun h => ⟨h.1, fun c hc => ⟨⟨(h.2 c hc).1, (h.2 c hc).2.1⟩, (h.2 c hc).2.2⟩⟩⟩
section
variable {P : Program} {w : World} {K : PySem.W.Frag} {mg : Str → Option Value} {base : Heap}
def P_refused (K : PySem.W.Frag) (a : V) (H : Hp) (Q : VK) : Prop := ∃ x, a = .str x ∧ ∀ p, H p = none → Q (.ref p) (upd H p (.tup [.str "refused", .str x]))
abbrev N_refused : List Str := ["word"]
theorem sc_refused : FnScope N_refused ["word"] (defScope s_refused) := ⟨rfl, rfl, rfl, by decide +kernel, rfl, by decide +kernel, by decide +kernel⟩
theorem ok_refused (T : Tx w K mg) : Cal P w K mg base 1 (fAd K ("refused", none)) (Sp1 (P_refused K)) := by
  refine mk1 (k := 0) T.fd_refused sc_refused (fun _ _ _ _ _ _ _  => rfl) fun cdv A outer s H E va Q hr h => ?_
  have hu := hu_of hr
  obtain ⟨x, rfl, k⟩ := h
  refine ⟨_, (pss_one (ps_ret (pe_tup (pa_cons pe_str (pa_cons (pv 0) pa_nil))))), ?_⟩
  exact ⟨_, rfl, by show (2 : Nat) ≤ _; decide, fun p hp => k p hp⟩
def P_is_name (K : PySem.W.Frag) (a : V) (H : Hp) (Q : VK) : Prop := ∃ n : Nm, a = .str (S n) ∧ n.length ≤ 2000 ∧ Q (.bl (isNm n)) H
abbrev N_is_name : List Str := ["thing", "char"]
theorem sc_is_name : FnScope N_is_name ["thing"] (defScope s_is_name) := ⟨rfl, rfl, rfl, by decide +kernel, rfl, by decide +kernel, by decide +kernel⟩
theorem ok_is_name (T : Tx w K mg) : Cal P w K mg base 1 (fAd K ("is_name", none)) (Sp1 (P_is_name K)) := by
  refine mk1 (k := 0) T.fd_is_name sc_is_name (fun _ _ _ _ _ _ _  => rfl) fun cdv A outer s H E va Q hr h => ?_
  have hu := hu_of hr
  obtain ⟨n, rfl, hl, k⟩ := h
  refine ⟨_, (pss_cons (ps_if (PW.pt (pw_or (pt_not (pt_val (pe_callB call_isi (by rfl) T.f_isinstance (by decide +kernel) (pa_cons (pv 0) (pa_cons (pe_bltn (v := .ty "str") (by rfl) T.f_str (by decide +kernel) rfl) pa_nil))))) (pw_or1 (pt_not (pt_chain op_le op_le pe_int (pe_callB call_len_str (by rfl) T.f_len (by decide +kernel) (pa_cons (pv 0) pa_nil)) (C8.pe_gc rfl T.k_NAME_MOST)))))) (pss_one (ps_ret pe_bl)) pss_nil)
      (pss_cons (ps_for PassesOwn.never rfl (pi_str (pv 0)) (pg_name (i := 1) sc_is_name.nd rfl (Or.inl rfl))
      (pss_one (ps_if (pt_cmpR op_notIn_sign (pv 1) (C8.pe_gc rfl T.k_NAME_CHARS) (by rfl)) (pss_one (ps_ret pe_bl)) pss_nil)))
      (pss_one (ps_ret (pe_and (pe_cmpR op_ne (pv 0) pe_str (nomark _)) (pe_one (pe_cmpR op_ne (pv 0) pe_str (nomark _)))))))), ?_⟩
  have no : isNm n = false → Q (.bl false) H := fun e => by rw [e] at k; exact k
  refine ⟨_, rfl, _, _, _, _, _, rfl, isi_ss ⟨_, rfl, iteF ?_⟩⟩
  refine ⟨_, rfl, _, rfl, S_len63 hl (by decide), _, _, rfl, rfl, _, rfl, iteB (fun h1 => ⟨_, _, rfl, rfl, _, rfl, iteB (fun h2 => ?_) (fun h2 => ?_)⟩) (fun h1 => ⟨_, rfl, iteT ?_⟩)⟩
  · refine no (Bool.eq_false_iff.mpr fun z => ?_)
    have z1 := (isNm_iff.mp z).1.2
    rw [S_len] at h2
    simp only [Bool.not_eq_true', decide_eq_false_iff_not] at h2
    omega
  · rw [S_len] at h1 h2
    simp only [Bool.not_eq_false', decide_eq_true_eq] at h1 h2
    refine ⟨_, rfl, _, rfl, for_str (x := S n) (fun i σ H2 => ∃ o : Option V, σ = [some (.str (S n)), o] ∧ H2 = H ∧ ∀ c ∈ n.take i, c ∈ chars) ⟨none, rfl, rfl, fun c hc => by simp at hc⟩ ?_ ?_⟩
    · rintro i c σ H2 hc ⟨o, rfl, rfl, hp⟩
      have hc' : n[i]? = some c := by simpa using hc
      refine ⟨_, rfl, _, _, rfl, rfl, _, rfl, iteB (fun h3 => no ?_) (fun h3 => ⟨_, rfl, rfl, all_take hp hc' ?_⟩)⟩
      · rw [chars_S] at h3
        refine Bool.eq_false_iff.mpr fun z => ?_
        have z1 := (isNm_iff.mp z).2.1 c (List.mem_of_getElem? hc')
        simp [z1] at h3
      · rw [chars_S] at h3
        simpa using h3
    · rintro σ H2 ⟨o, rfl, rfl, hp⟩
      have hp' : ∀ c ∈ n, c ∈ chars := fun c hc => hp c (by rw [show (S n).cps.size = n.length from S_len n, List.take_length]; exact hc)
      refine ⟨_, rfl, rfl, _, rfl, iteB (fun h3 => ⟨_, rfl, rfl, ?_⟩) (fun h3 => no ?_)⟩
      · rw [lDot] at h3
        rw [lDot2]
        have e : isNm n = !decide (V.str (S n) = V.str (S [46, 46])) := by
          have h3' : n ≠ [46] := by
            rintro rfl
            simp at h3
          rw [Bool.eq_iff_iff, isNm_iff]
          simp only [Bool.not_eq_true', decide_eq_false_iff_not, V.str.injEq, S_eq_iff]
          exact ⟨fun z => z.2.2.2, fun z => ⟨⟨by omega, by omega⟩, hp', h3', z⟩⟩
        rw [← e]
        exact k
      · rw [lDot] at h3
        refine Bool.eq_false_iff.mpr fun z => (isNm_iff.mp z).2.2.1 ?_
        simpa [S_eq_iff] using h3
  · rw [S_len] at h1
    refine no (Bool.eq_false_iff.mpr fun z => ?_)
    have z1 := (isNm_iff.mp z).1.1
    simp only [decide_eq_false_iff_not] at h1
    omega
def P_is_integer (K : PySem.W.Frag) (a : V) (H : Hp) (Q : VK) : Prop := (∃ n : Int, a = .int n ∧ Q (.bl (decide (-(10 ^ 18) ≤ n) && decide (n ≤ 10 ^ 18))) H) ∨ (∃ x : Str, a = .str x ∧ Q (.bl false) H)
abbrev N_is_integer : List Str := ["thing"]
theorem sc_is_integer : FnScope N_is_integer ["thing"] (defScope s_is_integer) := ⟨rfl, rfl, rfl, by decide +kernel, rfl, by decide +kernel, by decide +kernel⟩
theorem ok_is_integer (T : Tx w K mg) : Cal P w K mg base 1 (fAd K ("is_integer", none)) (Sp1 (P_is_integer K)) := by
  refine mk1 (k := 0) T.fd_is_integer sc_is_integer (fun _ _ _ _ _ _ _  => rfl) fun cdv A outer s H E va Q hr h => ?_
  have hu := hu_of hr
  refine ⟨_, (pss_cons (ps_if (PW.pt (pw_or (pt_not (pt_val (pe_callB call_isi (by rfl) T.f_isinstance (by decide +kernel) (pa_cons (pv 0) (pa_cons (pe_bltn (v := .ty "int") (by rfl) T.f_int (by decide +kernel) rfl) pa_nil))))) (pw_or1 (pt_val (pe_callB call_isi (by rfl) T.f_isinstance (by decide +kernel) (pa_cons (pv 0) (pa_cons (pe_bltn (v := .ty "bool") (by rfl) T.f_bool (by decide +kernel) rfl) pa_nil))))))) (pss_one (ps_ret pe_bl)) pss_nil)
      (pss_one (ps_ret (pe_chain op_le op_le (pe_un un_neg (C8.pe_gc rfl T.k_NUMBER_MOST)) (pv 0) (C8.pe_gc rfl T.k_NUMBER_MOST))))), ?_⟩
  rcases h with ⟨n, rfl, k⟩ | ⟨x, rfl, k⟩
  · refine ⟨_, rfl, _, _, _, _, _, rfl, isi_ii ⟨_, rfl, iteF ?_⟩⟩
    refine ⟨_, rfl, _, _, _, _, _, rfl, isi_ib ⟨_, rfl, iteF ?_⟩⟩
    refine ⟨_, rfl, _, rfl, _, _, rfl, rfl, _, rfl, iteB (fun h1 => ⟨_, _, rfl, rfl, ?_⟩) (fun h1 => ?_)⟩
    · rw [show (decide (-(10 ^ 18) ≤ n) : Bool) = true from h1] at k
      exact k
    · rw [show (decide (-(10 ^ 18) ≤ n) : Bool) = false from h1] at k
      exact k
  · exact ⟨_, rfl, _, _, _, _, _, rfl, isi_si ⟨_, rfl, iteT k⟩⟩
def P_is_text (K : PySem.W.Frag) (a : V) (H : Hp) (Q : VK) : Prop := (∃ x : Nm, a = .str (S x) ∧ x.length ≤ 2000 ∧ Q (.bl (isTx x)) H) ∨ (∃ n : Int, a = .int n ∧ Q (.bl false) H)
abbrev N_is_text : List Str := ["thing", "char"]
theorem sc_is_text : FnScope N_is_text ["thing"] (defScope s_is_text) := ⟨rfl, rfl, rfl, by decide +kernel, rfl, by decide +kernel, by decide +kernel⟩
theorem ok_is_text (T : Tx w K mg) : Cal P w K mg base 1 (fAd K ("is_text", none)) (Sp1 (P_is_text K)) := by
  refine mk1 (k := 0) T.fd_is_text sc_is_text (fun _ _ _ _ _ _ _  => rfl) fun cdv A outer s H E va Q hr h => ?_
  have hu := hu_of hr
  refine ⟨_, (pss_cons (ps_if (PW.pt (pw_or (pt_not (pt_val (pe_callB call_isi (by rfl) T.f_isinstance (by decide +kernel) (pa_cons (pv 0) (pa_cons (pe_bltn (v := .ty "str") (by rfl) T.f_str (by decide +kernel) rfl) pa_nil))))) (pw_or1 (pt_cmpR op_gt (pe_callB call_len_str (by rfl) T.f_len (by decide +kernel) (pa_cons (pv 0) pa_nil)) (C8.pe_gc rfl T.k_TEXT_MOST) (nomark _))))) (pss_one (ps_ret pe_bl)) pss_nil)
      (pss_cons (ps_for PassesOwn.never rfl (pi_str (pv 0)) (pg_name (i := 1) sc_is_text.nd rfl (Or.inl rfl))
      (pss_one (ps_if (PW.pt (pw_or (pt_cmpR op_lt_str (pv 1) pe_str (nomark _)) (pw_or (pt_cmpR op_gt_str (pv 1) pe_str (nomark _)) (pw_or1 (pt_cmpR op_eq (pe_callB call_ord (by rfl) T.f_ord (by decide +kernel) (pa_cons (pv 1) pa_nil)) (C8.pe_gc rfl T.k_PERCENT) (nomark _)))))) (pss_one (ps_ret pe_bl)) pss_nil)))
      (pss_one (ps_ret pe_bl)))), ?_⟩
  rcases h with ⟨n, rfl, hl, k⟩ | ⟨x, rfl, k⟩
  · have no : isTx n = false → Q (.bl false) H := fun e => by rw [e] at k; exact k
    refine ⟨_, rfl, _, _, _, _, _, rfl, isi_ss ⟨_, rfl, iteF ?_⟩⟩
    refine ⟨_, rfl, _, rfl, S_len63 hl (by decide), _, _, rfl, rfl, _, rfl, iteB (fun h1 => no ?_) (fun h1 => ?_)⟩
    · rw [S_len] at h1
      refine Bool.eq_false_iff.mpr fun z => ?_
      have z1 := (isTx_iff.mp z).1
      simp only [decide_eq_true_eq] at h1
      omega
    · rw [S_len] at h1
      simp only [decide_eq_false_iff_not] at h1
      refine ⟨_, rfl, _, rfl, for_str (x := S n) (fun i σ H2 => ∃ o : Option V, σ = [some (.str (S n)), o] ∧ H2 = H ∧ ∀ c ∈ n.take i, 32 ≤ c ∧ c ≤ 126 ∧ c ≠ 37) ⟨none, rfl, rfl, fun c hc => by simp at hc⟩ ?_ ?_⟩
      · rintro i c σ H2 hc ⟨o, rfl, rfl, hp⟩
        have hc' : n[i]? = some c := by simpa using hc
        have out : ¬ (32 ≤ c ∧ c ≤ 126 ∧ c ≠ 37) → Q (.bl false) H2 := fun z => no (Bool.eq_false_iff.mpr fun y => z ((isTx_iff.mp y).2 c (List.mem_of_getElem? hc')))
        refine ⟨_, rfl, _, _, rfl, rfl, _, rfl, iteB (fun h3 => iteT (out ?_)) (fun h3 => ?_)⟩
        · have h3 : decide (c < 32) = true := (one_lt c 32).symm.trans h3
          simp only [decide_eq_true_eq] at h3
          omega
        have h3 : decide (c < 32) = false := (one_lt c 32).symm.trans h3
        refine ⟨_, rfl, _, _, rfl, rfl, _, rfl, iteB (fun h4 => iteT (out ?_)) (fun h4 => ?_)⟩
        · have h4 : decide (126 < c) = true := (one_lt 126 c).symm.trans h4
          simp only [decide_eq_true_eq] at h4
          omega
        have h4 : decide (126 < c) = false := (one_lt 126 c).symm.trans h4
        refine ⟨_, rfl, _, rfl, rfl, rfl, _, rfl, iteB (fun h5 => out ?_) (fun h5 => ⟨_, rfl, rfl, all_take hp hc' ?_⟩)⟩
        · have h5 : decide (V.int (c : Int) = V.int 37) = true := h5
          simp at h5
          omega
        · have h5 : decide (V.int (c : Int) = V.int 37) = false := h5
          simp at h5 h3 h4
          omega
      · rintro σ H2 ⟨o, rfl, rfl, hp⟩
        have e : isTx n = true := isTx_iff.mpr ⟨by omega, fun c hc => hp c (by rw [show (S n).cps.size = n.length from S_len n, List.take_length]; exact hc)⟩
        rw [e] at k
        exact k
  · exact ⟨_, rfl, _, _, _, _, _, rfl, isi_is ⟨_, rfl, iteT k⟩⟩
def P_check_names (K : PySem.W.Frag) (a : V) (H : Hp) (Q : VK) (E : XK) : Prop := ∃ (p : Addr) (ns : List Nm), a = .ref p ∧ H p = some (.lst (nmV ns)) ∧ (∀ n ∈ ns, n.length ≤ 2000) ∧
  (ns.length ≤ 6 → ns.all isNm = true → Q .non H) ∧ (¬ (ns.length ≤ 6 ∧ ns.all isNm = true) → E (.ref (ga K "BadPath")) none H)
abbrev N_check_names : List Str := ["names", "name"]
theorem sc_check_names : FnScope N_check_names ["names"] (defScope s_check_names) := ⟨rfl, rfl, rfl, by decide +kernel, rfl, by decide +kernel, by decide +kernel⟩
theorem ok_check_names (T : Tx w K mg) : CalX P w K mg base 2 (fAd K ("check_names", none)) (SpX (P_check_names K)) := by
  refine mkX (k := 1) T.fd_check_names sc_check_names (fun _ _ _ _ _ _ _  => rfl) fun cdv A outer s H E va Q hr h => ?_
  have hu := hu_of hr
  obtain ⟨p, ns, rfl, hp, hl, k1, k2⟩ := h
  refine ⟨_, (pss_cons (ps_if (pt_cmpR op_gt (pe_callB call_len_seq (by rfl) T.f_len (by decide +kernel) (pa_cons (pv 0) pa_nil)) (C8.pe_gc rfl T.k_NAMES_MOST) (nomark _)) (pss_one (L2N.ps_raise rfl (L2N.takes_of rfl rfl rfl rfl) (L2N.pmk_own PySem.F.excBase_ValueError T.x_BadPath.1 T.g_BadPath T.x_BadPath.2.1 (raises_own T.x_BadPath.2.2.1 T.x_BadPath.2.2.2) rfl))) pss_nil)
      (pss_one (ps_for (passes_of rfl) rfl (pi_list (pv 0)) (pg_name (i := 1) sc_check_names.nd rfl (Or.inl rfl))
      (pss_one (ps_if (pt_not (pt_val (pcall (ok_is_name T) hr (by decide) rfl T.g_is_name (pa_cons (pv 1) pa_nil)))) (pss_one (L2N.ps_raise rfl (L2N.takes_of rfl rfl rfl rfl) (L2N.pmk_own PySem.F.excBase_ValueError T.x_BadPath.1 T.g_BadPath T.x_BadPath.2.1 (raises_own T.x_BadPath.2.2.1 T.x_BadPath.2.2.2) rfl))) pss_nil))))), ?_⟩
  have el : (nmV ns).length = ns.length := List.length_map _
  refine ⟨_, rfl, p, _, rfl, .inl (SqL.of hp), _, _, rfl, rfl, _, rfl, iteB (fun h1 => k2 ?_) (fun h1 => ?_)⟩
  · rw [el] at h1
    simp only [decide_eq_true_eq] at h1
    exact fun z => by omega
  rw [el] at h1
  simp only [decide_eq_false_iff_not] at h1
  refine ⟨_, rfl, p, rfl, ⟨_, SqL.of hp⟩, for_list (K := K) (a := p) (xs := nmV ns) (fun i σ H2 => ∃ o : Option V, σ = [some (.ref p), o] ∧ H2 = H ∧ ∀ n ∈ ns.take i, isNm n = true) ⟨none, rfl, rfl, fun c hc => by simp at hc⟩ (fun i σ H2 _ ⟨_, _, e, _⟩ => by rw [e]; exact SqL.of hp) ?_ ?_⟩
  · rintro i y σ H2 hy ⟨o, rfl, rfl, hh⟩
    obtain ⟨n, hn, rfl⟩ : ∃ n, ns[i]? = some n ∧ V.str (S n) = y := by
      unfold nmV at hy
      rw [List.getElem?_map] at hy
      exact Option.map_eq_some_iff.mp hy
    refine ⟨_, rfl, n, rfl, hl n (List.mem_of_getElem? hn), _, rfl, iteB (fun h3 => k2 fun z => ?_) (fun h3 => ⟨_, rfl, rfl, all_take hh hn ?_⟩)⟩
    · have := List.all_eq_true.mp z.2 n (List.mem_of_getElem? hn)
      rw [this] at h3
      cases h3
    · simpa using h3
  · rintro σ H2 ⟨o, rfl, rfl, hh⟩
    exact k1 (by omega) (List.all_eq_true.mpr fun n hn => hh n (by rw [el, List.take_length]; exact hn))
def P_split_path (K : PySem.W.Frag) (a : V) (H : Hp) (Q : VK) (E : XK) : Prop := ∃ x : Nm, a = .str (S x) ∧ x.length ≤ 2000 ∧ (∀ ns, split x = some ns → ∀ p, H p = none → Q (.ref p) (upd H p (.lst (nmV ns)))) ∧
  (split x = none → ∀ H', Same H H' → E (.ref (ga K "BadPath")) none H')
abbrev N_split_path : List Str := ["path", "names"]
theorem sc_split_path : FnScope N_split_path ["path"] (defScope s_split_path) := ⟨rfl, rfl, rfl, by decide +kernel, rfl, by decide +kernel, by decide +kernel⟩
theorem ok_split_path (T : Tx w K mg) : CalX P w K mg base 3 (fAd K ("split_path", none)) (SpX (P_split_path K)) := by
  refine mkX (k := 2) T.fd_split_path sc_split_path (fun _ _ _ _ _ _ _  => rfl) fun cdv A outer s H E va Q hr h => ?_
  have hu := hu_of hr
  obtain ⟨x, rfl, hl, k1, k2⟩ := h
  refine ⟨_, (pss_cons (ps_if (PW.pt (pw_or (pt_not (pt_val (pe_callB call_isi (by rfl) T.f_isinstance (by decide +kernel) (pa_cons (pv 0) (pa_cons (pe_bltn (v := .ty "str") (by rfl) T.f_str (by decide +kernel) rfl) pa_nil))))) (pw_or1 (pt_cmpR op_ne (pe_slice sl_str (pv 0) po_none (po_some pe_int)) pe_str (nomark _))))) (pss_one (L2N.ps_raise rfl (L2N.takes_of rfl rfl rfl rfl) (L2N.pmk_own PySem.F.excBase_ValueError T.x_BadPath.1 T.g_BadPath T.x_BadPath.2.1 (raises_own T.x_BadPath.2.2.1 T.x_BadPath.2.2.2) rfl))) pss_nil)
      (pss_cons (ps_if (pt_cmpR op_eq (pv 0) pe_str (nomark _)) (pss_one (ps_ret (pe_lst pa_nil))) pss_nil)
      (pss_cons (ps_set (i := 1) sc_split_path.nd rfl (Or.inl rfl) (pe_split (pe_slice sl_str (pv 0) (po_some pe_int) po_none) pe_str))
      (pss_cons (ps_expr (pcallX (ok_check_names T) hr (by decide) rfl T.g_check_names (L2N.takes_of rfl rfl rfl rfl) (pa_cons (pv 1) pa_nil)))
      (pss_one (ps_ret (pv 1))))))), ?_⟩
  refine ⟨_, rfl, _, _, _, _, _, rfl, isi_ss ⟨_, rfl, iteF ?_⟩⟩
  refine ⟨_, rfl, _, rfl, _, rfl, S_len63 hl (by decide), ?_⟩
  rw [show cutS (S x) none (some 1) = S (x.take 1) from cut_to x 1]
  refine ⟨rfl, _, rfl, iteB (fun h1 => ?_) (fun h1 => ?_)⟩
  · rw [lSl] at h1
    refine k2 ?_ H (Same.refl H)
    match x with
    | [] => rfl
    | c :: r =>
      have : c ≠ 47 := by
        rintro rfl
        simp at h1
      unfold split
      split
      · rename_i e
        cases e
        exact absurd rfl this
      · rfl
  rw [lSl] at h1
  obtain ⟨r, rfl⟩ : ∃ r, x = 47 :: r := by
    match x with
    | [] => simp [S_eq_iff] at h1
    | c :: r =>
      have : c = 47 := by simpa [S_eq_iff] using h1
      exact ⟨r, by rw [this]⟩
  refine ⟨_, rfl, rfl, _, rfl, iteB (fun h2 => ?_) (fun h2 => ?_)⟩
  · rw [lSl] at h2
    have er : r = [] := by simpa [S_eq_iff] using h2
    subst er
    refine ⟨by decide, fun p hp => k1 [] rfl p hp⟩
  rw [lSl] at h2
  have er : r ≠ [] := by
    rintro rfl
    simp at h2
  refine ⟨_, rfl, _, rfl, _, rfl, S_len63 hl (by decide), ⟨_, rfl⟩, _, _, rfl, rfl, rfl, ?_, fun p hp => ?_⟩
  · have e63 : sizeLine = 16777216 := sizeLine_eq
    have h9 : (S (47 :: r)).length ≤ 2000 := by rw [S_len]; exact hl
    have := Nat.le_trans (cutS_length (S (47 :: r)) (some 1) none) h9
    show (cutS (S (47 :: r)) (some 1) none).length + 2 ≤ _
    omega
  have e1 : Txt.split (cutS (S (47 :: r)) (some 1) none) "/" = (TL.spl [47] 0 [] r).map S := by
    rw [show cutS (S (47 :: r)) (some 1) none = S r from cut_from (47 :: r) 1, lSl, SX.split_S (by decide) (by decide)]
  rw [e1]
  have e2 : ((TL.spl [47] 0 [] r).map S).map V.str = nmV (TL.spl [47] 0 [] r) := by rw [List.map_map] <;> rfl
  rw [e2]
  have s2 : Same H (upd H p (.lst (nmV (TL.spl [47] 0 [] r)))) := fun b o e => by
    rw [upd_ne (ne_of_none e hp)]
    exact e
  refine ⟨_, rfl, p, _, rfl, upd_same, fun n hn => ?_, fun h3 h4 => ⟨_, rfl, k1 _ ?_ p hp⟩, fun h3 => k2 ?_ _ s2⟩
  · have := spl_le r [] n hn
    have h9 : (47 :: r : Nm).length ≤ 2000 := hl
    rw [List.length_cons] at h9
    rw [List.length_nil] at this
    omega
  · show (if r = [] then _ else _) = _
    rw [if_neg er, if_pos ⟨h3, h4⟩]
  · show (if r = [] then _ else _) = _
    rw [if_neg er, if_neg h3]
end
end Ah
/-! A directory's dict. -/
namespace Ah
open PySem PySem.Spec PyProof.Rows L2 He SX
/-! ### the names below a path -/
section
variable {c k : Nat} {Z : Tr} {p : List Nm} {x : Nm} {d n m : Nd}
theorem last_drop {l : List Nm} (h : l.getLast? = some x) : l.dropLast ++ [x] = l := by
  obtain ⟨ys, rfl⟩ := List.getLast?_eq_some_iff.mp h
  rw [List.dropLast_concat]
theorem kidsN_mem : x ∈ kidsN Z p ↔ ∃ n ∈ Z, n.path = p ++ [x] := by
  unfold kidsN
  rw [List.mem_filterMap]
  refine exists_congr fun n => and_congr_right fun _ => ?_
  constructor
  · intro h
    split at h
    · rename_i h1
      rw [← h1.2]
      exact (last_drop h).symm
    · cases h
  · intro h
    rw [if_pos ⟨by rw [h]; simp, by rw [h, List.dropLast_concat]⟩, h]
    simp
theorem kidsN_nodup (W : WF c Z) : (kidsN Z p).Nodup := by
  have h : Z.Pairwise fun a b => a.path ≠ b.path := List.pairwise_map.mp W.dist
  refine List.Pairwise.filterMap _ (fun a b ne x hx y hy => ?_) h
  split at hx
  · rename_i h1
    split at hy
    · rename_i h2
      rintro rfl
      apply ne
      rw [← last_drop hx, ← last_drop hy, h1.2, h2.2]
    · cases hy
  · cases hx
theorem kidsN_len (W : WF c Z) : (kidsN Z p).length < Z.length := by
  obtain ⟨l, h0⟩ := W.root
  match Z, h0 with
  | z :: r, h0 =>
    have : z = ⟨false, [], [], false, l⟩ := by simpa using h0
    subst this
    unfold kidsN
    rw [List.filterMap_cons_none (by rw [if_neg (fun z => z.1 rfl)])]
    have := List.length_filterMap_le (fun n : Nd => if n.path ≠ [] ∧ n.path.dropLast = p then n.path.getLast? else none) r
    rw [List.length_cons]
    omega
/-! ### what the dict holds -/
structure KidsR (R : Nm → Nat → Prop) (kvs : List (Key × V)) : Prop where
  nd : (kvs.map (·.1)).Nodup
  mem : ∀ key v, (key, v) ∈ kvs ↔ ∃ (x : Nm) (j : Nat), R x j ∧ key = Sum.inr (S x) ∧ v = .int (j : Int)
variable {P : List (Nat × Nm)} {kvs : List (Key × V)} {R R' : Nm → Nat → Prop} {y : Nm} {j : Nat}
theorem KidsAt.r (h : KidsAt P k kvs) : KidsR (fun x j => 0 < j ∧ P[j]? = some (k, x)) kvs :=
  ⟨h.nd, fun key v => (h.mem key v).trans ⟨fun ⟨x, j, a, b, e⟩ => ⟨x, j, ⟨a, b⟩, e⟩, fun ⟨x, j, ⟨a, b⟩, e⟩ => ⟨x, j, a, b, e⟩⟩⟩
theorem KidsR.at (h : KidsR R kvs) (e : ∀ x j, (0 < j ∧ P[j]? = some (k, x)) ↔ R x j) : KidsAt P k kvs :=
  ⟨h.nd, fun key v => (h.mem key v).trans ⟨fun ⟨x, j, a, e'⟩ => ⟨x, j, ((e x j).mpr a).1, ((e x j).mpr a).2, e'⟩, fun ⟨x, j, a, b, e'⟩ => ⟨x, j, (e x j).mp ⟨a, b⟩, e'⟩⟩⟩
theorem inr_inj {a b : Nm} (h : (Sum.inr (S a) : Key) = Sum.inr (S b)) : a = b := S_inj (Sum.inr.inj h)
theorem KidsR.val (h : KidsR R kvs) (r : R x j) : valV kvs (Sum.inr (S x)) = some (.int (j : Int)) := val_nodup h.nd (Sum.inr (S x), .int (j : Int)) ((h.mem _ _).mpr ⟨x, j, r, rfl, rfl⟩)
theorem KidsR.no (h : KidsR R kvs) (r : ∀ j, ¬ R x j) : valV kvs (Sum.inr (S x)) = none := by
  cases e : valV kvs (Sum.inr (S x)) with
  | none => rfl
  | some v =>
    obtain ⟨⟨k1, v1⟩, hm, e1⟩ := List.mem_map.mp (valV_in e)
    obtain ⟨x', j, hr, e2, _⟩ := (h.mem k1 v1).mp hm
    have e1' : k1 = Sum.inr (S x) := e1
    rw [e1'] at e2
    rw [← inr_inj e2] at hr
    exact absurd hr (r j)
theorem KidsR.put (h : KidsR R kvs) (no : ∀ j, ¬ R y j) : KidsR (fun x i => R x i ∨ (x = y ∧ i = j)) (putK kvs (Sum.inr (S y)) (.int (j : Int))) := by
  have e := h.no no
  refine ⟨nd_putK _ h.nd e, fun key v => ?_⟩
  rw [putK_new _ e, List.mem_append, List.mem_singleton, h.mem]
  constructor
  · rintro (⟨x, i, a, b⟩ | b)
    · exact ⟨x, i, .inl a, b⟩
    · cases b
      exact ⟨y, j, .inr ⟨rfl, rfl⟩, rfl, rfl⟩
  · rintro ⟨x, i, a | ⟨rfl, rfl⟩, e1, e2⟩
    · exact .inl ⟨x, i, a, e1, e2⟩
    · exact .inr (by rw [e1, e2])
theorem KidsR.drop (h : KidsR R kvs) : KidsR (fun x i => R x i ∧ x ≠ y) (dropK kvs (Sum.inr (S y))) := by
  refine ⟨nd_dropK h.nd, fun key v => ?_⟩
  unfold dropK
  rw [List.mem_filter, h.mem]
  constructor
  · rintro ⟨⟨x, i, a, e1, e2⟩, b⟩
    refine ⟨x, i, ⟨a, ?_⟩, e1, e2⟩
    rintro rfl
    simp [e1] at b
  · rintro ⟨x, i, ⟨a, b⟩, e1, e2⟩
    refine ⟨⟨x, i, a, e1, e2⟩, ?_⟩
    subst e1
    exact decide_eq_true fun z => b (inr_inj z)
theorem KidsAt.val (h : KidsAt P k kvs) (L : Lk P Z) (W : WF c Z) (hd : Z[k]? = some d) (x : Nm) : valV kvs (Sum.inr (S x)) = (idx Z (d.path ++ [x])).map fun (j : Nat) => V.int (j : Int) := by
  cases e : idx Z (d.path ++ [x]) with
  | some j => exact h.r.val ((L.kid W hd).mpr e)
  | none =>
    refine h.r.no fun j r => ?_
    rw [(L.kid W hd).mp r] at e
    cases e
theorem KidsAt.keys (h : KidsAt P k kvs) (L : Lk P Z) (W : WF c Z) (hd : Z[k]? = some d) : ∃ ns : List Nm, kvs.map (·.1) = (ns.map S).map Sum.inr ∧ ns.Perm (kidsN Z d.path) := by
  have aux : ∀ l : List (Key × V), (∀ p ∈ l, ∃ x : Nm, p.1 = Sum.inr (S x)) → ∃ ns : List Nm, l.map (·.1) = (ns.map S).map Sum.inr := by
    intro l
    induction l with
    | nil => exact fun _ => ⟨[], rfl⟩
    | cons a l ih =>
      intro h
      obtain ⟨x, hx⟩ := h a List.mem_cons_self
      obtain ⟨ns, hn⟩ := ih fun p hp => h p (List.mem_cons_of_mem _ hp)
      exact ⟨x :: ns, by rw [List.map_cons, hx, hn] <;> rfl⟩
  obtain ⟨ns, hn⟩ := aux kvs fun p hp => by
    obtain ⟨x, j, _, _, e, _⟩ := (h.mem p.1 p.2).mp hp
    exact ⟨x, e⟩
  have nd : ns.Nodup := by
    have := h.nd
    rw [hn, List.map_map] at this
    exact (List.pairwise_map.mp this).imp fun h e => h (congrArg _ e)
  refine ⟨ns, hn, (List.perm_ext_iff_of_nodup nd (kidsN_nodup W)).mpr fun x => ?_⟩
  rw [kidsN_mem]
  have h1 : x ∈ ns ↔ (Sum.inr (S x) : Key) ∈ kvs.map (·.1) := by
    rw [hn, List.map_map]
    constructor
    · exact fun hx => List.mem_map.mpr ⟨x, hx, rfl⟩
    · intro hx
      obtain ⟨z, hz, e⟩ := List.mem_map.mp hx
      rw [← inr_inj e]
      exact hz
  rw [h1]
  constructor
  · intro hx
    obtain ⟨v, hv⟩ : ∃ v, valV kvs (Sum.inr (S x)) = some v := by
      cases e : valV kvs (Sum.inr (S x)) with
      | some v => exact ⟨v, rfl⟩
      | none => exact absurd hx (valV_not e)
    rw [h.val L W hd] at hv
    obtain ⟨j, hj, _⟩ := Option.map_eq_some_iff.mp hv
    obtain ⟨n, hn, e⟩ := (idx_some W.dist).mp hj
    exact ⟨n, List.mem_of_getElem? hn, e⟩
  · rintro ⟨n, hn, e⟩
    obtain ⟨j, hj, _⟩ := idx_of_mem W.dist hn
    rw [e] at hj
    have hv := h.val L W hd x
    rw [hj] at hv
    exact valV_in hv
theorem KidsAt.few (h : KidsAt P k kvs) (L : Lk P Z) (W : WF c Z) (hd : Z[k]? = some d) : kvs.length < 64 := by
  obtain ⟨ns, h1, h2⟩ := h.keys L W hd
  have := congrArg List.length h1
  rw [List.length_map, List.length_map, List.length_map, h2.length_eq] at this
  have := kidsN_len W (p := d.path)
  have := W.len
  omega
end
/-! ### the tree grows, a node moves -/
section
variable {K : PySem.W.Frag} {H H' : Hp} {g : Gh} {Z : Tr} {c j k : Nat} {a b q bk : Addr} {n m : Nd} {x : Nm} {kvs : List (Key × V)} {pa : List V}
theorem isVs.snoc {H : Hp} {l : List D} {d : D} {vs : List V} {v : V} (h : isVs H l vs) (g : isV H d v) : isVs H (l ++ [d]) (vs ++ [v]) := h.app (isVs.cons g isVs.nil)
theorem TreeAt.grow (T : TreeAt K H g Z) (W : WF c Z) (hk : Z[k]? = some m) (hf : m.file = false) (hp : n.path = m.path ++ [x]) (hx : idx Z (m.path ++ [x]) = none) (na : a ∉ g.fp) (nb : b ∉ g.fp) (nab : a ≠ b)
    (hb : g.sb[k]? = some bk) (hbk : H bk = some (.dK kvs)) (hn : NodeAt K H [] 0 a b n) (hpa : H g.pl = some (.lst pa))
    (keep : ∀ c o, c ≠ g.nl → c ≠ g.pl → c ≠ bk → H c = some o → H' c = some o) (t : TupK H H')
    (e1 : H' g.nl = some (.lst (g.na.map V.ref ++ [.ref a]))) (e2 : H' g.pl = some (.lst (pa ++ [.ref q]))) (e3 : H' q = some (.tup [.int (k : Int), .str (S x)])) (e4 : H' bk = some (.dK (putK kvs (Sum.inr (S x)) (.int (Z.length : Int))))) :
    TreeAt K H' ⟨g.t, g.nl, g.pl, g.na ++ [a], g.sb ++ [b], g.P ++ [(k, x)]⟩ (Z ++ [n]) := by
  have hkl := (List.getElem?_eq_some_iff.mp hk).1
  have hz0 := W.pos
  obtain ⟨dx, ht⟩ := T.tr
  obtain ⟨pa', hpl, hv⟩ := T.pls
  rw [hpa] at hpl
  cases hpl
  have tbk := T.top (List.mem_append_right _ (List.mem_of_getElem? hb))
  have kpar : ∀ (i : Nat) (y : Nm) (q : Nat), (0 < q ∧ (g.P ++ [(k, x)])[q]? = some (i, y)) ↔ (0 < q ∧ g.P[q]? = some (i, y)) ∨ (q = Z.length ∧ i = k ∧ y = x) := by
    intro i y q
    by_cases hq : q < Z.length
    · rw [List.getElem?_append_left (by rw [T.lk.len]; exact hq)]
      exact ⟨fun z => .inl z, fun z => z.elim id fun z => absurd z.1 (by omega)⟩
    · rw [List.getElem?_append_right (by rw [T.lk.len]; omega), List.getElem?_eq_none (by rw [T.lk.len]; omega : g.P.length ≤ q), T.lk.len]
      constructor
      · rintro ⟨h1, h2⟩
        have : q - Z.length = 0 := by
          have := (List.getElem?_eq_some_iff.mp h2).1
          simp at this
          omega
        rw [this] at h2
        have h3 : (k, x) = (i, y) := by simpa using h2
        cases h3
        exact .inr ⟨by omega, rfl, rfl⟩
      · rintro (⟨_, h⟩ | ⟨rfl, rfl, rfl⟩)
        · cases h
        · exact ⟨hz0, by simp⟩
  have nof : ∀ c ∈ g.fp, c ≠ a ∧ c ≠ b := fun c hc => ⟨fun z => na (by rw [← z]; exact hc), fun z => nb (by rw [← z]; exact hc)⟩
  refine ⟨lk_new T.lk hk hf hp, by simp [T.lna], by simp [T.lsb], ?_, ⟨dx, ?_⟩, ?_, ⟨pa ++ [.ref q], e2, ?_⟩, ?_⟩
  · have nd := T.nd
    have hperm : (g.t :: g.nl :: g.pl :: ((g.na ++ [a]) ++ (g.sb ++ [b]))).Perm (a :: b :: g.fp) := by
      have h1 : (g.na ++ [a] ++ (g.sb ++ [b])).Perm (a :: b :: (g.na ++ g.sb)) := by
        have h2 : (g.na ++ [a] ++ (g.sb ++ [b])).Perm (([a] ++ g.na) ++ ([b] ++ g.sb)) := List.Perm.append List.perm_append_comm List.perm_append_comm
        have h3 : (([a] ++ g.na) ++ ([b] ++ g.sb)) = a :: (g.na ++ b :: g.sb) := rfl
        rw [h3] at h2
        exact h2.trans (List.Perm.cons a List.perm_middle)
      have h4 : (g.t :: g.nl :: g.pl :: (a :: b :: (g.na ++ g.sb))).Perm (a :: b :: g.t :: g.nl :: g.pl :: (g.na ++ g.sb)) := by
        have : (g.t :: g.nl :: g.pl :: (a :: b :: (g.na ++ g.sb))) = [g.t, g.nl, g.pl] ++ ([a, b] ++ (g.na ++ g.sb)) := rfl
        rw [this]
        exact (List.perm_append_comm_assoc [g.t, g.nl, g.pl] [a, b] (g.na ++ g.sb))
      exact (List.Perm.cons _ (List.Perm.cons _ (List.Perm.cons _ h1))).trans h4
    refine hperm.nodup_iff.mpr (List.nodup_cons.mpr ⟨fun z => ?_, List.nodup_cons.mpr ⟨nb, nd⟩⟩)
    rcases List.mem_cons.mp z with z | z
    · exact nab z
    · exact na z
  · exact keep _ _ T.nlpl.1 T.nlpl.2.1 tbk.1.symm ht
  · show H' g.nl = some (.lst ((g.na ++ [a]).map V.ref))
    rw [e1, List.map_append] <;> rfl
  · show isVs H' ((g.P ++ [(k, x)]).map plD) _
    rw [List.map_append]
    exact (hv.keep t).snoc (isV.tup e3 (isVs.cons isV.int (isVs.cons isV.str isVs.nil)))
  · intro i a' b' n' ha' hb' hn'
    replace ha' : (g.na ++ [a])[i]? = some a' := ha'
    replace hb' : (g.sb ++ [b])[i]? = some b' := hb'
    show NodeAt K H' (g.P ++ [(k, x)]) i a' b' n'
    by_cases hi : i < Z.length
    · rw [List.getElem?_append_left (by rw [T.lna]; exact hi)] at ha'
      rw [List.getElem?_append_left (by rw [T.lsb]; exact hi)] at hb'
      rw [List.getElem?_append_left hi] at hn'
      have N := T.node i a' b' n' ha' hb' hn'
      have ta := T.top (List.mem_append_left _ (List.mem_of_getElem? ha'))
      have tb := T.top (List.mem_append_right _ (List.mem_of_getElem? hb'))
      have ka : ∀ o, H a' = some o → H' a' = some o := fun o => keep _ _ ta.2.1 ta.2.2 (T.ne_ns ha' hb)
      by_cases hik : i = k
      · subst hik
        rw [hk] at hn'
        cases hn'
        rw [hb] at hb'
        cases hb'
        obtain ⟨dx', kvs', h1, h2, h3⟩ := N.dirE hf
        rw [hbk] at h2
        cases h2
        unfold NodeAt
        rw [if_neg (by rw [hf]; decide)]
        refine ⟨dx', _, ka _ h1, e4, ?_⟩
        refine (h3.r.put (y := x) (j := Z.length) fun j r => ?_).at fun y q => ?_
        · rw [(T.lk.kid W hk).mp r] at hx
          cases hx
        · rw [kpar]
          exact or_congr_right ⟨fun z => ⟨z.2.2, z.1⟩, fun z => ⟨z.2, rfl, z.1⟩⟩
      · have kb : ∀ o, H b' = some o → H' b' = some o := fun o => keep _ _ tb.2.1 tb.2.2 (T.ne_sb hb' hb hik)
        have N2 := N.keep ka kb t
        unfold NodeAt at N2 ⊢
        split
        · rename_i hf'
          rw [if_pos hf'] at N2
          exact N2
        · rename_i hf'
          rw [if_neg hf'] at N2
          obtain ⟨dx', kvs', h1, h2, h3⟩ := N2
          refine ⟨dx', kvs', h1, h2, h3.r.at fun y q => ?_⟩
          rw [kpar]
          exact ⟨fun z => z.elim id fun z => absurd z.2.1 hik, .inl⟩
    · have e : i = Z.length := by
        have := (List.getElem?_eq_some_iff.mp hn').1
        rw [List.length_append, List.length_singleton] at this
        omega
      subst e
      rw [List.getElem?_append_right (by rw [T.lna]; exact Nat.le_refl _), T.lna, Nat.sub_self] at ha'
      rw [List.getElem?_append_right (by rw [T.lsb]; exact Nat.le_refl _), T.lsb, Nat.sub_self] at hb'
      rw [List.getElem?_append_right (Nat.le_refl _), Nat.sub_self] at hn'
      cases ha'
      cases hb'
      cases hn'
      have fpl : ∀ c, c ∉ g.fp → ∀ o, H c = some o → H' c = some o := fun c hc o => keep c o (fun z => hc (by rw [z]; exact Gh.mem_nl)) (fun z => hc (by rw [z]; exact Gh.mem_pl)) (fun z => hc (by rw [z]; exact Gh.mem_sb hb))
      have N2 := hn.keep (fpl _ na) (fpl _ nb) t
      unfold NodeAt at N2 ⊢
      split
      · rename_i hf'
        rw [if_pos hf'] at N2
        exact N2
      · rename_i hf'
        rw [if_neg hf'] at N2
        obtain ⟨dx', kvs', h1, h2, h3⟩ := N2
        refine ⟨dx', kvs', h1, h2, h3.r.at fun y q => ?_⟩
        rw [kpar]
        constructor
        · rintro (⟨hq, h4⟩ | ⟨_, h4, _⟩)
          · have hql : q < Z.length := by rw [← T.lk.len]; exact (List.getElem?_eq_some_iff.mp h4).1
            obtain ⟨d, h5, _⟩ := T.lk.up q _ _ Z[q] hq h4 (List.getElem?_eq_getElem hql)
            exact absurd (List.getElem?_eq_some_iff.mp h5).1 (by omega)
          · omega
        · rintro ⟨_, h4⟩
          cases h4
theorem TreeAt.move (T : TreeAt K H g Z) (W : WF c Z) {i : Nat} {y : Nm} {bi bj : Addr} {ki kj : List (Key × V)} (hn : Z[k]? = some n) (ho : n.path ≠ []) (hm : Z[j]? = some m) (hf : m.file = false) (hop : ¬ n.path <+: m.path ++ [x]) (hx : idx Z (m.path ++ [x]) = none)
    (hP : g.P[k]? = some (i, y)) (hbi : g.sb[i]? = some bi) (hbj : g.sb[j]? = some bj) (hki : H bi = some (.dK ki)) (hkj : (upd H bi (.dK (dropK ki (Sum.inr (S y))))) bj = some (.dK kj)) (hpa : H g.pl = some (.lst pa)) (hq : H q = none)
    (eH : H' = upd (upd (upd (upd H bi (.dK (dropK ki (Sum.inr (S y))))) bj (.dK (putK kj (Sum.inr (S x)) (.int (k : Int))))) q (.tup [.int (j : Int), .str (S x)])) g.pl (.lst (pa.set k (.ref q)))) :
    TreeAt K H' { g with P := g.P.set k (j, x) } (Z.map (moved n.path (m.path ++ [x]))) ∧ (∀ c o, c ∉ g.fp → H c = some o → H' c = some o) ∧ TupK H H' := by
  have hk0 : 0 < k := by
    rcases Nat.eq_zero_or_pos k with z | z
    · subst z
      obtain ⟨l, h0⟩ := W.root
      rw [h0] at hn
      cases hn
      exact absurd rfl ho
    · exact z
  have hkl : k < Z.length := (List.getElem?_eq_some_iff.mp hn).1
  have hkP : k < g.P.length := by rw [T.lk.len]; exact hkl
  obtain ⟨di, hdi, hfi, hpi⟩ := T.lk.up k i y n hk0 hP hn
  obtain ⟨dx, ht⟩ := T.tr
  obtain ⟨pa', hpl, hv⟩ := T.pls
  rw [hpa] at hpl
  cases hpl
  have ti := T.top (List.mem_append_right _ (List.mem_of_getElem? hbi))
  have tj := T.top (List.mem_append_right _ (List.mem_of_getElem? hbj))
  have keep : ∀ c o, c ≠ bi → c ≠ bj → c ≠ g.pl → H c = some o → H' c = some o := by
    intro c o h1 h2 h3 h
    rw [eH, upd_ne h3, upd_ne (ne_of_none h hq), upd_ne h2, upd_ne h1]
    exact h
  have t : TupK H H' := fun c xs h => keep c _ (ne_of h hki (by intro z; cases z)) (by
    rintro rfl
    by_cases e : c = bi
    · subst e
      rw [hki] at h
      cases h
    · rw [upd_ne e, h] at hkj
      cases hkj) (ne_of h hpa (by intro z; cases z)) h
  have kpar : ∀ (r : Nat) (z : Nm) (v : Nat), (0 < v ∧ (g.P.set k (j, x))[v]? = some (r, z)) ↔ (v ≠ k ∧ 0 < v ∧ g.P[v]? = some (r, z)) ∨ (v = k ∧ r = j ∧ z = x) := by
    intro r z v
    by_cases e : k = v
    · subst e
      rw [List.getElem?_set_self hkP]
      constructor
      · rintro ⟨_, h⟩
        cases h
        exact .inr ⟨rfl, rfl, rfl⟩
      · rintro (⟨h, _⟩ | ⟨_, rfl, rfl⟩)
        · exact absurd rfl h
        · exact ⟨hk0, rfl⟩
    · rw [List.getElem?_set_ne e]
      exact ⟨fun h => .inl ⟨Ne.symm e, h⟩, fun h => h.elim (fun h => h.2) fun h => absurd h.1.symm e⟩
  have hdrop : ∀ (z : Nm) (v : Nat), (v ≠ k ∧ 0 < v ∧ g.P[v]? = some (i, z)) ↔ ((0 < v ∧ g.P[v]? = some (i, z)) ∧ z ≠ y) := by
    intro z v
    constructor
    · rintro ⟨h1, h2⟩
      refine ⟨h2, ?_⟩
      rintro rfl
      have e1 := (T.lk.kid W hdi).mp h2
      have e2 := (T.lk.kid W hdi).mp ⟨hk0, hP⟩
      rw [e1] at e2
      cases e2
      exact h1 rfl
    · rintro ⟨h1, h2⟩
      refine ⟨?_, h1⟩
      rintro rfl
      rw [hP] at h1
      cases h1.2
      exact h2 rfl
  have ebi : i ≠ j → bi ≠ bj := fun e => T.ne_sb hbi hbj e
  have hbj' : H' bj = some (.dK (putK kj (Sum.inr (S x)) (.int (k : Int)))) := by
    have h1 : bj ≠ q := by
      rintro rfl
      by_cases e : bj = bi
      · subst e
        rw [hki] at hq
        cases hq
      · rw [upd_ne e, hq] at hkj
        cases hkj
    rw [eH, upd_ne tj.2.2, upd_ne h1, upd_same]
  have hbi' : i ≠ j → H' bi = some (.dK (dropK ki (Sum.inr (S y)))) := fun e => by
    have h1 : bi ≠ q := by
      rintro rfl
      rw [hki] at hq
      cases hq
    rw [eH, upd_ne ti.2.2, upd_ne h1, upd_ne (ebi e), upd_same]
  have eq' : H' q = some (.tup [.int (j : Int), .str (S x)]) := by
    have : q ≠ g.pl := by
      rintro rfl
      rw [hpa] at hq
      cases hq
    rw [eH, upd_ne this, upd_same]
  refine ⟨⟨lk_moved T.lk W hn ho hop hm hf rfl, by rw [List.length_map]; exact T.lna, by rw [List.length_map]; exact T.lsb, T.nd, ⟨dx, keep _ _ ti.1.symm tj.1.symm T.nlpl.2.1 ht⟩, keep _ _ ti.2.1.symm tj.2.1.symm T.nlpl.2.2 T.nls, ⟨pa.set k (.ref q), by rw [eH, upd_same], ?_⟩, ?_⟩, ?_, t⟩
  · show isVs H' ((g.P.set k (j, x)).map plD) _
    rw [List.map_set]
    exact (hv.keep t).set (isV.tup eq' (isVs.cons isV.int (isVs.cons isV.str isVs.nil)))
  · intro r a' b' n' ha' hb' hn'
    replace ha' : g.na[r]? = some a' := ha'
    replace hb' : g.sb[r]? = some b' := hb'
    show NodeAt K H' (g.P.set k (j, x)) r a' b' n'
    rw [List.getElem?_map] at hn'
    obtain ⟨z, hz, rfl⟩ := Option.map_eq_some_iff.mp hn'
    have N := T.node r a' b' z ha' hb' hz
    have ta := T.top (List.mem_append_left _ (List.mem_of_getElem? ha'))
    have tb := T.top (List.mem_append_right _ (List.mem_of_getElem? hb'))
    have ka : ∀ o, H a' = some o → H' a' = some o := fun o => keep _ _ (T.ne_ns ha' hbi) (T.ne_ns ha' hbj) ta.2.2
    obtain ⟨s1, s2, s3, s4⟩ := moved_same (o := n.path) (p := m.path ++ [x]) (n := z)
    unfold NodeAt
    rw [s1]
    split
    · rename_i hfz
      obtain ⟨dx', vs, h1, h2, h3⟩ := N.fileE hfz
      have hs : (moved n.path (m.path ++ [x]) z).size = z.size := by unfold Nd.size; rw [s2]
      rw [s3, s2, hs]
      have nbi : b' ≠ bi := ne_of h2 hki (by intro z; cases z)
      have nbj : b' ≠ bj := fun e => by
        rw [← e, upd_ne nbi, h2] at hkj
        cases hkj
      exact ⟨dx', vs, ka _ h1, keep _ _ nbi nbj tb.2.2 h2, h3.keep t⟩
    · rename_i hfz
      obtain ⟨dx', kvs', h1, h2, h3⟩ := N.dirE (by simpa using hfz)
      rw [s4]
      have hjR : ∀ kz : List (Key × V), ∀ R : Nm → Nat → Prop, KidsR R kz → r = j → kj = kz → (∀ z v, R z v ↔ (v ≠ k ∧ 0 < v ∧ g.P[v]? = some (j, z))) → KidsAt (g.P.set k (j, x)) r (putK kj (Sum.inr (S x)) (.int (k : Int))) := by
        rintro kz R hR rfl rfl hRR
        refine (hR.put (y := x) (j := k) fun v hv => ?_).at fun z v => ?_
        · rw [hRR] at hv
          rw [(T.lk.kid W hm).mp hv.2] at hx
          cases hx
        · rw [kpar, hRR]
          exact or_congr_right ⟨fun z => ⟨z.2.2, z.1⟩, fun z => ⟨z.2, rfl, z.1⟩⟩
      by_cases hrj : r = j
      · subst hrj
        rw [hbj] at hb'
        cases hb'
        refine ⟨dx', _, ka _ h1, hbj', ?_⟩
        by_cases hij : i = r
        · subst hij
          rw [hbi] at hbj
          cases hbj
          rw [upd_same] at hkj
          cases hkj
          rw [hki] at h2
          cases h2
          exact hjR _ _ (h3.r.drop (y := y)) rfl rfl fun z v => (hdrop z v).symm
        · rw [upd_ne (ebi hij).symm] at hkj
          rw [hkj] at h2
          cases h2
          refine hjR _ _ h3.r rfl rfl fun z v => ⟨fun h => ⟨?_, h⟩, fun h => h.2⟩
          rintro rfl
          rw [hP] at h
          cases h.2
          exact hij rfl
      · by_cases hri : r = i
        · subst hri
          rw [hbi] at hb'
          cases hb'
          rw [hki] at h2
          cases h2
          refine ⟨dx', _, ka _ h1, hbi' hrj, (h3.r.drop (y := y)).at fun z v => ?_⟩
          rw [kpar, ← hdrop]
          exact ⟨fun h => h.elim id fun h => absurd h.2.1 hrj, .inl⟩
        · refine ⟨dx', kvs', ka _ h1, keep _ _ (T.ne_sb hb' hbi hri) (T.ne_sb hb' hbj hrj) tb.2.2 h2, h3.r.at fun z v => ?_⟩
          rw [kpar]
          constructor
          · rintro (h | h)
            · exact h.2
            · exact absurd h.2.1 hrj
          · intro h
            refine .inl ⟨?_, h⟩
            rintro rfl
            rw [hP] at h
            cases h.2
            exact hri rfl
  · intro c o hc h
    exact keep c o (fun z => hc (by rw [z]; exact Gh.mem_sb hbi)) (fun z => hc (by rw [z]; exact Gh.mem_sb hbj)) (fun z => hc (by rw [z]; exact Gh.mem_pl)) h
end
end Ah
/-! The tree. -/
namespace Ah
open PySem PySem.Spec PyProof.Rows L2 He SX
theorem mapref {l : List Addr} {k : Nat} {a : Addr} (h : l[k]? = some a) : (l.map V.ref)[k]? = some (V.ref a) := by
  rw [List.getElem?_map, h] <;> rfl
theorem sm63 {n : Nat} (h : n ≤ 10000) : n < sizeLine := by
  rw [sizeLine_eq]
  omega
theorem sm64 {n : Nat} (h : n ≤ 10000) : n ≤ sizeLine := Nat.le_of_lt (sm63 h)
theorem look_cons (Z : Tr) (pre : List Nm) (n : Nm) (r : List Nm) : look Z pre (n :: r) = if isF Z pre = true then .no "kind" else match idx Z (pre ++ [n]) with | some _ => look Z (pre ++ [n]) r | none => .no "missing" := by
  rw [look] <;> rfl
theorem look_nil (Z : Tr) (pre : List Nm) : look Z pre [] = match idx Z pre with | some k => .at k | none => .no "missing" := by
  rw [look] <;> rfl
def root : Nd := ⟨false, [], [], false, none⟩
section
variable {P : Program} {w : World} {K : PySem.W.Frag} {mg : Str → Option Value} {base : Heap}
def P_Tree___init__ (K : PySem.W.Frag) (a : V) (H : Hp) (Q : VK) : Prop := ∃ x dx, a = .ref x ∧ H x = some (.ins (ga K "Tree") dx []) ∧
  ∀ g H', g.t = x → TreeAt K H' g [root] → (∀ c o, c ≠ x → H c = some o → H' c = some o) → TupK H H' → (∀ c ∈ g.fp, c = x ∨ H c = none) → Q .non H'
abbrev N_Tree___init__ : List Str := ["self"]
theorem sc_Tree___init__ : FnScope N_Tree___init__ ["self"] (defScope s_Tree___init__) := ⟨rfl, rfl, rfl, by decide +kernel, rfl, by decide +kernel, by decide +kernel⟩
theorem ok_Tree___init__ (T : Tx w K mg) : Cal P w K mg base 3 (fAd K ("Tree", some "__init__")) (Sp1 (P_Tree___init__ K)) := by
  refine mk1 (k := 2) T.fd_Tree___init__ sc_Tree___init__ (fun _ _ _ _ _ _ _  => rfl) fun cdv A outer s H E va Q hr h => ?_
  have hu := hu_of hr
  obtain ⟨x, dx, rfl, hx, k⟩ := h
  refine ⟨_, (pss_cons (ps_fld (pv 0) (pe_lst (pa_cons (pmake0 T.mk_Directory (ok_Directory___init__ T) hr (by decide) rfl T.g_Directory) pa_nil)) rfl)
      (pss_one (ps_fld (pv 0) (pe_lst (pa_cons (pe_tup (pa_cons pe_int (pa_cons pe_str pa_nil))) pa_nil)) rfl))), ?_⟩
  dsimp only [cxOf, Cx.nox]
  intro d dd nd ndd ne
  refine ⟨d, dd, rfl, upd_same, fun e he => ⟨rfl, ?_⟩⟩
  have nxd : x ≠ d := ne_of_none hx nd
  have nxdd : x ≠ dd := ne_of_none hx ndd
  have ned : e ≠ d := by
    rintro rfl
    rw [upd_same] at he
    cases he
  have nedd : e ≠ dd := by
    rintro rfl
    rw [upd_ne ned, upd_same] at he
    cases he
  rw [upd_ne ned, upd_ne nedd] at he
  have nxe : x ≠ e := ne_of_none hx he
  refine ⟨sm64 (by show 1 ≤ 10000; decide), fun nl hnl => ?_⟩
  have nld : nl ≠ d := by
    rintro rfl
    rw [upd_same] at hnl
    cases hnl
  rw [upd_ne nld] at hnl
  have nle : nl ≠ e := by
    rintro rfl
    rw [upd_same] at hnl
    cases hnl
  rw [upd_ne nle, upd_ne nld] at hnl
  have nldd : nl ≠ dd := by
    rintro rfl
    rw [upd_same] at hnl
    cases hnl
  rw [upd_ne nldd] at hnl
  have nxl : x ≠ nl := ne_of_none hx hnl
  generalize eH1 : upd (upd (upd (upd (upd H dd (.own d)) d (.ins (ga K "Directory") dd [])) e (.dK [])) d (.ins (ga K "Directory") dd (fDir .non e))) nl (.lst [.ref d]) = H1
  have s1 : Same H H1 := fun b o h => by
    rw [← eH1, upd_ne (ne_of_none h hnl), upd_ne (ne_of_none h nd), upd_ne (ne_of_none h he), upd_ne (ne_of_none h nd), upd_ne (ne_of_none h ndd)]
    exact h
  have h1d : H1 d = some (.ins (ga K "Directory") dd (fDir .non e)) := by rw [← eH1, upd_ne nld.symm, upd_same]
  have h1e : H1 e = some (.dK []) := by rw [← eH1, upd_ne nle.symm, upd_ne ned, upd_same]
  have h1l : H1 nl = some (.lst [.ref d]) := by rw [← eH1, upd_same]
  clear eH1
  refine ⟨_, rfl, x, _, dx, _, rfl, s1 _ _ hx, T.c_Tree, T.n_Tree_nodes, (by show 0 < 1000; decide), ?_⟩
  refine ⟨sm64 (by show 2 ≤ 10000; decide), fun q hq => ⟨sm64 (by show 1 ≤ 10000; decide), fun pl hpl => ?_⟩⟩
  have nqx : q ≠ x := by
    rintro rfl
    rw [upd_same] at hq
    cases hq
  rw [upd_ne nqx] at hq
  have nplq : pl ≠ q := by
    rintro rfl
    rw [upd_same] at hpl
    cases hpl
  rw [upd_ne nplq] at hpl
  have nplx : pl ≠ x := by
    rintro rfl
    rw [upd_same] at hpl
    cases hpl
  rw [upd_ne nplx] at hpl
  refine ⟨_, rfl, x, _, dx, _, rfl, (by rw [upd_ne nplx.symm, upd_ne nqx.symm]; exact upd_same), T.c_Tree, T.n_Tree_places, (by show 1 < 1000; decide), ?_⟩
  rw [init2 (by decide +kernel)]
  generalize eH2 : upd (upd (upd (upd H1 x (.ins (ga K "Tree") dx (putF "_nodes" (.ref nl) []))) q (.tup [.int 0, .str ""])) pl (.lst [.ref q])) x (.ins (ga K "Tree") dx (fTree nl pl)) = H2
  have s2 : ∀ c o, c ≠ x → H1 c = some o → H2 c = some o := fun c o hc h => by
    rw [← eH2, upd_ne hc, upd_ne (ne_of_none h hpl), upd_ne (ne_of_none h hq), upd_ne hc]
    exact h
  have h2x : H2 x = some (.ins (ga K "Tree") dx (fTree nl pl)) := by rw [← eH2, upd_same]
  have h2q : H2 q = some (.tup [.int 0, .str ""]) := by rw [← eH2, upd_ne nqx, upd_ne nplq.symm, upd_same]
  have h2p : H2 pl = some (.lst [.ref q]) := by rw [← eH2, upd_ne nplx, upd_same]
  show Q .non (upd (upd (upd (upd H1 x (.ins (ga K "Tree") dx (putF "_nodes" (.ref nl) []))) q (.tup [.int 0, .str ""])) pl (.lst [.ref q])) x (.ins (ga K "Tree") dx (fTree nl pl)))
  rw [eH2]
  clear eH2
  have ndx : d ≠ x := nxd.symm
  have nlpl : nl ≠ pl := ne_of_none h1l hpl
  have dpl : d ≠ pl := ne_of_none h1d hpl
  have epl : e ≠ pl := ne_of_none h1e hpl
  refine k ⟨x, nl, pl, [d], [e], [(0, [])]⟩ H2 rfl ⟨⟨rfl, fun k i y n hk hp hz => ?_⟩, rfl, rfl, ?_, ⟨dx, h2x⟩, s2 _ _ nxl.symm h1l, ⟨[.ref q], h2p, ?_⟩, ?_⟩ (fun c o hc h => s2 c o hc (s1 c o h)) (fun c xs h => s2 c _ (fun z => by rw [z, hx] at h; cases h) (s1 c _ h)) ?_
  · match k, hk, hz with
    | k + 1, _, hz => simp at hz
  · simp only [Gh.fp, List.nodup_cons, List.mem_cons, List.mem_append, List.not_mem_nil, List.mem_singleton, List.nodup_append, or_false, List.nil_append, List.singleton_append]
    exact ⟨fun z => z.elim nxl fun z => z.elim (fun z => nplx z.symm) fun z => z.elim nxd nxe, fun z => z.elim nlpl fun z => z.elim nld nle, fun z => z.elim (fun z => dpl z.symm) fun z => epl z.symm, fun z => ned z.symm, fun z => z, List.nodup_nil⟩
  · exact isVs.cons (isV.tup h2q (isVs.cons isV.int (isVs.cons (by rw [lEmp]; exact isV.str) isVs.nil))) isVs.nil
  · intro k a b n ha hb hn
    match k, ha, hb, hn with
    | 0, ha, hb, hn =>
      cases ha
      cases hb
      cases hn
      unfold NodeAt
      rw [if_neg (by decide)]
      refine ⟨dd, [], s2 _ _ ndx h1d, s2 _ _ nxe.symm h1e, ⟨List.nodup_nil, fun key v => ⟨fun z => (nomatch z), fun ⟨x, j, hj, hp, _⟩ => ?_⟩⟩⟩
      match j, hj, hp with
      | j + 1, _, hp => simp at hp
    | k + 1, ha, _, _ => simp at ha
  · intro c hc
    have hc : c ∈ [x, nl, pl, d, e] := hc
    simp only [List.mem_cons, List.not_mem_nil, or_false] at hc
    rcases hc with rfl | rfl | rfl | rfl | rfl
    · exact .inl rfl
    · exact .inr hnl
    · exact .inr (s1.free hpl)
    · exact .inr nd
    · exact .inr he
def P_Tree___len__ (K : PySem.W.Frag) (a : V) (H : Hp) (Q : VK) : Prop := ∃ g Z, a = .ref g.t ∧ TreeAt K H g Z ∧ Q (.int (Z.length : Int)) H
abbrev N_Tree___len__ : List Str := ["self"]
theorem sc_Tree___len__ : FnScope N_Tree___len__ ["self"] (defScope s_Tree___len__) := ⟨rfl, rfl, rfl, by decide +kernel, rfl, by decide +kernel, by decide +kernel⟩
theorem ok_Tree___len__ (T : Tx w K mg) : Cal P w K mg base 1 (fAd K ("Tree", some "__len__")) (Sp1 (P_Tree___len__ K)) := by
  refine mk1 (k := 0) T.fd_Tree___len__ sc_Tree___len__ (fun _ _ _ _ _ _ _  => rfl) fun cdv A outer s H E va Q hr h => ?_
  have hu := hu_of hr
  obtain ⟨g, Z, rfl, R, k⟩ := h
  refine ⟨_, (pss_one (ps_ret (pe_callB call_len_seq (by rfl) T.f_len (by decide +kernel) (pa_cons (pe_fld (pv 0) rfl) pa_nil)))), ?_⟩
  obtain ⟨dx, ht⟩ := R.tr
  refine ⟨_, rfl, g.t, _, dx, _, _, rfl, ht, T.c_Tree, T.n_Tree_nodes, zget fT0 rfl, g.nl, _, rfl, .inl (SqL.of R.nls), ?_⟩
  rw [List.length_map, R.lna]
  exact k
def P_Tree_node (K : PySem.W.Frag) (a b : V) (H : Hp) (Q : VK) : Prop := ∃ g Z k x, a = .ref g.t ∧ b = .int ((k : Nat) : Int) ∧ TreeAt K H g Z ∧ g.na[k]? = some x ∧ Q (.ref x) H
abbrev N_Tree_node : List Str := ["self", "number"]
theorem sc_Tree_node : FnScope N_Tree_node ["self", "number"] (defScope s_Tree_node) := ⟨rfl, rfl, rfl, by decide +kernel, rfl, by decide +kernel, by decide +kernel⟩
theorem ok_Tree_node (T : Tx w K mg) : Cal P w K mg base 1 (fAd K ("Tree", some "node")) (Sp2 (P_Tree_node K)) := by
  refine mk2 (k := 0) T.fd_Tree_node sc_Tree_node (fun _ _ _ _ _ _ _ _  => rfl) fun cdv A outer s H E va vb Q hr h => ?_
  have hu := hu_of hr
  obtain ⟨g, Z, i, x, rfl, rfl, R, hx, k⟩ := h
  refine ⟨_, (pss_cons (ps_if (pt_not (pt_chain op_le op_lt pe_int (pv 1) (pe_callB call_len_seq (by rfl) T.f_len (by decide +kernel) (pa_cons (pe_fld (pv 0) rfl) pa_nil)))) (pss_one ps_never) pss_nil)
      (pss_one (ps_ret (pe_ix ix_list (pe_fld (pv 0) rfl) (pv 1) (fun _ _ => rfl))))), ?_⟩
  obtain ⟨dx, ht⟩ := R.tr
  have hl := (List.getElem?_eq_some_iff.mp hx).1
  refine ⟨_, rfl, _, _, rfl, rfl, _, rfl, iteB (fun h1 => ⟨_, rfl, g.t, _, dx, _, _, rfl, ht, T.c_Tree, T.n_Tree_nodes, zget fT0 rfl, g.nl, _, rfl, .inl (SqL.of R.nls), _, _, rfl, rfl, _, rfl, iteB (fun h2 => ?_) (fun h2 => ?_)⟩) (fun h1 => ?_)⟩
  · simp only [List.length_map, Bool.not_eq_true', decide_eq_false_iff_not] at h2
    omega
  · exact ⟨_, rfl, g.t, _, dx, _, _, rfl, ht, T.c_Tree, T.n_Tree_nodes, zget fT0 rfl, _, rfl, g.nl, _, _, _, rfl, rfl, SqL.of R.nls, atI_nat (j := i) (mapref hx), k⟩
  · simp only [decide_eq_false_iff_not] at h1
    omega
def P_Tree_attach (K : PySem.W.Frag) (a b c d : V) (H : Hp) (Q : VK) : Prop := ∃ (g : Gh) (Z : Tr) (e k : Nat) (m n : Nd) (x : Nm) (na nb : Addr), a = .ref g.t ∧ b = .int (k : Int) ∧ c = .str (S x) ∧ d = .ref na ∧ TreeAt K H g Z ∧ WF e Z ∧ Z[k]? = some m ∧ m.file = false ∧
  n.path = m.path ++ [x] ∧ idx Z (m.path ++ [x]) = none ∧ na ∉ g.fp ∧ nb ∉ g.fp ∧ na ≠ nb ∧ NodeAt K H [] 0 na nb n ∧
  ∀ H', TreeAt K H' ⟨g.t, g.nl, g.pl, g.na ++ [na], g.sb ++ [nb], g.P ++ [(k, x)]⟩ (Z ++ [n]) → (∀ c o, c ∉ g.fp → H c = some o → H' c = some o) → TupK H H' → Q (.int (Z.length : Int)) H'
abbrev N_Tree_attach : List Str := ["self", "parent", "name", "node", "number"]
theorem sc_Tree_attach : FnScope N_Tree_attach ["self", "parent", "name", "node"] (defScope s_Tree_attach) := ⟨rfl, rfl, rfl, by decide +kernel, rfl, by decide +kernel, by decide +kernel⟩
theorem ok_Tree_attach (T : Tx w K mg) : Cal P w K mg base 2 (fAd K ("Tree", some "attach")) (Sp4 (P_Tree_attach K)) := by
  refine mk4 (k := 1) T.fd_Tree_attach sc_Tree_attach (fun _ _ _ _ _ _ _ _ _ _  => rfl) fun cdv A outer s H E va vb vc vd Q hr h => ?_
  have hu := hu_of hr
  obtain ⟨g, Z, e, i, m, n, x, na, nb, rfl, rfl, rfl, rfl, R, W, hm, hf, hp, hx, nna, nnb, nab, hn, k⟩ := h
  refine ⟨_, (pss_cons (ps_set (i := 4) sc_Tree_attach.nd rfl (Or.inl rfl) (pe_callB call_len_seq (by rfl) T.f_len (by decide +kernel) (pa_cons (pe_fld (pv 0) rfl) pa_nil)))
      (pss_cons (ps_expr (pe_bm PySem.F.plainAttrs_list PySem.F.slot_list_append PySem.F.type_list_append mt_append (pe_fld (pv 0) rfl) (pa_cons (pv 3) pa_nil)))
      (pss_cons (ps_expr (pe_bm PySem.F.plainAttrs_list PySem.F.slot_list_append PySem.F.type_list_append mt_append (pe_fld (pv 0) rfl) (pa_cons (pe_tup (pa_cons (pv 1) (pa_cons (pv 2) pa_nil))) pa_nil)))
      (pss_cons (ps_expr (pmeth T.c_Directory T.m_Directory_put (ok_Directory_put T) hr (by decide) (pe_ix ix_list (pe_fld (pv 0) rfl) (pv 1) (fun _ _ => rfl)) (pa_cons (pv 2) (pa_cons (pv 4) pa_nil))))
      (pss_one (ps_ret (pv 4))))))), ?_⟩
  dsimp only [cxOf, Cx.nox]
  obtain ⟨dx, ht⟩ := R.tr
  obtain ⟨pa, hpa, hpv⟩ := R.pls
  obtain ⟨ma, mb, hma, hmb, M⟩ := R.at hm
  obtain ⟨ddx, kvs, hd1, hd2, hd3⟩ := M.dirE hf
  have hlen := R.lna
  have hZ := W.len
  have epa := hpv.length
  rw [List.length_map, R.lk.len] at epa
  have tma := R.top (List.mem_append_left _ (List.mem_of_getElem? hma))
  have tmb := R.top (List.mem_append_right _ (List.mem_of_getElem? hmb))
  refine ⟨_, rfl, g.t, _, dx, _, _, rfl, ht, T.c_Tree, T.n_Tree_nodes, zget fT0 rfl, g.nl, _, rfl, .inl (SqL.of R.nls), ?_⟩
  refine ⟨_, rfl, g.t, _, dx, _, _, rfl, ht, T.c_Tree, T.n_Tree_nodes, zget fT0 rfl, .inl ⟨rfl, _, SqL.of R.nls⟩, _, rfl, g.nl, _, _, rfl, rfl, R.nls, sm63 (by rw [List.length_map]; omega), ?_⟩
  have e1 : ∀ c o o', c ≠ g.nl → H c = some o → (upd H g.nl o') c = some o := fun c o o' hc h => by
    rw [upd_ne hc]
    exact h
  refine ⟨_, rfl, g.t, _, dx, _, _, rfl, e1 _ _ _ R.nlpl.1 ht, T.c_Tree, T.n_Tree_places, zget fT1 rfl, .inl ⟨rfl, _, SqL.of (e1 _ _ _ R.nlpl.2.2.symm hpa)⟩, _, rfl, _, rfl, sm64 (by show 2 ≤ 10000; decide), fun q hq => ?_⟩
  have nql : q ≠ g.nl := by
    rintro rfl
    rw [upd_same] at hq
    cases hq
  rw [upd_ne nql] at hq
  have e2 : ∀ c o o' o'', c ≠ g.nl → H c = some o → (upd (upd H g.nl o') q o'') c = some o := fun c o o' o'' hc h => by
    rw [upd_ne (ne_of_none h hq)]
    exact e1 _ _ _ hc h
  refine ⟨g.pl, _, _, rfl, rfl, e2 _ _ _ _ R.nlpl.2.2.symm hpa, sm63 (by omega), ?_⟩
  have e3 : ∀ c o o' o'' o3, c ≠ g.nl → c ≠ g.pl → H c = some o → (upd (upd (upd H g.nl o') q o'') g.pl o3) c = some o := fun c o o' o'' o3 hc hc2 h => by
    rw [upd_ne hc2]
    exact e2 _ _ _ _ hc h
  refine ⟨_, rfl, g.t, _, dx, _, _, rfl, e3 _ _ _ _ _ R.nlpl.1 R.nlpl.2.1 ht, T.c_Tree, T.n_Tree_nodes, zget fT0 rfl, _, rfl, g.nl, _, _, _, rfl, rfl, SqL.of (by rw [upd_ne R.nlpl.2.2, upd_ne nql.symm, upd_same]), atI_nat (j := i) (by rw [List.getElem?_append_left (by rw [List.length_map]; exact (List.getElem?_eq_some_iff.mp hma).1)]; exact mapref hma), ?_⟩
  refine ⟨ma, ddx, _, rfl, e3 _ _ _ _ _ tma.2.1 tma.2.2 hd1, znone (by decide +kernel), _, rfl, _, rfl, ma, ddx, _, _, kvs, S x, rfl, rfl, e3 _ _ _ _ _ tma.2.1 tma.2.2 hd1, e3 _ _ _ _ _ tmb.2.1 tmb.2.2 hd2, by have := hd3.few R.lk W hm; omega, ?_⟩
  refine ⟨_, rfl, ?_⟩
  have e4 : ∀ c o o' o'' o3 o4, c ≠ g.nl → c ≠ g.pl → c ≠ mb → H c = some o → (upd (upd (upd (upd H g.nl o') q o'') g.pl o3) mb o4) c = some o := fun c o o' o'' o3 o4 hc hc2 hc3 h => by
    rw [upd_ne hc3]
    exact e3 _ _ _ _ _ hc hc2 h
  have nqp : q ≠ g.pl := (ne_of_none hpa hq).symm
  have nqm : q ≠ mb := (ne_of_none hd2 hq).symm
  have tk : ∀ o' o'' o3 o4, TupK H (upd (upd (upd (upd H g.nl o') q o'') g.pl o3) mb o4) := fun o' o'' o3 o4 c xs h => e4 _ _ _ _ _ _ (ne_of h R.nls (by intro z; cases z)) (ne_of h hpa (by intro z; cases z)) (ne_of h hd2 (by intro z; cases z)) h
  have kk := k (upd (upd (upd (upd H g.nl (.lst (g.na.map V.ref ++ [.ref na]))) q (.tup [.int (i : Int), .str (S x)])) g.pl (.lst (pa ++ [.ref q]))) mb (.dK (putK kvs (Sum.inr (S x)) (.int (Z.length : Int)))))
    (R.grow W hm hf hp hx nna nnb nab hmb hd2 hn hpa (fun c o a b d h => e4 c o _ _ _ _ a b d h) (tk _ _ _ _) (q := q) (by rw [upd_ne tmb.2.1.symm, upd_ne R.nlpl.2.2, upd_ne nql.symm, upd_same]) (by rw [upd_ne tmb.2.2.symm, upd_same]) (by rw [upd_ne nqm, upd_ne nqp, upd_same]) (by rw [upd_same]))
    (fun c o hc h => e4 c o _ _ _ _ (fun z => hc (by rw [z]; exact Gh.mem_nl)) (fun z => hc (by rw [z]; exact Gh.mem_pl)) (fun z => hc (by rw [z]; exact Gh.mem_sb hmb)) h) (tk _ _ _ _)
  have el : (List.map V.ref g.na).length = Z.length := by rw [List.length_map, hlen]
  rw [← el] at kk
  exact kk
def P_Tree_move_node (K : PySem.W.Frag) (a b c d : V) (H : Hp) (Q : VK) : Prop := ∃ (g : Gh) (Z : Tr) (e k j : Nat) (m n : Nd) (x : Nm), a = .ref g.t ∧ b = .int (k : Int) ∧ c = .int (j : Int) ∧ d = .str (S x) ∧ TreeAt K H g Z ∧ WF e Z ∧ Z[k]? = some n ∧ n.path ≠ [] ∧ Z[j]? = some m ∧ m.file = false ∧
  ¬ n.path <+: m.path ++ [x] ∧ idx Z (m.path ++ [x]) = none ∧
  ∀ H', TreeAt K H' { g with P := g.P.set k (j, x) } (Z.map (moved n.path (m.path ++ [x]))) → (∀ c o, c ∉ g.fp → H c = some o → H' c = some o) → TupK H H' → Q .non H'
abbrev N_Tree_move_node : List Str := ["self", "number", "parent", "name", "old_parent", "old_name"]
theorem sc_Tree_move_node : FnScope N_Tree_move_node ["self", "number", "parent", "name"] (defScope s_Tree_move_node) := ⟨rfl, rfl, rfl, by decide +kernel, rfl, by decide +kernel, by decide +kernel⟩
theorem ok_Tree_move_node (T : Tx w K mg) : Cal P w K mg base 2 (fAd K ("Tree", some "move_node")) (Sp4 (P_Tree_move_node K)) := by
  refine mk4 (k := 1) T.fd_Tree_move_node sc_Tree_move_node (fun _ _ _ _ _ _ _ _ _ _  => rfl) fun cdv A outer s H E va vb vc vd Q hr h => ?_
  have hu := hu_of hr
  obtain ⟨g, Z, e, i, j, m, n, x, rfl, rfl, rfl, rfl, R, W, hn, hne, hm, hf, hop, hx, k⟩ := h
  refine ⟨_, (pss_cons (ps_asg (pe_ix ix_list (pe_fld (pv 0) rfl) (pv 1) (fun _ _ => rfl)) (pg_tup rfl (pgs_cons (pg_name (i := 4) sc_Tree_move_node.nd rfl (Or.inl rfl)) (pgs_cons (pg_name (i := 5) sc_Tree_move_node.nd rfl (Or.inl rfl)) pgs_nil))))
      (pss_cons (ps_expr (pmeth T.c_Directory T.m_Directory_take (ok_Directory_take T) hr (by decide) (pe_ix ix_list (pe_fld (pv 0) rfl) (pv 4) (fun _ _ => rfl)) (pa_cons (pv 5) pa_nil)))
      (pss_cons (ps_expr (pmeth T.c_Directory T.m_Directory_put (ok_Directory_put T) hr (by decide) (pe_ix ix_list (pe_fld (pv 0) rfl) (pv 2) (fun _ _ => rfl)) (pa_cons (pv 3) (pa_cons (pv 1) pa_nil))))
      (pss_one (ps_asg (pe_tup (pa_cons (pv 2) (pa_cons (pv 3) pa_nil))) (pg_sub (pe_fld (pv 0) rfl) (pv 1) set_list)))))), ?_⟩
  dsimp only [cxOf, Cx.nox]
  obtain ⟨dx, ht⟩ := R.tr
  obtain ⟨pa, hpa, hpv⟩ := R.pls
  obtain ⟨ma, mb, hma, hmb, M⟩ := R.at hm
  obtain ⟨ddx, kvs, hd1, hd2, hd3⟩ := M.dirE hf
  have hlen := R.lna
  have hZ := W.len
  have epa := hpv.length
  rw [List.length_map, R.lk.len] at epa
  have hkl : i < Z.length := (List.getElem?_eq_some_iff.mp hn).1
  have hP : g.P[i]? = some (g.P[i]'(by rw [R.lk.len]; exact hkl)) := List.getElem?_eq_getElem _
  obtain ⟨⟨r, y⟩, hry⟩ : ∃ ry, g.P[i]? = some ry := ⟨_, hP⟩
  have hk0 : 0 < i := by
    rcases Nat.eq_zero_or_pos i with z | z
    · subst z
      obtain ⟨l, h0⟩ := W.root
      rw [h0] at hn
      cases hn
      exact absurd rfl hne
    · exact z
  obtain ⟨di, hdi, hfi, hpi⟩ := R.lk.up i r y n hk0 hry hn
  obtain ⟨oa, ob, hoa, hob, O⟩ := R.at hdi
  obtain ⟨odx, okv, ho1, ho2, ho3⟩ := O.dirE hfi
  have toa := R.top (List.mem_append_left _ (List.mem_of_getElem? hoa))
  have tob := R.top (List.mem_append_right _ (List.mem_of_getElem? hob))
  have tma := R.top (List.mem_append_left _ (List.mem_of_getElem? hma))
  have tmb := R.top (List.mem_append_right _ (List.mem_of_getElem? hmb))
  obtain ⟨pv', hpv1, hpv2⟩ := hpv.get (i := i) (d := plD (r, y)) (by rw [List.getElem?_map, hry] <;> rfl)
  unfold plD at hpv2
  unfold isV at hpv2
  obtain ⟨t0, ts, rfl, ht0, hts⟩ := hpv2
  unfold isVs at hts
  obtain ⟨u1, r1, rfl, h1, hts⟩ := hts
  unfold isVs at hts
  obtain ⟨u2, r2, rfl, h2, hts⟩ := hts
  unfold isVs at hts
  subst hts
  unfold isV at h1 h2
  subst h1 h2
  refine ⟨_, rfl, g.t, _, dx, _, _, rfl, ht, T.c_Tree, T.n_Tree_places, zget fT1 rfl, _, rfl, g.pl, _, _, _, rfl, rfl, SqL.of hpa, atI_nat (j := i) hpv1, ?_⟩
  refine ⟨t0, _, rfl, SqT.of ht0, rfl, _, _, rfl, _, _, rfl, rfl, ?_⟩
  refine ⟨_, rfl, g.t, _, dx, _, _, rfl, ht, T.c_Tree, T.n_Tree_nodes, zget fT0 rfl, _, rfl, g.nl, _, _, _, rfl, rfl, SqL.of R.nls, atI_nat (j := r) (mapref hoa), ?_⟩
  have hv0 := ho3.r.val (x := y) (j := i) ⟨hk0, hry⟩
  refine ⟨oa, odx, _, rfl, ho1, znone (by decide +kernel), _, rfl, oa, odx, _, _, okv, S y, _, rfl, rfl, ho1, ho2, hv0, ?_⟩
  obtain ⟨kj, hkj, hkl'⟩ : ∃ kj, (upd H ob (.dK (dropK okv (Sum.inr (S y))))) mb = some (.dK kj) ∧ kj.length ≤ 1000 := by
    by_cases e : mb = ob
    · subst e
      rw [upd_same]
      refine ⟨_, rfl, ?_⟩
      have := ho3.few R.lk W hdi
      have := dropK_le okv (Sum.inr (S y))
      omega
    · rw [upd_ne e]
      have := hd3.few R.lk W hm
      exact ⟨_, hd2, by omega⟩
  have e1 : ∀ c o o', c ≠ ob → H c = some o → (upd H ob o') c = some o := fun c o o' hc h => by
    rw [upd_ne hc]
    exact h
  refine ⟨_, rfl, g.t, _, dx, _, _, rfl, e1 _ _ _ tob.1.symm ht, T.c_Tree, T.n_Tree_nodes, zget fT0 rfl, _, rfl, g.nl, _, _, _, rfl, rfl, SqL.of (e1 _ _ _ tob.2.1.symm R.nls), atI_nat (j := j) (mapref hma), ?_⟩
  refine ⟨ma, ddx, _, rfl, e1 _ _ _ (R.ne_ns hma hob) hd1, znone (by decide +kernel), _, rfl, _, rfl, ma, ddx, _, _, kj, S x, rfl, rfl, e1 _ _ _ (R.ne_ns hma hob) hd1, hkj, hkl', ?_⟩
  refine ⟨_, rfl, _, rfl, sm64 (by show 2 ≤ 10000; decide), fun q hq => ?_⟩
  have nqm : q ≠ mb := by
    rintro rfl
    rw [upd_same] at hq
    cases hq
  rw [upd_ne nqm] at hq
  have nqo : q ≠ ob := by
    rintro rfl
    rw [upd_same] at hq
    cases hq
  rw [upd_ne nqo] at hq
  have e4 : ∀ c o o' o'' o3, c ≠ ob → c ≠ mb → H c = some o → (upd (upd (upd H ob o') mb o'') q o3) c = some o := fun c o o' o'' o3 hc hc2 h => by
    rw [upd_ne (ne_of_none h hq), upd_ne hc2, upd_ne hc]
    exact h
  have ixi : ixN pa.length (i : Int) = some i := by
    unfold ixN
    rw [if_pos (by omega), if_pos (by omega)]
    simp
  refine ⟨_, rfl, g.t, _, dx, _, _, rfl, e4 _ _ _ _ _ tob.1.symm tmb.1.symm ht, T.c_Tree, T.n_Tree_places, zget fT1 rfl, _, rfl, g.pl, _, _, i, rfl, rfl, e4 _ _ _ _ _ tob.2.2.symm tmb.2.2.symm hpa, ixi, ?_⟩
  obtain ⟨x1, x2, x3⟩ := R.move W hn hne hm hf hop hx hry hob hmb ho2 hkj hpa hq rfl
  exact k _ x1 x2 x3
def P_Tree_look_up (K : PySem.W.Frag) (a b : V) (H : Hp) (Q : VK) : Prop := ∃ (g : Gh) (Z : Tr) (e : Nat) (q : Addr) (ns : List Nm), a = .ref g.t ∧ b = .ref q ∧ TreeAt K H g Z ∧ WF e Z ∧ H q = some (.lst (nmV ns)) ∧
  (∀ w, look Z [] ns = .no w → Q (.str w) H) ∧ (∀ k : Nat, look Z [] ns = .at k → Q (.int (k : Int)) H)
abbrev N_Tree_look_up : List Str := ["self", "names", "number", "name", "node"]
theorem sc_Tree_look_up : FnScope N_Tree_look_up ["self", "names"] (defScope s_Tree_look_up) := ⟨rfl, rfl, rfl, by decide +kernel, rfl, by decide +kernel, by decide +kernel⟩
theorem ok_Tree_look_up (T : Tx w K mg) : Cal P w K mg base 2 (fAd K ("Tree", some "look_up")) (Sp2 (P_Tree_look_up K)) := by
  refine mk2 (k := 1) T.fd_Tree_look_up sc_Tree_look_up (fun _ _ _ _ _ _ _ _  => rfl) fun cdv A outer s H E va vb Q hr h => ?_
  have hu := hu_of hr
  obtain ⟨g, Z, e, q, ns, rfl, rfl, R, W, hq, k1, k2⟩ := h
  refine ⟨_, (pss_cons (ps_set (i := 2) sc_Tree_look_up.nd rfl (Or.inl rfl) pe_int)
      (pss_cons (ps_for PassesOwn.never rfl (pi_list (pv 1)) (pg_name (i := 3) sc_Tree_look_up.nd rfl (Or.inl rfl))
      (pss_cons (ps_set (i := 4) sc_Tree_look_up.nd rfl (Or.inl rfl) (pe_ix ix_list (pe_fld (pv 0) rfl) (pv 2) (fun _ _ => rfl)))
      (pss_cons (ps_if (pt_val (pe_callB call_isi (by rfl) T.f_isinstance (by decide +kernel) (pa_cons (pv 4) (pa_cons (pe_glob (v := .ref _) rfl T.g_File rfl) pa_nil)))) (pss_one (ps_ret pe_str)) pss_nil)
      (pss_cons (ps_set (i := 2) sc_Tree_look_up.nd rfl (Or.inl rfl) (pmeth T.c_Directory T.m_Directory_child (ok_Directory_child T) hr (by decide) (pv 4) (pa_cons (pv 3) pa_nil)))
      (pss_one (ps_if (pt_cmpR op_isN (pv 2) pe_non (nomark _)) (pss_one (ps_ret pe_str)) pss_nil))))))
      (pss_one (ps_ret (pv 2))))), ?_⟩
  dsimp only [cxOf, Cx.nox]
  obtain ⟨dx, ht⟩ := R.tr
  have el : (nmV ns).length = ns.length := List.length_map _
  refine ⟨_, rfl, q, rfl, ⟨_, SqL.of hq⟩, for_list (K := K) (a := q) (xs := nmV ns) (fun i σ H2 => ∃ (o3 o4 : Option V) (k : Nat), σ = [some (.ref g.t), some (.ref q), some (.int (k : Int)), o3, o4] ∧ H2 = H ∧ idx Z (ns.take i) = some k ∧ look Z [] ns = look Z (ns.take i) (ns.drop i))
    ⟨none, none, 0, rfl, rfl, by rw [List.take_zero]; exact W.idx0, by rw [List.take_zero, List.drop_zero]⟩ (fun i σ H2 _ ⟨_, _, _, _, e, _⟩ => by rw [e]; exact SqL.of hq) ?_ ?_⟩
  · rintro i y σ H2 hy ⟨o3, o4, kk, rfl, rfl, hi, hlk⟩
    obtain ⟨x, hx, rfl⟩ : ∃ n, ns[i]? = some n ∧ V.str (S n) = y := by
      unfold nmV at hy
      rw [List.getElem?_map] at hy
      exact Option.map_eq_some_iff.mp hy
    obtain ⟨hil, egx⟩ := List.getElem?_eq_some_iff.mp hx
    rw [List.drop_eq_getElem_cons hil, egx] at hlk
    have etk : ns.take (i + 1) = ns.take i ++ [x] := by rw [List.take_add_one, hx] <;> rfl
    obtain ⟨n, hn, hpn⟩ := (idx_some W.dist).mp hi
    obtain ⟨na, nb, hna, hnb, N⟩ := R.at hn
    refine ⟨_, rfl, g.t, _, dx, _, _, rfl, ht, T.c_Tree, T.n_Tree_nodes, zget fT0 rfl, _, rfl, g.nl, _, _, _, rfl, rfl, SqL.of R.nls, atI_nat (j := kk) (mapref hna), ?_⟩
    rw [look_cons] at hlk
    have hF : isF Z (ns.take i) = n.file := by rw [← hpn]; exact isF_at W.dist hn
    rw [hF] at hlk
    cases hfile : n.file with
    | true =>
      obtain ⟨fdx, vs, h1, h2, h3⟩ := N.fileE hfile
      rw [hfile, if_pos rfl] at hlk
      exact ⟨_, rfl, _, _, _, _, _, rfl, isi_FF T h1 ⟨_, rfl, iteT (k1 _ hlk)⟩⟩
    | false =>
      obtain ⟨fdx, kvs, h1, h2, h3⟩ := N.dirE hfile
      rw [hfile, if_neg (by decide)] at hlk
      refine ⟨_, rfl, _, _, _, _, _, rfl, isi_DF T h1 ⟨_, rfl, iteF ?_⟩⟩
      refine ⟨_, rfl, na, fdx, _, rfl, h1, znone (by decide +kernel), _, rfl, na, fdx, _, _, kvs, S x, rfl, rfl, h1, h2, ?_⟩
      rw [h3.val R.lk W hn x, hpn]
      cases hidx : idx Z (ns.take i ++ [x]) with
      | none =>
        rw [hidx] at hlk
        exact ⟨_, rfl, rfl, _, rfl, iteT (k1 _ hlk)⟩
      | some j =>
        rw [hidx] at hlk
        exact ⟨_, rfl, rfl, _, rfl, iteF ⟨_, _, j, rfl, rfl, by rw [etk]; exact hidx, by rw [etk]; exact hlk⟩⟩
  · rintro σ H2 ⟨o3, o4, kk, rfl, rfl, hi, hlk⟩
    rw [el, List.take_length] at hi hlk
    rw [List.drop_length] at hlk
    rw [look_nil, hi] at hlk
    exact ⟨_, rfl, k2 _ hlk⟩
def P_Tree_above (K : PySem.W.Frag) (a b : V) (H : Hp) (Q : VK) : Prop := ∃ (g : Gh) (Z : Tr) (e k : Nat) (n : Nd), a = .ref g.t ∧ b = .int (k : Int) ∧ TreeAt K H g Z ∧ WF e Z ∧ Z[k]? = some n ∧
  ∀ p, H p = none → Q (.ref p) (upd H p (.lst ((abv Z n.path).map fun (i : Nat) => V.int (i : Int))))
abbrev N_Tree_above : List Str := ["self", "number", "numbers"]
theorem sc_Tree_above : FnScope N_Tree_above ["self", "number"] (defScope s_Tree_above) := ⟨rfl, rfl, rfl, by decide +kernel, rfl, by decide +kernel, by decide +kernel⟩
theorem ok_Tree_above (T : Tx w K mg) : Cal P w K mg base 2 (fAd K ("Tree", some "above")) (Sp2 (P_Tree_above K)) := by
  refine mk2 (k := 1) T.fd_Tree_above sc_Tree_above (fun _ _ _ _ _ _ _ _  => rfl) fun cdv A outer s H E va vb Q hr h => ?_
  have hu := hu_of hr
  obtain ⟨g, Z, e, i, n, rfl, rfl, R, W, hn, k⟩ := h
  refine ⟨_, (pss_cons (ps_set (i := 2) sc_Tree_above.nd rfl (Or.inl rfl) (pe_lst pa_nil))
      (pss_cons (ps_while PassesOwn.never (pt_cmpR op_ne (pv 1) pe_int (nomark _)) (pss_cons (ps_set (i := 1) sc_Tree_above.nd rfl (Or.inl rfl) (pe_ix ix_tup (pe_ix ix_list (pe_fld (pv 0) rfl) (pv 1) (fun _ _ => rfl)) pe_int (fun _ _ => rfl)))
      (pss_one (ps_expr (pe_bm PySem.F.plainAttrs_list PySem.F.slot_list_append PySem.F.type_list_append mt_append (pv 2) (pa_cons (pv 1) pa_nil))))))
      (pss_one (ps_ret (pv 2))))), ?_⟩
  dsimp only [cxOf, Cx.nox]
  obtain ⟨dx, ht⟩ := R.tr
  obtain ⟨pa, hpa, hpv⟩ := R.pls
  refine ⟨sm64 (by show 0 ≤ 10000; decide), fun p hp => ?_⟩
  refine ⟨fun m σ H2 => ∃ (kk : Nat) (z : Nd) (acc : List Nat), σ = [some (.ref g.t), some (.int (kk : Int)), some (.ref p)] ∧ H2 = upd H p (.lst (acc.map fun (i : Nat) => V.int (i : Int))) ∧ Z[kk]? = some z ∧ m = z.path.length ∧ abv Z n.path = acc ++ abv Z z.path ∧ acc.length + z.path.length = n.path.length,
    ⟨n.path.length, i, n, [], rfl, rfl, hn, rfl, rfl, by rw [List.length_nil, Nat.zero_add]⟩, ?_⟩
  rintro m σ H2 ⟨kk, z, acc, rfl, rfl, hz, rfl, hab, hlen⟩
  have s2 : ∀ c o o', H c = some o → (upd H p o') c = some o := fun c o o' h => by
    rw [upd_ne (ne_of_none h hp)]
    exact h
  have h6 := (W.good n (List.mem_of_getElem? hn)).2
  refine ⟨_, rfl, rfl, _, rfl, iteB (fun h1 => ?_) (fun h1 => ?_)⟩
  · have hk0 : 0 < kk := by
      have h1 : (!decide (V.int (kk : Int) = V.int 0)) = true := h1
      rcases Nat.eq_zero_or_pos kk with zz | zz
      · subst zz
        simp at h1
      · exact zz
    have hkl : kk < Z.length := (List.getElem?_eq_some_iff.mp hz).1
    obtain ⟨⟨r, y⟩, hry⟩ : ∃ ry, g.P[kk]? = some ry := ⟨_, List.getElem?_eq_getElem (by rw [R.lk.len]; exact hkl)⟩
    obtain ⟨d, hd, hfd, hpd⟩ := R.lk.up kk r y z hk0 hry hz
    obtain ⟨pv', hpv1, hpv2⟩ := hpv.get (i := kk) (d := plD (r, y)) (by rw [List.getElem?_map, hry] <;> rfl)
    unfold plD at hpv2
    unfold isV at hpv2
    obtain ⟨t0, ts, rfl, ht0, hts⟩ := hpv2
    unfold isVs at hts
    obtain ⟨u1, r1, rfl, h1, hts⟩ := hts
    unfold isV at h1
    subst h1
    refine ⟨fun σ' H' => ∃ m', m' < z.path.length ∧ ∃ (kk : Nat) (z : Nd) (acc : List Nat), σ' = [some (.ref g.t), some (.int (kk : Int)), some (.ref p)] ∧ H' = upd H p (.lst (acc.map fun (i : Nat) => V.int (i : Int))) ∧ Z[kk]? = some z ∧ m' = z.path.length ∧ abv Z n.path = acc ++ abv Z z.path ∧ acc.length + z.path.length = n.path.length, fun σ' H' h => h, ?_⟩
    refine ⟨_, rfl, g.t, _, dx, _, _, rfl, s2 _ _ _ ht, T.c_Tree, T.n_Tree_places, zget fT1 rfl, _, rfl, g.pl, _, _, _, rfl, rfl, SqL.of (s2 _ _ _ hpa), atI_nat (j := kk) hpv1, t0, _, _, _, rfl, rfl, SqT.of (s2 _ _ _ ht0), atI_nat (j := 0) rfl, ?_⟩
    rw [hpd, List.length_append, List.length_singleton] at hlen
    rw [hpd, abv_snoc, (idx_some W.dist).mpr ⟨d, hd, rfl⟩] at hab
    refine ⟨_, rfl, .inl ⟨rfl, _, SqL.of upd_same⟩, _, rfl, p, _, _, rfl, rfl, upd_same, sm63 (by rw [List.length_map]; omega), ?_⟩
    refine ⟨d.path.length, by rw [hpd, List.length_append, List.length_singleton]; exact Nat.lt_succ_self _, r, d, acc ++ [r], rfl, ?_, hd, rfl, by rw [hab, List.append_assoc] <;> rfl, by rw [List.length_append, List.length_singleton]; omega⟩
    rw [upd_upd, List.map_append] <;> rfl
  · have hk0 : kk = 0 := by
      have h1 : (!decide (V.int (kk : Int) = V.int 0)) = false := h1
      simpa using h1
    subst hk0
    obtain ⟨l, h0⟩ := W.root
    rw [h0] at hz
    cases hz
    have : abv Z ([] : List Nm) = [] := abv_nil
    rw [this, List.append_nil] at hab
    rw [← hab]
    exact ⟨_, rfl, k p hp⟩
end
end Ah
/-! Sizes and heights. -/
namespace Ah
open PySem PySem.Spec PyProof.Rows L2 He SX
theorem sum_cast (l : List Nat) : (l.map fun (n : Nat) => (n : Int)).sum = ((l.sum : Nat) : Int) := by
  induction l with
  | nil => rfl
  | cons a l ih =>
    rw [List.map_cons, List.sum_cons, List.sum_cons, ih]
    omega
section
variable {c : Nat} {Z : Tr} {n : Nd}
theorem kid_of (W : WF c Z) {p : List Nm} {x : Nm} {r : List Nm} (hn : n ∈ Z) (h : n.path = p ++ x :: r) : x ∈ kidsN Z p := by
  obtain ⟨d, hd, e, _⟩ := W.closed r n hn (p ++ [x]) (by rw [h, List.append_assoc] <;> rfl)
  exact kidsN_mem.mpr ⟨d, hd, e⟩
theorem size_sum (W : WF c Z) (hn : n ∈ Z) (hf : n.file = false) {ms : List Nm} (hm : ms.Perm (kidsN Z n.path)) : (ms.map fun x => sizeAt Z (n.path ++ [x])).sum = sizeAt Z n.path := by
  refine size_kids ms (hm.nodup_iff.mpr (kidsN_nodup W)) Z (fun m hm' x r h => hm.mem_iff.mpr (kid_of W hm' h)) fun m hm' h => ?_
  have e : m = n := by
    obtain ⟨i, hi⟩ := List.getElem?_of_mem hm'
    obtain ⟨j, hj⟩ := List.getElem?_of_mem hn
    have := at_inj W.dist hi hj h
    subst this
    rw [hi] at hj
    exact Option.some.inj hj
  subst e
  unfold Nd.size
  rw [(W.dirp m hn hf).1] <;> rfl
end
section
variable {P : Program} {w : World} {K : PySem.W.Frag} {mg : Str → Option Value} {base : Heap}
def P_size (K : PySem.W.Frag) (d : Nat) (a b : V) (H : Hp) (Q : VK) : Prop := ∃ (g : Gh) (Z : Tr) (e k : Nat) (n : Nd), a = .ref g.t ∧ b = .int (k : Int) ∧ TreeAt K H g Z ∧ WF e Z ∧ Z[k]? = some n ∧ 6 < n.path.length + d ∧
  ∀ H', Same H H' → Q (.int (sizeAt Z n.path : Int)) H'
def P_height (K : PySem.W.Frag) (d : Nat) (a b : V) (H : Hp) (Q : VK) : Prop := ∃ (g : Gh) (Z : Tr) (e k : Nat) (n : Nd), a = .ref g.t ∧ b = .int (k : Int) ∧ TreeAt K H g Z ∧ WF e Z ∧ Z[k]? = some n ∧ 6 < n.path.length + d ∧
  ∀ H', Same H H' → Q (.int (heightAt Z n.path : Int)) H'
abbrev N_Tree_size_of : List Str := ["self", "number", "node", "name"]
theorem sc_Tree_size_of : FnScope N_Tree_size_of ["self", "number"] (defScope s_Tree_size_of) := ⟨rfl, rfl, rfl, by decide +kernel, rfl, by decide +kernel, by decide +kernel⟩
theorem size_d (T : Tx w K mg) : ∀ d, Cal P w K mg base (3 + d) (fAd K ("Tree", some "size_of")) (Sp2 (P_size K d)) := by
  intro d
  induction d with
  | zero =>
    refine mk2 (k := 2) T.fd_Tree_size_of sc_Tree_size_of (fun _ _ _ _ _ _ _ _ => rfl) fun cdv A outer s H E va vb Q hr h => ?_
    obtain ⟨g, Z, e, i, n, _, _, _, W, hn, h6, _⟩ := h
    have := (W.good n (List.mem_of_getElem? hn)).2
    omega
  | succ d ih =>
    refine mk2 (k := 3 + d) T.fd_Tree_size_of sc_Tree_size_of (fun _ _ _ _ _ _ _ _ => rfl) fun cdv A outer s H E va vb Q hr h => ?_
    have hu := hu_of hr
    obtain ⟨g, Z, e, i, n, rfl, rfl, R, W, hn, h6, k⟩ := h
    refine ⟨_, (pss_cons (ps_set (i := 2) sc_Tree_size_of.nd rfl (Or.inr rfl) (pe_ix ix_list (pe_fld (pv 0) rfl) (pv 1) (fun _ _ => rfl)))
      (pss_cons (ps_if (pt_val (pe_callB call_isi (by rfl) T.f_isinstance (by decide +kernel) (pa_cons (pv 2) (pa_cons (pe_glob (v := .ref _) rfl T.g_File rfl) pa_nil)))) (pss_one (ps_ret (pprop T.c_File T.pr_File_length.1 (ok_File_length T) hr (by omega) (pv 2)))) pss_nil)
      (pss_one (ps_ret (pe_callB (cr_sum rfl) (by rfl) T.f_sum (by decide +kernel) (pa_cons (pe_lc (own := [("name", 3)]) (g := gName 3) (tt := tYes) rfl sc_Tree_size_of.nd (pi_list (pmeth0 T.c_Directory T.m_Directory_names (ok_Directory_names T) hr (by omega) (pv 2))) (blkOk_by (own := [("name", 3)]) (N := N_Tree_size_of) (sc := defScope s_Tree_size_of) (by decide +kernel)) (fun _ _ _ _ _ => pg_name (i := 3) sc_Tree_size_of.nd rfl (Or.inl rfl)) (fun _ _ _ _ _ => pts_nil) (fun _ _ _ _ _ => (pmeth T.c_Tree T.m_Tree_size_of ih hr (by omega) (pv 0) (pa_cons (pmeth T.c_Directory T.m_Directory_child (ok_Directory_child T) hr (by omega) (pv 2) (pa_cons (pv 3) pa_nil)) pa_nil)))) pa_nil)))))), ?_⟩
    dsimp only [cxOf, Cx.nox]
    obtain ⟨dx, ht⟩ := R.tr
    obtain ⟨na, nb, hna, hnb, N⟩ := R.at hn
    have hnz := List.mem_of_getElem? hn
    refine ⟨_, rfl, g.t, _, dx, _, _, rfl, ht, T.c_Tree, T.n_Tree_nodes, zget fT0 rfl, _, rfl, g.nl, _, _, _, rfl, rfl, SqL.of R.nls, atI_nat (j := i) (mapref hna), ?_⟩
    cases hfile : n.file with
    | true =>
      obtain ⟨fdx, vs, h1, h2, h3⟩ := N.fileE hfile
      refine ⟨_, rfl, _, _, _, _, _, rfl, isi_FF T h1 ⟨_, rfl, iteT ?_⟩⟩
      refine ⟨_, rfl, na, fdx, _, rfl, h1, na, fdx, _, _, _, rfl, h1, ?_⟩
      have := k H (Same.refl H)
      rw [size_file W hnz hfile] at this
      exact this
    | false =>
      obtain ⟨fdx, kvs, h1, h2, h3⟩ := N.dirE hfile
      refine ⟨_, rfl, _, _, _, _, _, rfl, isi_DF T h1 ⟨_, rfl, iteF ?_⟩⟩
      obtain ⟨ns, hk1, hk2⟩ := h3.keys R.lk W hn
      have hfew := h3.few R.lk W hn
      have hnl : ns.length < 64 := by
        have := congrArg List.length hk1
        rw [List.length_map, List.length_map, List.length_map] at this
        omega
      refine ⟨_, rfl, na, fdx, _, rfl, h1, znone (by decide +kernel), na, fdx, _, _, kvs, ns.map S, rfl, h1, h2, hk1, by rw [List.length_map]; exact hnl, fun ys p hperm hsort hp => ?_⟩
      have ey := sorted_is hperm hsort
      subst ey
      have hms : (sortN ns).Perm (kidsN Z n.path) := (sortN_perm ns).trans hk2
      generalize sortN ns = ms at hms
      have emv : (ms.map S).map V.str = nmV ms := by rw [List.map_map] <;> rfl
      rw [emv]
      have elv : (nmV ms).length = ms.length := List.length_map _
      have hml : ms.length < 64 := by
        rw [hms.length_eq, ← hk2.length_eq]
        exact hnl
      have s0 : ∀ o, Same H (upd H p o) := fun o b o' h => by
        rw [upd_ne (ne_of_none h hp)]
        exact h
      refine ⟨p, rfl, ⟨_, SqL.of upd_same⟩, fun D hD => ?_⟩
      have nDp : D ≠ p := by
        rintro rfl
        rw [upd_same] at hD
        cases hD
      rw [upd_ne nDp] at hD
      refine lc_list (K := K) (a := p) (xs := nmV ms) (fun i H2 => Same H H2 ∧ H2 p = some (.lst (nmV ms)) ∧ H2 D = some (.lst ((ms.take i).map fun x => V.int (sizeAt Z (n.path ++ [x]) : Int)))) ⟨fun b o h => ?_, ?_, upd_same⟩ (fun i H2 _ h => SqL.of h.2.1) ?_ ?_
      · rw [upd_ne (ne_of_none h hD)]
        exact s0 _ _ _ h
      · rw [upd_ne nDp.symm, upd_same]
      · rintro j y H2 hy ⟨s2, hp2, hD2⟩
        obtain ⟨x, hx, rfl⟩ : ∃ x, ms[j]? = some x ∧ V.str (S x) = y := by
          unfold nmV at hy
          rw [List.getElem?_map] at hy
          exact Option.map_eq_some_iff.mp hy
        obtain ⟨z, hz, hzp⟩ := kidsN_mem.mp (hms.mem_iff.mp (List.mem_of_getElem? hx))
        obtain ⟨kk, hkk, hkz⟩ := idx_of_mem W.dist hz
        rw [hzp] at hkk
        have hv := h3.val R.lk W hn x
        rw [hkk] at hv
        refine ⟨rfl, ?_⟩
        refine ⟨_, rfl, g.t, dx, _, rfl, s2 _ _ ht, znone (by decide +kernel), ?_⟩
        refine ⟨_, rfl, na, fdx, _, rfl, s2 _ _ h1, znone (by decide +kernel), _, rfl, na, fdx, _, _, kvs, S x, rfl, rfl, s2 _ _ h1, s2 _ _ h2, ?_⟩
        rw [hv]
        refine ⟨g, Z, e, kk, z, rfl, rfl, R.same s2, W, hkz, by rw [hzp, List.length_append, List.length_singleton]; omega, fun H3 s3 => ?_⟩
        refine ⟨_, s3 _ _ hD2, sm63 (by rw [List.length_map, List.length_take]; omega), fun b o h => ?_, ?_, ?_⟩
        · rw [upd_ne (ne_of_none h hD)]
          exact s3 _ _ (s2 _ _ h)
        · rw [upd_ne nDp.symm]
          exact s3 _ _ hp2
        · rw [upd_same, List.take_add_one, hx, hzp]
          simp
      · rintro H2 ⟨s2, hp2, hD2⟩
        rw [elv, List.take_length] at hD2
        refine ⟨D, ms.map fun x => (sizeAt Z (n.path ++ [x]) : Int), rfl, SqL.of (by rw [hD2, List.map_map] <;> rfl), ?_⟩
        have e1 : (ms.map fun x => (sizeAt Z (n.path ++ [x]) : Int)).sum = (sizeAt Z n.path : Int) := by
          rw [← size_sum W hnz hfile hms, ← sum_cast, List.map_map] <;> rfl
        rw [e1]
        exact k H2 s2
abbrev N_Tree_height_of : List Str := ["self", "number", "node", "name"]
theorem sc_Tree_height_of : FnScope N_Tree_height_of ["self", "number"] (defScope s_Tree_height_of) := ⟨rfl, rfl, rfl, by decide +kernel, rfl, by decide +kernel, by decide +kernel⟩
theorem height_d (T : Tx w K mg) : ∀ d, Cal P w K mg base (3 + d) (fAd K ("Tree", some "height_of")) (Sp2 (P_height K d)) := by
  intro d
  induction d with
  | zero =>
    refine mk2 (k := 2) T.fd_Tree_height_of sc_Tree_height_of (fun _ _ _ _ _ _ _ _ => rfl) fun cdv A outer s H E va vb Q hr h => ?_
    obtain ⟨g, Z, e, i, n, _, _, _, W, hn, h6, _⟩ := h
    have := (W.good n (List.mem_of_getElem? hn)).2
    omega
  | succ d ih =>
    refine mk2 (k := 3 + d) T.fd_Tree_height_of sc_Tree_height_of (fun _ _ _ _ _ _ _ _ => rfl) fun cdv A outer s H E va vb Q hr h => ?_
    have hu := hu_of hr
    obtain ⟨g, Z, e, i, n, rfl, rfl, R, W, hn, h6, k⟩ := h
    refine ⟨_, (pss_cons (ps_set (i := 2) sc_Tree_height_of.nd rfl (Or.inr rfl) (pe_ix ix_list (pe_fld (pv 0) rfl) (pv 1) (fun _ _ => rfl)))
      (pss_cons (ps_if (pt_val (pe_callB call_isi (by rfl) T.f_isinstance (by decide +kernel) (pa_cons (pv 2) (pa_cons (pe_glob (v := .ref _) rfl T.g_File rfl) pa_nil)))) (pss_one (ps_ret pe_int)) pss_nil)
      (pss_one (ps_ret (pe_callB (cr_max rfl) (by rfl) T.f_max (by decide +kernel) (pa_cons (pe_op op_cat (pe_lst (pa_cons pe_int pa_nil)) (pe_lc (own := [("name", 3)]) (g := gName 3) (tt := tYes) rfl sc_Tree_height_of.nd (pi_list (pmeth0 T.c_Directory T.m_Directory_names (ok_Directory_names T) hr (by omega) (pv 2))) (blkOk_by (own := [("name", 3)]) (N := N_Tree_height_of) (sc := defScope s_Tree_height_of) (by decide +kernel)) (fun _ _ _ _ _ => pg_name (i := 3) sc_Tree_height_of.nd rfl (Or.inl rfl)) (fun _ _ _ _ _ => pts_nil) (fun _ _ _ _ _ => (pe_op op_add pe_int (pmeth T.c_Tree T.m_Tree_height_of ih hr (by omega) (pv 0) (pa_cons (pmeth T.c_Directory T.m_Directory_child (ok_Directory_child T) hr (by omega) (pv 2) (pa_cons (pv 3) pa_nil)) pa_nil)))))) pa_nil)))))), ?_⟩
    dsimp only [cxOf, Cx.nox]
    obtain ⟨dx, ht⟩ := R.tr
    obtain ⟨na, nb, hna, hnb, N⟩ := R.at hn
    have hnz := List.mem_of_getElem? hn
    refine ⟨_, rfl, g.t, _, dx, _, _, rfl, ht, T.c_Tree, T.n_Tree_nodes, zget fT0 rfl, _, rfl, g.nl, _, _, _, rfl, rfl, SqL.of R.nls, atI_nat (j := i) (mapref hna), ?_⟩
    cases hfile : n.file with
    | true =>
      obtain ⟨fdx, vs, h1, h2, h3⟩ := N.fileE hfile
      refine ⟨_, rfl, _, _, _, _, _, rfl, isi_FF T h1 ⟨_, rfl, iteT ?_⟩⟩
      have := k H (Same.refl H)
      rw [height_file W hnz hfile] at this
      exact this
    | false =>
      obtain ⟨fdx, kvs, h1, h2, h3⟩ := N.dirE hfile
      refine ⟨_, rfl, _, _, _, _, _, rfl, isi_DF T h1 ⟨_, rfl, iteF ?_⟩⟩
      obtain ⟨ns, hk1, hk2⟩ := h3.keys R.lk W hn
      have hfew := h3.few R.lk W hn
      have hnl : ns.length < 64 := by
        have := congrArg List.length hk1
        rw [List.length_map, List.length_map, List.length_map] at this
        omega
      refine ⟨sm64 (by show 1 ≤ 10000; decide), fun a0 ha0 => ?_⟩
      have sa : ∀ o, Same H (upd H a0 o) := fun o b o' h => by
        rw [upd_ne (ne_of_none h ha0)]
        exact h
      refine ⟨_, rfl, na, fdx, _, rfl, sa _ _ _ h1, znone (by decide +kernel), na, fdx, _, _, kvs, ns.map S, rfl, sa _ _ _ h1, sa _ _ _ h2, hk1, by rw [List.length_map]; exact hnl, fun ys p hperm hsort hp => ?_⟩
      have npa : p ≠ a0 := by
        rintro rfl
        rw [upd_same] at hp
        cases hp
      rw [upd_ne npa] at hp
      have ey := sorted_is hperm hsort
      subst ey
      have hms : (sortN ns).Perm (kidsN Z n.path) := (sortN_perm ns).trans hk2
      generalize sortN ns = ms at hms
      have emv : (ms.map S).map V.str = nmV ms := by rw [List.map_map] <;> rfl
      rw [emv]
      have elv : (nmV ms).length = ms.length := List.length_map _
      have hml : ms.length < 64 := by
        rw [hms.length_eq, ← hk2.length_eq]
        exact hnl
      have s0 : ∀ o o', Same H (upd (upd H a0 o) p o') := fun o o2 b o' h => by
        rw [upd_ne (ne_of_none h hp)]
        exact sa _ _ _ h
      refine ⟨p, rfl, ⟨_, SqL.of upd_same⟩, fun D hD => ?_⟩
      have nDp : D ≠ p := by
        rintro rfl
        rw [upd_same] at hD
        cases hD
      rw [upd_ne nDp] at hD
      have nDa : D ≠ a0 := by
        rintro rfl
        rw [upd_same] at hD
        cases hD
      rw [upd_ne nDa] at hD
      refine lc_list (K := K) (a := p) (xs := nmV ms) (fun i H2 => Same H H2 ∧ H2 p = some (.lst (nmV ms)) ∧ H2 a0 = some (.lst [.int 0]) ∧ H2 D = some (.lst ((ms.take i).map fun x => V.int (1 + (heightAt Z (n.path ++ [x]) : Int))))) ⟨fun b o h => ?_, ?_, ?_, upd_same⟩ (fun i H2 _ h => SqL.of h.2.1) ?_ ?_
      · rw [upd_ne (ne_of_none h hD)]
        exact s0 _ _ _ _ h
      · rw [upd_ne nDp.symm, upd_same]
      · rw [upd_ne nDa.symm, upd_ne npa.symm, upd_same]
      · rintro j y H2 hy ⟨s2, hp2, ha2, hD2⟩
        obtain ⟨x, hx, rfl⟩ : ∃ x, ms[j]? = some x ∧ V.str (S x) = y := by
          unfold nmV at hy
          rw [List.getElem?_map] at hy
          exact Option.map_eq_some_iff.mp hy
        obtain ⟨z, hz, hzp⟩ := kidsN_mem.mp (hms.mem_iff.mp (List.mem_of_getElem? hx))
        obtain ⟨kk, hkk, hkz⟩ := idx_of_mem W.dist hz
        rw [hzp] at hkk
        have hv := h3.val R.lk W hn x
        rw [hkk] at hv
        refine ⟨rfl, ?_⟩
        refine ⟨_, rfl, g.t, dx, _, rfl, s2 _ _ ht, znone (by decide +kernel), ?_⟩
        refine ⟨_, rfl, na, fdx, _, rfl, s2 _ _ h1, znone (by decide +kernel), _, rfl, na, fdx, _, _, kvs, S x, rfl, rfl, s2 _ _ h1, s2 _ _ h2, ?_⟩
        rw [hv]
        refine ⟨g, Z, e, kk, z, rfl, rfl, R.same s2, W, hkz, by rw [hzp, List.length_append, List.length_singleton]; omega, fun H3 s3 => ?_⟩
        refine ⟨_, _, rfl, rfl, _, s3 _ _ hD2, sm63 (by rw [List.length_map, List.length_take]; omega), fun b o h => ?_, ?_, ?_, ?_⟩
        · rw [upd_ne (ne_of_none h hD)]
          exact s3 _ _ (s2 _ _ h)
        · rw [upd_ne nDp.symm]
          exact s3 _ _ hp2
        · rw [upd_ne nDa.symm]
          exact s3 _ _ ha2
        · rw [upd_same, List.take_add_one, hx, hzp]
          simp
      · rintro H2 ⟨s2, hp2, ha2, hD2⟩
        rw [elv, List.take_length] at hD2
        refine ⟨a0, D, _, _, rfl, rfl, ha2, hD2, sm64 (by rw [List.length_map, List.length_singleton]; omega), fun q hq => ?_⟩
        refine ⟨q, (0 :: ms.map fun x => 1 + heightAt Z (n.path ++ [x])).map fun (i : Nat) => (i : Int), rfl, SqL.of ?_, by simp, fun m hm hmax => ?_⟩
        · rw [upd_same, List.map_map, List.map_cons, List.map_map]
          rfl
        · obtain ⟨b, hb, rfl⟩ := List.mem_map.mp hm
          have e1 : b = heightAt Z n.path := height_kids ms (fun m' hm' x r h => hms.mem_iff.mpr (kid_of W hm' h)) (fun x hx => kidsN_mem.mp (hms.mem_iff.mp hx)) hb fun y hy => by
            have := hmax (y : Int) (List.mem_map.mpr ⟨y, hy, rfl⟩)
            omega
          rw [e1]
          exact k _ fun b o h => by
            rw [upd_ne (ne_of_none (s2 _ _ h) hq)]
            exact s2 _ _ h
theorem ok_Tree_size_of (T : Tx w K mg) : Cal P w K mg base 10 (fAd K ("Tree", some "size_of")) (Sp2 (P_size K 7)) := size_d T 7
theorem ok_Tree_height_of (T : Tx w K mg) : Cal P w K mg base 10 (fAd K ("Tree", some "height_of")) (Sp2 (P_height K 7)) := height_d T 7
end
end Ah
/-! What a deed leaves; lists of names; the limits. -/
namespace Ah
open PySem PySem.Spec PyProof.Rows L2 He SX
/-! ### lists of names -/
def nmD (p : List Nm) : List PyData := p.map fun n => PyData.str (S n)
theorem strOk_nm {n : Nm} (h : isNm n = true) : PyData.strOk (S n) = true := by
  unfold PyData.strOk
  rw [← Array.all_toList]
  refine List.all_eq_true.mpr fun c hc => decide_eq_true ?_
  have h1 : c ∈ chars := (isNm_iff.mp h).2.1 c hc
  have h2 : ∀ c ∈ chars, c < 0x110000 := by decide
  exact h2 c h1
theorem shaped_nm {p : List Nm} (g : Good p) : SeqAt.shaped (.list (nmD p)) = true := by
  have h1 : ∀ p : List Nm, Good p → PyData.canLayAll0 (nmD p) = true ∧ PyData.depthAll (nmD p) = 0 := by
    intro p
    induction p with
    | nil => exact fun _ => ⟨by simp [nmD, PyData.canLayAll0], by simp [nmD, PyData.depthAll]⟩
    | cons n p ih =>
      intro g
      obtain ⟨i1, i2⟩ := ih fun m hm => g m (List.mem_cons_of_mem _ hm)
      have i3 := strOk_nm (g n List.mem_cons_self)
      unfold nmD at i1 i2 ⊢
      exact ⟨by simp [PyData.canLayAll0, PyData.canLay0, i3, i1], by simp [PyData.depthAll, PyData.depth, i2]⟩
  obtain ⟨a, b⟩ := h1 p g
  show (PyData.canLay0 (.list (nmD p)) && decide (PyData.depth (.list (nmD p)) ≤ 64)) = true
  rw [Bool.and_eq_true]
  refine ⟨by simp only [PyData.canLay0]; exact a, decide_eq_true ?_⟩
  simp only [PyData.depth, b]
  omega
theorem eqv_nm : ∀ p q : List Nm, PyData.eqv (.list (nmD p)) (.list (nmD q)) = decide (p = q) := by
  intro p q
  simp only [PyData.eqv]
  induction p generalizing q with
  | nil => cases q <;> simp [nmD, PyData.eqvAll]
  | cons a p ih =>
    cases q with
    | nil => simp [nmD, PyData.eqvAll]
    | cons b q =>
      have := ih q
      unfold nmD at this ⊢
      simp only [List.map_cons, PyData.eqvAll, PyData.eqv, this]
      rw [S_beq_eq, Bool.eq_iff_iff]
      simp
theorem dp_nm {K : PySem.W.Frag} {H : Hp} {q : Addr} {p : List Nm} (h : H q = some (.lst (nmV p))) : Dp K H (.ref q) (.list (nmD p)) := by
  refine .lst (SqL.of h) ?_
  clear h
  induction p with
  | nil => exact .nil
  | cons a p ih => exact .cons (.str _) ih
theorem nmV_app (p q : List Nm) : nmV (p ++ q) = nmV p ++ nmV q := List.map_append
theorem nmV_len (p : List Nm) : (nmV p).length = p.length := List.length_map _
theorem cut_last (ns : List Nm) : cutV (nmV ns) none (some (-1)) = nmV ns.dropLast := by
  unfold cutV nmV
  rw [List.length_map, HT.sIx_none, List.drop_zero]
  have : HT.sIx ns.length ns.length (some (-1)) = ns.length - 1 := by
    show (if (-1 : Int) < 0 then ((-1 : Int) + (ns.length : Int)).toNat else min (-1 : Int).toNat ns.length) = _
    rw [if_pos (by decide)]
    omega
  rw [this, Nat.sub_zero, List.dropLast_eq_take, List.map_take]
theorem cut_take (ns : List Nm) (k : Nat) : cutV (nmV ns) none (some (k : Int)) = nmV (ns.take k) := by
  unfold cutV nmV
  rw [List.length_map, HT.sIx_none, List.drop_zero, HT.sIx_nat, Nat.sub_zero, List.map_take]
  rcases Nat.le_total k ns.length with h | h
  · rw [Nat.min_eq_left h]
  · rw [Nat.min_eq_right h, List.take_of_length_le (by rw [List.length_map]; exact Nat.le_refl _), List.take_of_length_le (by rw [List.length_map]; exact h)]
theorem last_at {ns : List Nm} {x : Nm} (h : ns.getLast? = some x) : atI (nmV ns) (-1) = some (.str (S x)) := by
  rw [← last_drop h, nmV_app]
  exact atI_last _ _
/-! ### what is left -/
def Done (K : PySem.W.Frag) (g : Gh) (H : Hp) (out : Tr × D) (Q : VK) : Prop := ∀ (g' : Gh) (H' : Hp) (v : V), g'.t = g.t → TreeAt K H' g' out.1 → Post g.fp g'.fp H H' → isV H' out.2 v → Q v H'
section
variable {K : PySem.W.Frag} {H H1 : Hp} {g : Gh} {Z : Tr} {Q : VK} {c k : Nat} {n m : Nd} {p o : List Nm} {x : Nm}
theorem same_new {p : Addr} {o : HO} (h : H p = none) : Same H (upd H p o) := fun b o' e => by
  rw [upd_ne (ne_of_none e h)]
  exact e
theorem Done.ref {w : Str} (D : Done K g H (Z, refu w) Q) (R : TreeAt K H g Z) (s : Same H H1) {q : Addr} (hq : H1 q = none) : Q (.ref q) (upd H1 q (.tup [.str "refused", .str w])) := by
  have s2 : Same H (upd H1 q (.tup [.str "refused", .str w])) := s.trans (same_new hq)
  exact D g _ _ rfl (R.same s2) (Post.same s2) (isV.tup upd_same (isVs.cons isV.str (isVs.cons isV.str isVs.nil)))
theorem refuse (R : TreeAt K H g Z) {w : Str} (D : Done K g H (Z, refu w) Q) (s : Same H H1) : P_refused K (.str w) H1 Q := ⟨w, rfl, fun q hq => D.ref R s hq⟩
def fileAt (Z : Tr) (p : List Nm) : Res := match look Z [] p with
  | .no w => .no w
  | .at k => if isF Z p = true then .at k else .no "kind"
/-! ### what stands above -/
theorem abv_dir (W : WF c Z) (Hg : Hung Z p) (hn : n ∈ Z) (hp : p <+: n.path) {i : Nat} (hi : i ∈ abv Z p) : ∃ d, Z[i]? = some d ∧ d.file = false := by
  obtain ⟨d, hd, hpp⟩ := (mem_abv W Hg).mp hi
  obtain ⟨h1, h2⟩ := pp_iff.mp hpp
  have h3 : d.path <+: n.path := h1.trans hp
  obtain ⟨d', hd', e, hf⟩ := W.closed' hn h3
  obtain ⟨j, hj⟩ := List.getElem?_of_mem hd'
  have := at_inj W.dist hj hd e
  subst this
  rw [hd] at hj
  cases hj
  refine ⟨d, hd, hf fun z => h2 ?_⟩
  exact (h1.eq_of_length (Nat.le_antisymm h1.length_le (by rw [z]; exact hp.length_le)))
theorem bursts_node (W : WF c Z) (hn : n ∈ Z) (more : Nat) : bursts Z n.path [] more = (abv Z n.path).any (overAt Z more) := by
  refine bursts_any W fun k => ?_
  rw [mem_abv W (hung_node W hn)]
  exact exists_congr fun d => and_congr_right fun _ => ⟨fun h => ⟨h, pp_nil⟩, fun h => h.1⟩
theorem mem_par (W : WF c Z) (hm : m ∈ Z) (hk : Z[k]? = some m) {i : Nat} : i ∈ k :: abv Z m.path ↔ ∃ d, Z[i]? = some d ∧ pp d.path (m.path ++ [x]) = true := by
  rw [List.mem_cons, mem_abv W (hung_node W hm)]
  constructor
  · rintro (rfl | ⟨d, hd, h⟩)
    · exact ⟨m, hk, pp_iff.mpr ⟨List.prefix_append _ _, by simp⟩⟩
    · obtain ⟨h1, h2⟩ := pp_iff.mp h
      refine ⟨d, hd, pp_iff.mpr ⟨h1.trans (List.prefix_append _ _), fun z => ?_⟩⟩
      have := h1.length_le
      rw [z, List.length_append, List.length_singleton] at this
      omega
  · rintro ⟨d, hd, h⟩
    obtain ⟨h1, h2⟩ := pp_iff.mp h
    rcases List.prefix_concat_iff.mp h1 with h3 | h3
    · exact absurd h3 h2
    · by_cases e : d.path = m.path
      · exact .inl (at_inj W.dist hd hk e)
      · exact .inr ⟨d, hd, pp_iff.mpr ⟨h3, e⟩⟩
theorem par_dir (W : WF c Z) (hk : Z[k]? = some m) (hf : m.file = false) {i : Nat} (hi : i ∈ k :: abv Z m.path) : ∃ d, Z[i]? = some d ∧ d.file = false := by
  have hm := List.mem_of_getElem? hk
  rcases List.mem_cons.mp hi with rfl | hi
  · exact ⟨m, hk, hf⟩
  · exact abv_dir W (hung_node W hm) hm (List.prefix_refl _) hi
theorem bursts_par (W : WF c Z) (hk : Z[k]? = some m) (more : Nat) : bursts Z (m.path ++ [x]) [] more = (k :: abv Z m.path).any (overAt Z more) := by
  refine bursts_any W fun i => ?_
  rw [mem_par (x := x) W (List.mem_of_getElem? hk) hk]
  exact exists_congr fun d => and_congr_right fun _ => ⟨fun h => ⟨h, pp_nil⟩, fun h => h.1⟩
theorem bursts_move (W : WF c Z) (hk : Z[k]? = some m) (hn : n ∈ Z) (more : Nat) : bursts Z (m.path ++ [x]) n.path more = ((k :: abv Z m.path).filter fun i => !decide (i ∈ abv Z n.path)).any (overAt Z more) := by
  refine bursts_any W fun i => ?_
  rw [List.mem_filter, mem_par (x := x) W (List.mem_of_getElem? hk) hk]
  constructor
  · rintro ⟨⟨d, hd, h⟩, h2⟩
    refine ⟨d, hd, h, ?_⟩
    cases e : pp d.path n.path with
    | false => rfl
    | true =>
      have := (mem_abv W (hung_node W hn)).mpr ⟨d, hd, e⟩
      simp [this] at h2
  · rintro ⟨d, hd, h, h2⟩
    refine ⟨⟨d, hd, h⟩, ?_⟩
    have : ¬ i ∈ abv Z n.path := fun z => by
      obtain ⟨d', hd', e⟩ := (mem_abv W (hung_node W hn)).mp z
      rw [hd] at hd'
      cases hd'
      rw [h2] at e
      cases e
    simp [this]
/-- a free place: its parent, its name -/
theorem place_free (W : WF c Z) (h : place Z p = .at k) : ∃ m x, Z[k]? = some m ∧ m.file = false ∧ p = m.path ++ [x] ∧ p.getLast? = some x ∧ idx Z (m.path ++ [x]) = none ∧ look Z [] p.dropLast = .at k := by
  obtain ⟨h1, h2, d, h3, h4, h5⟩ := place_at W h
  have h6 : look Z [] p.dropLast = .at k := by
    unfold place at h
    rw [if_neg h1] at h
    cases e : look Z [] p.dropLast with
    | no w =>
      rw [e] at h
      cases h
    | «at» j =>
      rw [e] at h
      simp only at h
      split at h
      · cases h
      · split at h
        · cases h
        · exact h
  obtain ⟨x, hx⟩ : ∃ x, p.getLast? = some x := ⟨_, List.getLast?_eq_some_getLast h1⟩
  have e := last_drop hx
  exact ⟨d, x, h3, h5, by rw [h4]; exact e.symm, hx, by rw [h4, e]; exact h2, h6⟩
end
end Ah
/-! The deeds. -/
namespace Ah
open PySem PySem.Spec PyProof.Rows L2 He SX
section
variable {P : Program} {w : World} {K : PySem.W.Frag} {mg : Str → Option Value} {base : Heap}
def P_new_place (K : PySem.W.Frag) (a b : V) (H : Hp) (Q : VK) : Prop := ∃ (g : Gh) (Z : Tr) (e : Nat) (q : Addr) (ns : List Nm), a = .ref g.t ∧ b = .ref q ∧ TreeAt K H g Z ∧ WF e Z ∧ H q = some (.lst (nmV ns)) ∧ Good ns ∧
  (∀ w, place Z ns = .no w → ∀ H', Same H H' → Q (.str w) H') ∧ (∀ k : Nat, place Z ns = .at k → ∀ H', Same H H' → Q (.int (k : Int)) H')
abbrev N_new_place : List Str := ["tree", "names", "parent", "directory"]
theorem sc_new_place : FnScope N_new_place ["tree", "names"] (defScope s_new_place) := ⟨rfl, rfl, rfl, by decide +kernel, rfl, by decide +kernel, by decide +kernel⟩
theorem ok_new_place (T : Tx w K mg) : Cal P w K mg base 3 (fAd K ("new_place", none)) (Sp2 (P_new_place K)) := by
  refine mk2 (k := 2) T.fd_new_place sc_new_place (fun _ _ _ _ _ _ _ _  => rfl) fun cdv A outer s H E va vb Q hr h => ?_
  have hu := hu_of hr
  obtain ⟨g, Z, e, q, ns, rfl, rfl, R, W, hq, hg, k1, k2⟩ := h
  refine ⟨_, (pss_cons (ps_if (pt_cmpR (op_eqD hr.units) (pv 1) (pe_lst pa_nil) (nomark _)) (pss_one (ps_ret pe_str)) pss_nil)
      (pss_cons (ps_set (i := 2) sc_new_place.nd rfl (Or.inl rfl) (pmeth T.c_Tree T.m_Tree_look_up (ok_Tree_look_up T) hr (by decide) (pv 0) (pa_cons (pe_slice sl_list (pv 1) po_none (po_some (pe_un un_neg pe_int))) pa_nil)))
      (pss_cons (ps_if (pt_val (pe_callB call_isi (by rfl) T.f_isinstance (by decide +kernel) (pa_cons (pv 2) (pa_cons (pe_bltn (v := .ty "str") (by rfl) T.f_str (by decide +kernel) rfl) pa_nil)))) (pss_one (ps_ret (pv 2))) pss_nil)
      (pss_cons (ps_set (i := 3) sc_new_place.nd rfl (Or.inl rfl) (pmeth T.c_Tree T.m_Tree_node (ok_Tree_node T) hr (by decide) (pv 0) (pa_cons (pv 2) pa_nil)))
      (pss_cons (ps_if (pt_val (pe_callB call_isi (by rfl) T.f_isinstance (by decide +kernel) (pa_cons (pv 3) (pa_cons (pe_glob (v := .ref _) rfl T.g_File rfl) pa_nil)))) (pss_one (ps_ret pe_str)) pss_nil)
      (pss_cons (ps_if (pt_cmpR op_notN (pmeth T.c_Directory T.m_Directory_child (ok_Directory_child T) hr (by decide) (pv 3) (pa_cons (pe_ix ix_list (pv 1) (pe_un un_neg pe_int) (fun _ _ => rfl)) pa_nil)) pe_non (nomark _)) (pss_one (ps_ret pe_str)) pss_nil)
      (pss_one (ps_ret (pv 2))))))))), ?_⟩
  dsimp only [cxOf, Cx.nox]
  obtain ⟨dx, ht⟩ := R.tr
  refine ⟨_, rfl, sm64 (by show 0 ≤ 10000; decide), fun p0 hp0 => ?_⟩
  have s0 := same_new (o := .lst []) hp0
  refine ⟨_, _, dp_nm (s0 _ _ hq), dp_nm (p := []) upd_same, shaped_nm hg, shaped_nm (fun _ z => (nomatch z)), _, rfl, ?_⟩
  rw [eqv_nm]
  refine iteB (fun h1 => k1 _ ?_ _ s0) (fun h1 => ?_)
  · unfold place
    rw [if_pos (of_decide_eq_true h1)]
  have hne : ns ≠ [] := of_decide_eq_false h1
  have ep : place Z ns = match look Z [] ns.dropLast with
    | .no w => .no w
    | .at k => if isF Z ns.dropLast = true then .no "kind" else match idx Z ns with | some _ => .no "exists" | none => .at k := by
    unfold place
    rw [if_neg hne] <;> rfl
  obtain ⟨x, hx⟩ : ∃ x, ns.getLast? = some x := ⟨_, List.getLast?_eq_some_getLast hne⟩
  refine ⟨_, rfl, g.t, dx, _, rfl, s0 _ _ ht, znone (by decide +kernel), _, rfl, _, rfl, _, rfl, q, _, rfl, SqL.of (s0 _ _ hq), fun p1 hp1 => ?_⟩
  have s1 := s0.trans (same_new (o := .lst (cutV (nmV ns) none (some (-1)))) hp1)
  refine ⟨g, Z, e, p1, ns.dropLast, rfl, rfl, R.same s1, W, by rw [upd_same]; exact congrArg (fun z => some (HO.lst z)) (cut_last ns), fun w hl => ?_, fun k hl => ?_⟩
  · rw [hl] at ep
    exact ⟨_, rfl, _, _, _, _, _, rfl, isi_ss ⟨_, rfl, iteT ⟨_, rfl, k1 _ ep _ s1⟩⟩⟩
  · rw [hl] at ep
    simp only at ep
    refine ⟨_, rfl, _, _, _, _, _, rfl, isi_is ⟨_, rfl, iteF ?_⟩⟩
    obtain ⟨n, hn, hpn⟩ := look_node W hl
    obtain ⟨na, nb, hna, hnb, N⟩ := R.at hn
    refine ⟨_, rfl, g.t, dx, _, rfl, s1 _ _ ht, znone (by decide +kernel), _, rfl, g, Z, k, na, rfl, rfl, R.same s1, hna, ?_⟩
    have hF : isF Z ns.dropLast = n.file := by rw [← hpn]; exact isF_at W.dist hn
    rw [hF] at ep
    cases hfile : n.file with
    | true =>
      obtain ⟨fdx, vs, h1, h2, h3⟩ := N.fileE hfile
      rw [hfile, if_pos rfl] at ep
      exact ⟨_, rfl, _, _, _, _, _, rfl, isi_FF T (s1 _ _ h1) ⟨_, rfl, iteT (k1 _ ep _ s1)⟩⟩
    | false =>
      obtain ⟨fdx, kvs, h1, h2, h3⟩ := N.dirE hfile
      rw [hfile, if_neg (by decide)] at ep
      refine ⟨_, rfl, _, _, _, _, _, rfl, isi_DF T (s1 _ _ h1) ⟨_, rfl, iteF ?_⟩⟩
      refine ⟨_, rfl, na, fdx, _, rfl, s1 _ _ h1, znone (by decide +kernel), _, rfl, _, rfl, q, _, _, _, rfl, rfl, SqL.of (s1 _ _ hq), last_at hx, na, fdx, _, _, kvs, S x, rfl, rfl, s1 _ _ h1, s1 _ _ h2, ?_⟩
      rw [h3.val R.lk W hn x, hpn, last_drop hx]
      cases hidx : idx Z ns with
      | none =>
        rw [hidx] at ep
        exact ⟨rfl, _, rfl, iteF ⟨_, rfl, k2 _ ep _ s1⟩⟩
      | some j =>
        rw [hidx] at ep
        exact ⟨rfl, _, rfl, iteT (k1 _ ep _ s1)⟩
def P_file_at (K : PySem.W.Frag) (a b : V) (H : Hp) (Q : VK) : Prop := ∃ (g : Gh) (Z : Tr) (e : Nat) (q : Addr) (ns : List Nm), a = .ref g.t ∧ b = .ref q ∧ TreeAt K H g Z ∧ WF e Z ∧ H q = some (.lst (nmV ns)) ∧
  (∀ w, fileAt Z ns = .no w → Q (.str w) H) ∧ (∀ k : Nat, fileAt Z ns = .at k → Q (.int (k : Int)) H)
abbrev N_file_at : List Str := ["tree", "names", "number"]
theorem sc_file_at : FnScope N_file_at ["tree", "names"] (defScope s_file_at) := ⟨rfl, rfl, rfl, by decide +kernel, rfl, by decide +kernel, by decide +kernel⟩
theorem ok_file_at (T : Tx w K mg) : Cal P w K mg base 3 (fAd K ("file_at", none)) (Sp2 (P_file_at K)) := by
  refine mk2 (k := 2) T.fd_file_at sc_file_at (fun _ _ _ _ _ _ _ _  => rfl) fun cdv A outer s H E va vb Q hr h => ?_
  have hu := hu_of hr
  obtain ⟨g, Z, e, q, ns, rfl, rfl, R, W, hq, k1, k2⟩ := h
  refine ⟨_, (pss_cons (ps_set (i := 2) sc_file_at.nd rfl (Or.inl rfl) (pmeth T.c_Tree T.m_Tree_look_up (ok_Tree_look_up T) hr (by decide) (pv 0) (pa_cons (pv 1) pa_nil)))
      (pss_cons (ps_if (pt_val (pe_callB call_isi (by rfl) T.f_isinstance (by decide +kernel) (pa_cons (pv 2) (pa_cons (pe_bltn (v := .ty "str") (by rfl) T.f_str (by decide +kernel) rfl) pa_nil)))) (pss_one (ps_ret (pv 2))) pss_nil)
      (pss_cons (ps_if (pt_val (pe_callB call_isi (by rfl) T.f_isinstance (by decide +kernel) (pa_cons (pmeth T.c_Tree T.m_Tree_node (ok_Tree_node T) hr (by decide) (pv 0) (pa_cons (pv 2) pa_nil)) (pa_cons (pe_glob (v := .ref _) rfl T.g_Directory rfl) pa_nil)))) (pss_one (ps_ret pe_str)) pss_nil)
      (pss_one (ps_ret (pv 2)))))), ?_⟩
  dsimp only [cxOf, Cx.nox]
  obtain ⟨dx, ht⟩ := R.tr
  have ep : fileAt Z ns = match look Z [] ns with
    | .no w => .no w
    | .at k => if isF Z ns = true then .at k else .no "kind" := rfl
  refine ⟨_, rfl, g.t, dx, _, rfl, ht, znone (by decide +kernel), _, rfl, g, Z, e, q, ns, rfl, rfl, R, W, hq, fun w hl => ?_, fun k hl => ?_⟩
  · rw [hl] at ep
    exact ⟨_, rfl, _, _, _, _, _, rfl, isi_ss ⟨_, rfl, iteT ⟨_, rfl, k1 _ ep⟩⟩⟩
  · rw [hl] at ep
    simp only at ep
    refine ⟨_, rfl, _, _, _, _, _, rfl, isi_is ⟨_, rfl, iteF ?_⟩⟩
    obtain ⟨n, hn, hpn⟩ := look_node W hl
    obtain ⟨na, nb, hna, hnb, N⟩ := R.at hn
    refine ⟨_, rfl, g.t, dx, _, rfl, ht, znone (by decide +kernel), _, rfl, g, Z, k, na, rfl, rfl, R, hna, ?_⟩
    have hF : isF Z ns = n.file := by rw [← hpn]; exact isF_at W.dist hn
    rw [hF] at ep
    cases hfile : n.file with
    | true =>
      obtain ⟨fdx, vs, h1, h2, h3⟩ := N.fileE hfile
      rw [hfile, if_pos rfl] at ep
      exact ⟨_, _, _, _, _, rfl, isi_FD T h1 ⟨_, rfl, iteF ⟨_, rfl, k2 _ ep⟩⟩⟩
    | false =>
      obtain ⟨fdx, kvs, h1, h2, h3⟩ := N.dirE hfile
      rw [hfile, if_neg (by decide)] at ep
      exact ⟨_, _, _, _, _, rfl, isi_DD T h1 ⟨_, rfl, iteT (k1 _ ep)⟩⟩
def itV (l : List Nat) : List V := l.map fun (i : Nat) => V.int (i : Int)
def P_exceeds_limit (K : PySem.W.Frag) (a b c : V) (H : Hp) (Q : VK) : Prop := ∃ (g : Gh) (Z : Tr) (e : Nat) (q : Addr) (ds : List Nat) (more : Nat), a = .ref g.t ∧ b = .ref q ∧ c = .int (more : Int) ∧ TreeAt K H g Z ∧ WF e Z ∧ H q = some (.lst (itV ds)) ∧
  (∀ i ∈ ds, ∃ d, Z[i]? = some d ∧ d.file = false) ∧ ∀ H', Same H H' → Q (.bl (ds.any (overAt Z more))) H'
abbrev N_exceeds_limit : List Str := ["tree", "directories", "more", "number", "limit"]
theorem sc_exceeds_limit : FnScope N_exceeds_limit ["tree", "directories", "more"] (defScope s_exceeds_limit) := ⟨rfl, rfl, rfl, by decide +kernel, rfl, by decide +kernel, by decide +kernel⟩
theorem ok_exceeds_limit (T : Tx w K mg) : Cal P w K mg base 11 (fAd K ("exceeds_limit", none)) (Sp3 (P_exceeds_limit K)) := by
  refine mk3 (k := 10) T.fd_exceeds_limit sc_exceeds_limit (fun _ _ _ _ _ _ _ _ _  => rfl) fun cdv A outer s H E va vb vc Q hr h => ?_
  have hu := hu_of hr
  obtain ⟨g, Z, e, q, ds, more, rfl, rfl, rfl, R, W, hq, hd, k⟩ := h
  refine ⟨_, (pss_cons (ps_for PassesOwn.never rfl (pi_list (pv 1)) (pg_name (i := 3) sc_exceeds_limit.nd rfl (Or.inl rfl))
      (pss_cons (ps_set (i := 4) sc_exceeds_limit.nd rfl (Or.inl rfl) (pprop T.c_Directory T.pr_Directory_limit.1 (ok_Directory_limit T) hr (by decide) (pmeth T.c_Tree T.m_Tree_node (ok_Tree_node T) hr (by decide) (pv 0) (pa_cons (pv 3) pa_nil))))
      (pss_one (ps_if (PW.pt (pw_and (pt_cmpR op_notN (pv 4) pe_non (nomark _)) (pw_and1 (pt_cmpR op_gt (pe_op op_add (pmeth T.c_Tree T.m_Tree_size_of (ok_Tree_size_of T) hr (by decide) (pv 0) (pa_cons (pv 3) pa_nil)) (pv 2)) (pv 4) (nomark _))))) (pss_one (ps_ret pe_bl)) pss_nil))))
      (pss_one (ps_ret pe_bl))), ?_⟩
  dsimp only [cxOf, Cx.nox]
  obtain ⟨dx, ht⟩ := R.tr
  have el : (itV ds).length = ds.length := List.length_map _
  refine ⟨_, rfl, q, rfl, ⟨_, SqL.of hq⟩, for_list (K := K) (a := q) (xs := itV ds) (fun i σ H2 => ∃ o3 o4 : Option V, σ = [some (.ref g.t), some (.ref q), some (.int (more : Int)), o3, o4] ∧ Same H H2 ∧ ∀ j ∈ ds.take i, overAt Z more j = false)
    ⟨none, none, rfl, Same.refl H, fun c hc => by simp at hc⟩ (fun i σ H2 _ ⟨_, _, _, s2, _⟩ => SqL.of (s2 _ _ hq)) ?_ ?_⟩
  · rintro i y σ H2 hy ⟨o3, o4, rfl, s2, hp⟩
    obtain ⟨j, hj, rfl⟩ : ∃ j, ds[i]? = some j ∧ V.int ((j : Nat) : Int) = y := by
      unfold itV at hy
      rw [List.getElem?_map] at hy
      exact Option.map_eq_some_iff.mp hy
    have hjm := List.mem_of_getElem? hj
    obtain ⟨d, hd1, hdf⟩ := hd j hjm
    obtain ⟨na, nb, hna, hnb, N⟩ := R.at hd1
    obtain ⟨fdx, kvs, h1, h2, h3⟩ := N.dirE hdf
    refine ⟨_, rfl, g.t, dx, _, rfl, s2 _ _ ht, znone (by decide +kernel), _, rfl, g, Z, j, na, rfl, rfl, R.same s2, hna, na, fdx, _, rfl, s2 _ _ h1, na, fdx, _, _, rfl, s2 _ _ h1, ?_⟩
    have eo : overAt Z more j = match d.lim with | some m => decide (m < ((sizeAt Z d.path + more : Nat) : Int)) | none => false := by
      unfold overAt
      rw [hd1] <;> rfl
    cases hlim : d.lim with
    | none =>
      rw [hlim] at eo
      exact ⟨_, rfl, rfl, _, rfl, iteF (iteF ⟨_, _, rfl, s2, all_take hp hj eo⟩)⟩
    | some m =>
      rw [hlim] at eo
      refine ⟨_, rfl, rfl, _, rfl, iteT ?_⟩
      refine ⟨_, rfl, g.t, dx, _, rfl, s2 _ _ ht, znone (by decide +kernel), _, rfl, g, Z, e, j, d, rfl, rfl, R.same s2, W, hd1, by omega, fun H3 s3 => ?_⟩
      refine ⟨_, rfl, _, _, rfl, rfl, _, rfl, _, _, rfl, rfl, _, rfl, ?_⟩
      have ec : (decide (m < (sizeAt Z d.path : Int) + (more : Int))) = overAt Z more j := by
        rw [eo, Int.natCast_add]
      rw [ec]
      refine iteB (fun h4 => ?_) (fun h4 => ⟨_, _, rfl, s2.trans s3, all_take hp hj h4⟩)
      have := k H3 (s2.trans s3)
      rw [List.any_eq_true.mpr ⟨j, hjm, h4⟩] at this
      exact this
  · rintro σ H2 ⟨o3, o4, rfl, s2, hp⟩
    rw [el, List.take_length] at hp
    have := k H2 s2
    rw [List.any_eq_false.mpr fun j hj => by rw [hp j hj]; decide] at this
    exact this
def P_attach_new (K : PySem.W.Frag) (a b c : V) (H : Hp) (Q : VK) : Prop := ∃ (g : Gh) (Z : Tr) (e k : Nat) (q : Addr) (n : Nd) (na nb : Addr), a = .ref g.t ∧ b = .ref q ∧ c = .ref na ∧ TreeAt K H g Z ∧ WF e Z ∧ H q = some (.lst (nmV n.path)) ∧ place Z n.path = .at k ∧
  na ∉ g.fp ∧ nb ∉ g.fp ∧ na ≠ nb ∧ NodeAt K H [] 0 na nb n ∧
  ∀ (g' : Gh) (H' : Hp) (v : V), g'.t = g.t → TreeAt K H' g' (Z ++ [n]) → (∀ c o, c ∉ g.fp → H c = some o → H' c = some o) → TupK H H' → (∀ c ∈ g'.fp, c ∈ g.fp ∨ c = na ∨ c = nb) → isV H' (.t [.s "made", .i (Z.length : Int)]) v → Q v H'
abbrev N_attach_new : List Str := ["tree", "names", "node", "parent"]
theorem sc_attach_new : FnScope N_attach_new ["tree", "names", "node"] (defScope s_attach_new) := ⟨rfl, rfl, rfl, by decide +kernel, rfl, by decide +kernel, by decide +kernel⟩
theorem ok_attach_new (T : Tx w K mg) : Cal P w K mg base 3 (fAd K ("attach_new", none)) (Sp3 (P_attach_new K)) := by
  refine mk3 (k := 2) T.fd_attach_new sc_attach_new (fun _ _ _ _ _ _ _ _ _  => rfl) fun cdv A outer s H E va vb vc Q hr h => ?_
  have hu := hu_of hr
  obtain ⟨g, Z, e, i, q, n, na, nb, rfl, rfl, rfl, R, W, hq, hpl, nna, nnb, nab, hN, k⟩ := h
  refine ⟨_, (pss_cons (ps_set (i := 3) sc_attach_new.nd rfl (Or.inl rfl) (pmeth T.c_Tree T.m_Tree_look_up (ok_Tree_look_up T) hr (by decide) (pv 0) (pa_cons (pe_slice sl_list (pv 1) po_none (po_some (pe_un un_neg pe_int))) pa_nil)))
      (pss_one (ps_ret (pe_tup (pa_cons pe_str (pa_cons (pmeth T.c_Tree T.m_Tree_attach (ok_Tree_attach T) hr (by decide) (pv 0) (pa_cons (pv 3) (pa_cons (pe_ix ix_list (pv 1) (pe_un un_neg pe_int) (fun _ _ => rfl)) (pa_cons (pv 2) pa_nil)))) pa_nil)))))), ?_⟩
  dsimp only [cxOf, Cx.nox]
  obtain ⟨dx, ht⟩ := R.tr
  obtain ⟨m, x, hm, hmf, hpx, hlx, hix, hlk⟩ := place_free W hpl
  refine ⟨_, rfl, g.t, dx, _, rfl, ht, znone (by decide +kernel), _, rfl, _, rfl, _, rfl, q, _, rfl, SqL.of hq, fun p1 hp1 => ?_⟩
  have s1 := same_new (o := .lst (cutV (nmV n.path) none (some (-1)))) hp1
  refine ⟨g, Z, e, p1, n.path.dropLast, rfl, rfl, R.same s1, W, by rw [upd_same]; exact congrArg (fun z => some (HO.lst z)) (cut_last n.path), fun w hl => ?_, fun j hl => ?_⟩
  · rw [hlk] at hl
    cases hl
  rw [hlk] at hl
  cases hl
  refine ⟨_, rfl, g.t, dx, _, rfl, s1 _ _ ht, znone (by decide +kernel), _, rfl, _, rfl, _, rfl, q, _, _, _, rfl, rfl, SqL.of (s1 _ _ hq), last_at hlx, _, rfl, ?_⟩
  refine ⟨g, Z, e, i, m, n, x, na, nb, rfl, rfl, rfl, rfl, R.same s1, W, hm, hmf, hpx, hix, nna, nnb, nab, hN.keep (s1 _) (s1 _) (Same.tup s1), fun H2 R2 hk2 ht2 => ?_⟩
  refine ⟨sm64 (by show 2 ≤ 10000; decide), fun p2 hp2 => ?_⟩
  have s3 := same_new (o := .tup [.str "made", .int (Z.length : Int)]) hp2
  refine k ⟨g.t, g.nl, g.pl, g.na ++ [na], g.sb ++ [nb], g.P ++ [(i, x)]⟩ _ _ rfl (R2.same s3) (fun c o hc h => s3 _ _ (hk2 c o hc (s1 _ _ h))) ((Same.tup s1).trans (ht2.trans (Same.tup s3))) (fun c hc => ?_) (isV.tup upd_same (isVs.cons isV.str (isVs.cons isV.int isVs.nil)))
  have hc : c ∈ g.t :: g.nl :: g.pl :: ((g.na ++ [na]) ++ (g.sb ++ [nb])) := hc
  simp only [List.mem_cons, List.mem_append, List.mem_singleton, List.not_mem_nil, or_false] at hc
  have hg : ∀ c, c ∈ g.fp ↔ c = g.t ∨ c = g.nl ∨ c = g.pl ∨ c ∈ g.na ∨ c ∈ g.sb := fun c => by
    unfold Gh.fp
    simp only [List.mem_cons, List.mem_append]
  rw [hg]
  rcases hc with hc | hc | hc | (hc | hc) | (hc | hc)
  · exact .inl (.inl hc)
  · exact .inl (.inr (.inl hc))
  · exact .inl (.inr (.inr (.inl hc)))
  · exact .inl (.inr (.inr (.inr (.inl hc))))
  · exact .inr (.inl hc)
  · exact .inl (.inr (.inr (.inr (.inr hc))))
  · exact .inr (.inr hc)
end
end Ah
/-! The seven deeds. -/
namespace Ah
open PySem PySem.Spec PyProof.Rows L2 He SX
theorem inV_it (i : Nat) (l : List Nat) : inV (.int (i : Int)) (itV l) = decide (i ∈ l) := by
  unfold inV itV
  induction l with
  | nil => rfl
  | cons a l ih =>
    rw [List.map_cons, List.any_cons, ih, Bool.eq_iff_iff]
    simp [eqV]
    exact ⟨fun h => h.elim (fun h => .inl (by omega)) .inr, fun h => h.elim (fun h => .inl (by omega)) .inr⟩
theorem flat_it (l : List Nat) : (itV l).all flatV = true := by
  unfold itV
  induction l with
  | nil => rfl
  | cons a l ih => rw [List.map_cons, List.all_cons, ih] <;> rfl
theorem itV_len (l : List Nat) : (itV l).length = l.length := List.length_map _
theorem Post.kept {fp : List Addr} {H H' : Hp} (k : ∀ c o, c ∉ fp → H c = some o → H' c = some o) (t : TupK H H') : Post fp fp H H' := ⟨fun b o h hb => k b o hb h, t, fun _ h => .inl h⟩
section
variable {K : PySem.W.Frag} {H H1 H2 : Hp} {g : Gh} {Z : Tr} {Q : VK} {c k : Nat} {n m : Nd} {p o : List Nm} {x : Nm}
theorem TreeAt.has (T : TreeAt K H g Z) {a : Addr} (h : a ∈ g.fp) : H a ≠ none := by
  obtain ⟨dx, ht⟩ := T.tr
  obtain ⟨pa, hp, _⟩ := T.pls
  unfold Gh.fp at h
  simp only [List.mem_cons, List.mem_append] at h
  have nod : ∀ (k : Nat) (a b : Addr) (n : Nd), NodeAt K H g.P k a b n → H a ≠ none ∧ H b ≠ none := by
    intro k a b n N
    cases hf : n.file with
    | true =>
      obtain ⟨_, _, h1, h2, _⟩ := N.fileE hf
      rw [h1, h2]
      exact ⟨(fun z => nomatch z), (fun z => nomatch z)⟩
    | false =>
      obtain ⟨_, _, h1, h2, _⟩ := N.dirE hf
      rw [h1, h2]
      exact ⟨(fun z => nomatch z), (fun z => nomatch z)⟩
  rcases h with rfl | rfl | rfl | h | h
  · rw [ht]; exact (fun z => nomatch z)
  · rw [T.nls]; exact (fun z => nomatch z)
  · rw [hp]; exact (fun z => nomatch z)
  · obtain ⟨k, hk⟩ := List.getElem?_of_mem h
    have hl : k < Z.length := by rw [← T.lna]; exact (List.getElem?_eq_some_iff.mp hk).1
    exact (nod k _ _ _ (T.node k _ (g.sb[k]'(by rw [T.lsb]; exact hl)) Z[k] hk (List.getElem?_eq_getElem _) (List.getElem?_eq_getElem _))).1
  · obtain ⟨k, hk⟩ := List.getElem?_of_mem h
    have hl : k < Z.length := by rw [← T.lsb]; exact (List.getElem?_eq_some_iff.mp hk).1
    exact (nod k _ _ _ (T.node k (g.na[k]'(by rw [T.lna]; exact hl)) _ Z[k] (List.getElem?_eq_getElem _) hk (List.getElem?_eq_getElem _))).2
theorem TreeAt.nfp (T : TreeAt K H g Z) {a : Addr} (h : H a = none) : a ∉ g.fp := fun z => T.has z h
/-- a new node is hung up -/
theorem Done.new {d : D} (D : Done K g H (Z ++ [n], d) Q) {na nb : Addr} (s : Same H H1) (ha : H na = none) (hb : H nb = none) (g' : Gh) (H' : Hp) (v : V) (e : g'.t = g.t) (R : TreeAt K H' g' (Z ++ [n])) (kp : ∀ c o, c ∉ g.fp → H1 c = some o → H' c = some o) (t : TupK H1 H') (nw : ∀ c ∈ g'.fp, c ∈ g.fp ∨ c = na ∨ c = nb)
    (hv : isV H' d v) : Q v H' :=
  D g' H' v e R ⟨fun b o h hb => kp b o hb (s _ _ h), (Same.tup s).trans t, fun b hb' => (nw b hb').elim .inl fun z => .inr (z.elim (fun z => by rw [z]; exact ha) fun z => by rw [z]; exact hb)⟩ hv
end
section
variable {P : Program} {w : World} {K : PySem.W.Frag} {mg : Str → Option Value} {base : Heap}
def P_make_directory (K : PySem.W.Frag) (a b c d : V) (H : Hp) (Q : VK) : Prop := ∃ (g : Gh) (Z : Tr) (e : Nat) (pl q : Addr) (ns : List Nm), a = .ref g.t ∧ d = .ref pl ∧ TreeAt K H g Z ∧ WF e Z ∧ H pl = some (.lst [.ref q]) ∧ H q = some (.lst (nmV ns)) ∧ Good ns ∧ Done K g H (mkN Z false ns) Q
abbrev N_make_directory : List Str := ["tree", "stamp", "deed", "paths", "place"]
theorem sc_make_directory : FnScope N_make_directory ["tree", "stamp", "deed", "paths"] (defScope s_make_directory) := ⟨rfl, rfl, rfl, by decide +kernel, rfl, by decide +kernel, by decide +kernel⟩
theorem ok_make_directory (T : Tx w K mg) : Cal P w K mg base 15 (fAd K ("make_directory", none)) (Sp4 (P_make_directory K)) := by
  refine mk4 (k := 14) T.fd_make_directory sc_make_directory (fun _ _ _ _ _ _ _ _ _ _  => rfl) fun cdv A outer s H E va vb vc vd Q hr h => ?_
  have hu := hu_of hr
  obtain ⟨g, Z, e, pl, q, ns, rfl, rfl, R, W, hpl, hq, hg, k⟩ := h
  refine ⟨_, (pss_cons (ps_set (i := 4) sc_make_directory.nd rfl (Or.inl rfl) (pcall (ok_new_place T) hr (by decide) rfl T.g_new_place (pa_cons (pv 0) (pa_cons (pe_ix ix_list (pv 3) pe_int (fun _ _ => rfl)) pa_nil))))
      (pss_cons (ps_if (pt_val (pe_callB call_isi (by rfl) T.f_isinstance (by decide +kernel) (pa_cons (pv 4) (pa_cons (pe_bltn (v := .ty "str") (by rfl) T.f_str (by decide +kernel) rfl) pa_nil)))) (pss_one (ps_ret (pcall (ok_refused T) hr (by decide) rfl T.g_refused (pa_cons (pv 4) pa_nil)))) pss_nil)
      (pss_cons (ps_if (pt_cmpR op_ge (pe_callB (call_lenO T.m_Tree___len__ (ok_Tree___len__ T) hr (by decide)) (by rfl) T.f_len (by decide +kernel) (pa_cons (pv 0) pa_nil)) (C8.pe_gc rfl T.k_NODES_MOST) (nomark _)) (pss_one (ps_ret (pcall (ok_refused T) hr (by decide) rfl T.g_refused (pa_cons pe_str pa_nil)))) pss_nil)
      (pss_one (ps_ret (pcall (ok_attach_new T) hr (by decide) rfl T.g_attach_new (pa_cons (pv 0) (pa_cons (pe_ix ix_list (pv 3) pe_int (fun _ _ => rfl)) (pa_cons (pmake0 T.mk_Directory (ok_Directory___init__ T) hr (by decide) rfl T.g_Directory) pa_nil))))))))), ?_⟩
  dsimp only [cxOf, Cx.nox]
  obtain ⟨dx, ht⟩ := R.tr
  have hZ := W.len
  refine ⟨_, rfl, _, rfl, pl, _, _, _, rfl, rfl, SqL.of hpl, atI_nat (j := 0) rfl, g, Z, e, q, ns, rfl, rfl, R, W, hq, hg, fun w hp H1 s1 => ?_, fun i hp H1 s1 => ?_⟩
  · have k' : Done K g H (Z, refu w) Q := by unfold mkN at k; rw [hp] at k; exact k
    exact ⟨_, rfl, _, _, _, _, _, rfl, isi_ss ⟨_, rfl, iteT ⟨_, rfl, refuse R k' s1⟩⟩⟩
  · refine ⟨_, rfl, _, _, _, _, _, rfl, isi_is ⟨_, rfl, iteF ?_⟩⟩
    unfold mkN at k
    rw [hp] at k
    refine ⟨_, rfl, g.t, dx, _, rfl, s1 _ _ ht, g, Z, rfl, R.same s1, Z.length, rfl, sm64 (by omega), _, _, rfl, rfl, _, rfl, iteB (fun h1 => ?_) (fun h1 => ?_)⟩
    · have h2 : 64 ≤ Z.length := by
        have := of_decide_eq_true h1
        omega
      simp only [if_pos h2] at k
      exact refuse R k s1
    · have h2 : ¬ 64 ≤ Z.length := by
        have := of_decide_eq_false h1
        omega
      simp only [if_neg h2] at k
      refine ⟨_, rfl, _, rfl, pl, _, _, _, rfl, rfl, SqL.of (s1 _ _ hpl), atI_nat (j := 0) rfl, fun x xd nx nxd ne => ⟨x, xd, rfl, upd_same, fun l hl => ⟨rfl, ?_⟩⟩⟩
      have nlx : l ≠ x := by
        rintro rfl
        rw [upd_same] at hl
        cases hl
      rw [upd_ne nlx] at hl
      have nlxd : l ≠ xd := by
        rintro rfl
        rw [upd_same] at hl
        cases hl
      rw [upd_ne nlxd] at hl
      have s2 : ∀ o1 o2 o3 o4, Same H (upd (upd (upd (upd H1 xd o1) x o2) l o3) x o4) := fun o1 o2 o3 o4 b o h => by
        have h := s1 _ _ h
        rw [upd_ne (ne_of_none h nx), upd_ne (ne_of_none h hl), upd_ne (ne_of_none h nx), upd_ne (ne_of_none h nxd)]
        exact h
      refine ⟨g, Z, e, i, q, ⟨false, ns, [], false, none⟩, x, l, rfl, rfl, rfl, R.same (s2 _ _ _ _), W, s2 _ _ _ _ _ _ hq, hp, R.nfp (s1.free nx), R.nfp (s1.free hl), nlx.symm, ?_, k.new (s2 _ _ _ _) (s1.free nx) (s1.free hl)⟩
      unfold NodeAt
      rw [if_neg (show ¬ false = true by decide)]
      exact ⟨xd, [], upd_same, by rw [upd_ne nlx, upd_same], ⟨List.nodup_nil, fun key v => ⟨fun z => (nomatch z), fun ⟨_, j, _, hp, _⟩ => by simp at hp⟩⟩⟩
def P_create_file (K : PySem.W.Frag) (a b c d : V) (H : Hp) (Q : VK) : Prop := ∃ (g : Gh) (Z : Tr) (e : Nat) (pl q : Addr) (ns : List Nm), a = .ref g.t ∧ d = .ref pl ∧ TreeAt K H g Z ∧ WF e Z ∧ H pl = some (.lst [.ref q]) ∧ H q = some (.lst (nmV ns)) ∧ Good ns ∧ Done K g H (mkN Z true ns) Q
abbrev N_create_file : List Str := ["tree", "stamp", "deed", "paths", "place"]
theorem sc_create_file : FnScope N_create_file ["tree", "stamp", "deed", "paths"] (defScope s_create_file) := ⟨rfl, rfl, rfl, by decide +kernel, rfl, by decide +kernel, by decide +kernel⟩
theorem ok_create_file (T : Tx w K mg) : Cal P w K mg base 15 (fAd K ("create_file", none)) (Sp4 (P_create_file K)) := by
  refine mk4 (k := 14) T.fd_create_file sc_create_file (fun _ _ _ _ _ _ _ _ _ _  => rfl) fun cdv A outer s H E va vb vc vd Q hr h => ?_
  have hu := hu_of hr
  obtain ⟨g, Z, e, pl, q, ns, rfl, rfl, R, W, hpl, hq, hg, k⟩ := h
  refine ⟨_, (pss_cons (ps_set (i := 4) sc_create_file.nd rfl (Or.inl rfl) (pcall (ok_new_place T) hr (by decide) rfl T.g_new_place (pa_cons (pv 0) (pa_cons (pe_ix ix_list (pv 3) pe_int (fun _ _ => rfl)) pa_nil))))
      (pss_cons (ps_if (pt_val (pe_callB call_isi (by rfl) T.f_isinstance (by decide +kernel) (pa_cons (pv 4) (pa_cons (pe_bltn (v := .ty "str") (by rfl) T.f_str (by decide +kernel) rfl) pa_nil)))) (pss_one (ps_ret (pcall (ok_refused T) hr (by decide) rfl T.g_refused (pa_cons (pv 4) pa_nil)))) pss_nil)
      (pss_cons (ps_if (pt_cmpR op_ge (pe_callB (call_lenO T.m_Tree___len__ (ok_Tree___len__ T) hr (by decide)) (by rfl) T.f_len (by decide +kernel) (pa_cons (pv 0) pa_nil)) (C8.pe_gc rfl T.k_NODES_MOST) (nomark _)) (pss_one (ps_ret (pcall (ok_refused T) hr (by decide) rfl T.g_refused (pa_cons pe_str pa_nil)))) pss_nil)
      (pss_one (ps_ret (pcall (ok_attach_new T) hr (by decide) rfl T.g_attach_new (pa_cons (pv 0) (pa_cons (pe_ix ix_list (pv 3) pe_int (fun _ _ => rfl)) (pa_cons (pmake0 T.mk_File (ok_File___init__ T) hr (by decide) rfl T.g_File) pa_nil))))))))), ?_⟩
  dsimp only [cxOf, Cx.nox]
  obtain ⟨dx, ht⟩ := R.tr
  have hZ := W.len
  refine ⟨_, rfl, _, rfl, pl, _, _, _, rfl, rfl, SqL.of hpl, atI_nat (j := 0) rfl, g, Z, e, q, ns, rfl, rfl, R, W, hq, hg, fun w hp H1 s1 => ?_, fun i hp H1 s1 => ?_⟩
  · have k' : Done K g H (Z, refu w) Q := by unfold mkN at k; rw [hp] at k; exact k
    exact ⟨_, rfl, _, _, _, _, _, rfl, isi_ss ⟨_, rfl, iteT ⟨_, rfl, refuse R k' s1⟩⟩⟩
  · refine ⟨_, rfl, _, _, _, _, _, rfl, isi_is ⟨_, rfl, iteF ?_⟩⟩
    unfold mkN at k
    rw [hp] at k
    refine ⟨_, rfl, g.t, dx, _, rfl, s1 _ _ ht, g, Z, rfl, R.same s1, Z.length, rfl, sm64 (by omega), _, _, rfl, rfl, _, rfl, iteB (fun h1 => ?_) (fun h1 => ?_)⟩
    · have h2 : 64 ≤ Z.length := by
        have := of_decide_eq_true h1
        omega
      simp only [if_pos h2] at k
      exact refuse R k s1
    · have h2 : ¬ 64 ≤ Z.length := by
        have := of_decide_eq_false h1
        omega
      simp only [if_neg h2] at k
      refine ⟨_, rfl, _, rfl, pl, _, _, _, rfl, rfl, SqL.of (s1 _ _ hpl), atI_nat (j := 0) rfl, fun x xd nx nxd ne => ⟨x, xd, rfl, upd_same, fun l hl => ⟨rfl, ?_⟩⟩⟩
      have nlx : l ≠ x := by
        rintro rfl
        rw [upd_same] at hl
        cases hl
      rw [upd_ne nlx] at hl
      have nlxd : l ≠ xd := by
        rintro rfl
        rw [upd_same] at hl
        cases hl
      rw [upd_ne nlxd] at hl
      have s2 : ∀ o1 o2 o3 o4, Same H (upd (upd (upd (upd H1 xd o1) x o2) l o3) x o4) := fun o1 o2 o3 o4 b o h => by
        have h := s1 _ _ h
        rw [upd_ne (ne_of_none h nx), upd_ne (ne_of_none h hl), upd_ne (ne_of_none h nx), upd_ne (ne_of_none h nxd)]
        exact h
      refine ⟨g, Z, e, i, q, ⟨true, ns, [], false, none⟩, x, l, rfl, rfl, rfl, R.same (s2 _ _ _ _), W, s2 _ _ _ _ _ _ hq, hp, R.nfp (s1.free nx), R.nfp (s1.free hl), nlx.symm, ?_, k.new (s2 _ _ _ _) (s1.free nx) (s1.free hl)⟩
      unfold NodeAt
      rw [if_pos rfl]
      exact ⟨xd, [], upd_same, by rw [upd_ne nlx, upd_same], isVs.nil⟩
/-- a number of a file -/
theorem fileAt_no {Z : Tr} {ns : List Nm} {w : Str} {c : Nat} (W : WF c Z) (h : fileAt Z ns = .no w) : look Z [] ns = .no w ∨ (∃ k n, look Z [] ns = .at k ∧ Z[k]? = some n ∧ n.file = false ∧ w = "kind") := by
  unfold fileAt at h
  cases e : look Z [] ns with
  | no w' =>
    rw [e] at h
    cases h
    exact .inl rfl
  | «at» k =>
    rw [e] at h
    obtain ⟨n, hn, hp⟩ := look_node W e
    simp only at h
    split at h
    · cases h
    · rename_i hf
      rw [← hp, isF_at W.dist hn] at hf
      cases h
      exact .inr ⟨k, n, rfl, hn, by simpa using hf, rfl⟩
theorem fileAt_at {Z : Tr} {ns : List Nm} {k c : Nat} (W : WF c Z) (h : fileAt Z ns = .at k) : ∃ n, look Z [] ns = .at k ∧ Z[k]? = some n ∧ n.file = true ∧ n.path = ns := by
  unfold fileAt at h
  cases e : look Z [] ns with
  | no w' =>
    rw [e] at h
    cases h
  | «at» j =>
    rw [e] at h
    obtain ⟨n, hn, hp⟩ := look_node W e
    simp only at h
    split at h
    · rename_i hf
      rw [← hp, isF_at W.dist hn] at hf
      cases h
      exact ⟨n, rfl, hn, hf, hp⟩
    · cases h
def stV (st : St3) : List V := [.int st.num, .int st.cl, .int st.ser]
def P_append_text (K : PySem.W.Frag) (a b c d : V) (H : Hp) (Q : VK) : Prop := ∃ (g : Gh) (Z : Tr) (e : Nat) (pl q sa da : Addr) (ns : List Nm) (st : St3) (u0 u1 : V) (tx : Nm), a = .ref g.t ∧ b = .ref sa ∧ c = .ref da ∧ d = .ref pl ∧ TreeAt K H g Z ∧ WF e Z ∧ e ≤ 900 ∧ H pl = some (.lst [.ref q]) ∧ H q = some (.lst (nmV ns)) ∧
  H sa = some (.tup (stV st)) ∧ H da = some (.tup [u0, u1, .str (S tx)]) ∧ tx.length ≤ 200 ∧ Done K g H (wrN Z st ns tx) Q
abbrev N_append_text : List Str := ["tree", "stamp", "deed", "paths", "number", "target", "text", "offset"]
theorem sc_append_text : FnScope N_append_text ["tree", "stamp", "deed", "paths"] (defScope s_append_text) := ⟨rfl, rfl, rfl, by decide +kernel, rfl, by decide +kernel, by decide +kernel⟩
theorem ok_append_text (T : Tx w K mg) : Cal P w K mg base 15 (fAd K ("append_text", none)) (Sp4 (P_append_text K)) := by
  refine mk4 (k := 14) T.fd_append_text sc_append_text (fun _ _ _ _ _ _ _ _ _ _  => rfl) fun cdv A outer s H E va vb vc vd Q hr h => ?_
  have hu := hu_of hr
  obtain ⟨g, Z, e, pl, q, sa, da, ns, st, u0, u1, tx, rfl, rfl, rfl, rfl, R, W, he, hpl, hq, hsa, hda, htx, k⟩ := h
  refine ⟨_, (pss_cons (ps_set (i := 4) sc_append_text.nd rfl (Or.inl rfl) (pcall (ok_file_at T) hr (by decide) rfl T.g_file_at (pa_cons (pv 0) (pa_cons (pe_ix ix_list (pv 3) pe_int (fun _ _ => rfl)) pa_nil))))
      (pss_cons (ps_if (pt_val (pe_callB call_isi (by rfl) T.f_isinstance (by decide +kernel) (pa_cons (pv 4) (pa_cons (pe_bltn (v := .ty "str") (by rfl) T.f_str (by decide +kernel) rfl) pa_nil)))) (pss_one (ps_ret (pcall (ok_refused T) hr (by decide) rfl T.g_refused (pa_cons (pv 4) pa_nil)))) pss_nil)
      (pss_cons (ps_set (i := 5) sc_append_text.nd rfl (Or.inl rfl) (pmeth T.c_Tree T.m_Tree_node (ok_Tree_node T) hr (by decide) (pv 0) (pa_cons (pv 4) pa_nil)))
      (pss_cons (ps_set (i := 6) sc_append_text.nd rfl (Or.inl rfl) (pe_ix ix_tup (pv 2) pe_int (fun _ _ => rfl)))
      (pss_cons (ps_if (pt_val (pprop T.c_File T.pr_File_sealed.1 (ok_File_sealed T) hr (by decide) (pv 5))) (pss_one (ps_ret (pcall (ok_refused T) hr (by decide) rfl T.g_refused (pa_cons pe_str pa_nil)))) pss_nil)
      (pss_cons (ps_if (pt_cmpR op_eq (pv 6) pe_str (nomark _)) (pss_one (ps_ret (pcall (ok_refused T) hr (by decide) rfl T.g_refused (pa_cons pe_str pa_nil)))) pss_nil)
      (pss_cons (ps_if (pt_val (pcall (ok_exceeds_limit T) hr (by decide) rfl T.g_exceeds_limit (pa_cons (pv 0) (pa_cons (pmeth T.c_Tree T.m_Tree_above (ok_Tree_above T) hr (by decide) (pv 0) (pa_cons (pv 4) pa_nil)) (pa_cons (pe_callB call_len_str (by rfl) T.f_len (by decide +kernel) (pa_cons (pv 6) pa_nil)) pa_nil))))) (pss_one (ps_ret (pcall (ok_refused T) hr (by decide) rfl T.g_refused (pa_cons pe_str pa_nil)))) pss_nil)
      (pss_cons (ps_set (i := 7) sc_append_text.nd rfl (Or.inl rfl) (pmeth T.c_File T.m_File_add_piece (ok_File_add_piece T) hr (by decide) (pv 5) (pa_cons (pe_tup (pa_cons (pe_ix ix_tup (pv 1) pe_int (fun _ _ => rfl)) (pa_cons (pe_ix ix_tup (pv 1) pe_int (fun _ _ => rfl)) (pa_cons (pe_ix ix_tup (pv 1) pe_int (fun _ _ => rfl)) (pa_cons (pv 6) pa_nil))))) pa_nil)))
      (pss_one (ps_ret (pe_tup (pa_cons pe_str (pa_cons (pe_ix ix_tup (pv 1) pe_int (fun _ _ => rfl)) (pa_cons (pv 4) (pa_cons (pv 7) pa_nil))))))))))))))), ?_⟩
  dsimp only [cxOf, Cx.nox]
  obtain ⟨dx, ht⟩ := R.tr
  refine ⟨_, rfl, _, rfl, pl, _, _, _, rfl, rfl, SqL.of hpl, atI_nat (j := 0) rfl, g, Z, e, q, ns, rfl, rfl, R, W, hq, fun w hp => ?_, fun i hp => ?_⟩
  · have k' : Done K g H (Z, refu w) Q := by
      unfold wrN at k
      rcases fileAt_no W hp with hl | ⟨j, n, hl, hn, hf, rfl⟩
      · rw [hl] at k
        exact k
      · rw [hl] at k
        simp only [hn, if_pos hf] at k
        exact k
    exact ⟨_, rfl, _, _, _, _, _, rfl, isi_ss ⟨_, rfl, iteT ⟨_, rfl, refuse R k' (Same.refl H)⟩⟩⟩
  refine ⟨_, rfl, _, _, _, _, _, rfl, isi_is ⟨_, rfl, iteF ?_⟩⟩
  obtain ⟨n, hl, hn, hf, hpn⟩ := fileAt_at W hp
  obtain ⟨na, nb, hna, hnb, N⟩ := R.at hn
  obtain ⟨fdx, vs, h1, h2, h3⟩ := N.fileE hf
  have hnz := List.mem_of_getElem? hn
  unfold wrN at k
  rw [hl] at k
  simp only [hn, if_neg (show ¬ n.file = false by rw [hf]; decide)] at k
  refine ⟨_, rfl, g.t, dx, _, rfl, ht, znone (by decide +kernel), _, rfl, g, Z, i, na, rfl, rfl, R, hna, ?_⟩
  refine ⟨_, rfl, da, _, _, _, rfl, rfl, SqT.of hda, atI_nat (j := 2) rfl, ?_⟩
  refine ⟨_, rfl, na, fdx, _, rfl, h1, na, fdx, _, _, _, rfl, h1, _, rfl, iteB (fun h4 => ?_) (fun h4 => ?_)⟩
  · simp only [if_pos h4] at k
    exact refuse R k (Same.refl H)
  simp only [if_neg (show ¬ n.shut = true by rw [h4]; decide)] at k
  refine ⟨_, rfl, rfl, _, rfl, iteB (fun h5 => ?_) (fun h5 => ?_)⟩
  · have e5 : tx = [] := by
      rw [lEmp] at h5
      simpa [S_eq_iff] using h5
    simp only [if_pos e5] at k
    exact refuse R k (Same.refl H)
  have e5 : ¬ tx = [] := by
    rw [lEmp] at h5
    simpa [S_eq_iff] using h5
  simp only [if_neg e5] at k
  refine ⟨_, rfl, _, rfl, g.t, dx, _, rfl, ht, znone (by decide +kernel), _, rfl, g, Z, e, i, n, rfl, rfl, R, W, hn, fun p hp1 => ?_⟩
  have s1 := same_new (o := .lst (itV (abv Z n.path))) hp1
  refine ⟨_, rfl, _, rfl, S_len63 htx (by decide), ?_⟩
  rw [S_len]
  refine ⟨g, Z, e, p, abv Z n.path, tx.length, rfl, rfl, rfl, R.same s1, W, upd_same, fun j hj => abv_dir W (hung_node W hnz) hnz (List.prefix_refl _) hj, fun H2 s2 => ?_⟩
  have s02 := s1.trans s2
  rw [← bursts_node W hnz tx.length, hpn]
  refine ⟨_, rfl, iteB (fun h6 => ?_) (fun h6 => ?_)⟩
  · simp only [if_pos h6] at k
    exact refuse R k s02
  simp only [if_neg (show ¬ bursts Z ns [] tx.length = true by rw [h6]; decide)] at k
  refine ⟨_, rfl, na, fdx, _, rfl, s02 _ _ h1, znone (by decide +kernel), ?_⟩
  refine ⟨_, rfl, sa, _, _, _, rfl, rfl, SqT.of (s02 _ _ hsa), atI_nat (j := 0) rfl, ?_⟩
  refine ⟨_, rfl, sa, _, _, _, rfl, rfl, SqT.of (s02 _ _ hsa), atI_nat (j := 1) rfl, ?_⟩
  refine ⟨_, rfl, sa, _, _, _, rfl, rfl, SqT.of (s02 _ _ hsa), atI_nat (j := 2) rfl, ?_⟩
  refine ⟨_, rfl, sm64 (by show 4 ≤ 10000; decide), fun t0 ht0 => ?_⟩
  have s03 := s02.trans (same_new (o := .tup [.int st.num, .int st.cl, .int st.ser, .str (S tx)]) ht0)
  have hpc := W.pcn n hnz
  have hvl := h3.length
  rw [List.length_map] at hvl
  refine ⟨na, fdx, nb, n.shut, _, vs, t0, _, _, _, S tx, rfl, rfl, s03 _ _ h1, s03 _ _ h2, upd_same, by rw [S_len]; omega, by omega, ?_⟩
  generalize eH4 : upd H2 t0 (.tup [.int st.num, .int st.cl, .int st.ser, .str (S tx)]) = H4
  have s4 : Same H H4 := by rw [← eH4]; exact s03
  have ht4 : H4 t0 = some (.tup [.int st.num, .int st.cl, .int st.ser, .str (S tx)]) := by rw [← eH4]; exact upd_same
  clear eH4
  have nab : nb ≠ na := (R.ne_ns hna hnb).symm
  generalize eH5 : upd (upd H4 nb (.lst (vs ++ [.ref t0]))) na (.ins (ga K "File") fdx (fFile nb n.shut ((n.size : Int) + ((S tx).length : Int)))) = H5
  have kp5 : ∀ c o, c ≠ na → c ≠ nb → H4 c = some o → H5 c = some o := fun c o ha hb h => by
    rw [← eH5, upd_ne ha, upd_ne hb]
    exact h
  have ha5 : H5 na = some (.ins (ga K "File") fdx (fFile nb n.shut ((n.size : Int) + ((S tx).length : Int)))) := by rw [← eH5, upd_same]
  have hb5 : H5 nb = some (.lst (vs ++ [.ref t0])) := by rw [← eH5, upd_ne nab, upd_same]
  clear eH5
  have t5 : TupK H4 H5 := fun c xs h => kp5 c _ (ne_of h (s4 _ _ h1) (by intro z; cases z)) (ne_of h (s4 _ _ h2) (by intro z; cases z)) h
  refine ⟨_, rfl, sa, _, _, _, rfl, rfl, SqT.of (t5 _ _ (s4 _ _ hsa)), atI_nat (j := 0) rfl, _, rfl, _, rfl, sm64 (by show 4 ≤ 10000; decide), fun p6 hp6 => ?_⟩
  have s6 := same_new (o := .tup [.str "written", .int st.num, .int (i : Int), .int (n.size : Int)]) hp6
  have R5 : TreeAt K H5 g (Z.set i { n with pcs := n.pcs ++ [⟨st.num, st.cl, st.ser, tx⟩] }) := (R.same s4).setN hna hnb hn rfl rfl (fun c o ha hb h => kp5 c o ha hb h) t5 (by
    unfold NodeAt
    rw [if_pos hf]
    refine ⟨fdx, vs ++ [.ref t0], ?_, hb5, ?_⟩
    · rw [ha5]
      have : (({ n with pcs := n.pcs ++ [⟨st.num, st.cl, st.ser, tx⟩] } : Nd).size : Int) = (n.size : Int) + ((S tx).length : Int) := by
        rw [S_len]
        unfold Nd.size
        simp
      rw [this]
    · rw [List.map_append]
      exact ((h3.keep (Same.tup s4)).keep t5).snoc (isV.tup (t5 _ _ ht4) (isVs.cons isV.int (isVs.cons isV.int (isVs.cons isV.int (isVs.cons isV.str isVs.nil))))))
  refine k g _ _ rfl (R5.same s6) (Post.kept (fun c o hc h => s6 _ _ (kp5 c o (fun z => hc (by rw [z]; exact Gh.mem_na hna)) (fun z => hc (by rw [z]; exact Gh.mem_sb hnb)) (s4 _ _ h))) ((Same.tup s4).trans (t5.trans (Same.tup s6)))) (isV.tup upd_same (isVs.cons isV.str (isVs.cons isV.int (isVs.cons isV.int (isVs.cons isV.int isVs.nil)))))
def P_seal_file (K : PySem.W.Frag) (a b c d : V) (H : Hp) (Q : VK) : Prop := ∃ (g : Gh) (Z : Tr) (e : Nat) (pl q : Addr) (ns : List Nm), a = .ref g.t ∧ d = .ref pl ∧ TreeAt K H g Z ∧ WF e Z ∧ H pl = some (.lst [.ref q]) ∧ H q = some (.lst (nmV ns)) ∧ Done K g H (seN Z ns) Q
abbrev N_seal_file : List Str := ["tree", "stamp", "deed", "paths", "number", "target"]
theorem sc_seal_file : FnScope N_seal_file ["tree", "stamp", "deed", "paths"] (defScope s_seal_file) := ⟨rfl, rfl, rfl, by decide +kernel, rfl, by decide +kernel, by decide +kernel⟩
theorem ok_seal_file (T : Tx w K mg) : Cal P w K mg base 15 (fAd K ("seal_file", none)) (Sp4 (P_seal_file K)) := by
  refine mk4 (k := 14) T.fd_seal_file sc_seal_file (fun _ _ _ _ _ _ _ _ _ _  => rfl) fun cdv A outer s H E va vb vc vd Q hr h => ?_
  have hu := hu_of hr
  obtain ⟨g, Z, e, pl, q, ns, rfl, rfl, R, W, hpl, hq, k⟩ := h
  refine ⟨_, (pss_cons (ps_set (i := 4) sc_seal_file.nd rfl (Or.inl rfl) (pcall (ok_file_at T) hr (by decide) rfl T.g_file_at (pa_cons (pv 0) (pa_cons (pe_ix ix_list (pv 3) pe_int (fun _ _ => rfl)) pa_nil))))
      (pss_cons (ps_if (pt_val (pe_callB call_isi (by rfl) T.f_isinstance (by decide +kernel) (pa_cons (pv 4) (pa_cons (pe_bltn (v := .ty "str") (by rfl) T.f_str (by decide +kernel) rfl) pa_nil)))) (pss_one (ps_ret (pcall (ok_refused T) hr (by decide) rfl T.g_refused (pa_cons (pv 4) pa_nil)))) pss_nil)
      (pss_cons (ps_set (i := 5) sc_seal_file.nd rfl (Or.inl rfl) (pmeth T.c_Tree T.m_Tree_node (ok_Tree_node T) hr (by decide) (pv 0) (pa_cons (pv 4) pa_nil)))
      (pss_cons (ps_if (pt_val (pprop T.c_File T.pr_File_sealed.1 (ok_File_sealed T) hr (by decide) (pv 5))) (pss_one (ps_ret (pcall (ok_refused T) hr (by decide) rfl T.g_refused (pa_cons pe_str pa_nil)))) pss_nil)
      (pss_cons (ps_expr (pmeth0 T.c_File T.m_File_seal (ok_File_seal T) hr (by decide) (pv 5)))
      (pss_one (ps_ret (pe_tup (pa_cons pe_str (pa_cons (pv 4) (pa_cons (pprop T.c_File T.pr_File_length.1 (ok_File_length T) hr (by decide) (pv 5)) pa_nil))))))))))), ?_⟩
  dsimp only [cxOf, Cx.nox]
  obtain ⟨dx, ht⟩ := R.tr
  refine ⟨_, rfl, _, rfl, pl, _, _, _, rfl, rfl, SqL.of hpl, atI_nat (j := 0) rfl, g, Z, e, q, ns, rfl, rfl, R, W, hq, fun w hp => ?_, fun i hp => ?_⟩
  · have k' : Done K g H (Z, refu w) Q := by
      unfold seN at k
      rcases fileAt_no W hp with hl | ⟨j, n, hl, hn, hf, rfl⟩
      · rw [hl] at k
        exact k
      · rw [hl] at k
        simp only [hn, if_pos hf] at k
        exact k
    exact ⟨_, rfl, _, _, _, _, _, rfl, isi_ss ⟨_, rfl, iteT ⟨_, rfl, refuse R k' (Same.refl H)⟩⟩⟩
  refine ⟨_, rfl, _, _, _, _, _, rfl, isi_is ⟨_, rfl, iteF ?_⟩⟩
  obtain ⟨n, hl, hn, hf, hpn⟩ := fileAt_at W hp
  obtain ⟨na, nb, hna, hnb, N⟩ := R.at hn
  obtain ⟨fdx, vs, h1, h2, h3⟩ := N.fileE hf
  unfold seN at k
  rw [hl] at k
  simp only [hn, if_neg (show ¬ n.file = false by rw [hf]; decide)] at k
  refine ⟨_, rfl, g.t, dx, _, rfl, ht, znone (by decide +kernel), _, rfl, g, Z, i, na, rfl, rfl, R, hna, ?_⟩
  refine ⟨_, rfl, na, fdx, _, rfl, h1, na, fdx, _, _, _, rfl, h1, _, rfl, iteB (fun h4 => ?_) (fun h4 => ?_)⟩
  · simp only [if_pos h4] at k
    exact refuse R k (Same.refl H)
  simp only [if_neg (show ¬ n.shut = true by rw [h4]; decide)] at k
  refine ⟨_, rfl, na, fdx, _, rfl, h1, znone (by decide +kernel), na, fdx, nb, n.shut, _, rfl, h1, ?_⟩
  generalize eH5 : upd H na (.ins (ga K "File") fdx (fFile nb true (n.size : Int))) = H5
  have kp5 : ∀ c o, c ≠ na → H c = some o → H5 c = some o := fun c o ha h => by
    rw [← eH5, upd_ne ha]
    exact h
  have ha5 : H5 na = some (.ins (ga K "File") fdx (fFile nb true (n.size : Int))) := by rw [← eH5, upd_same]
  clear eH5
  have t5 : TupK H H5 := fun c xs h => kp5 c _ (ne_of h h1 (by intro z; cases z)) h
  refine ⟨_, rfl, _, rfl, na, fdx, _, rfl, ha5, na, fdx, _, _, _, rfl, ha5, sm64 (by show 3 ≤ 10000; decide), fun p6 hp6 => ?_⟩
  have s6 := same_new (o := .tup [.str "sealed", .int (i : Int), .int (n.size : Int)]) hp6
  have R5 : TreeAt K H5 g (Z.set i { n with shut := true }) := R.setN hna hnb hn rfl rfl (fun c o ha hb h => kp5 c o ha h) t5 (by
    unfold NodeAt
    rw [if_pos hf]
    exact ⟨fdx, vs, ha5, kp5 _ _ (R.ne_ns hna hnb).symm h2, h3.keep t5⟩)
  exact k g _ _ rfl (R5.same s6) (Post.kept (fun c o hc h => s6 _ _ (kp5 c o (fun z => hc (by rw [z]; exact Gh.mem_na hna)) h)) (t5.trans (Same.tup s6))) (isV.tup upd_same (isVs.cons isV.str (isVs.cons isV.int (isVs.cons isV.int isVs.nil))))
def P_limit_directory (K : PySem.W.Frag) (a b c d : V) (H : Hp) (Q : VK) : Prop := ∃ (g : Gh) (Z : Tr) (e : Nat) (pl q da : Addr) (ns : List Nm) (u0 u1 : V) (m : Int), a = .ref g.t ∧ c = .ref da ∧ d = .ref pl ∧ TreeAt K H g Z ∧ WF e Z ∧ H pl = some (.lst [.ref q]) ∧ H q = some (.lst (nmV ns)) ∧
  H da = some (.tup [u0, u1, .int m]) ∧ Done K g H (liN Z ns m) Q
abbrev N_limit_directory : List Str := ["tree", "stamp", "deed", "paths", "number", "directory", "used"]
theorem sc_limit_directory : FnScope N_limit_directory ["tree", "stamp", "deed", "paths"] (defScope s_limit_directory) := ⟨rfl, rfl, rfl, by decide +kernel, rfl, by decide +kernel, by decide +kernel⟩
theorem ok_limit_directory (T : Tx w K mg) : Cal P w K mg base 15 (fAd K ("limit_directory", none)) (Sp4 (P_limit_directory K)) := by
  refine mk4 (k := 14) T.fd_limit_directory sc_limit_directory (fun _ _ _ _ _ _ _ _ _ _  => rfl) fun cdv A outer s H E va vb vc vd Q hr h => ?_
  have hu := hu_of hr
  obtain ⟨g, Z, e, pl, q, da, ns, u0, u1, m, rfl, rfl, rfl, R, W, hpl, hq, hda, k⟩ := h
  refine ⟨_, (pss_cons (ps_set (i := 4) sc_limit_directory.nd rfl (Or.inl rfl) (pmeth T.c_Tree T.m_Tree_look_up (ok_Tree_look_up T) hr (by decide) (pv 0) (pa_cons (pe_ix ix_list (pv 3) pe_int (fun _ _ => rfl)) pa_nil)))
      (pss_cons (ps_if (pt_val (pe_callB call_isi (by rfl) T.f_isinstance (by decide +kernel) (pa_cons (pv 4) (pa_cons (pe_bltn (v := .ty "str") (by rfl) T.f_str (by decide +kernel) rfl) pa_nil)))) (pss_one (ps_ret (pcall (ok_refused T) hr (by decide) rfl T.g_refused (pa_cons (pv 4) pa_nil)))) pss_nil)
      (pss_cons (ps_set (i := 5) sc_limit_directory.nd rfl (Or.inl rfl) (pmeth T.c_Tree T.m_Tree_node (ok_Tree_node T) hr (by decide) (pv 0) (pa_cons (pv 4) pa_nil)))
      (pss_cons (ps_if (pt_val (pe_callB call_isi (by rfl) T.f_isinstance (by decide +kernel) (pa_cons (pv 5) (pa_cons (pe_glob (v := .ref _) rfl T.g_File rfl) pa_nil)))) (pss_one (ps_ret (pcall (ok_refused T) hr (by decide) rfl T.g_refused (pa_cons pe_str pa_nil)))) pss_nil)
      (pss_cons (ps_set (i := 6) sc_limit_directory.nd rfl (Or.inl rfl) (pmeth T.c_Tree T.m_Tree_size_of (ok_Tree_size_of T) hr (by decide) (pv 0) (pa_cons (pv 4) pa_nil)))
      (pss_cons (ps_if (pt_cmpR op_gt (pv 6) (pe_ix ix_tup (pv 2) pe_int (fun _ _ => rfl)) (nomark _)) (pss_one (ps_ret (pcall (ok_refused T) hr (by decide) rfl T.g_refused (pa_cons pe_str pa_nil)))) pss_nil)
      (pss_cons (ps_expr (pmeth T.c_Directory T.m_Directory_set_limit (ok_Directory_set_limit T) hr (by decide) (pv 5) (pa_cons (pe_ix ix_tup (pv 2) pe_int (fun _ _ => rfl)) pa_nil)))
      (pss_one (ps_ret (pe_tup (pa_cons pe_str (pa_cons (pv 4) (pa_cons (pv 6) pa_nil))))))))))))), ?_⟩
  dsimp only [cxOf, Cx.nox]
  obtain ⟨dx, ht⟩ := R.tr
  unfold liN at k
  refine ⟨_, rfl, g.t, dx, _, rfl, ht, znone (by decide +kernel), _, rfl, pl, _, _, _, rfl, rfl, SqL.of hpl, atI_nat (j := 0) rfl, g, Z, e, q, ns, rfl, rfl, R, W, hq, fun w hl => ?_, fun i hl => ?_⟩
  · rw [hl] at k
    exact ⟨_, rfl, _, _, _, _, _, rfl, isi_ss ⟨_, rfl, iteT ⟨_, rfl, refuse R k (Same.refl H)⟩⟩⟩
  rw [hl] at k
  refine ⟨_, rfl, _, _, _, _, _, rfl, isi_is ⟨_, rfl, iteF ?_⟩⟩
  obtain ⟨n, hn, hpn⟩ := look_node W hl
  obtain ⟨na, nb, hna, hnb, N⟩ := R.at hn
  simp only [hn] at k
  refine ⟨_, rfl, g.t, dx, _, rfl, ht, znone (by decide +kernel), _, rfl, g, Z, i, na, rfl, rfl, R, hna, ?_⟩
  cases hfile : n.file with
  | true =>
    obtain ⟨fdx, vs, h1, h2, h3⟩ := N.fileE hfile
    simp only [if_pos hfile] at k
    exact ⟨_, rfl, _, _, _, _, _, rfl, isi_FF T h1 ⟨_, rfl, iteT (refuse R k (Same.refl H))⟩⟩
  | false =>
    obtain ⟨fdx, kvs, h1, h2, h3⟩ := N.dirE hfile
    simp only [if_neg (show ¬ n.file = true by rw [hfile]; decide)] at k
    refine ⟨_, rfl, _, _, _, _, _, rfl, isi_DF T h1 ⟨_, rfl, iteF ?_⟩⟩
    refine ⟨_, rfl, g.t, dx, _, rfl, ht, znone (by decide +kernel), _, rfl, g, Z, e, i, n, rfl, rfl, R, W, hn, by omega, fun H2 s2 => ?_⟩
    rw [hpn]
    refine ⟨_, rfl, _, rfl, da, _, _, _, rfl, rfl, SqT.of (s2 _ _ hda), atI_nat (j := 2) rfl, _, _, rfl, rfl, _, rfl, iteB (fun h4 => ?_) (fun h4 => ?_)⟩
    · simp only [if_pos (of_decide_eq_true h4)] at k
      exact refuse R k s2
    simp only [if_neg (of_decide_eq_false h4)] at k
    refine ⟨_, rfl, na, fdx, _, rfl, s2 _ _ h1, znone (by decide +kernel), _, rfl, da, _, _, _, rfl, rfl, SqT.of (s2 _ _ hda), atI_nat (j := 2) rfl, na, fdx, _, _, rfl, s2 _ _ h1, ?_⟩
    generalize eH5 : upd H2 na (.ins (ga K "Directory") fdx (fDir (.int m) nb)) = H5
    have kp5 : ∀ c o, c ≠ na → H c = some o → H5 c = some o := fun c o ha h => by
      rw [← eH5, upd_ne ha]
      exact s2 _ _ h
    have ha5 : H5 na = some (.ins (ga K "Directory") fdx (fDir (.int m) nb)) := by rw [← eH5, upd_same]
    clear eH5
    have t5 : TupK H H5 := fun c xs h => kp5 c _ (ne_of h h1 (by intro z; cases z)) h
    refine ⟨_, rfl, _, rfl, sm64 (by show 3 ≤ 10000; decide), fun p6 hp6 => ?_⟩
    have s6 := same_new (o := .tup [.str "limited", .int (i : Int), .int (sizeAt Z ns : Int)]) hp6
    have R5 : TreeAt K H5 g (Z.set i { n with lim := some m }) := R.setN hna hnb hn rfl rfl (fun c o ha hb h => kp5 c o ha h) t5 (by
      unfold NodeAt
      rw [if_neg (by rw [hfile]; decide)]
      exact ⟨fdx, kvs, ha5, kp5 _ _ (R.ne_ns hna hnb).symm h2, h3⟩)
    exact k g _ _ rfl (R5.same s6) (Post.kept (fun c o hc h => s6 _ _ (kp5 c o (fun z => hc (by rw [z]; exact Gh.mem_na hna)) h)) (t5.trans (Same.tup s6))) (isV.tup upd_same (isVs.cons isV.str (isVs.cons isV.int (isVs.cons isV.int isVs.nil))))
end
end Ah
/-! Moves and snapshots. -/
namespace Ah
open PySem PySem.Spec PyProof.Rows L2 He SX
theorem sz_pcs (n : Nd) : ((n.pcs.map fun p => p.tx.length).sum : Nat) = n.size := rfl
theorem pre_take {o p : List Nm} : p.take o.length = o ↔ o <+: p := by
  rw [List.prefix_iff_eq_take]
  exact eq_comm
section
variable {P : Program} {w : World} {K : PySem.W.Frag} {mg : Str → Option Value} {base : Heap}
def P_move_entry (K : PySem.W.Frag) (a b c d : V) (H : Hp) (Q : VK) : Prop := ∃ (g : Gh) (Z : Tr) (e : Nat) (pl q1 q2 : Addr) (o p : List Nm), a = .ref g.t ∧ d = .ref pl ∧ TreeAt K H g Z ∧ WF e Z ∧ H pl = some (.lst [.ref q1, .ref q2]) ∧ H q1 = some (.lst (nmV o)) ∧ H q2 = some (.lst (nmV p)) ∧ Good o ∧ Good p ∧ p.length ≤ 6 ∧
  Done K g H (mvN Z o p) Q
abbrev N_move_entry : List Str := ["tree", "stamp", "deed", "paths", "old", "new", "number", "parent", "left", "entered", "directory"]
theorem sc_move_entry : FnScope N_move_entry ["tree", "stamp", "deed", "paths"] (defScope s_move_entry) := ⟨rfl, rfl, rfl, by decide +kernel, rfl, by decide +kernel, by decide +kernel⟩
theorem ok_move_entry (T : Tx w K mg) : Cal P w K mg base 15 (fAd K ("move_entry", none)) (Sp4 (P_move_entry K)) := by
  refine mk4 (k := 14) T.fd_move_entry sc_move_entry (fun _ _ _ _ _ _ _ _ _ _  => rfl) fun cdv A outer s H E va vb vc vd Q hr h => ?_
  have hu := hu_of hr
  obtain ⟨g, Z, e, pl, q1, q2, o, p, rfl, rfl, R, W, hpl, hq1, hq2, go, gp, hp6, k⟩ := h
  refine ⟨_, (pss_cons (ps_asg (pv 3) (pg_unl rfl (pgs_cons (pg_name (i := 4) sc_move_entry.nd rfl (Or.inl rfl)) (pgs_cons (pg_name (i := 5) sc_move_entry.nd rfl (Or.inl rfl)) pgs_nil))))
      (pss_cons (ps_if (pt_cmpR (op_eqD hr.units) (pv 4) (pe_lst pa_nil) (nomark _)) (pss_one (ps_ret (pcall (ok_refused T) hr (by decide) rfl T.g_refused (pa_cons pe_str pa_nil)))) pss_nil)
      (pss_cons (ps_set (i := 6) sc_move_entry.nd rfl (Or.inl rfl) (pmeth T.c_Tree T.m_Tree_look_up (ok_Tree_look_up T) hr (by decide) (pv 0) (pa_cons (pv 4) pa_nil)))
      (pss_cons (ps_if (pt_val (pe_callB call_isi (by rfl) T.f_isinstance (by decide +kernel) (pa_cons (pv 6) (pa_cons (pe_bltn (v := .ty "str") (by rfl) T.f_str (by decide +kernel) rfl) pa_nil)))) (pss_one (ps_ret (pcall (ok_refused T) hr (by decide) rfl T.g_refused (pa_cons (pv 6) pa_nil)))) pss_nil)
      (pss_cons (ps_if (pt_cmpR (op_eqD hr.units) (pe_slice sl_list (pv 5) po_none (po_some (pe_callB call_len_seq (by rfl) T.f_len (by decide +kernel) (pa_cons (pv 4) pa_nil)))) (pv 4) (nomark _)) (pss_one (ps_ret (pcall (ok_refused T) hr (by decide) rfl T.g_refused (pa_cons pe_str pa_nil)))) pss_nil)
      (pss_cons (ps_set (i := 7) sc_move_entry.nd rfl (Or.inl rfl) (pcall (ok_new_place T) hr (by decide) rfl T.g_new_place (pa_cons (pv 0) (pa_cons (pv 5) pa_nil))))
      (pss_cons (ps_if (pt_val (pe_callB call_isi (by rfl) T.f_isinstance (by decide +kernel) (pa_cons (pv 7) (pa_cons (pe_bltn (v := .ty "str") (by rfl) T.f_str (by decide +kernel) rfl) pa_nil)))) (pss_one (ps_ret (pcall (ok_refused T) hr (by decide) rfl T.g_refused (pa_cons (pv 7) pa_nil)))) pss_nil)
      (pss_cons (ps_if (pt_cmpR op_gt (pe_op op_add (pe_callB call_len_seq (by rfl) T.f_len (by decide +kernel) (pa_cons (pv 5) pa_nil)) (pmeth T.c_Tree T.m_Tree_height_of (ok_Tree_height_of T) hr (by decide) (pv 0) (pa_cons (pv 6) pa_nil))) (C8.pe_gc rfl T.k_NAMES_MOST) (nomark _)) (pss_one (ps_ret (pcall (ok_refused T) hr (by decide) rfl T.g_refused (pa_cons pe_str pa_nil)))) pss_nil)
      (pss_cons (ps_set (i := 8) sc_move_entry.nd rfl (Or.inr rfl) (pmeth T.c_Tree T.m_Tree_above (ok_Tree_above T) hr (by decide) (pv 0) (pa_cons (pv 6) pa_nil)))
      (pss_cons (ps_setLc (i := 9) (own := [("directory", 10)]) (g := gName 10) rfl sc_move_entry.nd rfl rfl (sw_true rfl rfl rfl (by decide +kernel)) (pi_list (pe_op op_cat (pe_lst (pa_cons (pv 7) pa_nil)) (pmeth T.c_Tree T.m_Tree_above (ok_Tree_above T) hr (by decide) (pv 0) (pa_cons (pv 7) pa_nil)))) (blkOk_by (own := [("directory", 10)]) (N := N_move_entry) (sc := defScope s_move_entry) (by decide +kernel)) (fun _ _ _ _ _ => pg_name (i := 10) sc_move_entry.nd rfl (Or.inl rfl)) (fun _ _ _ _ _ => pts_one (pt_cmpR (r := rIn K true) op_notIn_seq (pv 10) (pv 8) (by rfl))) (fun _ _ _ _ _ => (pv 10)))
      (pss_cons (ps_if (pt_val (pcall (ok_exceeds_limit T) hr (by decide) rfl T.g_exceeds_limit (pa_cons (pv 0) (pa_cons (pv 9) (pa_cons (pmeth T.c_Tree T.m_Tree_size_of (ok_Tree_size_of T) hr (by decide) (pv 0) (pa_cons (pv 6) pa_nil)) pa_nil))))) (pss_one (ps_ret (pcall (ok_refused T) hr (by decide) rfl T.g_refused (pa_cons pe_str pa_nil)))) pss_nil)
      (pss_cons (ps_expr (pmeth T.c_Tree T.m_Tree_move_node (ok_Tree_move_node T) hr (by decide) (pv 0) (pa_cons (pv 6) (pa_cons (pv 7) (pa_cons (pe_ix ix_list (pv 5) (pe_un un_neg pe_int) (fun _ _ => rfl)) pa_nil)))))
      (pss_one (ps_ret (pe_tup (pa_cons pe_str (pa_cons (pv 6) pa_nil))))))))))))))))), ?_⟩
  dsimp only [cxOf, Cx.nox]
  obtain ⟨dx, ht⟩ := R.tr
  have hZ := W.len
  refine ⟨_, rfl, pl, _, rfl, SqL.of hpl, rfl, _, _, rfl, _, _, rfl, rfl, ?_⟩
  refine ⟨_, rfl, sm64 (by show 0 ≤ 10000; decide), fun p0 hp0 => ?_⟩
  have s0 := same_new (o := .lst []) hp0
  refine ⟨_, _, dp_nm (s0 _ _ hq1), dp_nm (p := []) upd_same, shaped_nm go, shaped_nm (fun _ z => (nomatch z)), _, rfl, ?_⟩
  rw [eqv_nm]
  unfold mvN at k
  refine iteB (fun h1 => ?_) (fun h1 => ?_)
  · simp only [if_pos (of_decide_eq_true h1)] at k
    exact refuse R k s0
  have one := of_decide_eq_false h1
  simp only [if_neg one] at k
  refine ⟨_, rfl, g.t, dx, _, rfl, s0 _ _ ht, znone (by decide +kernel), _, rfl, g, Z, e, q1, o, rfl, rfl, R.same s0, W, s0 _ _ hq1, fun w hl => ?_, fun i hl => ?_⟩
  · rw [hl] at k
    exact ⟨_, rfl, _, _, _, _, _, rfl, isi_ss ⟨_, rfl, iteT ⟨_, rfl, refuse R k s0⟩⟩⟩
  simp only [hl] at k
  refine ⟨_, rfl, _, _, _, _, _, rfl, isi_is ⟨_, rfl, iteF ?_⟩⟩
  obtain ⟨n, hn, hpn⟩ := look_node W hl
  have hnz := List.mem_of_getElem? hn
  subst hpn
  refine ⟨_, rfl, _, rfl, q1, _, rfl, .inl (SqL.of (s0 _ _ hq1)), _, rfl, q2, _, rfl, SqL.of (s0 _ _ hq2), fun p1 hp1 => ?_⟩
  rw [cut_take, nmV_len]
  have s1 := s0.trans (same_new (o := .lst (nmV (p.take n.path.length))) hp1)
  refine ⟨_, rfl, _, _, dp_nm (p := p.take n.path.length) upd_same, dp_nm (s1 _ _ hq1), shaped_nm (fun x hx => gp x (List.mem_of_mem_take hx)), shaped_nm go, _, rfl, ?_⟩
  rw [eqv_nm]
  refine iteB (fun h2 => ?_) (fun h2 => ?_)
  · simp only [if_pos (pre_take.mp (of_decide_eq_true h2))] at k
    exact refuse R k s1
  have nop : ¬ n.path <+: p := fun z => of_decide_eq_false h2 (pre_take.mpr z)
  simp only [if_neg nop] at k
  refine ⟨_, rfl, _, rfl, g, Z, e, q2, p, rfl, rfl, R.same s1, W, s1 _ _ hq2, gp, fun w hp H2 s2 => ?_, fun j hp H2 s2 => ?_⟩
  · rw [hp] at k
    exact ⟨_, rfl, _, _, _, _, _, rfl, isi_ss ⟨_, rfl, iteT ⟨_, rfl, refuse R k (s1.trans s2)⟩⟩⟩
  simp only [hp] at k
  refine ⟨_, rfl, _, _, _, _, _, rfl, isi_is ⟨_, rfl, iteF ?_⟩⟩
  have s02 := s1.trans s2
  obtain ⟨m, x, hm, hmf, hpx, hlx, hix, hlk⟩ := place_free W hp
  refine ⟨_, rfl, q2, _, rfl, .inl (SqL.of (s02 _ _ hq2)), ?_⟩
  rw [nmV_len]
  refine ⟨_, rfl, g.t, dx, _, rfl, s02 _ _ ht, znone (by decide +kernel), _, rfl, g, Z, e, i, n, rfl, rfl, R.same s02, W, hn, by omega, fun H3 s3 => ?_⟩
  have s03 := s02.trans s3
  refine ⟨_, _, rfl, rfl, _, _, rfl, rfl, _, rfl, iteB (fun h3 => ?_) (fun h3 => ?_)⟩
  · have h3' : 6 < p.length + heightAt Z n.path := by
      have := of_decide_eq_true h3
      omega
    simp only [if_pos h3'] at k
    exact refuse R k s03
  have h3' : ¬ 6 < p.length + heightAt Z n.path := by
    have := of_decide_eq_false h3
    omega
  simp only [if_neg h3'] at k
  refine ⟨_, rfl, g.t, dx, _, rfl, s03 _ _ ht, znone (by decide +kernel), _, rfl, g, Z, e, i, n, rfl, rfl, R.same s03, W, hn, fun pL hpL => ?_⟩
  generalize eH4 : upd H3 pL (.lst ((abv Z n.path).map fun (i : Nat) => V.int (i : Int))) = H4
  have s4 : Same H H4 := by rw [← eH4]; exact s03.trans (same_new hpL)
  have hL4 : H4 pL = some (.lst (itV (abv Z n.path))) := by rw [← eH4]; exact upd_same
  clear eH4
  -- what is entered
  refine ⟨_, rfl, sm64 (by show 1 ≤ 10000; decide), fun a0 ha0 => ?_⟩
  have s5 := same_new (o := .lst [.int (j : Int)]) ha0
  refine ⟨_, rfl, g.t, dx, _, rfl, (s4.trans s5) _ _ ht, znone (by decide +kernel), _, rfl, g, Z, e, j, m, rfl, rfl, R.same (s4.trans s5), W, hm, fun pA hpA => ?_⟩
  have s6 := same_new (o := .lst (itV (abv Z m.path))) hpA
  have nAa : pA ≠ a0 := by
    rintro rfl
    rw [upd_same] at hpA
    cases hpA
  have g6 := (W.good m (List.mem_of_getElem? hm)).2
  have al : (abv Z m.path).length ≤ 6 := by
    unfold abv
    rw [List.length_map, List.length_reverse, List.length_range]
    exact g6
  refine ⟨a0, pA, _, _, rfl, rfl, s6 _ _ upd_same, upd_same, sm64 (by rw [List.length_map, List.length_singleton]; omega), fun q hq => ?_⟩
  have eL : ([V.int (j : Int)] ++ (abv Z m.path).map fun (i : Nat) => V.int (i : Int)) = itV (j :: abv Z m.path) := rfl
  rw [eL]
  generalize eH7 : upd (upd (upd H4 a0 (.lst [.int (j : Int)])) pA (.lst ((abv Z m.path).map fun (i : Nat) => V.int (i : Int)))) q (.lst (itV (j :: abv Z m.path))) = H7
  have s7 : Same H4 H7 := by rw [← eH7]; exact (s5.trans s6).trans (same_new hq)
  have hq7 : H7 q = some (.lst (itV (j :: abv Z m.path))) := by rw [← eH7]; exact upd_same
  clear eH7
  refine ⟨q, rfl, ⟨_, SqL.of hq7⟩, fun D hD => ?_⟩
  have s8 := same_new (o := .lst []) hD
  refine lc_list (K := K) (a := q) (xs := itV (j :: abv Z m.path)) (fun i H' => Same H7 H' ∧ H' D = some (.lst (itV (((j :: abv Z m.path).take i).filter fun i => !decide (i ∈ abv Z n.path))))) ⟨s8, upd_same⟩ (fun i H' _ h => SqL.of (h.1 _ _ hq7)) ?_ ?_
  · rintro r y H' hy ⟨s9, hD9⟩
    obtain ⟨z, hz, rfl⟩ : ∃ z, (j :: abv Z m.path)[r]? = some z ∧ V.int ((z : Nat) : Int) = y := by
      unfold itV at hy
      rw [List.getElem?_map] at hy
      exact Option.map_eq_some_iff.mp hy
    refine ⟨rfl, ?_⟩
    refine ⟨_, rfl, _, rfl, pL, itV (abv Z n.path), rfl, .inl (SqL.of (s9 _ _ (s7 _ _ hL4))), rfl, flat_it _, _, rfl, ?_⟩
    have eI : (if true = true then !inV (.int (z : Int)) (itV (abv Z n.path)) else inV (.int (z : Int)) (itV (abv Z n.path))) = !decide (z ∈ abv Z n.path) := by
      rw [if_pos rfl, inV_it]
    rw [eI]
    have etk : (j :: abv Z m.path).take (r + 1) = (j :: abv Z m.path).take r ++ [z] := by rw [List.take_add_one, hz] <;> rfl
    refine iteB (fun h5 => ⟨_, rfl, _, hD9, sm63 ?_, fun b o h => ?_, ?_⟩) (fun h5 => ⟨s9, ?_⟩)
    · rw [itV_len]
      refine Nat.le_trans (List.length_filter_le _ _) (Nat.le_trans (List.length_take_le _ _) ?_)
      have : r < (j :: abv Z m.path).length := (List.getElem?_eq_some_iff.mp hz).1
      rw [List.length_cons] at this
      omega
    · rw [upd_ne (ne_of_none h hD)]
      exact s9 _ _ h
    · rw [upd_same, etk, List.filter_append, List.filter_cons_of_pos (by exact h5), List.filter_nil]
      unfold itV
      rw [List.map_append] <;> rfl
    · rw [hD9, etk, List.filter_append, List.filter_cons_of_neg (by rw [h5]; decide), List.filter_nil, List.append_nil]
  rintro H8 ⟨s78, hD8⟩
  rw [itV_len, List.take_length] at hD8
  have s08 : Same H H8 := s4.trans (s7.trans s78)
  clear s8 hD s7 hq7 s6 s5
  refine ⟨_, rfl, _, rfl, _, rfl, g.t, dx, _, rfl, s08 _ _ ht, znone (by decide +kernel), _, rfl, g, Z, e, i, n, rfl, rfl, R.same s08, W, hn, by omega, fun H9 s9 => ?_⟩
  have s09 := s08.trans s9
  refine ⟨g, Z, e, D, _, sizeAt Z n.path, rfl, rfl, rfl, R.same s09, W, s9 _ _ hD8, fun r hr' => par_dir W hm hmf (List.mem_filter.mp hr').1, fun H10 s10 => ?_⟩
  have s0a := s09.trans s10
  rw [← bursts_move (x := x) W hm hnz, ← hpx]
  refine ⟨_, rfl, iteB (fun h6 => ?_) (fun h6 => ?_)⟩
  · simp only [if_pos h6] at k
    exact refuse R k s0a
  simp only [if_neg (show ¬ bursts Z p n.path (sizeAt Z n.path) = true by rw [h6]; decide)] at k
  subst hpx
  refine ⟨_, rfl, g.t, dx, _, rfl, s0a _ _ ht, znone (by decide +kernel), _, rfl, _, rfl, _, rfl, _, rfl, q2, _, _, _, rfl, rfl, SqL.of (s0a _ _ hq2), last_at hlx, ?_⟩
  refine ⟨g, Z, e, i, j, m, n, x, rfl, rfl, rfl, rfl, R.same s0a, W, hn, one, hm, hmf, nop, hix, fun Hb Rb kb tb => ?_⟩
  refine ⟨_, rfl, sm64 (by show 2 ≤ 10000; decide), fun p9 hp9 => ?_⟩
  have sb := same_new (o := .tup [.str "moved", .int (i : Int)]) hp9
  exact k { g with P := g.P.set i (j, x) } _ _ rfl (Rb.same sb) (Post.kept (fun c o hc h => sb _ _ (kb c o hc (s0a _ _ h))) ((Same.tup s0a).trans (tb.trans (Same.tup sb)))) (isV.tup upd_same (isVs.cons isV.str (isVs.cons isV.int isVs.nil)))
def P_snapshot_file (K : PySem.W.Frag) (a b c d : V) (H : Hp) (Q : VK) : Prop := ∃ (g : Gh) (Z : Tr) (e : Nat) (pl q1 q2 : Addr) (o p : List Nm), a = .ref g.t ∧ d = .ref pl ∧ TreeAt K H g Z ∧ WF e Z ∧ e ≤ 900 ∧ H pl = some (.lst [.ref q1, .ref q2]) ∧ H q1 = some (.lst (nmV o)) ∧ H q2 = some (.lst (nmV p)) ∧ Good o ∧ Good p ∧
  Done K g H (snN Z o p) Q
abbrev N_snapshot_file : List Str := ["tree", "stamp", "deed", "paths", "old", "new", "number", "parent", "source"]
theorem sc_snapshot_file : FnScope N_snapshot_file ["tree", "stamp", "deed", "paths"] (defScope s_snapshot_file) := ⟨rfl, rfl, rfl, by decide +kernel, rfl, by decide +kernel, by decide +kernel⟩
theorem ok_snapshot_file (T : Tx w K mg) : Cal P w K mg base 15 (fAd K ("snapshot_file", none)) (Sp4 (P_snapshot_file K)) := by
  refine mk4 (k := 14) T.fd_snapshot_file sc_snapshot_file (fun _ _ _ _ _ _ _ _ _ _  => rfl) fun cdv A outer s H E va vb vc vd Q hr h => ?_
  have hu := hu_of hr
  obtain ⟨g, Z, e, pl, q1, q2, o, p, rfl, rfl, R, W, he, hpl, hq1, hq2, go, gp, k⟩ := h
  refine ⟨_, (pss_cons (ps_asg (pv 3) (pg_unl rfl (pgs_cons (pg_name (i := 4) sc_snapshot_file.nd rfl (Or.inl rfl)) (pgs_cons (pg_name (i := 5) sc_snapshot_file.nd rfl (Or.inl rfl)) pgs_nil))))
      (pss_cons (ps_set (i := 6) sc_snapshot_file.nd rfl (Or.inl rfl) (pcall (ok_file_at T) hr (by decide) rfl T.g_file_at (pa_cons (pv 0) (pa_cons (pv 4) pa_nil))))
      (pss_cons (ps_if (pt_val (pe_callB call_isi (by rfl) T.f_isinstance (by decide +kernel) (pa_cons (pv 6) (pa_cons (pe_bltn (v := .ty "str") (by rfl) T.f_str (by decide +kernel) rfl) pa_nil)))) (pss_one (ps_ret (pcall (ok_refused T) hr (by decide) rfl T.g_refused (pa_cons (pv 6) pa_nil)))) pss_nil)
      (pss_cons (ps_set (i := 7) sc_snapshot_file.nd rfl (Or.inl rfl) (pcall (ok_new_place T) hr (by decide) rfl T.g_new_place (pa_cons (pv 0) (pa_cons (pv 5) pa_nil))))
      (pss_cons (ps_if (pt_val (pe_callB call_isi (by rfl) T.f_isinstance (by decide +kernel) (pa_cons (pv 7) (pa_cons (pe_bltn (v := .ty "str") (by rfl) T.f_str (by decide +kernel) rfl) pa_nil)))) (pss_one (ps_ret (pcall (ok_refused T) hr (by decide) rfl T.g_refused (pa_cons (pv 7) pa_nil)))) pss_nil)
      (pss_cons (ps_if (pt_cmpR op_ge (pe_callB (call_lenO T.m_Tree___len__ (ok_Tree___len__ T) hr (by decide)) (by rfl) T.f_len (by decide +kernel) (pa_cons (pv 0) pa_nil)) (C8.pe_gc rfl T.k_NODES_MOST) (nomark _)) (pss_one (ps_ret (pcall (ok_refused T) hr (by decide) rfl T.g_refused (pa_cons pe_str pa_nil)))) pss_nil)
      (pss_cons (ps_set (i := 8) sc_snapshot_file.nd rfl (Or.inl rfl) (pmeth T.c_Tree T.m_Tree_node (ok_Tree_node T) hr (by decide) (pv 0) (pa_cons (pv 6) pa_nil)))
      (pss_cons (ps_if (pt_val (pcall (ok_exceeds_limit T) hr (by decide) rfl T.g_exceeds_limit (pa_cons (pv 0) (pa_cons (pe_op op_cat (pe_lst (pa_cons (pv 7) pa_nil)) (pmeth T.c_Tree T.m_Tree_above (ok_Tree_above T) hr (by decide) (pv 0) (pa_cons (pv 7) pa_nil))) (pa_cons (pprop T.c_File T.pr_File_length.1 (ok_File_length T) hr (by decide) (pv 8)) pa_nil))))) (pss_one (ps_ret (pcall (ok_refused T) hr (by decide) rfl T.g_refused (pa_cons pe_str pa_nil)))) pss_nil)
      (pss_one (ps_ret (pcall (ok_attach_new T) hr (by decide) rfl T.g_attach_new (pa_cons (pv 0) (pa_cons (pv 5) (pa_cons (pmeth0 T.c_File T.m_File_sealed_copy (ok_File_sealed_copy T) hr (by decide) (pv 8)) pa_nil)))))))))))))), ?_⟩
  dsimp only [cxOf, Cx.nox]
  obtain ⟨dx, ht⟩ := R.tr
  have hZ := W.len
  refine ⟨_, rfl, pl, _, rfl, SqL.of hpl, rfl, _, _, rfl, _, _, rfl, rfl, ?_⟩
  refine ⟨_, rfl, _, rfl, g, Z, e, q1, o, rfl, rfl, R, W, hq1, fun w hp => ?_, fun i hp => ?_⟩
  · have k' : Done K g H (Z, refu w) Q := by
      unfold snN at k
      rcases fileAt_no W hp with hl | ⟨j, n, hl, hn, hf, rfl⟩
      · rw [hl] at k
        exact k
      · rw [hl] at k
        simp only [hn, if_pos hf] at k
        exact k
    exact ⟨_, rfl, _, _, _, _, _, rfl, isi_ss ⟨_, rfl, iteT ⟨_, rfl, refuse R k' (Same.refl H)⟩⟩⟩
  refine ⟨_, rfl, _, _, _, _, _, rfl, isi_is ⟨_, rfl, iteF ?_⟩⟩
  obtain ⟨n, hl, hn, hf, hpn⟩ := fileAt_at W hp
  have hnz := List.mem_of_getElem? hn
  obtain ⟨na, nb, hna, hnb, N⟩ := R.at hn
  obtain ⟨fdx, vs, h1, h2, h3⟩ := N.fileE hf
  unfold snN at k
  rw [hl] at k
  simp only [hn, if_neg (show ¬ n.file = false by rw [hf]; decide)] at k
  refine ⟨_, rfl, _, rfl, g, Z, e, q2, p, rfl, rfl, R, W, hq2, gp, fun w hp2 H2 s2 => ?_, fun j hp2 H2 s2 => ?_⟩
  · rw [hp2] at k
    exact ⟨_, rfl, _, _, _, _, _, rfl, isi_ss ⟨_, rfl, iteT ⟨_, rfl, refuse R k s2⟩⟩⟩
  simp only [hp2] at k
  refine ⟨_, rfl, _, _, _, _, _, rfl, isi_is ⟨_, rfl, iteF ?_⟩⟩
  obtain ⟨m, x, hm, hmf, hpx, hlx, hix, hlk⟩ := place_free W hp2
  refine ⟨_, rfl, g.t, dx, _, rfl, s2 _ _ ht, g, Z, rfl, R.same s2, Z.length, rfl, sm64 (by omega), _, _, rfl, rfl, _, rfl, iteB (fun h4 => ?_) (fun h4 => ?_)⟩
  · have h5 : 64 ≤ Z.length := by
      have := of_decide_eq_true h4
      omega
    simp only [if_pos h5] at k
    exact refuse R k s2
  have h5 : ¬ 64 ≤ Z.length := by
    have := of_decide_eq_false h4
    omega
  simp only [if_neg h5] at k
  refine ⟨_, rfl, g.t, dx, _, rfl, s2 _ _ ht, znone (by decide +kernel), _, rfl, g, Z, i, na, rfl, rfl, R.same s2, hna, ?_⟩
  refine ⟨_, rfl, _, rfl, sm64 (by show 1 ≤ 10000; decide), fun a0 ha0 => ?_⟩
  have s5 := same_new (o := .lst [.int (j : Int)]) ha0
  refine ⟨_, rfl, g.t, dx, _, rfl, (s2.trans s5) _ _ ht, znone (by decide +kernel), _, rfl, g, Z, e, j, m, rfl, rfl, R.same (s2.trans s5), W, hm, fun pA hpA => ?_⟩
  have s6 := same_new (o := .lst (itV (abv Z m.path))) hpA
  have g6 := (W.good m (List.mem_of_getElem? hm)).2
  have al : (abv Z m.path).length ≤ 6 := by
    unfold abv
    rw [List.length_map, List.length_reverse, List.length_range]
    exact g6
  refine ⟨a0, pA, _, _, rfl, rfl, s6 _ _ upd_same, upd_same, sm64 (by rw [List.length_map, List.length_singleton]; omega), fun q hq => ?_⟩
  have eL : ([V.int (j : Int)] ++ (abv Z m.path).map fun (i : Nat) => V.int (i : Int)) = itV (j :: abv Z m.path) := rfl
  rw [eL]
  generalize eH7 : upd (upd (upd H2 a0 (.lst [.int (j : Int)])) pA (.lst ((abv Z m.path).map fun (i : Nat) => V.int (i : Int)))) q (.lst (itV (j :: abv Z m.path))) = H7
  have s7 : Same H H7 := by rw [← eH7]; exact s2.trans ((s5.trans s6).trans (same_new hq))
  have hq7 : H7 q = some (.lst (itV (j :: abv Z m.path))) := by rw [← eH7]; exact upd_same
  clear eH7
  refine ⟨_, rfl, na, fdx, _, rfl, s7 _ _ h1, na, fdx, _, _, _, rfl, s7 _ _ h1, ?_⟩
  refine ⟨g, Z, e, q, _, n.size, rfl, rfl, rfl, R.same s7, W, hq7, fun r hr' => par_dir W hm hmf hr', fun H8 s8 => ?_⟩
  have s08 := s7.trans s8
  rw [← bursts_par (x := x) W hm, ← hpx]
  refine ⟨_, rfl, iteB (fun h6 => ?_) (fun h6 => ?_)⟩
  · simp only [if_pos h6] at k
    exact refuse R k s08
  simp only [if_neg (show ¬ bursts Z p [] n.size = true by rw [h6]; decide)] at k
  have hpc := W.pcn n hnz
  refine ⟨_, rfl, _, rfl, _, rfl, na, fdx, _, rfl, s08 _ _ h1, znone (by decide +kernel), na, fdx, nb, n.shut, _, vs, n.pcs, rfl, s08 _ _ h1, s08 _ _ h2, h3.keep (Same.tup s08), W.ptx n hnz, by omega, fun y dy l H9 hy hl' nyl s9 hy9 hl9 => ?_⟩
  have s09 := s08.trans s9
  refine ⟨g, Z, e, j, q2, ⟨true, p, n.pcs, true, none⟩, y, l, rfl, rfl, rfl, R.same s09, W, s09 _ _ hq2, hp2, R.nfp (s08.free hy), R.nfp (s08.free hl'), nyl, ?_, k.new s09 (s08.free hy) (s08.free hl')⟩
  unfold NodeAt
  rw [if_pos rfl]
  exact ⟨dy, vs, hy9, hl9, h3.keep (Same.tup s09)⟩
end
end Ah
/-! refused, called in an except suite. -/
namespace Ah
open PySem PySem.Spec PyProof.Rows L2 He SX
theorem rm {j : Nat} {A : Around} {h : Option Value} (hr : Room j A) : L2H.RoomH j (A.mark h) := ⟨hr.dp, hr.un⟩
theorem takes0 {X : Cx} : L2N.Takes X (fun _ _ _ _ => False) := fun _ _ ⟨_, _, _, _, _, _, _, _, _, _, _, _, _, _, _, _, w⟩ => w.elim
structure CalH (P : Program) (w : World) (K : PySem.W.Frag) (mg : Str → Option Value) (base : Heap) (k : Nat) (f : Addr) (sp : Sp) : Prop where
  ex : ∃ (fd : FuncData) (ps : List Str), L2H.FnH P w K mg base CX0 k f fd ps sp ∧ PySem.W.keepIn K (.ref f) = true ∧ Binds K fd ps []
theorem pcallH {X : Cx} {k j : Nat} {f : Addr} {x : Str} {sp : Sp} {p pos : Pos} {e : Expr} {es : List Expr} {t : TA} (c : CalH X.prog X.w X.K X.mg X.base k f sp) (hr : L2H.RoomH j X.A) (hk : k ≤ j) (hc : L2H.HotC X) (hg : Gl X x) (hm : X.mg x = some (.ref f)) (ha : PA X (e :: es) t)
    (hdb : (x == ("__debug__" : Str)) = false := by decide) (he : starEach (e :: es) X.env = (false, eval e X.env) :: starEach es X.env := by rfl) (hpl : (backTo pos (starEach es X.env)).any (·.1) = false := by rfl) :
    PE X (.Call (.Name x p) (e :: es) [] pos) (tCl sp t) := by
  obtain ⟨fd, ps, F, kp, b⟩ := c.ex
  have h := L2H.pe_callH (E := fun _ => E0) (q := p) (pos := pos) F (hr.mono hk) hc hg hm kp b (fun σ => fun _ _ _ _ _ _ h => h.elim) ha hdb he hpl
  exact h
section
variable {P : Program} {w : World} {K : PySem.W.Frag} {mg : Str → Option Value} {base : Heap}
theorem ok_refusedH (T : Tx w K mg) : CalH P w K mg base 1 (fAd K ("refused", none)) (Sp1 (P_refused K)) := by
  obtain ⟨fd, F⟩ := T.fd_refused
  have F' := F
  obtain ⟨oc, od, dV, kV, doc, pm, an, cdv, ct, osl, rfl, lk, hcd, _, _⟩ := F.ex
  refine ⟨_, ["word"], L2H.fn_ofH (k := 0) lk hcd sc_refused (fun vs H Q E h => ?_) (fun A outer s H vs Q E p hot hr h => ?_), F'.kp, F'.bindsN fun kV doc pm an cdv ct us hl => match us, hl with | [u], _ => rfl⟩
  · match vs, h with | [_], _ => rfl
  · match vs, h with
    | [va], h =>
      obtain ⟨x, rfl, k⟩ := h
      refine ⟨_, (pss_one (ps_ret (pe_tup (pa_cons pe_str (pa_cons (pv 0) pa_nil))))), ?_⟩
      exact ⟨_, rfl, by show (2 : Nat) ≤ _; decide, fun p hp => k p hp⟩
/-- what the clause except BadPath: return refused('path') asks -/
theorem hot_of {X : Cx} {a : Addr} {oe : Obj} {cls : Value} {d : Option Addr} {pn : List (Addr × Obj)} (h : L2N.Zn cls d oe) (hf : ∃ vs, oe.data = .fields vs) : L2H.HotC (X.suite a ((a, oe) :: pn)) := by
  obtain ⟨vs, hv⟩ := hf
  exact ⟨(a, oe), ⟨rfl, vs, hv, h.2.2 vs hv⟩, List.mem_cons_self⟩
end
end Ah
/-! Forms. -/
namespace Ah
open PySem PySem.Spec PyProof.Rows L2 He SX
inductive Kd where
  | p | t | m
  deriving DecidableEq
def Kd.v : Kd → V
  | .p => .str "path"
  | .t => .str "text"
  | .m => .str "most"
def formOf (w : Nm) : Option (List Kd) :=
  if w = cMkdir ∨ w = cCreate ∨ w = cSeal then some [.p] else if w = cAppend then some [.p, .t] else if w = cMove ∨ w = cSnapshot then some [.p, .p] else if w = cLimit then some [.p, .m] else none
def itmV : It → V
  | .i n => .int n
  | .s x => .str (S x)
def kdOk : Kd → It → Bool
  | .m, .i n => (decide (-(10 ^ 18) ≤ n) && decide (n ≤ 10 ^ 18)) && !decide (n < 0)
  | .m, .s _ => false
  | _, .s x => isTx x
  | _, .i _ => false
def chk : List Kd → List It → Bool
  | k :: ks, i :: is => kdOk k i && chk ks is
  | _, _ => true
def rd : List Kd → List It → Prop
  | k :: ks, i :: is => (∀ x, i = .s x → k ≠ .m → x.length ≤ 2000) ∧ (kdOk k i = true → rd ks is)
  | _, _ => True
/-- does the deed word w with these items have a form -/
def hasF (w : Nm) (is : List It) : Bool := match formOf w with
  | none => false
  | some ks => decide (is.length = ks.length) && chk ks is
def Ent.good : Ent → Bool
  | .deed _ => true
  | .odd _ => false
theorem tk_iff {x : Nm} (h : tOk x) : isTx x = true := isTx_iff.mpr h
theorem i0_ok {m : Int} (h : iOk m) (h0 : 0 ≤ m) : kdOk .m (.i m) = true := by
  have h1 : decide (-(10 ^ 18) ≤ m) = true := decide_eq_true h.1
  have h2 : decide (m ≤ 10 ^ 18) = true := decide_eq_true h.2
  have h3 : decide (m < 0) = false := decide_eq_false (by omega)
  show ((decide (-(10 ^ 18) ≤ m) && decide (m ≤ 10 ^ 18)) && !decide (m < 0)) = true
  rw [h1, h2, h3] <;> rfl
theorem i0_no {m : Int} (h0 : m < 0) : kdOk .m (.i m) = false := by
  have h3 : decide (m < 0) = true := decide_eq_true h0
  show ((decide (-(10 ^ 18) ≤ m) && decide (m ≤ 10 ^ 18)) && !decide (m < 0)) = false
  rw [h3]
  simp
theorem tl2000 {x : Nm} (h : tOk x) : x.length ≤ 2000 := by
  have := h.1
  omega
/-- what every deed that is handed in is like -/
theorem ent_form (en : Ent) (h : en.Ok) : ∃ (w : Nm) (is : List It), en.its = .s w :: is ∧ hasF w is = en.good ∧ (formOf w = none → w = cRemove ∨ w = cMkdirU ∨ w = cX ∨ w = cContent) ∧ (∀ ks, formOf w = some ks → is.length = ks.length → rd ks is) := by
  have noneOf : ∀ {w : Nm} {ks : List Kd}, formOf w = some ks → formOf w = none → w = cRemove ∨ w = cMkdirU ∨ w = cX ∨ w = cContent := fun a b => by rw [a] at b; cases b
  cases en with
  | deed d =>
    cases d with
    | mkdir x =>
      have f : formOf cMkdir = some [.p] := by decide +kernel
      refine ⟨cMkdir, _, rfl, ?_, noneOf f, fun ks e _ => ?_⟩
      · unfold hasF; rw [f]; simp [chk, kdOk, tk_iff h, Ent.good]
      · rw [f] at e; cases e; exact ⟨fun x' e _ => by cases e; exact tl2000 h, fun _ => trivial⟩
    | create x =>
      have f : formOf cCreate = some [.p] := by decide +kernel
      refine ⟨cCreate, _, rfl, ?_, noneOf f, fun ks e _ => ?_⟩
      · unfold hasF; rw [f]; simp [chk, kdOk, tk_iff h, Ent.good]
      · rw [f] at e; cases e; exact ⟨fun x' e _ => by cases e; exact tl2000 h, fun _ => trivial⟩
    | shut x =>
      have f : formOf cSeal = some [.p] := by decide +kernel
      refine ⟨cSeal, _, rfl, ?_, noneOf f, fun ks e _ => ?_⟩
      · unfold hasF; rw [f]; simp [chk, kdOk, tk_iff h, Ent.good]
      · rw [f] at e; cases e; exact ⟨fun x' e _ => by cases e; exact tl2000 h, fun _ => trivial⟩
    | append x t =>
      have f : formOf cAppend = some [.p, .t] := by decide +kernel
      refine ⟨cAppend, _, rfl, ?_, noneOf f, fun ks e _ => ?_⟩
      · unfold hasF; rw [f]; simp [chk, kdOk, tk_iff h.1, tk_iff h.2, Ent.good]
      · rw [f] at e; cases e; exact ⟨fun x' e _ => by cases e; exact tl2000 h.1, fun _ => ⟨fun x' e _ => by cases e; exact tl2000 h.2, fun _ => trivial⟩⟩
    | move x t =>
      have f : formOf cMove = some [.p, .p] := by decide +kernel
      refine ⟨cMove, _, rfl, ?_, noneOf f, fun ks e _ => ?_⟩
      · unfold hasF; rw [f]; simp [chk, kdOk, tk_iff h.1, tk_iff h.2, Ent.good]
      · rw [f] at e; cases e; exact ⟨fun x' e _ => by cases e; exact tl2000 h.1, fun _ => ⟨fun x' e _ => by cases e; exact tl2000 h.2, fun _ => trivial⟩⟩
    | snapshot x t =>
      have f : formOf cSnapshot = some [.p, .p] := by decide +kernel
      refine ⟨cSnapshot, _, rfl, ?_, noneOf f, fun ks e _ => ?_⟩
      · unfold hasF; rw [f]; simp [chk, kdOk, tk_iff h.1, tk_iff h.2, Ent.good]
      · rw [f] at e; cases e; exact ⟨fun x' e _ => by cases e; exact tl2000 h.1, fun _ => ⟨fun x' e _ => by cases e; exact tl2000 h.2, fun _ => trivial⟩⟩
    | limit x m =>
      have f : formOf cLimit = some [.p, .m] := by decide +kernel
      refine ⟨cLimit, _, rfl, ?_, noneOf f, fun ks e _ => ?_⟩
      · unfold hasF
        rw [f]
        show (decide (2 = 2) && (isTx x && (kdOk .m (.i m) && true))) = true
        rw [tk_iff h.1, i0_ok h.2.1 h.2.2] <;> rfl
      · rw [f] at e; cases e; exact ⟨fun x' e _ => by cases e; exact tl2000 h.1, fun _ => ⟨fun x' e _ => (by cases e), fun _ => trivial⟩⟩
  | odd l =>
    have bad : ∀ {w : Nm} {is : List It} {ks : List Kd}, formOf w = some ks → is.length ≠ ks.length → hasF w is = false := fun f h => by
      unfold hasF
      rw [f]
      simp [h]
    cases h with
    | w1 x hx =>
      rcases hx with rfl | rfl
      · have f : formOf cMkdir = some [.p] := by decide +kernel
        exact ⟨_, _, rfl, bad f (by decide), noneOf f, fun ks e h => by rw [f] at e; cases e; cases h⟩
      · have f : formOf cX = none := by decide +kernel
        exact ⟨_, _, rfl, by unfold hasF; rw [f] <;> rfl, fun _ => .inr (.inr (.inl rfl)), fun ks e _ => by rw [f] at e; cases e⟩
    | create x =>
      have f : formOf cCreate = some [.p] := by decide +kernel
      exact ⟨_, _, rfl, bad f (by simp), noneOf f, fun ks e h => by rw [f] at e; cases e; cases h⟩
    | append2 x =>
      have f : formOf cAppend = some [.p, .t] := by decide +kernel
      exact ⟨_, _, rfl, bad f (by simp), noneOf f, fun ks e h => by rw [f] at e; cases e; cases h⟩
    | append3 x n hx =>
      have f : formOf cAppend = some [.p, .t] := by decide +kernel
      refine ⟨_, _, rfl, ?_, noneOf f, fun ks e _ => ?_⟩
      · unfold hasF; rw [f]; simp [chk, kdOk, Ent.good]
      · rw [f] at e; cases e; exact ⟨fun x' e _ => by cases e; exact tl2000 hx, fun _ => ⟨fun x' e _ => (by cases e), fun _ => trivial⟩⟩
    | appendI n x =>
      have f : formOf cAppend = some [.p, .t] := by decide +kernel
      refine ⟨_, _, rfl, ?_, noneOf f, fun ks e _ => ?_⟩
      · unfold hasF; rw [f]; simp [chk, kdOk, Ent.good]
      · rw [f] at e; cases e; exact ⟨fun x' e _ => (by cases e), fun z => (by cases z)⟩
    | limitS x y hx =>
      have f : formOf cLimit = some [.p, .m] := by decide +kernel
      refine ⟨_, _, rfl, ?_, noneOf f, fun ks e _ => ?_⟩
      · unfold hasF; rw [f]; simp [chk, kdOk, Ent.good]
      · rw [f] at e; cases e; exact ⟨fun x' e _ => by cases e; exact tl2000 hx, fun _ => ⟨fun x' _ e => absurd rfl e, fun _ => trivial⟩⟩
    | limitN x n hx h0 hn =>
      have f : formOf cLimit = some [.p, .m] := by decide +kernel
      refine ⟨_, _, rfl, ?_, noneOf f, fun ks e _ => ?_⟩
      · unfold hasF
        rw [f]
        show (decide (2 = 2) && (isTx x && (kdOk .m (.i n) && true))) = false
        rw [i0_no h0]
        simp
      · rw [f] at e; cases e; exact ⟨fun x' e _ => by cases e; exact tl2000 hx, fun _ => ⟨fun x' e _ => (by cases e), fun _ => trivial⟩⟩
    | limit2 x =>
      have f : formOf cLimit = some [.p, .m] := by decide +kernel
      exact ⟨_, _, rfl, bad f (by simp), noneOf f, fun ks e h => by rw [f] at e; cases e; cases h⟩
    | move2 x =>
      have f : formOf cMove = some [.p, .p] := by decide +kernel
      exact ⟨_, _, rfl, bad f (by simp), noneOf f, fun ks e h => by rw [f] at e; cases e; cases h⟩
    | moveI x n hx =>
      have f : formOf cMove = some [.p, .p] := by decide +kernel
      refine ⟨_, _, rfl, ?_, noneOf f, fun ks e _ => ?_⟩
      · unfold hasF; rw [f]; simp [chk, kdOk, Ent.good]
      · rw [f] at e; cases e; exact ⟨fun x' e _ => by cases e; exact tl2000 hx, fun _ => ⟨fun x' e _ => (by cases e), fun _ => trivial⟩⟩
    | seal3 x y =>
      have f : formOf cSeal = some [.p] := by decide +kernel
      exact ⟨_, _, rfl, bad f (by simp), noneOf f, fun ks e h => by rw [f] at e; cases e; cases h⟩
    | miss2 w x hw =>
      rcases hw with rfl | rfl
      · have f : formOf cRemove = none := by decide +kernel
        exact ⟨_, _, rfl, by unfold hasF; rw [f] <;> rfl, fun _ => .inl rfl, fun ks e _ => by rw [f] at e; cases e⟩
      · have f : formOf cMkdirU = none := by decide +kernel
        exact ⟨_, _, rfl, by unfold hasF; rw [f] <;> rfl, fun _ => .inr (.inl rfl), fun ks e _ => by rw [f] at e; cases e⟩
    | snap4 x =>
      have f : formOf cSnapshot = some [.p, .p] := by decide +kernel
      exact ⟨_, _, rfl, bad f (by simp), noneOf f, fun ks e h => by rw [f] at e; cases e; cases h⟩
    | contentI n =>
      have f : formOf cContent = none := by decide +kernel
      exact ⟨_, _, rfl, by unfold hasF; rw [f] <;> rfl, fun _ => .inr (.inr (.inr rfl)), fun ks e _ => by rw [f] at e; cases e⟩
    | sealI n =>
      have f : formOf cSeal = some [.p] := by decide +kernel
      refine ⟨_, _, rfl, ?_, noneOf f, fun ks e _ => ?_⟩
      · unfold hasF; rw [f]; simp [chk, kdOk, Ent.good]
      · rw [f] at e; cases e; exact ⟨fun x' e _ => (by cases e), fun z => (by cases z)⟩
    | limitI n m =>
      have f : formOf cLimit = some [.p, .m] := by decide +kernel
      refine ⟨_, _, rfl, ?_, noneOf f, fun ks e _ => ?_⟩
      · unfold hasF; rw [f]; simp [chk, kdOk, Ent.good]
      · rw [f] at e; cases e; exact ⟨fun x' e _ => (by cases e), fun z => (by cases z)⟩
/-! ### the tables -/
section
variable {w : World} {K : PySem.W.Frag} {mg : Str → Option Value}
theorem fm_ok {x : Str} {vs : List Dv} (h : fmB K x vs = true) : PySem.W.nsIn K (ga K "FORMS") x = some (some (.ref (fmAt K x))) ∧ ∀ H, SqT K H (fmAt K x) (vs.map (Dv.v K)) := by
  unfold fmB at h
  obtain ⟨h1, h2⟩ := ba h
  refine ⟨eqO_ok h1, fun H => ?_⟩
  cases q : K.lookup (fmAt K x) with
  | none =>
    rw [q] at h2
    cases h2
  | some o =>
    obtain ⟨c, d, dt, sl⟩ := o
    rw [q] at h2
    cases c with
    | type c =>
      cases dt with
      | seq its n =>
        obtain ⟨h3, h4⟩ := ba h2
        obtain ⟨h4, h5⟩ := ba h4
        exact .inr ⟨_, its, n, q, congrArg Value.type (of_decide_eq_true h3), rfl, of_decide_eq_true h4, relAll_ok h5⟩
      | _ => cases h2
    | _ => cases h2
theorem lw_mkdir : ("mkdir" : Str) = S cMkdir := by decide +kernel
theorem lw_create : ("create" : Str) = S cCreate := by decide +kernel
theorem lw_append : ("append" : Str) = S cAppend := by decide +kernel
theorem lw_seal : ("seal" : Str) = S cSeal := by decide +kernel
theorem lw_move : ("move" : Str) = S cMove := by decide +kernel
theorem lw_snapshot : ("snapshot" : Str) = S cSnapshot := by decide +kernel
theorem lw_limit : ("limit" : Str) = S cLimit := by decide +kernel
theorem lw_remove : ("remove" : Str) = S cRemove := by decide +kernel
theorem lw_Mkdir : ("Mkdir" : Str) = S cMkdirU := by decide +kernel
theorem lw_x : ("x" : Str) = S cX := by decide +kernel
theorem lw_content : ("content" : Str) = S cContent := by decide +kernel
theorem form_at (T : Tx w K mg) {x : Nm} {ks : List Kd} (h : formOf x = some ks) : ∃ a, PySem.W.nsIn K (ga K "FORMS") (S x) = some (some (.ref a)) ∧ ∀ H, SqT K H a (ks.map Kd.v) := by
  unfold formOf at h
  split at h
  · rename_i h1
    cases h
    rcases h1 with rfl | rfl | rfl
    · rw [← lw_mkdir]; exact ⟨_, fm_ok T.fm_mkdir⟩
    · rw [← lw_create]; exact ⟨_, fm_ok T.fm_create⟩
    · rw [← lw_seal]; exact ⟨_, fm_ok T.fm_seal⟩
  · split at h
    · rename_i h1
      cases h
      subst h1
      rw [← lw_append]; exact ⟨_, fm_ok T.fm_append⟩
    · split at h
      · rename_i h1
        cases h
        rcases h1 with rfl | rfl
        · rw [← lw_move]; exact ⟨_, fm_ok T.fm_move⟩
        · rw [← lw_snapshot]; exact ⟨_, fm_ok T.fm_snapshot⟩
      · split at h
        · rename_i h1
          cases h
          subst h1
          rw [← lw_limit]; exact ⟨_, fm_ok T.fm_limit⟩
        · cases h
theorem form_no (T : Tx w K mg) {x : Nm} (h : x = cRemove ∨ x = cMkdirU ∨ x = cX ∨ x = cContent) : PySem.W.nsIn K (ga K "FORMS") (S x) = some none := by
  rcases h with rfl | rfl | rfl | rfl
  · rw [← lw_remove]; exact T.mi_remove
  · rw [← lw_Mkdir]; exact T.mi_Mkdir
  · rw [← lw_x]; exact T.mi_x
  · rw [← lw_content]; exact T.mi_content
end
end Ah
/-! has_form, apply_deed. -/
namespace Ah
open PySem PySem.Spec PyProof.Rows L2 He SX
theorem nb1 {b : Bool} (h : (!b) = true) : b = false := by
  cases b with
  | false => rfl
  | true => cases h
theorem nb2 {b : Bool} (h : (!b) = false) : b = true := by
  cases b with
  | true => rfl
  | false => cases h
theorem zipped {α β : Type} {xs : List α} {ys : List β} {i : Nat} {x : α} {y : β} (hx : xs[i]? = some x) (hy : ys[i]? = some y) : xs.drop i = x :: xs.drop (i + 1) ∧ ys.drop i = y :: ys.drop (i + 1) := by
  obtain ⟨h1, e1⟩ := List.getElem?_eq_some_iff.mp hx
  obtain ⟨h2, e2⟩ := List.getElem?_eq_some_iff.mp hy
  rw [List.drop_eq_getElem_cons h1, e1, List.drop_eq_getElem_cons h2, e2]
  exact ⟨rfl, rfl⟩
theorem map_at {α β : Type} {f : α → β} {l : List α} {i : Nat} {y : β} (h : (l.map f)[i]? = some y) : ∃ x, l[i]? = some x ∧ f x = y := by
  rw [List.getElem?_map] at h
  exact Option.map_eq_some_iff.mp h
theorem cut_tail (v : V) (vs : List V) : cutV (v :: vs) (some 1) none = vs := by
  unfold cutV
  rw [HT.sIx_none]
  have : HT.sIx (v :: vs).length 0 (some 1) = 1 := by
    show HT.sIx (v :: vs).length 0 (some ((1 : Nat) : Int)) = 1
    rw [HT.sIx_nat, List.length_cons]
    omega
  rw [this, List.drop_one, List.tail_cons, List.length_cons, Nat.add_sub_cancel, List.take_length]
theorem not_whole (v : V) (vs : List V) : ¬ (HT.sIx (v :: vs).length 0 (some 1) = 0 ∧ HT.sIx (v :: vs).length (v :: vs).length none = (v :: vs).length) := by
  rintro ⟨h, _⟩
  have : HT.sIx (v :: vs).length 0 (some ((1 : Nat) : Int)) = 1 := by
    rw [HT.sIx_nat, List.length_cons]
    omega
  rw [show HT.sIx (v :: vs).length 0 (some 1) = 1 from this] at h
  cases h
section
variable {P : Program} {w : World} {K : PySem.W.Frag} {mg : Str → Option Value} {base : Heap}
def P_has_form (K : PySem.W.Frag) (a : V) (H : Hp) (Q : VK) : Prop := ∃ (da : Addr) (x : Nm) (is : List It), a = .ref da ∧ H da = some (.tup (V.str (S x) :: is.map itmV)) ∧ (formOf x = none → x = cRemove ∨ x = cMkdirU ∨ x = cX ∨ x = cContent) ∧ (∀ ks, formOf x = some ks → is.length = ks.length → rd ks is) ∧
  ∀ H', Same H H' → Q (.bl (hasF x is)) H'
abbrev N_has_form : List Str := ["deed", "form", "kind", "item"]
theorem sc_has_form : FnScope N_has_form ["deed"] (defScope s_has_form) := ⟨rfl, rfl, rfl, by decide +kernel, rfl, by decide +kernel, by decide +kernel⟩
theorem ok_has_form (T : Tx w K mg) : Cal P w K mg base 3 (fAd K ("has_form", none)) (Sp1 (P_has_form K)) := by
  refine mk1 (k := 2) T.fd_has_form sc_has_form (fun _ _ _ _ _ _ _  => rfl) fun cdv A outer s H E va Q hr h => ?_
  have hu := hu_of hr
  obtain ⟨da, x, is, rfl, hda, hno, hrd, k⟩ := h
  obtain ⟨es, en, DK⟩ := T.t.tab 0
  refine ⟨_, (pss_cons (ps_if (pt_cmpR (op_notIn_kd DK) (pe_ix ix_tup (pv 0) pe_int (fun _ _ => rfl)) (pe_glob (v := .ref _) rfl T.g_FORMS rfl) (by rfl)) (pss_one (ps_ret pe_bl)) pss_nil)
      (pss_cons (ps_set (i := 1) sc_has_form.nd rfl (Or.inl rfl) (pe_ix ix_kdict (pe_glob (v := .ref _) rfl T.g_FORMS rfl) (pe_ix ix_tup (pv 0) pe_int (fun _ _ => rfl)) (fun _ _ => rfl)))
      (pss_cons (ps_if (pt_cmpR op_ne (pe_callB call_len_seq (by rfl) T.f_len (by decide +kernel) (pa_cons (pv 0) pa_nil)) (pe_op op_add (pe_callB call_len_seq (by rfl) T.f_len (by decide +kernel) (pa_cons (pv 1) pa_nil)) pe_int) (nomark _)) (pss_one (ps_ret pe_bl)) pss_nil)
      (pss_cons (ps_for PassesOwn.never rfl (RZ.pi_zipA (by rfl) T.f_zip (pa_cons (pv 1) (pa_cons (pe_slice sl_tup (pv 0) (po_some pe_int) po_none) pa_nil))) (pg_tup rfl (pgs_cons (pg_name (i := 2) sc_has_form.nd rfl (Or.inl rfl)) (pgs_cons (pg_name (i := 3) sc_has_form.nd rfl (Or.inl rfl)) pgs_nil)))
      (pss_one (ps_if (pt_cmpR op_eq (pv 2) pe_str (nomark _)) (pss_one (ps_if (PW.pt (pw_or (pt_not (pt_val (pcall (ok_is_integer T) hr (by decide) rfl T.g_is_integer (pa_cons (pv 3) pa_nil)))) (pw_or1 (pt_cmpR op_lt (pv 3) pe_int (nomark _))))) (pss_one (ps_ret pe_bl)) pss_nil)) (pss_one (ps_if (pt_not (pt_val (pcall (ok_is_text T) hr (by decide) rfl T.g_is_text (pa_cons (pv 3) pa_nil)))) (pss_one (ps_ret pe_bl)) pss_nil)))))
      (pss_one (ps_ret pe_bl)))))), ?_⟩
  dsimp only [cxOf, Cx.nox]
  unfold hasF at k
  cases hfo : formOf x with
  | none =>
    rw [hfo] at k
    exact ⟨_, rfl, da, _, _, _, rfl, rfl, SqT.of hda, atI_nat (j := 0) rfl, _, none, rfl, rfl, form_no T (hno hfo), _, rfl, iteT (k H (Same.refl H))⟩
  | some ks =>
    rw [hfo] at k
    replace k : ∀ H', Same H H' → Q (.bl (decide (is.length = ks.length) && chk ks is)) H' := k
    obtain ⟨fa, hfa, hfs⟩ := form_at T hfo
    refine ⟨_, rfl, da, _, _, _, rfl, rfl, SqT.of hda, atI_nat (j := 0) rfl, _, _, rfl, rfl, hfa, _, rfl, iteF ?_⟩
    refine ⟨_, rfl, da, _, _, _, rfl, rfl, SqT.of hda, atI_nat (j := 0) rfl, _, _, V.ref fa, rfl, rfl, ⟨es, en, _, DK.at_, DK.lit, hfa, rfl⟩, ?_⟩
    refine ⟨_, rfl, da, _, rfl, .inr (SqT.of hda), _, rfl, fa, _, rfl, .inr (hfs H), _, _, rfl, rfl, rfl, _, rfl, ?_⟩
    have elen : (!decide (V.int (((V.str (S x) :: is.map itmV).length : Nat) : Int) = V.int ((((ks.map Kd.v).length : Nat) : Int) + 1))) = !decide (is.length = ks.length) := by
      rw [List.length_cons, List.length_map, List.length_map]
      congr 1
      rw [Bool.eq_iff_iff, decide_eq_true_eq, decide_eq_true_eq, V.int.injEq]
      omega
    rw [elen]
    refine iteB (fun h1 => ?_) (fun h1 => ?_)
    · have h2 : decide (is.length = ks.length) = false := by simpa using h1
      have := k H (Same.refl H)
      simp only [h2, Bool.false_and] at this
      exact this
    have hl : is.length = ks.length := by simpa using h1
    have hrd := hrd ks hfo hl
    rw [decide_eq_true hl] at k
    simp only [Bool.true_and] at k
    refine ⟨_, rfl, _, rfl, _, rfl, da, _, rfl, SqT.of hda, not_whole _ _, fun p0 hp0 => ?_⟩
    rw [cut_tail]
    have s0 := same_new (o := .tup (is.map itmV)) hp0
    refine ⟨fa, p0, _, _, rfl, .inr ⟨hfs _, SqT.of upd_same, RZ.for_zipT (K := K) (a := fa) (b := p0) (xs := ks.map Kd.v) (ys := is.map itmV) (by rw [List.length_map, List.length_map, hl]) (fun i σ H2 => ∃ o2 o3 : Option V, σ = [some (.ref da), some (.ref fa), o2, o3] ∧ Same H H2 ∧ H2 p0 = some (.tup (is.map itmV)) ∧ rd (ks.drop i) (is.drop i) ∧ chk ks is = chk (ks.drop i) (is.drop i))
      ⟨none, none, rfl, s0, upd_same, by rw [List.drop_zero, List.drop_zero]; exact hrd, by rw [List.drop_zero, List.drop_zero]⟩ (fun i σ H2 ⟨_, _, _, _, hp2, _⟩ => ⟨hfs H2, SqT.of hp2⟩) ?_ ?_⟩⟩
    · rintro i xk yk t σ H2 hxk hyk ⟨o2, o3, rfl, s2, hp2, hr2, hc2⟩ ht
      obtain ⟨kk, hkk, rfl⟩ := map_at hxk
      obtain ⟨ii, hii, rfl⟩ := map_at hyk
      obtain ⟨d1, d2⟩ := zipped hkk hii
      rw [d1, d2] at hr2 hc2
      have hc2 : chk ks is = (kdOk kk ii && chk (ks.drop (i + 1)) (is.drop (i + 1))) := hc2
      obtain ⟨r1, r2⟩ := hr2
      have s3 := s2.trans (same_new (o := .tup [kk.v, itmV ii]) ht)
      have nt : p0 ≠ t := ne_of_none hp2 ht
      have no : kdOk kk ii = false → Q (.bl false) (upd H2 t (.tup [kk.v, itmV ii])) := fun e => by
        have := k _ s3
        rw [hc2, e] at this
        exact this
      refine ⟨t, _, rfl, SqT.of upd_same, rfl, _, _, rfl, _, _, rfl, rfl, ?_⟩
      have fin : kdOk kk ii = true → ∃ o2 o3 : Option V, [some (V.ref da), some (.ref fa), some kk.v, some (itmV ii)] = [some (.ref da), some (.ref fa), o2, o3] ∧ Same H (upd H2 t (.tup [kk.v, itmV ii])) ∧ (upd H2 t (.tup [kk.v, itmV ii])) p0 = some (.tup (is.map itmV)) ∧ rd (ks.drop (i + 1)) (is.drop (i + 1)) ∧ chk ks is = chk (ks.drop (i + 1)) (is.drop (i + 1)) :=
        fun e => ⟨_, _, rfl, s3, by rw [upd_ne nt]; exact hp2, r2 e, by rw [hc2, e] <;> rfl⟩
      cases kk with
      | m =>
        refine ⟨_, rfl, rfl, _, rfl, iteT ?_⟩
        cases ii with
        | i n =>
          refine ⟨_, rfl, .inl ⟨n, rfl, _, rfl, iteB (fun h2 => ?_) (fun h2 => ?_)⟩⟩
          · refine iteT (no ?_)
            have h2 : (decide (-(10 ^ 18) ≤ n) && decide (n ≤ 10 ^ 18)) = false := nb1 h2
            show ((decide (-(10 ^ 18) ≤ n) && decide (n ≤ 10 ^ 18)) && !decide (n < 0)) = false
            rw [h2] <;> rfl
          have h2 : (decide (-(10 ^ 18) ≤ n) && decide (n ≤ 10 ^ 18)) = true := nb2 h2
          refine ⟨_, rfl, _, _, rfl, rfl, _, rfl, iteB (fun h3 => no ?_) (fun h3 => fin ?_)⟩
          · show ((decide (-(10 ^ 18) ≤ n) && decide (n ≤ 10 ^ 18)) && !decide (n < 0)) = false
            rw [h3, h2] <;> rfl
          · show ((decide (-(10 ^ 18) ≤ n) && decide (n ≤ 10 ^ 18)) && !decide (n < 0)) = true
            rw [h3, h2] <;> rfl
        | s y => exact ⟨_, rfl, .inr ⟨S y, rfl, _, rfl, iteT (iteT (no rfl))⟩⟩
      | p =>
        refine ⟨_, rfl, rfl, _, rfl, iteF ?_⟩
        cases ii with
        | i n => exact ⟨_, rfl, .inr ⟨n, rfl, _, rfl, iteT (no rfl)⟩⟩
        | s y => exact ⟨_, rfl, .inl ⟨y, rfl, r1 y rfl (by decide), _, rfl, iteB (fun h2 => no (nb1 h2)) (fun h2 => fin (nb2 h2))⟩⟩
      | t =>
        refine ⟨_, rfl, rfl, _, rfl, iteF ?_⟩
        cases ii with
        | i n => exact ⟨_, rfl, .inr ⟨n, rfl, _, rfl, iteT (no rfl)⟩⟩
        | s y => exact ⟨_, rfl, .inl ⟨y, rfl, r1 y rfl (by decide), _, rfl, iteB (fun h2 => no (nb1 h2)) (fun h2 => fin (nb2 h2))⟩⟩
    · rintro σ H2 ⟨o2, o3, rfl, s2, hp2, hr2, hc2⟩
      rw [List.length_map, List.drop_length] at hc2
      have := k H2 s2
      rw [hc2] at this
      exact this
end
end Ah
/-! apply_deed. -/
namespace Ah
open PySem PySem.Spec PyProof.Rows L2 He SX
def Deed.w : Deed → Nm
  | .mkdir _ => cMkdir
  | .create _ => cCreate
  | .append _ _ => cAppend
  | .shut _ => cSeal
  | .move _ _ => cMove
  | .snapshot _ _ => cSnapshot
  | .limit _ _ => cLimit
def Deed.is : Deed → List It
  | .mkdir x => [.s x]
  | .create x => [.s x]
  | .append x t => [.s x, .s t]
  | .shut x => [.s x]
  | .move x y => [.s x, .s y]
  | .snapshot x y => [.s x, .s y]
  | .limit x m => [.s x, .i m]
def Deed.ks : Deed → List Kd
  | .mkdir _ => [.p]
  | .create _ => [.p]
  | .append _ _ => [.p, .t]
  | .shut _ => [.p]
  | .move _ _ => [.p, .p]
  | .snapshot _ _ => [.p, .p]
  | .limit _ _ => [.p, .m]
theorem Deed.its_eq (d : Deed) : d.its = .s d.w :: d.is := by cases d <;> rfl
theorem Deed.form (d : Deed) : formOf d.w = some d.ks := by
  cases d with
  | mkdir _ => exact (by decide +kernel : formOf cMkdir = some [.p])
  | create _ => exact (by decide +kernel : formOf cCreate = some [.p])
  | append _ _ => exact (by decide +kernel : formOf cAppend = some [.p, .t])
  | shut _ => exact (by decide +kernel : formOf cSeal = some [.p])
  | move _ _ => exact (by decide +kernel : formOf cMove = some [.p, .p])
  | snapshot _ _ => exact (by decide +kernel : formOf cSnapshot = some [.p, .p])
  | limit _ _ => exact (by decide +kernel : formOf cLimit = some [.p, .m])
/-- the paths among the items -/
def spl2 : List Kd → List It → Option (List (List Nm))
  | k :: ks, i :: is => match k, i with
    | .p, .s x => match split x with
      | some p => (spl2 ks is).map fun r => p :: r
      | none => none
    | _, _ => spl2 ks is
  | _, _ => some []
theorem doD_path (d : Deed) (Z : Tr) (st : St3) (h : spl2 d.ks d.is = none) : doD Z st d = (Z, refu "path") := by
  cases d with
  | mkdir x =>
    cases e : split x with
    | none => simp [doD, e]
    | some p => simp [Deed.ks, Deed.is, spl2, e] at h
  | create x =>
    cases e : split x with
    | none => simp [doD, e]
    | some p => simp [Deed.ks, Deed.is, spl2, e] at h
  | append x t =>
    cases e : split x with
    | none => simp [doD, e]
    | some p => simp [Deed.ks, Deed.is, spl2, e] at h
  | shut x =>
    cases e : split x with
    | none => simp [doD, e]
    | some p => simp [Deed.ks, Deed.is, spl2, e] at h
  | limit x m =>
    cases e : split x with
    | none => simp [doD, e]
    | some p => simp [Deed.ks, Deed.is, spl2, e] at h
  | move x y =>
    cases e : split x with
    | none => simp [doD, e]
    | some p =>
      cases e2 : split y with
      | none => simp [doD, e, e2]
      | some p => simp [Deed.ks, Deed.is, spl2, e, e2] at h
  | snapshot x y =>
    cases e : split x with
    | none => simp [doD, e]
    | some p =>
      cases e2 : split y with
      | none => simp [doD, e, e2]
      | some p => simp [Deed.ks, Deed.is, spl2, e, e2] at h
def Nms (H : Hp) (pl : Addr) : List Addr → List (List Nm) → Prop
  | [], [] => True
  | q :: qs, p :: ps => H q = some (.lst (nmV p)) ∧ q ≠ pl ∧ Nms H pl qs ps
  | _, _ => False
theorem Nms.keep {H H' : Hp} {pl : Addr} (k : ∀ c o, c ≠ pl → H c = some o → H' c = some o) : ∀ {qs : List Addr} {ps : List (List Nm)}, Nms H pl qs ps → Nms H' pl qs ps
  | [], [], _ => trivial
  | q :: qs, p :: ps, h => ⟨k _ _ h.2.1 h.1, h.2.1, Nms.keep k h.2.2⟩
  | [], _ :: _, h => h.elim
  | _ :: _, [], h => h.elim
theorem Nms.snoc {H : Hp} {pl q : Addr} {p : List Nm} (hq : H q = some (.lst (nmV p))) (ne : q ≠ pl) : ∀ {qs : List Addr} {ps : List (List Nm)}, Nms H pl qs ps → Nms H pl (qs ++ [q]) (ps ++ [p])
  | [], [], _ => ⟨hq, ne, trivial⟩
  | _ :: _, _ :: _, h => ⟨h.1, h.2.1, Nms.snoc hq ne h.2.2⟩
  | [], _ :: _, h => h.elim
  | _ :: _, [], h => h.elim
theorem Nms.len {H : Hp} {pl : Addr} : ∀ {qs : List Addr} {ps : List (List Nm)}, Nms H pl qs ps → qs.length = ps.length
  | [], [], _ => rfl
  | _ :: _, _ :: _, h => congrArg (· + 1) (Nms.len h.2.2)
  | [], _ :: _, h => h.elim
  | _ :: _, [], h => h.elim
theorem Nms.one {H : Hp} {pl : Addr} {qs : List Addr} {p : List Nm} (h : Nms H pl qs [p]) : ∃ q, qs = [q] ∧ H q = some (.lst (nmV p)) := by
  match qs, h with
  | [], h => exact h.elim
  | [q], h => exact ⟨q, rfl, h.1⟩
  | _ :: _ :: _, h => exact h.2.2.elim
theorem Nms.two {H : Hp} {pl : Addr} {qs : List Addr} {p p' : List Nm} (h : Nms H pl qs [p, p']) : ∃ q q', qs = [q, q'] ∧ H q = some (.lst (nmV p)) ∧ H q' = some (.lst (nmV p')) := by
  match qs, h with
  | [], h => exact h.elim
  | [_], h => exact h.2.2.elim
  | [q, q'], h => exact ⟨q, q', rfl, h.1, h.2.2.1⟩
  | _ :: _ :: _ :: _, h => exact h.2.2.2.2.elim
theorem Done.same {K : PySem.W.Frag} {g : Gh} {H H1 : Hp} {out : Tr × D} {Q : VK} (D : Done K g H out Q) (s : Same H H1) : Done K g H1 out Q := fun g' H' v e R p hv => D g' H' v e R ((Post.same s).trans p) hv
section
variable {P : Program} {w : World} {K : PySem.W.Frag} {mg : Str → Option Value} {base : Heap}
def actA (K : PySem.W.Frag) : Deed → Addr
  | .mkdir _ => fAd K ("make_directory", none)
  | .create _ => fAd K ("create_file", none)
  | .append _ _ => fAd K ("append_text", none)
  | .shut _ => fAd K ("seal_file", none)
  | .move _ _ => fAd K ("move_entry", none)
  | .snapshot _ _ => fAd K ("snapshot_file", none)
  | .limit _ _ => fAd K ("limit_directory", none)
def actS (K : PySem.W.Frag) : Deed → Sp
  | .mkdir _ => Sp4 (P_make_directory K)
  | .create _ => Sp4 (P_create_file K)
  | .append _ _ => Sp4 (P_append_text K)
  | .shut _ => Sp4 (P_seal_file K)
  | .move _ _ => Sp4 (P_move_entry K)
  | .snapshot _ _ => Sp4 (P_snapshot_file K)
  | .limit _ _ => Sp4 (P_limit_directory K)
theorem Cal.held {k j : Nat} {f : Addr} {sp : Sp} (c : Cal P w K mg base k f sp) (h : k ≤ j) : Held P w K mg base j f sp := by
  obtain ⟨fd, ps, F, a, b⟩ := (c.mono h).ex
  exact ⟨fd, ps, F, a, b⟩
theorem act_held (T : Tx w K mg) (d : Deed) : Held P w K mg base 19 (actA K d) (actS K d) := by
  cases d with
  | mkdir _ => exact (ok_make_directory T).held (by decide)
  | create _ => exact (ok_create_file T).held (by decide)
  | append _ _ => exact (ok_append_text T).held (by decide)
  | shut _ => exact (ok_seal_file T).held (by decide)
  | move _ _ => exact (ok_move_entry T).held (by decide)
  | snapshot _ _ => exact (ok_snapshot_file T).held (by decide)
  | limit _ _ => exact (ok_limit_directory T).held (by decide)
theorem act_at (T : Tx w K mg) (d : Deed) : PySem.W.nsIn K (ga K "ACTIONS") (S d.w) = some (some (.ref (actA K d))) := by
  cases d with
  | mkdir _ => show PySem.W.nsIn K (ga K "ACTIONS") (S cMkdir) = _; rw [← lw_mkdir]; exact T.ac_mkdir
  | create _ => show PySem.W.nsIn K (ga K "ACTIONS") (S cCreate) = _; rw [← lw_create]; exact T.ac_create
  | append _ _ => show PySem.W.nsIn K (ga K "ACTIONS") (S cAppend) = _; rw [← lw_append]; exact T.ac_append
  | shut _ => show PySem.W.nsIn K (ga K "ACTIONS") (S cSeal) = _; rw [← lw_seal]; exact T.ac_seal
  | move _ _ => show PySem.W.nsIn K (ga K "ACTIONS") (S cMove) = _; rw [← lw_move]; exact T.ac_move
  | snapshot _ _ => show PySem.W.nsIn K (ga K "ACTIONS") (S cSnapshot) = _; rw [← lw_snapshot]; exact T.ac_snapshot
  | limit _ _ => show PySem.W.nsIn K (ga K "ACTIONS") (S cLimit) = _; rw [← lw_limit]; exact T.ac_limit
theorem act_call {g : Gh} {Z : Tr} {H : Hp} {e : Nat} {sa da pl : Addr} {st : St3} {qs : List Addr} {ps : List (List Nm)} {Q : VK} (R : TreeAt K H g Z) (W : WF e Z) (he : e ≤ 900) (d : Deed) (hd : d.Ok) (hsa : H sa = some (.tup (stV st))) (hda : H da = some (.tup (d.its.map itmV))) (hpl : H pl = some (.lst (qs.map V.ref)))
    (hN : Nms H pl qs ps) (hs : spl2 d.ks d.is = some ps) (D : Done K g H (doD Z st d) Q) : actS K d [.ref g.t, .ref sa, .ref da, .ref pl] H Q E0 := by
  cases d with
  | mkdir x =>
    cases e1 : split x with
    | none => simp [Deed.ks, Deed.is, spl2, e1] at hs
    | some p =>
      have : ps = [p] := by simpa [Deed.ks, Deed.is, spl2, e1] using hs.symm
      subst this
      obtain ⟨q, rfl, hq⟩ := hN.one
      simp only [doD, e1] at D
      exact ⟨g, Z, e, pl, q, p, rfl, rfl, R, W, hpl, hq, (split_good e1).1, D⟩
  | create x =>
    cases e1 : split x with
    | none => simp [Deed.ks, Deed.is, spl2, e1] at hs
    | some p =>
      have : ps = [p] := by simpa [Deed.ks, Deed.is, spl2, e1] using hs.symm
      subst this
      obtain ⟨q, rfl, hq⟩ := hN.one
      simp only [doD, e1] at D
      exact ⟨g, Z, e, pl, q, p, rfl, rfl, R, W, hpl, hq, (split_good e1).1, D⟩
  | append x t =>
    cases e1 : split x with
    | none => simp [Deed.ks, Deed.is, spl2, e1] at hs
    | some p =>
      have : ps = [p] := by simpa [Deed.ks, Deed.is, spl2, e1] using hs.symm
      subst this
      obtain ⟨q, rfl, hq⟩ := hN.one
      simp only [doD, e1] at D
      exact ⟨g, Z, e, pl, q, sa, da, p, st, _, _, t, rfl, rfl, rfl, rfl, R, W, he, hpl, hq, hsa, hda, hd.2.1, D⟩
  | shut x =>
    cases e1 : split x with
    | none => simp [Deed.ks, Deed.is, spl2, e1] at hs
    | some p =>
      have : ps = [p] := by simpa [Deed.ks, Deed.is, spl2, e1] using hs.symm
      subst this
      obtain ⟨q, rfl, hq⟩ := hN.one
      simp only [doD, e1] at D
      exact ⟨g, Z, e, pl, q, p, rfl, rfl, R, W, hpl, hq, D⟩
  | limit x m =>
    cases e1 : split x with
    | none => simp [Deed.ks, Deed.is, spl2, e1] at hs
    | some p =>
      have : ps = [p] := by simpa [Deed.ks, Deed.is, spl2, e1] using hs.symm
      subst this
      obtain ⟨q, rfl, hq⟩ := hN.one
      simp only [doD, e1] at D
      exact ⟨g, Z, e, pl, q, da, p, _, _, m, rfl, rfl, rfl, R, W, hpl, hq, hda, D⟩
  | move x y =>
    cases e1 : split x with
    | none => simp [Deed.ks, Deed.is, spl2, e1] at hs
    | some p =>
      cases e2 : split y with
      | none => simp [Deed.ks, Deed.is, spl2, e1, e2] at hs
      | some p' =>
        have : ps = [p, p'] := by simpa [Deed.ks, Deed.is, spl2, e1, e2] using hs.symm
        subst this
        obtain ⟨q, q', rfl, hq, hq'⟩ := hN.two
        simp only [doD, e1, e2] at D
        exact ⟨g, Z, e, pl, q, q', p, p', rfl, rfl, R, W, hpl, hq, hq', (split_good e1).1, (split_good e2).1, (split_good e2).2, D⟩
  | snapshot x y =>
    cases e1 : split x with
    | none => simp [Deed.ks, Deed.is, spl2, e1] at hs
    | some p =>
      cases e2 : split y with
      | none => simp [Deed.ks, Deed.is, spl2, e1, e2] at hs
      | some p' =>
        have : ps = [p, p'] := by simpa [Deed.ks, Deed.is, spl2, e1, e2] using hs.symm
        subst this
        obtain ⟨q, q', rfl, hq, hq'⟩ := hN.two
        simp only [doD, e1, e2] at D
        exact ⟨g, Z, e, pl, q, q', p, p', rfl, rfl, R, W, he, hpl, hq, hq', (split_good e1).1, (split_good e2).1, D⟩
def actX (K : PySem.W.Frag) : Ent → Addr → Option Sp
  | .deed d, f => if f = actA K d then some (actS K d) else none
  | .odd _, _ => none
theorem actX_held (T : Tx w K mg) (en : Ent) : ∀ f sp, actX K en f = some sp → Held P w K mg base 19 f sp := by
  intro f sp h
  cases en with
  | deed d =>
    have h : (if f = actA K d then some (actS K d) else none) = some sp := h
    by_cases e : f = actA K d
    · rw [if_pos e] at h
      cases h
      rw [e]
      exact act_held T d
    · rw [if_neg e] at h
      cases h
  | odd l => cases h
def P_apply_deed (K : PySem.W.Frag) (a b c : V) (H : Hp) (Q : VK) : Prop := ∃ (g : Gh) (Z : Tr) (e : Nat) (sa da : Addr) (st : St3) (en : Ent), a = .ref g.t ∧ b = .ref sa ∧ c = .ref da ∧ TreeAt K H g Z ∧ WF e Z ∧ e ≤ 900 ∧ H sa = some (.tup (stV st)) ∧ H da = some (.tup (en.its.map itmV)) ∧ en.Ok ∧
  Done K g H (doE Z st en) Q
abbrev N_apply_deed : List Str := ["tree", "stamp", "deed", "paths", "kind", "item", "action"]
theorem sc_apply_deed : FnScope N_apply_deed ["tree", "stamp", "deed"] (defScope s_apply_deed) := ⟨rfl, rfl, rfl, by decide +kernel, rfl, by decide +kernel, by decide +kernel⟩
theorem ok_apply_deed (T : Tx w K mg) : Cal P w K mg base 20 (fAd K ("apply_deed", none)) (Sp3 (P_apply_deed K)) := by
  refine mk3 (k := 19) T.fd_apply_deed sc_apply_deed (fun _ _ _ _ _ _ _ _ _  => rfl) fun cdv A outer s H E va vb vc Q hr h => ?_
  have hu := hu_of hr
  obtain ⟨g, Z, e, sa, da, st, en, rfl, rfl, rfl, R, W, he, hsa, hda, hok, k⟩ := h
  obtain ⟨es, ne, DK⟩ := T.t.tab 0
  obtain ⟨es2, ne2, DK2⟩ := T.t.tab 1
  have AA := actX_held (P := P) (base := base) T en
  obtain ⟨x, is, eits, hgood, hno, hrd⟩ := ent_form en hok
  rw [eits] at hda
  refine ⟨_, (pss_cons (ps_if (pt_not (pt_val (pcall (ok_has_form T) hr (by decide) rfl T.g_has_form (pa_cons (pv 2) pa_nil)))) (pss_one (ps_ret (pcall (ok_refused T) hr (by decide) rfl T.g_refused (pa_cons pe_str pa_nil)))) pss_nil)
      (pss_cons (ps_set (i := 3) sc_apply_deed.nd rfl (Or.inl rfl) (pe_lst pa_nil))
      (pss_cons (ps_for PassesOwn.never rfl (RZ.pi_zipA (by rfl) T.f_zip (pa_cons (pe_ix ix_kdict (pe_glob (v := .ref _) rfl T.g_FORMS rfl) (pe_ix ix_tup (pv 2) pe_int (fun _ _ => rfl)) (fun _ _ => rfl)) (pa_cons (pe_slice sl_tup (pv 2) (po_some pe_int) po_none) pa_nil))) (pg_tup rfl (pgs_cons (pg_name (i := 4) sc_apply_deed.nd rfl (Or.inl rfl)) (pgs_cons (pg_name (i := 5) sc_apply_deed.nd rfl (Or.inl rfl)) pgs_nil)))
      (pss_one (ps_if (pt_cmpR op_eq (pv 4) pe_str (nomark _)) (pss_one (L2N.ps_try_many (tb := fun W => tDrop (tBM K "list" rAppend (tVar 3) (tCons (tCallS (SpX (P_split_path K)) (WE W) (tCons (tVar 5) tNil)) tNil))) rfl rfl takes0 (fun W pn xe tk po => (pss_one (ps_expr (pe_bm PySem.F.plainAttrs_list PySem.F.slot_list_append PySem.F.type_list_append mt_append (pv 3) (pa_cons (pcallX (ok_split_path T) hr (by decide) rfl T.g_split_path tk (pa_cons (pv 5) pa_nil)) pa_nil))))) (.cons ⟨rfl, by decide, .inl T.g_BadPath⟩ (fun a oe cls d pn hz hf => (pss_one (ps_ret (pcallH (ok_refusedH T) (rm hr) (by decide) (hot_of hz hf) rfl T.g_refused (pa_cons pe_str pa_nil))))) .nil))) pss_nil)))
      (pss_cons (ps_set (i := 6) sc_apply_deed.nd rfl (Or.inl rfl) (pe_ix ix_kdict (pe_glob (v := .ref _) rfl T.g_ACTIONS rfl) (pe_ix ix_tup (pv 2) pe_int (fun _ _ => rfl)) (fun _ _ => rfl)))
      (pss_one (ps_ret (pe_callA (i := 6) AA hr rfl (Or.inl rfl) (pa_cons (pv 0) (pa_cons (pv 1) (pa_cons (pv 2) (pa_cons (pv 3) pa_nil))))))))))), ?_⟩
  dsimp only [cxOf, Cx.nox]
  refine ⟨_, rfl, da, x, is, rfl, hda, hno, hrd, fun H1 s1 => ⟨_, rfl, ?_⟩⟩
  rw [hgood]
  cases en with
  | odd l => exact iteT (refuse R k s1)
  | deed d =>
    refine iteF ?_
    have eits : d.its = It.s x :: is := eits
    rw [Deed.its_eq d] at eits
    cases eits
    have hfo := d.form
    have hF : hasF d.w d.is = true := hgood
    unfold hasF at hF
    rw [hfo] at hF
    have hF2 : (decide (d.is.length = d.ks.length) && chk d.ks d.is) = true := hF
    obtain ⟨hl, hck⟩ := ba hF2
    have hl := of_decide_eq_true hl
    obtain ⟨fa, hfa, hfs⟩ := form_at T hfo
    have k : Done K g H (doD Z st d) Q := k
    refine ⟨sm64 (by show 0 ≤ 10000; decide), fun pl hpl => ?_⟩
    have s2 := s1.trans (same_new (o := .lst []) hpl)
    have s1p : H1 pl = none := hpl
    refine ⟨_, rfl, da, _, _, _, rfl, rfl, SqT.of (s2 _ _ hda), atI_nat (j := 0) rfl, _, _, V.ref fa, rfl, rfl, ⟨es, ne, _, DK.at_, DK.lit, hfa, rfl⟩, ?_⟩
    refine ⟨_, rfl, _, rfl, da, _, rfl, SqT.of (s2 _ _ hda), not_whole _ _, fun p0 hp0 => ?_⟩
    have n0 : p0 ≠ pl := by
      rintro rfl
      rw [upd_same] at hp0
      cases hp0
    have s3 := s2.trans (same_new (o := .tup (cutV (V.str (S d.w) :: d.is.map itmV) (some 1) none)) hp0)
    have hp03 : (upd (upd H1 pl (.lst [])) p0 (.tup (cutV (V.str (S d.w) :: d.is.map itmV) (some 1) none))) p0 = some (.tup (d.is.map itmV)) := by rw [upd_same, cut_tail]
    refine ⟨fa, p0, _, _, rfl, .inr ⟨hfs _, SqT.of hp03, RZ.for_zipT (K := K) (a := fa) (b := p0) (xs := d.ks.map Kd.v) (ys := d.is.map itmV) (by rw [List.length_map, List.length_map, hl])
      (fun i σ H2 => ∃ (o4 o5 : Option V) (ps : List (List Nm)) (qs : List Addr), σ = [some (.ref g.t), some (.ref sa), some (.ref da), some (.ref pl), o4, o5, none] ∧ Same H H2 ∧ H2 p0 = some (.tup (d.is.map itmV)) ∧ H2 pl = some (.lst (qs.map V.ref)) ∧ Nms H2 pl qs ps ∧ ps.length ≤ i ∧ chk (d.ks.drop i) (d.is.drop i) = true ∧ spl2 d.ks d.is = (spl2 (d.ks.drop i) (d.is.drop i)).map fun r => ps ++ r)
      ⟨none, none, [], [], rfl, s3, hp03, by rw [upd_ne n0.symm, upd_same] <;> rfl, trivial, Nat.le_refl 0, by rw [List.drop_zero, List.drop_zero]; exact hck, by rw [List.drop_zero, List.drop_zero]; simp⟩ (fun i σ H2 ⟨_, _, _, _, _, _, hp2, _⟩ => ⟨hfs H2, SqT.of hp2⟩) ?_ ?_⟩⟩
    · rintro i xk yk t σ H2 hxk hyk ⟨o4, o5, ps, qs, rfl, sx, hp2, hpl2, hN, hpn, hc, hsp⟩ ht
      obtain ⟨kk, hkk, rfl⟩ := map_at hxk
      obtain ⟨ii, hii, rfl⟩ := map_at hyk
      obtain ⟨d1, d2⟩ := zipped hkk hii
      rw [d1, d2] at hc hsp
      have hil : i < 3 := by
        have := (List.getElem?_eq_some_iff.mp hkk).1
        cases d <;> simp [Deed.ks] at this <;> omega
      obtain ⟨hc1, hc2⟩ := ba (show (kdOk kk ii && chk (d.ks.drop (i + 1)) (d.is.drop (i + 1))) = true from hc)
      have sy := same_new (o := .tup [kk.v, itmV ii]) ht
      have sxy := sx.trans sy
      refine ⟨t, _, rfl, SqT.of upd_same, rfl, _, _, rfl, _, _, rfl, rfl, ?_⟩
      have skip : kk ≠ .p → ∃ (o4 o5 : Option V) (ps : List (List Nm)) (qs : List Addr), [some (V.ref g.t), some (.ref sa), some (.ref da), some (.ref pl), some kk.v, some (itmV ii), none] = [some (.ref g.t), some (.ref sa), some (.ref da), some (.ref pl), o4, o5, none] ∧ Same H (upd H2 t (.tup [kk.v, itmV ii])) ∧ (upd H2 t (.tup [kk.v, itmV ii])) p0 = some (.tup (d.is.map itmV)) ∧ (upd H2 t (.tup [kk.v, itmV ii])) pl = some (.lst (qs.map V.ref)) ∧ Nms (upd H2 t (.tup [kk.v, itmV ii])) pl qs ps ∧ ps.length ≤ i + 1 ∧ chk (d.ks.drop (i + 1)) (d.is.drop (i + 1)) = true ∧ spl2 d.ks d.is = (spl2 (d.ks.drop (i + 1)) (d.is.drop (i + 1))).map fun r => ps ++ r := by
        intro hkp
        refine ⟨_, _, ps, qs, rfl, sxy, sy _ _ hp2, sy _ _ hpl2, hN.keep (fun c o _ h => sy c o h), by omega, hc2, ?_⟩
        rw [hsp]
        congr 1
        cases kk with
        | p => exact absurd rfl hkp
        | m => cases ii <;> rfl
        | t => cases ii <;> rfl
      cases kk with
      | m => exact ⟨_, rfl, rfl, _, rfl, iteF (skip (by decide))⟩
      | t => exact ⟨_, rfl, rfl, _, rfl, iteF (skip (by decide))⟩
      | p =>
        cases ii with
        | i n => cases hc1
        | s y =>
          have hy : y.length ≤ 2000 := by
            have := (isTx_iff.mp (show isTx y = true from hc1)).1
            omega
          have hsp2 : spl2 (.p :: d.ks.drop (i + 1)) (.s y :: d.is.drop (i + 1)) = match split y with
              | some p => (spl2 (d.ks.drop (i + 1)) (d.is.drop (i + 1))).map fun r => p :: r
              | none => none := by
            rw [spl2] <;> rfl
          refine ⟨_, rfl, rfl, _, rfl, iteT ?_⟩
          refine ⟨_, rfl, .inl ⟨rfl, _, SqL.of (sy _ _ hpl2)⟩, _, rfl, y, rfl, hy, fun ns hns q hq => ?_, fun hns H3 s4 => ?_⟩
          · have sq := same_new (o := .lst (nmV ns)) hq
            have nqp : q ≠ pl := by
              rintro rfl
              rw [sy _ _ hpl2] at hq
              cases hq
            refine ⟨pl, _, _, rfl, rfl, sq _ _ (sy _ _ hpl2), sm63 ?_, ?_⟩
            · rw [List.length_map, hN.len]
              omega
            have kp : ∀ c o o', c ≠ pl → H2 c = some o → (upd (upd (upd H2 t (.tup [Kd.p.v, itmV (.s y)])) q (.lst (nmV ns))) pl o') c = some o := fun c o o' hc h => by
              rw [upd_ne hc]
              exact sq _ _ (sy _ _ h)
            have npl : H pl = none := s1.free s1p
            refine ⟨_, _, ps ++ [ns], qs ++ [q], rfl, fun c o h => kp c o _ (ne_of_none h npl) (sx _ _ h), kp _ _ _ n0 hp2, by rw [upd_same, List.map_append] <;> rfl, (hN.keep fun c o hc h => kp c o _ hc h).snoc (by rw [upd_ne nqp, upd_same]) nqp, by rw [List.length_append, List.length_singleton]; omega, hc2, ?_⟩
            rw [hsp, hsp2, hns]
            show ((spl2 (d.ks.drop (i + 1)) (d.is.drop (i + 1))).map fun r => ns :: r).map (fun r => ps ++ r) = _
            rw [Option.map_map]
            congr 1
            funext r
            simp
          · refine ⟨true, T.e_BadPath, fun _ a ha => ?_, fun z => by cases z⟩
            have hnone : spl2 d.ks d.is = none := by
              rw [hsp, hsp2, hns] <;> rfl
            rw [doD_path d Z st hnone] at k
            exact refuse R k (sxy.trans s4)
    · rintro σ H2 ⟨o4, o5, ps, qs, rfl, sx, hp2, hpl2, hN, _, _, hsp⟩
      rw [List.length_map, List.drop_length] at hsp
      have hsp : spl2 d.ks d.is = some ps := by
        rw [hsp]
        show (some ([] : List (List Nm))).map (fun r => ps ++ r) = some ps
        simp
      refine ⟨_, rfl, da, _, _, _, rfl, rfl, SqT.of (sx _ _ hda), atI_nat (j := 0) rfl, _, _, V.ref (actA K d), rfl, rfl, ⟨es2, ne2, _, DK2.at_, DK2.lit, act_at T d, rfl⟩, ?_⟩
      refine ⟨actA K d, actS K d, rfl, if_pos rfl, _, rfl, _, rfl, _, rfl, _, rfl, ?_⟩
      exact act_call (R.same sx) W he d hok (sx _ _ hsa) (by rw [Deed.its_eq]; exact sx _ _ hda) hpl2 hN hsp (k.same sx)
end
end Ah
/-! Queries. -/
namespace Ah
open PySem PySem.Spec PyProof.Rows L2 He SX
def Qy.w : Qy → Nm
  | .content _ => cContent
  | .find _ => [102, 105, 110, 100]
  | .names _ => [110, 97, 109, 101, 115]
def Qy.it : Qy → It
  | .content n => .i n
  | .find x => .s x
  | .names x => .s x
theorem lw_find : ("find" : Str) = S [102, 105, 110, 100] := by decide +kernel
theorem lw_names : ("names" : Str) = S [110, 97, 109, 101, 115] := by decide +kernel
section
variable {K : PySem.W.Frag} {H H1 : Hp} {g : Gh} {Z : Tr} {Q : VK}
/-- an answer that changes nothing -/
def Ans' (H : Hp) (d : D) (Q : VK) : Prop := ∀ H' v, Same H H' → isV H' d v → Q v H'
theorem Ans'.refuse {w : Str} (A : Ans' H (refu w) Q) (s : Same H H1) : P_refused K (.str w) H1 Q :=
  ⟨w, rfl, fun q hq => A _ _ (s.trans (same_new hq)) (isV.tup upd_same (isVs.cons isV.str (isVs.cons isV.str isVs.nil)))⟩
theorem Ans'.same {d : D} (A : Ans' H d Q) (s : Same H H1) : Ans' H1 d Q := fun H' v s' h => A H' v (s.trans s') h
end
section
variable {P : Program} {w : World} {K : PySem.W.Frag} {mg : Str → Option Value} {base : Heap}
def P_content_answer (K : PySem.W.Frag) (a b : V) (H : Hp) (Q : VK) : Prop := ∃ (g : Gh) (Z : Tr) (e : Nat) (n : Int), a = .ref g.t ∧ b = .int n ∧ TreeAt K H g Z ∧ WF e Z ∧ Ans' H (ask Z (.content n)) Q
abbrev N_content_answer : List Str := ["tree", "number", "target"]
theorem sc_content_answer : FnScope N_content_answer ["tree", "number"] (defScope s_content_answer) := ⟨rfl, rfl, rfl, by decide +kernel, rfl, by decide +kernel, by decide +kernel⟩
theorem ok_content_answer (T : Tx w K mg) : Cal P w K mg base 3 (fAd K ("content_answer", none)) (Sp2 (P_content_answer K)) := by
  refine mk2 (k := 2) T.fd_content_answer sc_content_answer (fun _ _ _ _ _ _ _ _  => rfl) fun cdv A outer s H E va vb Q hr h => ?_
  have hu := hu_of hr
  obtain ⟨g, Z, e, n, rfl, rfl, R, W, k⟩ := h
  refine ⟨_, (pss_cons (ps_if (pt_not (pt_chain op_le op_lt pe_int (pv 1) (pe_callB (call_lenO T.m_Tree___len__ (ok_Tree___len__ T) hr (by decide)) (by rfl) T.f_len (by decide +kernel) (pa_cons (pv 0) pa_nil)))) (pss_one (ps_ret (pcall (ok_refused T) hr (by decide) rfl T.g_refused (pa_cons pe_str pa_nil)))) pss_nil)
      (pss_cons (ps_set (i := 2) sc_content_answer.nd rfl (Or.inl rfl) (pmeth T.c_Tree T.m_Tree_node (ok_Tree_node T) hr (by decide) (pv 0) (pa_cons (pv 1) pa_nil)))
      (pss_cons (ps_if (pt_val (pe_callB call_isi (by rfl) T.f_isinstance (by decide +kernel) (pa_cons (pv 2) (pa_cons (pe_glob (v := .ref _) rfl T.g_Directory rfl) pa_nil)))) (pss_one (ps_ret (pcall (ok_refused T) hr (by decide) rfl T.g_refused (pa_cons pe_str pa_nil)))) pss_nil)
      (pss_one (ps_ret (pe_tup (pa_cons pe_str (pa_cons (pv 1) (pa_cons (pe_callTy call_int1 (by rfl) T.f_int (by decide +kernel) (pa_cons (pprop T.c_File T.pr_File_sealed.1 (ok_File_sealed T) hr (by decide) (pv 2)) pa_nil)) (pa_cons (pprop T.c_File T.pr_File_pieces.1 (ok_File_pieces T) hr (by decide) (pv 2)) pa_nil)))))))))), ?_⟩
  dsimp only [cxOf, Cx.nox]
  obtain ⟨dx, ht⟩ := R.tr
  have hZ := W.len
  unfold ask at k
  refine ⟨_, rfl, _, _, rfl, rfl, _, rfl, iteB (fun h1 => ⟨_, rfl, g.t, dx, _, rfl, ht, g, Z, rfl, R, Z.length, rfl, sm64 (by omega), _, _, rfl, rfl, _, rfl, iteB (fun h2 => ?_) (fun h2 => ?_)⟩) (fun h1 => ⟨_, rfl, iteT ?_⟩)⟩
  · have h2 := of_decide_eq_false (nb1 h2)
    simp only [if_neg (show ¬ (0 ≤ n ∧ n < (Z.length : Int)) from fun z => h2 z.2)] at k
    exact k.refuse (K := K) (Same.refl H)
  · have h1 := of_decide_eq_true h1
    have h2 := of_decide_eq_true (nb2 h2)
    simp only [if_pos (show 0 ≤ n ∧ n < (Z.length : Int) from ⟨h1, h2⟩)] at k
    obtain ⟨i, rfl⟩ : ∃ i : Nat, n = (i : Int) := ⟨n.toNat, by omega⟩
    rw [Int.toNat_natCast] at k
    have hil : i < Z.length := by omega
    obtain ⟨nd, hnd⟩ : ∃ nd, Z[i]? = some nd := ⟨_, List.getElem?_eq_getElem hil⟩
    simp only [hnd] at k
    obtain ⟨na, nb, hna, hnb, N⟩ := R.at hnd
    refine ⟨_, rfl, g.t, dx, _, rfl, ht, znone (by decide +kernel), _, rfl, g, Z, i, na, rfl, rfl, R, hna, ?_⟩
    cases hfile : nd.file with
    | false =>
      obtain ⟨fdx, kvs, h3, h4, h5⟩ := N.dirE hfile
      simp only [if_pos hfile] at k
      exact ⟨_, rfl, _, _, _, _, _, rfl, isi_DD T h3 ⟨_, rfl, iteT (k.refuse (K := K) (Same.refl H))⟩⟩
    | true =>
      obtain ⟨fdx, vs, h3, h4, h5⟩ := N.fileE hfile
      simp only [if_neg (show ¬ nd.file = false by rw [hfile]; decide)] at k
      refine ⟨_, rfl, _, _, _, _, _, rfl, isi_FD T h3 ⟨_, rfl, iteF ?_⟩⟩
      refine ⟨_, rfl, _, rfl, na, fdx, _, rfl, h3, na, fdx, _, _, _, rfl, h3, .inr ⟨_, rfl, ?_⟩⟩
      refine ⟨_, rfl, na, fdx, _, rfl, h3, na, fdx, nb, _, _, vs, rfl, h3, h4, fun t0 ht0 => ⟨sm64 (by show 4 ≤ 10000; decide), fun p hp => ?_⟩⟩
      have s1 := same_new (o := .tup vs) ht0
      have s2 := same_new (o := .tup [.str "content", .int (i : Int), .int (if nd.shut then 1 else 0), .ref t0]) hp
      exact k _ _ (s1.trans s2) (isV.tup upd_same (isVs.cons isV.str (isVs.cons isV.int (isVs.cons isV.int (isVs.cons (isV.tup (s2 _ _ upd_same) (h5.keep (Same.tup (s1.trans s2)))) isVs.nil)))))
  · have h1 := of_decide_eq_false h1
    simp only [if_neg (show ¬ (0 ≤ n ∧ n < (Z.length : Int)) from fun z => h1 z.1)] at k
    exact k.refuse (K := K) (Same.refl H)
/-- the answer to find, names, once the path is cut -/
def findD (Z : Tr) (p : List Nm) : D := match look Z [] p with
  | .no w => refu w
  | .at k => .t [.s "node", .i (k : Int), .i (if isF Z p then 1 else 0), .i (sizeAt Z p : Int)]
def namesD (Z : Tr) (p : List Nm) : D := match look Z [] p with
  | .no w => refu w
  | .at _ => if isF Z p = true then refu "kind" else .t [.s "names", .t ((sortN (kidsN Z p)).map fun n => .s (S n))]
def P_find_answer (K : PySem.W.Frag) (a b : V) (H : Hp) (Q : VK) : Prop := ∃ (g : Gh) (Z : Tr) (e : Nat) (q : Addr) (ns : List Nm), a = .ref g.t ∧ b = .ref q ∧ TreeAt K H g Z ∧ WF e Z ∧ H q = some (.lst (nmV ns)) ∧ Ans' H (findD Z ns) Q
abbrev N_find_answer : List Str := ["tree", "names", "number", "kind"]
theorem sc_find_answer : FnScope N_find_answer ["tree", "names"] (defScope s_find_answer) := ⟨rfl, rfl, rfl, by decide +kernel, rfl, by decide +kernel, by decide +kernel⟩
theorem ok_find_answer (T : Tx w K mg) : Cal P w K mg base 11 (fAd K ("find_answer", none)) (Sp2 (P_find_answer K)) := by
  refine mk2 (k := 10) T.fd_find_answer sc_find_answer (fun _ _ _ _ _ _ _ _  => rfl) fun cdv A outer s H E va vb Q hr h => ?_
  have hu := hu_of hr
  obtain ⟨g, Z, e, q, ns, rfl, rfl, R, W, hq, k⟩ := h
  refine ⟨_, (pss_cons (ps_set (i := 2) sc_find_answer.nd rfl (Or.inl rfl) (pmeth T.c_Tree T.m_Tree_look_up (ok_Tree_look_up T) hr (by decide) (pv 0) (pa_cons (pv 1) pa_nil)))
      (pss_cons (ps_if (pt_val (pe_callB call_isi (by rfl) T.f_isinstance (by decide +kernel) (pa_cons (pv 2) (pa_cons (pe_bltn (v := .ty "str") (by rfl) T.f_str (by decide +kernel) rfl) pa_nil)))) (pss_one (ps_ret (pcall (ok_refused T) hr (by decide) rfl T.g_refused (pa_cons (pv 2) pa_nil)))) pss_nil)
      (pss_cons (ps_set (i := 3) sc_find_answer.nd rfl (Or.inl rfl) (pe_callTy call_int1 (by rfl) T.f_int (by decide +kernel) (pa_cons (pe_callB call_isi (by rfl) T.f_isinstance (by decide +kernel) (pa_cons (pmeth T.c_Tree T.m_Tree_node (ok_Tree_node T) hr (by decide) (pv 0) (pa_cons (pv 2) pa_nil)) (pa_cons (pe_glob (v := .ref _) rfl T.g_File rfl) pa_nil))) pa_nil)))
      (pss_one (ps_ret (pe_tup (pa_cons pe_str (pa_cons (pv 2) (pa_cons (pv 3) (pa_cons (pmeth T.c_Tree T.m_Tree_size_of (ok_Tree_size_of T) hr (by decide) (pv 0) (pa_cons (pv 2) pa_nil)) pa_nil)))))))))), ?_⟩
  dsimp only [cxOf, Cx.nox]
  obtain ⟨dx, ht⟩ := R.tr
  unfold findD at k
  refine ⟨_, rfl, g.t, dx, _, rfl, ht, znone (by decide +kernel), _, rfl, g, Z, e, q, ns, rfl, rfl, R, W, hq, fun w hl => ?_, fun i hl => ?_⟩
  · rw [hl] at k
    exact ⟨_, rfl, _, _, _, _, _, rfl, isi_ss ⟨_, rfl, iteT ⟨_, rfl, k.refuse (K := K) (Same.refl H)⟩⟩⟩
  simp only [hl] at k
  refine ⟨_, rfl, _, _, _, _, _, rfl, isi_is ⟨_, rfl, iteF ?_⟩⟩
  obtain ⟨n, hn, hpn⟩ := look_node W hl
  obtain ⟨na, nb, hna, hnb, N⟩ := R.at hn
  have hF : isF Z ns = n.file := by rw [← hpn]; exact isF_at W.dist hn
  rw [hF] at k
  refine ⟨_, rfl, g.t, dx, _, rfl, ht, znone (by decide +kernel), _, rfl, g, Z, i, na, rfl, rfl, R, hna, ?_⟩
  have fin : ∀ b : Bool, n.file = b → (∃ v, [some (V.ref g.t), some (.ref q), some (.int (i : Int)), some (.int (if b then 1 else 0))][2]? = some (some v) ∧ v = V.int (i : Int)) := fun b _ => ⟨_, rfl, rfl⟩
  cases hfile : n.file with
  | true =>
    obtain ⟨fdx, vs, h1, h2, h3⟩ := N.fileE hfile
    refine ⟨_, _, _, _, _, rfl, isi_FF T h1 ?_⟩
    refine .inr ⟨_, rfl, ?_⟩
    refine ⟨_, rfl, _, rfl, _, rfl, g.t, dx, _, rfl, ht, znone (by decide +kernel), _, rfl, g, Z, e, i, n, rfl, rfl, R, W, hn, by omega, fun H2 s2 => ⟨sm64 (by show 4 ≤ 10000; decide), fun p hp => ?_⟩⟩
    rw [hfile, ← hpn] at k
    exact k _ _ (s2.trans (same_new hp)) (isV.tup upd_same (isVs.cons isV.str (isVs.cons isV.int (isVs.cons isV.int (isVs.cons isV.int isVs.nil)))))
  | false =>
    obtain ⟨fdx, kvs, h1, h2, h3⟩ := N.dirE hfile
    refine ⟨_, _, _, _, _, rfl, isi_DF T h1 ?_⟩
    refine .inr ⟨_, rfl, ?_⟩
    refine ⟨_, rfl, _, rfl, _, rfl, g.t, dx, _, rfl, ht, znone (by decide +kernel), _, rfl, g, Z, e, i, n, rfl, rfl, R, W, hn, by omega, fun H2 s2 => ⟨sm64 (by show 4 ≤ 10000; decide), fun p hp => ?_⟩⟩
    rw [hfile, ← hpn] at k
    exact k _ _ (s2.trans (same_new hp)) (isV.tup upd_same (isVs.cons isV.str (isVs.cons isV.int (isVs.cons isV.int (isVs.cons isV.int isVs.nil)))))
theorem isVs_names {H : Hp} : ∀ l : List Nm, isVs H (l.map fun n => D.s (S n)) (nmV l)
  | [] => isVs.nil
  | n :: l => isVs.cons isV.str (isVs_names l)
def P_names_answer (K : PySem.W.Frag) (a b : V) (H : Hp) (Q : VK) : Prop := ∃ (g : Gh) (Z : Tr) (e : Nat) (q : Addr) (ns : List Nm), a = .ref g.t ∧ b = .ref q ∧ TreeAt K H g Z ∧ WF e Z ∧ H q = some (.lst (nmV ns)) ∧ Ans' H (namesD Z ns) Q
abbrev N_names_answer : List Str := ["tree", "names", "number", "directory"]
theorem sc_names_answer : FnScope N_names_answer ["tree", "names"] (defScope s_names_answer) := ⟨rfl, rfl, rfl, by decide +kernel, rfl, by decide +kernel, by decide +kernel⟩
theorem ok_names_answer (T : Tx w K mg) : Cal P w K mg base 11 (fAd K ("names_answer", none)) (Sp2 (P_names_answer K)) := by
  refine mk2 (k := 10) T.fd_names_answer sc_names_answer (fun _ _ _ _ _ _ _ _  => rfl) fun cdv A outer s H E va vb Q hr h => ?_
  have hu := hu_of hr
  obtain ⟨g, Z, e, q, ns, rfl, rfl, R, W, hq, k⟩ := h
  refine ⟨_, (pss_cons (ps_set (i := 2) sc_names_answer.nd rfl (Or.inl rfl) (pmeth T.c_Tree T.m_Tree_look_up (ok_Tree_look_up T) hr (by decide) (pv 0) (pa_cons (pv 1) pa_nil)))
      (pss_cons (ps_if (pt_val (pe_callB call_isi (by rfl) T.f_isinstance (by decide +kernel) (pa_cons (pv 2) (pa_cons (pe_bltn (v := .ty "str") (by rfl) T.f_str (by decide +kernel) rfl) pa_nil)))) (pss_one (ps_ret (pcall (ok_refused T) hr (by decide) rfl T.g_refused (pa_cons (pv 2) pa_nil)))) pss_nil)
      (pss_cons (ps_set (i := 3) sc_names_answer.nd rfl (Or.inl rfl) (pmeth T.c_Tree T.m_Tree_node (ok_Tree_node T) hr (by decide) (pv 0) (pa_cons (pv 2) pa_nil)))
      (pss_cons (ps_if (pt_val (pe_callB call_isi (by rfl) T.f_isinstance (by decide +kernel) (pa_cons (pv 3) (pa_cons (pe_glob (v := .ref _) rfl T.g_File rfl) pa_nil)))) (pss_one (ps_ret (pcall (ok_refused T) hr (by decide) rfl T.g_refused (pa_cons pe_str pa_nil)))) pss_nil)
      (pss_one (ps_ret (pe_tup (pa_cons pe_str (pa_cons (pe_callTy call_tuple_of (by rfl) T.f_tuple (by decide +kernel) (pa_cons (pmeth0 T.c_Directory T.m_Directory_names (ok_Directory_names T) hr (by decide) (pv 3)) pa_nil)) pa_nil))))))))), ?_⟩
  dsimp only [cxOf, Cx.nox]
  obtain ⟨dx, ht⟩ := R.tr
  unfold namesD at k
  refine ⟨_, rfl, g.t, dx, _, rfl, ht, znone (by decide +kernel), _, rfl, g, Z, e, q, ns, rfl, rfl, R, W, hq, fun w hl => ?_, fun i hl => ?_⟩
  · rw [hl] at k
    exact ⟨_, rfl, _, _, _, _, _, rfl, isi_ss ⟨_, rfl, iteT ⟨_, rfl, k.refuse (K := K) (Same.refl H)⟩⟩⟩
  simp only [hl] at k
  refine ⟨_, rfl, _, _, _, _, _, rfl, isi_is ⟨_, rfl, iteF ?_⟩⟩
  obtain ⟨n, hn, hpn⟩ := look_node W hl
  obtain ⟨na, nb, hna, hnb, N⟩ := R.at hn
  have hF : isF Z ns = n.file := by rw [← hpn]; exact isF_at W.dist hn
  rw [hF] at k
  refine ⟨_, rfl, g.t, dx, _, rfl, ht, znone (by decide +kernel), _, rfl, g, Z, i, na, rfl, rfl, R, hna, ?_⟩
  cases hfile : n.file with
  | true =>
    obtain ⟨fdx, vs, h1, h2, h3⟩ := N.fileE hfile
    simp only [if_pos hfile] at k
    exact ⟨_, rfl, _, _, _, _, _, rfl, isi_FF T h1 ⟨_, rfl, iteT (k.refuse (K := K) (Same.refl H))⟩⟩
  | false =>
    obtain ⟨fdx, kvs, h1, h2, h3⟩ := N.dirE hfile
    simp only [if_neg (show ¬ n.file = true by rw [hfile]; decide)] at k
    refine ⟨_, rfl, _, _, _, _, _, rfl, isi_DF T h1 ⟨_, rfl, iteF ?_⟩⟩
    obtain ⟨ms, hk1, hk2⟩ := h3.keys R.lk W hn
    have hfew := h3.few R.lk W hn
    have hnl : ms.length < 64 := by
      have := congrArg List.length hk1
      rw [List.length_map, List.length_map, List.length_map] at this
      omega
    refine ⟨_, rfl, na, fdx, _, rfl, h1, znone (by decide +kernel), na, fdx, _, _, kvs, ms.map S, rfl, h1, h2, hk1, by rw [List.length_map]; exact hnl, fun ys p hperm hsort hp => ?_⟩
    have ey := sorted_is hperm hsort
    subst ey
    have hms : sortN ms = sortN (kidsN Z ns) := by rw [← hpn]; exact sortN_same hk2
    rw [hms]
    have emv : ((sortN (kidsN Z ns)).map S).map V.str = nmV (sortN (kidsN Z ns)) := by rw [List.map_map] <;> rfl
    rw [emv]
    have s1 := same_new (o := .lst (nmV (sortN (kidsN Z ns)))) hp
    refine ⟨p, _, rfl, .inl ⟨SqL.of upd_same, fun t0 ht0 => ⟨sm64 (by show 2 ≤ 10000; decide), fun r hr' => ?_⟩⟩⟩
    have s2 := same_new (o := .tup (nmV (sortN (kidsN Z ns)))) ht0
    have s3 := same_new (o := .tup [.str "names", .ref t0]) hr'
    exact k _ _ (s1.trans (s2.trans s3)) (isV.tup upd_same (isVs.cons isV.str (isVs.cons (isV.tup (s3 _ _ upd_same) (isVs_names _)) isVs.nil)))
def P_answer_query (K : PySem.W.Frag) (a b : V) (H : Hp) (Q : VK) : Prop := ∃ (g : Gh) (Z : Tr) (e : Nat) (qa : Addr) (qy : Qy), a = .ref g.t ∧ b = .ref qa ∧ TreeAt K H g Z ∧ WF e Z ∧ H qa = some (.tup [.str (S qy.w), itmV qy.it]) ∧ qy.Ok ∧ Ans' H (ask Z qy) Q
abbrev N_answer_query : List Str := ["tree", "query", "word", "item", "names"]
theorem sc_answer_query : FnScope N_answer_query ["tree", "query"] (defScope s_answer_query) := ⟨rfl, rfl, rfl, by decide +kernel, rfl, by decide +kernel, by decide +kernel⟩
theorem ok_answer_query (T : Tx w K mg) : Cal P w K mg base 15 (fAd K ("answer_query", none)) (Sp2 (P_answer_query K)) := by
  refine mk2 (k := 14) T.fd_answer_query sc_answer_query (fun _ _ _ _ _ _ _ _  => rfl) fun cdv A outer s H E va vb Q hr h => ?_
  have hu := hu_of hr
  obtain ⟨g, Z, e, qa, qy, rfl, rfl, R, W, hqa, hok, k⟩ := h
  refine ⟨_, (pss_cons (ps_if (PW.pt (pw_or (pt_not (pt_val (pe_callB call_isi (by rfl) T.f_isinstance (by decide +kernel) (pa_cons (pv 1) (pa_cons (pe_bltn (v := .ty "tuple") (by rfl) T.f_tuple (by decide +kernel) rfl) pa_nil))))) (pw_or1 (pt_cmpR op_ne (pe_callB call_len_seq (by rfl) T.f_len (by decide +kernel) (pa_cons (pv 1) pa_nil)) pe_int (nomark _))))) (pss_one (ps_ret (pcall (ok_refused T) hr (by decide) rfl T.g_refused (pa_cons pe_str pa_nil)))) pss_nil)
      (pss_cons (ps_asg (pv 1) (pg_tup rfl (pgs_cons (pg_name (i := 2) sc_answer_query.nd rfl (Or.inl rfl)) (pgs_cons (pg_name (i := 3) sc_answer_query.nd rfl (Or.inl rfl)) pgs_nil))))
      (pss_cons (ps_if (PW.pt (pw_and (pt_cmpR op_eq (pv 2) pe_str (nomark _)) (pw_and1 (pt_val (pcall (ok_is_integer T) hr (by decide) rfl T.g_is_integer (pa_cons (pv 3) pa_nil)))))) (pss_one (ps_ret (pcall (ok_content_answer T) hr (by decide) rfl T.g_content_answer (pa_cons (pv 0) (pa_cons (pv 3) pa_nil))))) pss_nil)
      (pss_cons (ps_if (PW.pt (pw_or (pt_cmpR (r := rIn K true) op_notIn_seq (pv 2) (pe_tup (pa_cons pe_str (pa_cons pe_str pa_nil))) (by rfl)) (pw_or1 (pt_not (pt_val (pcall (ok_is_text T) hr (by decide) rfl T.g_is_text (pa_cons (pv 3) pa_nil))))))) (pss_one (ps_ret (pcall (ok_refused T) hr (by decide) rfl T.g_refused (pa_cons pe_str pa_nil)))) pss_nil)
      (pss_cons (L2N.ps_try_many (tb := fun W => tAsg (tCallS (SpX (P_split_path K)) (WE W) (tCons (tVar 3) tNil)) (gName 4)) rfl rfl takes0 (fun W pn xe tk po => (pss_one (ps_set (i := 4) sc_answer_query.nd rfl (Or.inl rfl) (pcallX (ok_split_path T) hr (by decide) rfl T.g_split_path tk (pa_cons (pv 3) pa_nil))))) (.cons ⟨rfl, by decide, .inl T.g_BadPath⟩ (fun a oe cls d pn hz hf => (pss_one (ps_ret (pcallH (ok_refusedH T) (rm hr) (by decide) (hot_of hz hf) rfl T.g_refused (pa_cons pe_str pa_nil))))) .nil))
      (pss_cons (ps_if (pt_cmpR op_eq (pv 2) pe_str (nomark _)) (pss_one (ps_ret (pcall (ok_find_answer T) hr (by decide) rfl T.g_find_answer (pa_cons (pv 0) (pa_cons (pv 4) pa_nil))))) pss_nil)
      (pss_one (ps_ret (pcall (ok_names_answer T) hr (by decide) rfl T.g_names_answer (pa_cons (pv 0) (pa_cons (pv 4) pa_nil))))))))))), ?_⟩
  dsimp only [cxOf, Cx.nox]
  refine ⟨_, rfl, _, _, _, _, _, rfl, isi_tt hqa ⟨_, rfl, iteF ?_⟩⟩
  refine ⟨_, rfl, qa, _, rfl, .inr (SqT.of hqa), rfl, _, rfl, iteF ?_⟩
  refine ⟨_, rfl, qa, _, rfl, SqT.of hqa, rfl, _, _, rfl, _, _, rfl, rfl, ?_⟩
  cases qy with
  | content n =>
    refine ⟨_, rfl, rfl, _, rfl, ?_⟩
    rw [lw_content]
    refine iteB (fun h1 => ?_) (fun h1 => absurd h1 (by simp [Qy.w]))
    refine ⟨_, rfl, .inl ⟨n, rfl, _, rfl, ?_⟩⟩
    have e1 : (decide (-(10 ^ 18) ≤ n) && decide (n ≤ 10 ^ 18)) = true := by
      rw [decide_eq_true hok.1, decide_eq_true hok.2] <;> rfl
    rw [e1]
    exact iteT ⟨_, rfl, _, rfl, g, Z, e, n, rfl, rfl, R, W, k⟩
  | find x =>
    refine ⟨_, rfl, rfl, _, rfl, ?_⟩
    rw [lw_content]
    refine iteB (fun h1 => absurd h1 (by decide +kernel : ¬ decide (V.str (S [102, 105, 110, 100]) = V.str (S cContent)) = true)) (fun h1 => iteF ?_)
    refine ⟨_, rfl, sm64 (by show 2 ≤ 10000; decide), fun t0 ht0 => ?_⟩
    have s0 := same_new (o := .tup [.str "find", .str "names"]) ht0
    refine ⟨t0, _, rfl, .inr (SqT.of upd_same), rfl, rfl, _, rfl, ?_⟩
    have eI : (if true = true then !inV (.str (S (Qy.find x).w)) [.str "find", .str "names"] else inV (.str (S (Qy.find x).w)) [.str "find", .str "names"]) = false := (by decide +kernel : (if true = true then !inV (.str (S [102, 105, 110, 100])) [.str "find", .str "names"] else inV (.str (S [102, 105, 110, 100])) [.str "find", .str "names"]) = false)
    rw [eI]
    refine iteF ?_
    have hx : isTx x = true := isTx_iff.mpr hok
    refine ⟨_, rfl, .inl ⟨x, rfl, tl2000 hok, _, rfl, ?_⟩⟩
    rw [hx]
    refine iteF ?_
    unfold ask at k
    refine ⟨_, rfl, x, rfl, tl2000 hok, fun ns hns q hq => ?_, fun hns H3 s3 => ?_⟩
    · have s1 := same_new (o := .lst (nmV ns)) hq
      simp only [hns] at k
      refine ⟨_, rfl, rfl, _, rfl, ?_⟩
      rw [lw_find]
      refine iteB (fun h2 => ?_) (fun h2 => absurd h2 (by simp [Qy.w]))
      exact ⟨_, rfl, _, rfl, g, Z, e, q, ns, rfl, rfl, R.same (s0.trans s1), W, upd_same, Ans'.same k (s0.trans s1)⟩
    · simp only [hns] at k
      exact ⟨true, T.e_BadPath, fun _ a ha => k.refuse (K := K) (s0.trans s3), fun z => by cases z⟩
  | names x =>
    refine ⟨_, rfl, rfl, _, rfl, ?_⟩
    rw [lw_content]
    refine iteB (fun h1 => absurd h1 (by decide +kernel : ¬ decide (V.str (S [110, 97, 109, 101, 115]) = V.str (S cContent)) = true)) (fun h1 => iteF ?_)
    refine ⟨_, rfl, sm64 (by show 2 ≤ 10000; decide), fun t0 ht0 => ?_⟩
    have s0 := same_new (o := .tup [.str "find", .str "names"]) ht0
    refine ⟨t0, _, rfl, .inr (SqT.of upd_same), rfl, rfl, _, rfl, ?_⟩
    have eI : (if true = true then !inV (.str (S (Qy.names x).w)) [.str "find", .str "names"] else inV (.str (S (Qy.names x).w)) [.str "find", .str "names"]) = false := (by decide +kernel : (if true = true then !inV (.str (S [110, 97, 109, 101, 115])) [.str "find", .str "names"] else inV (.str (S [110, 97, 109, 101, 115])) [.str "find", .str "names"]) = false)
    rw [eI]
    refine iteF ?_
    have hx : isTx x = true := isTx_iff.mpr hok
    refine ⟨_, rfl, .inl ⟨x, rfl, tl2000 hok, _, rfl, ?_⟩⟩
    rw [hx]
    refine iteF ?_
    unfold ask at k
    refine ⟨_, rfl, x, rfl, tl2000 hok, fun ns hns q hq => ?_, fun hns H3 s3 => ?_⟩
    · have s1 := same_new (o := .lst (nmV ns)) hq
      simp only [hns] at k
      refine ⟨_, rfl, rfl, _, rfl, ?_⟩
      rw [lw_find]
      refine iteB (fun h2 => absurd h2 (by decide +kernel : ¬ decide (V.str (S [110, 97, 109, 101, 115]) = V.str (S [102, 105, 110, 100])) = true)) (fun h2 => ?_)
      exact ⟨_, rfl, _, rfl, g, Z, e, q, ns, rfl, rfl, R.same (s0.trans s1), W, upd_same, Ans'.same k (s0.trans s1)⟩
    · simp only [hns] at k
      exact ⟨true, T.e_BadPath, fun _ a ha => k.refuse (K := K) (s0.trans s3), fun z => by cases z⟩
end
end Ah
/-! A deed keeps the state well-formed. -/
namespace Ah
open PySem L2 SX
section
variable {c : Nat} {Z : Tr} {st : St3} {p o : List Nm}
theorem wf_mkN (W : WF c Z) (f : Bool) (g : Good p) (g6 : p.length ≤ 6) : WF c (mkN Z f p).1 := by
  unfold mkN
  cases e : place Z p with
  | no w => exact W
  | «at» k =>
    simp only
    by_cases h : 64 ≤ Z.length
    · rw [if_pos h]; exact W
    · rw [if_neg h]
      exact wf_new W (by omega) e g g6 rfl (fun _ => ⟨rfl, rfl⟩) rfl (Nat.zero_le _) (fun z hz => by cases hz)
theorem wf_wrN (W : WF c Z) (x : Nm) (hx : x.length ≤ 200) : WF (c + 1) (wrN Z st p x).1 := by
  have W1 := W.mono (Nat.le_succ c)
  unfold wrN
  cases e : look Z [] p with
  | no w => exact W1
  | «at» k =>
    simp only
    cases e2 : Z[k]? with
    | none => exact W1
    | some n =>
      have hn := List.mem_of_getElem? e2
      simp only
      by_cases h1 : n.file = false
      · rw [if_pos h1]; exact W1
      rw [if_neg h1]
      by_cases h2 : n.shut = true
      · rw [if_pos h2]; exact W1
      rw [if_neg h2]
      by_cases h3 : x = []
      · rw [if_pos h3]; exact W1
      rw [if_neg h3]
      by_cases h4 : bursts Z p [] x.length = true
      · rw [if_pos h4]; exact W1
      rw [if_neg h4]
      refine wf_set W (Nat.le_succ c) e2 rfl rfl (fun z => absurd z h1) (fun y hy => absurd (W.limp n hn y hy).1 h1) ?_ ?_
      · have := W.pcn n hn
        show (n.pcs ++ [_]).length ≤ c + 1
        rw [List.length_append, List.length_singleton]
        omega
      · intro z hz
        have hz : z ∈ n.pcs ++ [⟨st.num, st.cl, st.ser, x⟩] := hz
        rcases List.mem_append.mp hz with hz | hz
        · exact W.ptx n hn z hz
        · rw [List.mem_singleton.mp hz]
          exact hx
theorem wf_seN (W : WF c Z) : WF c (seN Z p).1 := by
  unfold seN
  cases e : look Z [] p with
  | no w => exact W
  | «at» k =>
    simp only
    cases e2 : Z[k]? with
    | none => exact W
    | some n =>
      have hn := List.mem_of_getElem? e2
      simp only
      by_cases h1 : n.file = false
      · rw [if_pos h1]; exact W
      rw [if_neg h1]
      by_cases h2 : n.shut = true
      · rw [if_pos h2]; exact W
      rw [if_neg h2]
      exact wf_set W (Nat.le_refl c) e2 rfl rfl (fun z => absurd z h1) (fun y hy => absurd (W.limp n hn y hy).1 h1) (W.pcn n hn) (W.ptx n hn)
theorem wf_mvN (W : WF c Z) (g : Good p) : WF c (mvN Z o p).1 := by
  unfold mvN
  by_cases h0 : o = []
  · rw [if_pos h0]; exact W
  rw [if_neg h0]
  cases e : look Z [] o with
  | no w => exact W
  | «at» k =>
    simp only
    by_cases h1 : o <+: p
    · rw [if_pos h1]; exact W
    rw [if_neg h1]
    cases e2 : place Z p with
    | no w => exact W
    | «at» j =>
      simp only
      by_cases h2 : 6 < p.length + heightAt Z o
      · rw [if_pos h2]; exact W
      rw [if_neg h2]
      by_cases h3 : bursts Z p o (sizeAt Z o) = true
      · rw [if_pos h3]; exact W
      rw [if_neg h3]
      exact wf_moved W h0 h1 e2 g (by omega)
theorem wf_snN (W : WF c Z) (g : Good p) (g6 : p.length ≤ 6) : WF c (snN Z o p).1 := by
  unfold snN
  cases e : look Z [] o with
  | no w => exact W
  | «at» k =>
    simp only
    cases e2 : Z[k]? with
    | none => exact W
    | some n =>
      have hn := List.mem_of_getElem? e2
      simp only
      by_cases h1 : n.file = false
      · rw [if_pos h1]; exact W
      rw [if_neg h1]
      cases e3 : place Z p with
      | no w => exact W
      | «at» j =>
        simp only
        by_cases h2 : 64 ≤ Z.length
        · rw [if_pos h2]; exact W
        rw [if_neg h2]
        by_cases h3 : bursts Z p [] n.size = true
        · rw [if_pos h3]; exact W
        rw [if_neg h3]
        exact wf_new W (by omega) e3 g g6 rfl (fun z => by cases z) rfl (W.pcn n hn) (W.ptx n hn)
theorem wf_liN (W : WF c Z) {m : Int} (hm : 0 ≤ m) : WF c (liN Z p m).1 := by
  unfold liN
  cases e : look Z [] p with
  | no w => exact W
  | «at» k =>
    simp only
    cases e2 : Z[k]? with
    | none => exact W
    | some n =>
      have hn := List.mem_of_getElem? e2
      simp only
      by_cases h1 : n.file = true
      · rw [if_pos h1]; exact W
      rw [if_neg h1]
      by_cases h2 : m < (sizeAt Z p : Int)
      · rw [if_pos h2]; exact W
      rw [if_neg h2]
      have hf : n.file = false := by simpa using h1
      refine wf_set W (Nat.le_refl c) e2 rfl rfl (fun z => W.dirp n hn z) (fun y hy => ⟨hf, ?_⟩) (W.pcn n hn) (W.ptx n hn)
      have : m = y := Option.some.inj hy
      omega
theorem wf_doE (W : WF c Z) (en : Ent) (h : en.Ok) : WF (c + 1) (doE Z st en).1 := by
  have W1 := W.mono (Nat.le_succ c)
  cases en with
  | odd l => exact W1
  | deed d =>
    show WF (c + 1) (doD Z st d).1
    cases d with
    | mkdir x =>
      simp only [doD]
      cases e : split x with
      | none => exact W1
      | some p => exact wf_mkN W1 _ (split_good e).1 (split_good e).2
    | create x =>
      simp only [doD]
      cases e : split x with
      | none => exact W1
      | some p => exact wf_mkN W1 _ (split_good e).1 (split_good e).2
    | append x t =>
      simp only [doD]
      cases e : split x with
      | none => exact W1
      | some p => exact wf_wrN W t h.2.1
    | shut x =>
      simp only [doD]
      cases e : split x with
      | none => exact W1
      | some p => exact wf_seN W1
    | limit x m =>
      simp only [doD]
      cases e : split x with
      | none => exact W1
      | some p => exact wf_liN W1 h.2.2
    | move x y =>
      simp only [doD]
      cases e : split x with
      | none => exact W1
      | some p =>
        cases e2 : split y with
        | none => exact W1
        | some q => exact wf_mvN W1 (split_good e2).1
    | snapshot x y =>
      simp only [doD]
      cases e : split x with
      | none => exact W1
      | some p =>
        cases e2 : split y with
        | none => exact W1
        | some q => exact wf_snN W1 (split_good e2).1 (split_good e2).2
end
end Ah
/-! The space. -/
namespace Ah
open PySem PySem.Spec PyProof.Rows L2 He SX
structure Sys where
  Z : Tr
  m : Nat
  cl : Int → Option (Int × D)
def lastS (cl : Int → Option (Int × D)) (c : Int) : Int := match cl c with
  | none => 0
  | some p => p.1
def step (y : Sys) (c ser : Int) (en : Ent) : Sys × D :=
  if ser = lastS y.cl c + 1 then (⟨(doE y.Z ⟨((y.m + 1 : Nat) : Int), c, ser⟩ en).1, y.m + 1, fun x => if x = c then some (ser, (doE y.Z ⟨((y.m + 1 : Nat) : Int), c, ser⟩ en).2) else y.cl x⟩, (doE y.Z ⟨((y.m + 1 : Nat) : Int), c, ser⟩ en).2)
  else (⟨y.Z, y.m + 1, y.cl⟩, .t [.s "skipped"])
structure Sg where
  sp : Addr
  cd : Addr
  g : Gh
def Sg.fp (q : Sg) : List Addr := q.sp :: q.cd :: q.g.fp
def ClAt (H : Hp) (kvs : List (Key × V)) (cl : Int → Option (Int × D)) (c : Int) : Prop :=
  (cl c = none ∧ valV kvs (Sum.inl c) = none) ∨ ∃ s d a v, cl c = some (s, d) ∧ valV kvs (Sum.inl c) = some (.ref a) ∧ H a = some (.tup [.int s, v]) ∧ isV H d v
structure SpAt (K : PySem.W.Frag) (H : Hp) (q : Sg) (y : Sys) : Prop where
  tree : TreeAt K H q.g y.Z
  nd : q.fp.Nodup
  sp : ∃ dx, H q.sp = some (.ins (ga K "Space") dx (fSpace (y.m : Int) q.cd q.g.t))
  cl : ∃ kvs, H q.cd = some (.dK kvs) ∧ kvs.length ≤ y.m ∧ ∀ c, ClAt H kvs y.cl c
section
variable {K : PySem.W.Frag} {H H' : Hp} {q : Sg} {y : Sys}
theorem ClAt.keep {kvs : List (Key × V)} {cl : Int → Option (Int × D)} {c : Int} (h : ClAt H kvs cl c) (t : TupK H H') : ClAt H' kvs cl c := by
  rcases h with h | ⟨s, d, a, v, h1, h2, h3, h4⟩
  · exact .inl h
  · exact .inr ⟨s, d, a, v, h1, h2, t _ _ h3, h4.keep t⟩
theorem SpAt.frame (S : SpAt K H q y) (h : ∀ b o, b ∈ q.fp → H b = some o → H' b = some o) (t : TupK H H') : SpAt K H' q y := by
  obtain ⟨dx, h1⟩ := S.sp
  obtain ⟨kvs, h2, h3, h4⟩ := S.cl
  exact ⟨S.tree.frame (fun b o hb => h b o (List.mem_cons_of_mem _ (List.mem_cons_of_mem _ hb))) t, S.nd, ⟨dx, h _ _ List.mem_cons_self h1⟩, ⟨kvs, h _ _ (List.mem_cons_of_mem _ List.mem_cons_self) h2, h3, fun c => (h4 c).keep t⟩⟩
theorem SpAt.same (S : SpAt K H q y) (s : Same H H') : SpAt K H' q y := S.frame (fun b o _ h => s b o h) (Same.tup s)
theorem SpAt.ne (S : SpAt K H q y) : q.sp ≠ q.cd ∧ q.sp ∉ q.g.fp ∧ q.cd ∉ q.g.fp := by
  obtain ⟨h1, h2⟩ := List.nodup_cons.mp S.nd
  exact ⟨fun z => h1 (by rw [z]; exact List.mem_cons_self), fun z => h1 (List.mem_cons_of_mem _ z), (List.nodup_cons.mp h2).1⟩
end
section
variable {P : Program} {w : World} {K : PySem.W.Frag} {mg : Str → Option Value} {base : Heap}
def P_Space___init__ (K : PySem.W.Frag) (a : V) (H : Hp) (Q : VK) : Prop := ∃ x dx, a = .ref x ∧ H x = some (.ins (ga K "Space") dx []) ∧
  ∀ (q : Sg) (H' : Hp), q.sp = x → SpAt K H' q ⟨[root], 0, fun _ => none⟩ → (∀ c o, c ≠ x → H c = some o → H' c = some o) → TupK H H' → (∀ c ∈ q.fp, c = x ∨ H c = none) → Q .non H'
abbrev N_Space___init__ : List Str := ["self"]
theorem sc_Space___init__ : FnScope N_Space___init__ ["self"] (defScope s_Space___init__) := ⟨rfl, rfl, rfl, by decide +kernel, rfl, by decide +kernel, by decide +kernel⟩
theorem ok_Space___init__ (T : Tx w K mg) : Cal P w K mg base 6 (fAd K ("Space", some "__init__")) (Sp1 (P_Space___init__ K)) := by
  refine mk1 (k := 5) T.fd_Space___init__ sc_Space___init__ (fun _ _ _ _ _ _ _  => rfl) fun cdv A outer s H E va Q hr h => ?_
  have hu := hu_of hr
  obtain ⟨x, dx, rfl, hx, k⟩ := h
  refine ⟨_, (pss_cons (ps_fld (pv 0) pe_int rfl)
      (pss_cons (ps_fld (pv 0) pe_dnewK rfl)
      (pss_one (ps_fld (pv 0) (pmake0 T.mk_Tree (ok_Tree___init__ T) hr (by decide) rfl T.g_Tree) rfl)))), ?_⟩
  dsimp only [cxOf, Cx.nox]
  refine ⟨_, rfl, x, _, dx, _, rfl, hx, T.c_Space, T.n_Space_applied, (by show 0 < 1000; decide), ?_⟩
  intro cd hcd
  have nxc : x ≠ cd := fun z => by rw [← z, upd_same] at hcd; cases hcd
  rw [upd_ne nxc.symm] at hcd
  refine ⟨_, rfl, x, _, dx, _, rfl, (by rw [upd_ne nxc]; exact upd_same), T.c_Space, T.n_Space_clients, (by show 1 < 1000; decide), ?_⟩
  generalize eH1 : upd (upd (upd H x (.ins (ga K "Space") dx (putF "_applied" (.int 0) []))) cd (.dK [])) x (.ins (ga K "Space") dx (putF "_clients" (.ref cd) (putF "_applied" (.int 0) []))) = H1
  have kp1 : ∀ c o, c ≠ x → H c = some o → H1 c = some o := fun c o hc h => by
    rw [← eH1, upd_ne hc, upd_ne (ne_of_none h hcd), upd_ne hc]
    exact h
  have h1x : H1 x = some (.ins (ga K "Space") dx (putF "_clients" (.ref cd) (putF "_applied" (.int 0) []))) := by rw [← eH1, upd_same]
  have h1c : H1 cd = some (.dK []) := by rw [← eH1, upd_ne nxc.symm, upd_same]
  have fr1 : ∀ c, H1 c = none → H c = none := fun c h => by
    cases e : H c with
    | none => rfl
    | some o =>
      by_cases z : c = x
      · subst z
        rw [h1x] at h
        cases h
      · rw [kp1 c o z e] at h
        cases h
  clear eH1
  intro t td nt ntd ne
  refine ⟨t, td, rfl, upd_same, fun g H2 hg R2 kp2 tk2 nw2 => ⟨rfl, ?_⟩⟩
  have nxt : x ≠ t := ne_of_none h1x nt
  have nxtd : x ≠ td := ne_of_none h1x ntd
  have kp3 : ∀ c o, H1 c = some o → H2 c = some o := fun c o h => kp2 c o (ne_of_none h nt) (by rw [upd_ne (ne_of_none h nt), upd_ne (ne_of_none h ntd)]; exact h)
  have fr3 : ∀ c ∈ g.fp, H1 c = none := fun c hc => by
    rcases nw2 c hc with rfl | h
    · exact nt
    · by_cases z : c = t
      · rw [z]; exact nt
      · rw [upd_ne z] at h
        by_cases z2 : c = td
        · rw [z2]; exact ntd
        · rw [upd_ne z2] at h
          exact h
  refine ⟨_, rfl, x, _, dx, _, rfl, kp3 _ _ h1x, T.c_Space, T.n_Space_tree, putF_few (n := 1) (by exact Nat.le_refl 1) (by decide), ?_⟩
  rw [init3 (by decide +kernel) (by decide +kernel)]
  have kp4 : ∀ c o, c ≠ x → H2 c = some o → (upd H2 x (.ins (ga K "Space") dx (FS.zip [.int 0, .ref cd, .ref t]))) c = some o := fun c o hc h => by
    rw [upd_ne hc]
    exact h
  have xng : x ∉ g.fp := fun z => by
    have := fr3 x z
    rw [h1x] at this
    cases this
  have cng : cd ∉ g.fp := fun z => by
    have := fr3 cd z
    rw [h1c] at this
    cases this
  have tk4 : TupK H (upd H2 x (.ins (ga K "Space") dx (FS.zip [.int 0, .ref cd, .ref t]))) := fun c xs h => by
    have hc : c ≠ x := fun z => by rw [z, hx] at h; cases h
    exact kp4 c _ hc (kp3 _ _ (kp1 _ _ hc h))
  refine k ⟨x, cd, g⟩ _ rfl ⟨R2.frame (fun b o hb h => kp4 b o (fun z => xng (by rw [← z]; exact hb)) h) (fun c xs h => kp4 c _ (fun z => by rw [z, kp3 _ _ h1x] at h; cases h) h), List.nodup_cons.mpr ⟨fun z => ?_, List.nodup_cons.mpr ⟨cng, R2.nd⟩⟩, ⟨dx, by rw [upd_same, hg] <;> rfl⟩, ⟨[], kp4 _ _ nxc.symm (kp3 _ _ h1c), Nat.le_refl 0, fun c => .inl ⟨rfl, rfl⟩⟩⟩ (fun c o hc h => kp4 c o hc (kp3 _ _ (kp1 _ _ hc h))) tk4 (fun c hc => ?_)
  · rcases List.mem_cons.mp z with z | z
    · exact nxc z
    · exact xng z
  · have hc : c ∈ x :: cd :: g.fp := hc
    rcases List.mem_cons.mp hc with hc | hc
    · exact .inl hc
    · rcases List.mem_cons.mp hc with hc | hc
      · rw [hc]; exact .inr hcd
      · exact .inr (fr1 _ (fr3 c hc))
def P_Space_applied (K : PySem.W.Frag) (a : V) (H : Hp) (Q : VK) : Prop := ∃ (q : Sg) (y : Sys), a = .ref q.sp ∧ SpAt K H q y ∧ Q (.int (y.m : Int)) H
abbrev N_Space_applied : List Str := ["self"]
theorem sc_Space_applied : FnScope N_Space_applied ["self"] (defScope s_Space_applied) := ⟨rfl, rfl, rfl, by decide +kernel, rfl, by decide +kernel, by decide +kernel⟩
theorem ok_Space_applied (T : Tx w K mg) : Cal P w K mg base 1 (gAd K Ah.p_Space_applied) (Sp1 (P_Space_applied K)) := by
  refine mk1 (k := 0) T.pr_Space_applied.2 sc_Space_applied (fun _ _ _ _ _ _ _  => rfl) fun cdv A outer s H E va Q hr h => ?_
  have hu := hu_of hr
  obtain ⟨q, y, rfl, R, k⟩ := h
  refine ⟨_, (pss_one (ps_ret (pe_fld (pv 0) rfl))), ?_⟩
  obtain ⟨dx, hs⟩ := R.sp
  exact ⟨_, rfl, q.sp, _, dx, _, _, rfl, hs, T.c_Space, T.n_Space_applied, zget fS0 rfl, k⟩
def P_Space_last_serial (K : PySem.W.Frag) (a b : V) (H : Hp) (Q : VK) : Prop := ∃ (q : Sg) (y : Sys) (c : Int), a = .ref q.sp ∧ b = .int c ∧ SpAt K H q y ∧ Q (.int (lastS y.cl c)) H
abbrev N_Space_last_serial : List Str := ["self", "client"]
theorem sc_Space_last_serial : FnScope N_Space_last_serial ["self", "client"] (defScope s_Space_last_serial) := ⟨rfl, rfl, rfl, by decide +kernel, rfl, by decide +kernel, by decide +kernel⟩
theorem ok_Space_last_serial (T : Tx w K mg) : Cal P w K mg base 1 (fAd K ("Space", some "last_serial")) (Sp2 (P_Space_last_serial K)) := by
  refine mk2 (k := 0) T.fd_Space_last_serial sc_Space_last_serial (fun _ _ _ _ _ _ _ _  => rfl) fun cdv A outer s H E va vb Q hr h => ?_
  have hu := hu_of hr
  obtain ⟨q, y, c, rfl, rfl, R, k⟩ := h
  refine ⟨_, (pss_cons (ps_if (pt_cmp (pc_dnotin hu (pv 1) (pe_fld (pv 0) rfl))) (pss_one (ps_ret pe_int)) pss_nil)
      (pss_one (ps_ret (pe_ix ix_tup (pe_dget hu (pe_fld (pv 0) rfl) (pv 1) (fun _ _ => rfl)) pe_int (fun _ _ => rfl))))), ?_⟩
  dsimp only [cxOf, Cx.nox]
  obtain ⟨dx, hs⟩ := R.sp
  obtain ⟨kvs, h1, h2, h3⟩ := R.cl
  unfold lastS at k
  refine ⟨_, rfl, _, rfl, q.sp, _, dx, _, _, rfl, hs, T.c_Space, T.n_Space_clients, zget fS1 rfl, q.cd, _, rfl, DGet.k (k := Sum.inl c) h1, _, rfl, ?_⟩
  rcases h3 c with ⟨e1, e2⟩ | ⟨s, d, a, v, e1, e2, e3, e4⟩
  · rw [e2]
    rw [e1] at k
    exact iteT k
  · rw [e2]
    rw [e1] at k
    refine iteF ?_
    exact ⟨_, rfl, q.sp, _, dx, _, _, rfl, hs, T.c_Space, T.n_Space_clients, zget fS1 rfl, _, rfl, q.cd, _, rfl, by rw [← e2]; exact DGet.k (k := Sum.inl c) h1, a, _, _, _, rfl, rfl, SqT.of e3, atI_nat (j := 0) rfl, k⟩
def P_Space_last_answer (K : PySem.W.Frag) (a b : V) (H : Hp) (Q : VK) : Prop := ∃ (q : Sg) (y : Sys) (c : Int), a = .ref q.sp ∧ b = .int c ∧ SpAt K H q y ∧ (y.cl c = none → Q .non H) ∧ (∀ s d v, y.cl c = some (s, d) → isV H d v → Q v H)
abbrev N_Space_last_answer : List Str := ["self", "client"]
theorem sc_Space_last_answer : FnScope N_Space_last_answer ["self", "client"] (defScope s_Space_last_answer) := ⟨rfl, rfl, rfl, by decide +kernel, rfl, by decide +kernel, by decide +kernel⟩
theorem ok_Space_last_answer (T : Tx w K mg) : Cal P w K mg base 1 (fAd K ("Space", some "last_answer")) (Sp2 (P_Space_last_answer K)) := by
  refine mk2 (k := 0) T.fd_Space_last_answer sc_Space_last_answer (fun _ _ _ _ _ _ _ _  => rfl) fun cdv A outer s H E va vb Q hr h => ?_
  have hu := hu_of hr
  obtain ⟨q, y, c, rfl, rfl, R, k1, k2⟩ := h
  refine ⟨_, (pss_cons (ps_if (pt_cmp (pc_dnotin hu (pv 1) (pe_fld (pv 0) rfl))) (pss_one (ps_ret pe_non)) pss_nil)
      (pss_one (ps_ret (pe_ix ix_tup (pe_dget hu (pe_fld (pv 0) rfl) (pv 1) (fun _ _ => rfl)) pe_int (fun _ _ => rfl))))), ?_⟩
  dsimp only [cxOf, Cx.nox]
  obtain ⟨dx, hs⟩ := R.sp
  obtain ⟨kvs, h1, h2, h3⟩ := R.cl
  refine ⟨_, rfl, _, rfl, q.sp, _, dx, _, _, rfl, hs, T.c_Space, T.n_Space_clients, zget fS1 rfl, q.cd, _, rfl, DGet.k (k := Sum.inl c) h1, _, rfl, ?_⟩
  rcases h3 c with ⟨e1, e2⟩ | ⟨s, d, a, v, e1, e2, e3, e4⟩
  · rw [e2]
    exact iteT (k1 e1)
  · rw [e2]
    refine iteF ?_
    exact ⟨_, rfl, q.sp, _, dx, _, _, rfl, hs, T.c_Space, T.n_Space_clients, zget fS1 rfl, _, rfl, q.cd, _, rfl, by rw [← e2]; exact DGet.k (k := Sum.inl c) h1, a, _, _, _, rfl, rfl, SqT.of e3, atI_nat (j := 1) rfl, k2 s d v e1 e4⟩
def P_Space_query (K : PySem.W.Frag) (a b : V) (H : Hp) (Q : VK) : Prop := ∃ (q : Sg) (y : Sys) (e : Nat) (qa : Addr) (qy : Qy), a = .ref q.sp ∧ b = .ref qa ∧ SpAt K H q y ∧ WF e y.Z ∧ H qa = some (.tup [.str (S qy.w), itmV qy.it]) ∧ qy.Ok ∧ Ans' H (ask y.Z qy) Q
abbrev N_Space_query : List Str := ["self", "query"]
theorem sc_Space_query : FnScope N_Space_query ["self", "query"] (defScope s_Space_query) := ⟨rfl, rfl, rfl, by decide +kernel, rfl, by decide +kernel, by decide +kernel⟩
theorem ok_Space_query (T : Tx w K mg) : Cal P w K mg base 16 (fAd K ("Space", some "query")) (Sp2 (P_Space_query K)) := by
  refine mk2 (k := 15) T.fd_Space_query sc_Space_query (fun _ _ _ _ _ _ _ _  => rfl) fun cdv A outer s H E va vb Q hr h => ?_
  have hu := hu_of hr
  obtain ⟨q, y, e, qa, qy, rfl, rfl, R, W, hqa, hok, k⟩ := h
  refine ⟨_, (pss_one (ps_ret (pcall (ok_answer_query T) hr (by decide) rfl T.g_answer_query (pa_cons (pe_fld (pv 0) rfl) (pa_cons (pv 1) pa_nil))))), ?_⟩
  obtain ⟨dx, hs⟩ := R.sp
  exact ⟨_, rfl, q.sp, _, dx, _, _, rfl, hs, T.c_Space, T.n_Space_tree, zget fS2 rfl, _, rfl, q.g, y.Z, e, qa, qy, rfl, rfl, R.tree, W, hqa, hok, k⟩
def P_Space_apply (K : PySem.W.Frag) (a b : V) (H : Hp) (Q : VK) : Prop := ∃ (q : Sg) (y : Sys) (e : Nat) (ra da : Addr) (c ser : Int) (en : Ent), a = .ref q.sp ∧ b = .ref ra ∧ SpAt K H q y ∧ WF e y.Z ∧ e ≤ 900 ∧ y.m ≤ 900 ∧ H ra = some (.tup [.int c, .int ser, .ref da]) ∧ H da = some (.tup (en.its.map itmV)) ∧ en.Ok ∧
  ∀ (q' : Sg) (H' : Hp) (v : V), q'.sp = q.sp → SpAt K H' q' (step y c ser en).1 → Post q.fp q'.fp H H' → isV H' (step y c ser en).2 v → Q v H'
abbrev N_Space_apply : List Str := ["self", "record", "client", "serial", "deed", "answer"]
theorem sc_Space_apply : FnScope N_Space_apply ["self", "record"] (defScope s_Space_apply) := ⟨rfl, rfl, rfl, by decide +kernel, rfl, by decide +kernel, by decide +kernel⟩
theorem ok_Space_apply (T : Tx w K mg) : Cal P w K mg base 25 (fAd K ("Space", some "apply")) (Sp2 (P_Space_apply K)) := by
  refine mk2 (k := 24) T.fd_Space_apply sc_Space_apply (fun _ _ _ _ _ _ _ _  => rfl) fun cdv A outer s H E va vb Q hr h => ?_
  have hu := hu_of hr
  obtain ⟨q, y, e, ra, da, c, ser, en, rfl, rfl, R, W, he, hm, hra, hda, hok, k⟩ := h
  refine ⟨_, (pss_cons (ps_asg (pv 1) (pg_tup rfl (pgs_cons (pg_name (i := 2) sc_Space_apply.nd rfl (Or.inl rfl)) (pgs_cons (pg_name (i := 3) sc_Space_apply.nd rfl (Or.inl rfl)) (pgs_cons (pg_name (i := 4) sc_Space_apply.nd rfl (Or.inl rfl)) pgs_nil)))))
      (pss_cons (ps_fldaug (pv 0) pe_int in_add)
      (pss_cons (ps_if (pt_cmpR op_ne (pv 3) (pe_op op_add (pmeth T.c_Space T.m_Space_last_serial (ok_Space_last_serial T) hr (by decide) (pv 0) (pa_cons (pv 2) pa_nil)) pe_int) (nomark _)) (pss_one (ps_ret (pe_tup (pa_cons pe_str pa_nil)))) pss_nil)
      (pss_cons (ps_set (i := 5) sc_Space_apply.nd rfl (Or.inl rfl) (pcall (ok_apply_deed T) hr (by decide) rfl T.g_apply_deed (pa_cons (pe_fld (pv 0) rfl) (pa_cons (pe_tup (pa_cons (pe_fld (pv 0) rfl) (pa_cons (pv 2) (pa_cons (pv 3) pa_nil)))) (pa_cons (pv 4) pa_nil)))))
      (pss_cons (ps_dput hu (pe_fld (pv 0) rfl) (pv 2) (pe_tup (pa_cons (pv 3) (pa_cons (pv 5) pa_nil))) rfl)
      (pss_one (ps_ret (pv 5)))))))), ?_⟩
  dsimp only [cxOf, Cx.nox]
  obtain ⟨dx, hs⟩ := R.sp
  obtain ⟨n1, n2, n3⟩ := R.ne
  refine ⟨_, rfl, ra, _, rfl, SqT.of hra, rfl, _, _, rfl, _, _, rfl, _, _, rfl, rfl, ?_⟩
  refine ⟨_, rfl, q.sp, _, dx, _, _, rfl, hs, T.c_Space, T.n_Space_applied, zget fS0 rfl, _, _, rfl, rfl, dx, _, hs, zlen (by decide), ?_⟩
  rw [zput fS0]
  generalize eH1 : upd H q.sp (.ins (ga K "Space") dx (FS.zip ([.int (y.m : Int), .ref q.cd, .ref q.g.t].set 0 (.int ((y.m : Int) + 1))))) = H1
  have h1s : H1 q.sp = some (.ins (ga K "Space") dx (fSpace (((y.m + 1 : Nat) : Int)) q.cd q.g.t)) := by rw [← eH1, upd_same] <;> rfl
  have kp1 : ∀ b o, b ≠ q.sp → H b = some o → H1 b = some o := fun b o hb h => by
    rw [← eH1, upd_ne hb]
    exact h
  clear eH1
  have t1 : TupK H H1 := fun b xs h => kp1 b _ (ne_of h hs (by intro z; cases z)) h
  have T1 : TreeAt K H1 q.g y.Z := R.tree.frame (fun b o hb h => kp1 b o (fun z => n2 (by rw [← z]; exact hb)) h) t1
  obtain ⟨kvs, hk1, hk2, hk3⟩ := R.cl
  have R1 : SpAt K H1 q ⟨y.Z, y.m + 1, y.cl⟩ := ⟨T1, R.nd, ⟨dx, h1s⟩, ⟨kvs, kp1 _ _ n1.symm hk1, Nat.le_succ_of_le hk2, fun c => (hk3 c).keep t1⟩⟩
  refine ⟨_, rfl, _, rfl, q.sp, dx, _, rfl, h1s, znone (by decide +kernel), _, rfl, q, _, c, rfl, rfl, R1, _, _, rfl, rfl, rfl, _, rfl, ?_⟩
  unfold step at k
  have edec : (!decide (V.int ser = V.int (lastS y.cl c + 1))) = !decide (ser = lastS y.cl c + 1) := by
    congr 1
    rw [Bool.eq_iff_iff, decide_eq_true_eq, decide_eq_true_eq, V.int.injEq]
  have post1 : Post q.fp q.fp H H1 := ⟨fun b o h hb => kp1 b o (fun z => hb (by rw [z]; exact List.mem_cons_self)) h, t1, fun _ h => .inl h⟩
  refine iteB (fun h4 => ?_) (fun h4 => ?_)
  · have h4' : ¬ ser = lastS y.cl c + 1 := of_decide_eq_false (nb1 (edec.symm.trans h4))
    simp only [if_neg h4'] at k
    refine ⟨sm64 (by show 1 ≤ 10000; decide), fun p hp => ?_⟩
    have s2 := same_new (o := .tup [.str "skipped"]) hp
    exact k q _ _ rfl (R1.same s2) (post1.trans (Post.same s2)) (isV.tup upd_same (isVs.cons isV.str isVs.nil))
  have h4' : ser = lastS y.cl c + 1 := of_decide_eq_true (nb2 (edec.symm.trans h4))
  simp only [if_pos h4'] at k
  refine ⟨_, rfl, q.sp, _, dx, _, _, rfl, h1s, T.c_Space, T.n_Space_tree, zget fS2 rfl, ?_⟩
  refine ⟨_, rfl, q.sp, _, dx, _, _, rfl, h1s, T.c_Space, T.n_Space_applied, zget fS0 rfl, _, rfl, _, rfl, sm64 (by show 3 ≤ 10000; decide), fun sa hsa => ?_⟩
  have s2 := same_new (o := .tup [.int ((y.m + 1 : Nat) : Int), .int c, .int ser]) hsa
  have ndr : ra ≠ q.sp := ne_of hra hs (by intro z; cases z)
  have ndd : da ≠ q.sp := ne_of hda hs (by intro z; cases z)
  refine ⟨_, rfl, q.g, y.Z, e, sa, da, ⟨((y.m + 1 : Nat) : Int), c, ser⟩, en, rfl, rfl, rfl, T1.same s2, W, he, upd_same, s2 _ _ (kp1 _ _ ndd hda), hok, fun g' H3 v hg R3 P3 hv => ?_⟩
  -- the clients' dict
  have fr1 : ∀ b, H1 b = none → H b = none := fun b h => by
    cases e : H b with
    | none => rfl
    | some o =>
      by_cases z : b = q.sp
      · subst z
        rw [h1s] at h
        cases h
      · rw [kp1 b o z e] at h
        cases h
  have h3s : H3 q.sp = some (.ins (ga K "Space") dx (fSpace (((y.m + 1 : Nat) : Int)) q.cd q.g.t)) := P3.keep _ _ (s2 _ _ h1s) n2
  have h3c : H3 q.cd = some (.dK kvs) := P3.keep _ _ (s2 _ _ (kp1 _ _ n1.symm hk1)) n3
  have t3 : TupK H H3 := t1.trans ((Same.tup s2).trans P3.tup)
  refine ⟨_, rfl, _, rfl, sm64 (by show 2 ≤ 10000; decide), fun p hp => ?_⟩
  have s4 := same_new (o := .tup [.int ser, v]) hp
  refine ⟨_, rfl, q.sp, _, dx, _, _, rfl, s4 _ _ h3s, T.c_Space, T.n_Space_clients, zget fS1 rfl, _, rfl, q.cd, _, rfl, DPut.k (k := Sum.inl c) (s4 _ _ h3c) (sm63 (by omega)), ?_⟩
  generalize eH5 : upd (upd H3 p (.tup [.int ser, v])) q.cd (.dK (putK kvs (Sum.inl c) (.ref p))) = H5
  have kp5 : ∀ b o, b ≠ q.cd → H3 b = some o → H5 b = some o := fun b o hb h => by
    rw [← eH5, upd_ne hb]
    exact s4 _ _ h
  have npc : p ≠ q.cd := (ne_of_none h3c hp).symm
  have h5p : H5 p = some (.tup [.int ser, v]) := by rw [← eH5, upd_ne npc, upd_same]
  have h5c : H5 q.cd = some (.dK (putK kvs (Sum.inl c) (.ref p))) := by rw [← eH5, upd_same]
  clear eH5
  have t5 : TupK H3 H5 := fun b xs h => kp5 b _ (ne_of h h3c (by intro z; cases z)) h
  have ng : ∀ b ∈ g'.fp, b ≠ q.sp ∧ b ≠ q.cd := fun b hb => by
    rcases P3.new b hb with h | h
    · exact ⟨fun z => n2 (by rw [← z]; exact h), fun z => n3 (by rw [← z]; exact h)⟩
    · exact ⟨fun z => (by rw [z, s2 _ _ h1s] at h; cases h), fun z => (by rw [z, s2 _ _ (kp1 _ _ n1.symm hk1)] at h; cases h)⟩
  refine ⟨_, rfl, ?_⟩
  refine k ⟨q.sp, q.cd, g'⟩ H5 v rfl ⟨R3.frame (fun b o hb h => kp5 b o (ng b hb).2 h) t5, ?_, ⟨dx, by show H5 q.sp = some (.ins (ga K "Space") dx (fSpace (((y.m + 1 : Nat) : Int)) q.cd g'.t)); rw [hg]; exact kp5 _ _ n1 h3s⟩, ⟨putK kvs (Sum.inl c) (.ref p), h5c, ?_, ?_⟩⟩ ?_ (hv.keep t5)
  · refine List.nodup_cons.mpr ⟨fun z => ?_, List.nodup_cons.mpr ⟨fun z => (ng _ z).2 rfl, R3.nd⟩⟩
    rcases List.mem_cons.mp z with z | z
    · exact n1 z
    · exact (ng _ z).1 rfl
  · have := length_putK kvs (Sum.inl c) (.ref p)
    exact Nat.le_trans this (Nat.succ_le_succ hk2)
  · intro x
    by_cases hxc : x = c
    · subst hxc
      exact .inr ⟨_, _, p, v, if_pos rfl, by rw [valV_put, if_pos rfl], h5p, hv.keep t5⟩
    · have nk : ¬ (Sum.inl x : Key) = Sum.inl c := fun z => hxc (Sum.inl.inj z)
      rcases (hk3 x).keep (t3.trans t5) with ⟨h7, h8⟩ | ⟨s7, d7, a7, v7, h7, h8, h9, h10⟩
      · exact .inl ⟨(if_neg hxc).trans h7, by rw [valV_put, if_neg nk]; exact h8⟩
      · exact .inr ⟨s7, d7, a7, v7, (if_neg hxc).trans h7, by rw [valV_put, if_neg nk]; exact h8, h9, h10⟩
  · refine post1.trans ⟨fun b o h hb => ?_, (Same.tup s2).trans (P3.tup.trans t5), fun b hb => ?_⟩
    · refine kp5 b o (fun z => hb (by rw [z]; exact List.mem_cons_of_mem _ List.mem_cons_self)) (P3.keep b o (s2 _ _ h) fun z => hb (List.mem_cons_of_mem _ (List.mem_cons_of_mem _ z)))
    · have hb : b ∈ q.sp :: q.cd :: g'.fp := hb
      rcases List.mem_cons.mp hb with hb | hb
      · exact .inl (by rw [hb]; exact List.mem_cons_self)
      · rcases List.mem_cons.mp hb with hb | hb
        · exact .inl (by rw [hb]; exact List.mem_cons_of_mem _ List.mem_cons_self)
        · rcases P3.new b hb with h | h
          · exact .inl (List.mem_cons_of_mem _ (List.mem_cons_of_mem _ h))
          · exact .inr (s2.free h)
end
end Ah
/-! The law's own tree: paths, places, sizes. -/
namespace Ah
open PySem PySem.Spec PyProof.Rows L2 He SX
theorem pcat_join : ∀ {p : List Nm}, p ≠ [] → 47 :: TL.joinL [47] p = pcat p
  | [], h => absurd rfl h
  | [n], _ => by simp [TL.joinL, pcat_one]
  | n :: m :: r, _ => by
    have := pcat_join (p := m :: r) (by simp)
    rw [pcat_cons, ← this]
    show 47 :: (n ++ ([47] ++ TL.joinL [47] (m :: r))) = _
    rfl
theorem isNm_len {n : Nm} (h : isNm n = true) : n.length ≤ 12 := (isNm_iff.mp h).1.2
theorem pcat_len13 {p : List Nm} (g : Good p) (h : p.length ≤ 6) : (pcat p).length ≤ 78 := by
  have := pcat_len (p := p) (b := 12) fun n hn => isNm_len (g n hn)
  omega
theorem Good.take {p : List Nm} (g : Good p) (i : Nat) : Good (p.take i) := fun n hn => g n (List.mem_of_mem_take hn)
theorem Good.app1 {p : List Nm} {x : Nm} (g : Good p) (h : isNm x = true) : Good (p ++ [x]) := fun n hn => (List.mem_append.mp hn).elim (g n) fun z => by rw [List.mem_singleton.mp z]; exact h
/-- what the law's dict of places holds -/
def PlAt (kvs : List (Key × V)) (Z : Tr) : Prop := ∀ q : List Nm, Good q → valV kvs (Sum.inr (S (pcat q))) = (idx Z q).map fun (j : Nat) => V.int (j : Int)
theorem idx_snoc (Z : Tr) (n : Nd) (q : List Nm) : idx (Z ++ [n]) q = match idx Z q with | some k => some k | none => if n.path = q then some Z.length else none := by
  unfold idx
  rw [List.findIdx?_append]
  cases List.findIdx? (fun n => decide (n.path = q)) Z with
  | some k => rfl
  | none =>
    by_cases h : n.path = q
    · simp [h, List.findIdx?_cons]
    · simp [h, List.findIdx?_cons]
theorem startsP (a b : List Nat) (h : Txt.startswith (S a) (S b) = c) : decide (b <+: a) = c := by rw [← starts_S]; exact h
section
variable {P : Program} {w : World} {K : PySem.W.Frag} {mg : Str → Option Value} {base : Heap}
def P__law_split (K : PySem.W.Frag) (a : V) (H : Hp) (Q : VK) : Prop := ∃ x : Nm, a = .str (S x) ∧ x.length ≤ 2000 ∧ (∀ ns, split x = some ns → ∀ p, H p = none → Q (.ref p) (upd H p (.lst (nmV ns)))) ∧ (split x = none → ∀ H', Same H H' → Q .non H')
abbrev N__law_split : List Str := ["_law_path", "_law_names_here", "_law_name_here", "_law_sign"]
theorem sc__law_split : FnScope N__law_split ["_law_path"] (defScope s_law_split) := ⟨rfl, rfl, rfl, by decide +kernel, rfl, by decide +kernel, by decide +kernel⟩
theorem ok__law_split (T : Tx w K mg) : Cal P w K mg base 1 (fAd K ("_law_split", none)) (Sp1 (P__law_split K)) := by
  refine mk1 (k := 0) T.fd_law_split sc__law_split (fun _ _ _ _ _ _ _  => rfl) fun cdv A outer s H E va Q hr h => ?_
  have hu := hu_of hr
  obtain ⟨x, rfl, hl, k1, k2⟩ := h
  refine ⟨_, (pss_cons (ps_if (pt_cmpR op_eq (pv 0) pe_str (nomark _)) (pss_one (ps_ret (pe_lst pa_nil))) pss_nil)
      (pss_cons (ps_if (pt_cmpR op_ne (pe_slice sl_str (pv 0) po_none (po_some pe_int)) pe_str (nomark _)) (pss_one (ps_ret pe_non)) pss_nil)
      (pss_cons (ps_set (i := 1) sc__law_split.nd rfl (Or.inl rfl) (pe_split (pe_slice sl_str (pv 0) (po_some pe_int) po_none) pe_str))
      (pss_cons (ps_if (pt_cmpR op_gt (pe_callB call_len_seq (by rfl) T.f_len (by decide +kernel) (pa_cons (pv 1) pa_nil)) pe_int (nomark _)) (pss_one (ps_ret pe_non)) pss_nil)
      (pss_cons (ps_for PassesOwn.never rfl (pi_list (pv 1)) (pg_name (i := 2) sc__law_split.nd rfl (Or.inl rfl))
      (pss_cons (ps_if (PW.pt (pw_or (pt_not (pt_chain op_le op_le pe_int (pe_callB call_len_str (by rfl) T.f_len (by decide +kernel) (pa_cons (pv 2) pa_nil)) pe_int)) (pw_or (pt_cmpR op_eq (pv 2) pe_str (nomark _)) (pw_or1 (pt_cmpR op_eq (pv 2) pe_str (nomark _)))))) (pss_one (ps_ret pe_non)) pss_nil)
      (pss_one (ps_for PassesOwn.never rfl (pi_str (pv 2)) (pg_name (i := 3) sc__law_split.nd rfl (Or.inl rfl))
      (pss_one (ps_if (pt_cmpR op_notIn_sign (pv 3) pe_str (by rfl)) (pss_one (ps_ret pe_non)) pss_nil))))))
      (pss_one (ps_ret (pv 1)))))))), ?_⟩
  dsimp only [cxOf, Cx.nox]
  refine ⟨_, rfl, rfl, _, rfl, iteB (fun h2 => ?_) (fun h2 => ?_)⟩
  · rw [lSl] at h2
    have er : x = [47] := by simpa [S_eq_iff] using h2
    subst er
    exact ⟨sm64 (by show 0 ≤ 10000; decide), fun p hp => k1 [] rfl p hp⟩
  rw [lSl] at h2
  have er : x ≠ [47] := by simpa [S_eq_iff] using h2
  refine ⟨_, rfl, _, rfl, _, rfl, S_len63 hl (by decide), ?_⟩
  rw [show cutS (S x) none (some 1) = S (x.take 1) from cut_to x 1]
  refine ⟨rfl, _, rfl, iteB (fun h1 => ?_) (fun h1 => ?_)⟩
  · rw [lSl] at h1
    refine k2 ?_ H (Same.refl H)
    match x with
    | [] => rfl
    | c :: r =>
      have : c ≠ 47 := by
        rintro rfl
        simp at h1
      unfold split
      split
      · rename_i e
        cases e
        exact absurd rfl this
      · rfl
  rw [lSl] at h1
  obtain ⟨r, rfl⟩ : ∃ r, x = 47 :: r := by
    match x with
    | [] => simp [S_eq_iff] at h1
    | c :: r =>
      have : c = 47 := by simpa [S_eq_iff] using h1
      exact ⟨r, by rw [this]⟩
  have er : r ≠ [] := fun z => er (by rw [z])
  refine ⟨_, rfl, _, rfl, _, rfl, S_len63 hl (by decide), ⟨_, rfl⟩, _, _, rfl, rfl, rfl, ?_, fun p hp => ?_⟩
  · have e63 : sizeLine = 16777216 := sizeLine_eq
    have h9 : (S (47 :: r)).length ≤ 2000 := by rw [S_len]; exact hl
    have := Nat.le_trans (cutS_length (S (47 :: r)) (some 1) none) h9
    show (cutS (S (47 :: r)) (some 1) none).length + 2 ≤ _
    omega
  have e1 : Txt.split (cutS (S (47 :: r)) (some 1) none) "/" = (TL.spl [47] 0 [] r).map S := by
    rw [show cutS (S (47 :: r)) (some 1) none = S r from cut_from (47 :: r) 1, lSl, SX.split_S (by decide) (by decide)]
  rw [e1]
  have e2 : ((TL.spl [47] 0 [] r).map S).map V.str = nmV (TL.spl [47] 0 [] r) := by rw [List.map_map] <;> rfl
  rw [e2]
  have hle : ∀ n ∈ TL.spl [47] 0 [] r, n.length ≤ 2000 := fun n hn => by
    have := spl_le r [] n hn
    have h9 : (47 :: r : Nm).length ≤ 2000 := hl
    rw [List.length_cons] at h9
    rw [List.length_nil] at this
    omega
  have esp : split (47 :: r) = if (TL.spl [47] 0 [] r).length ≤ 6 ∧ (TL.spl [47] 0 [] r).all isNm = true then some (TL.spl [47] 0 [] r) else none := by
    show (if r = [] then _ else _) = _
    rw [if_neg er]
  generalize TL.spl [47] 0 [] r = ns at esp hle
  have el : (nmV ns).length = ns.length := List.length_map _
  have no : ¬ (ns.length ≤ 6 ∧ ns.all isNm = true) → Q .non (upd H p (.lst (nmV ns))) := fun z => k2 (by rw [esp, if_neg z]) _ (same_new hp)
  refine ⟨_, rfl, p, _, rfl, .inl (SqL.of upd_same), _, _, rfl, rfl, _, rfl, iteB (fun h3 => no ?_) (fun h3 => ?_)⟩
  · rw [el] at h3
    have := of_decide_eq_true h3
    exact fun z => by omega
  rw [el] at h3
  have h3 := of_decide_eq_false h3
  generalize eH1 : upd H p (.lst (nmV ns)) = H1 at no
  have hp1 : H1 p = some (.lst (nmV ns)) := by rw [← eH1]; exact upd_same
  have k1' : ns.all isNm = true → Q (.ref p) H1 := fun z => by rw [← eH1]; exact k1 ns (by rw [esp, if_pos ⟨by omega, z⟩]) p hp
  clear eH1
  refine ⟨_, rfl, p, rfl, ⟨_, SqL.of hp1⟩, for_list (K := K) (a := p) (xs := nmV ns) (fun i σ H2 => ∃ o2 o3 : Option V, σ = [some (.str (S (47 :: r))), some (.ref p), o2, o3] ∧ H2 = H1 ∧ ∀ n ∈ ns.take i, isNm n = true) ⟨none, none, rfl, rfl, fun c hc => by simp at hc⟩ (fun i σ H2 _ ⟨_, _, _, e, _⟩ => by rw [e]; exact SqL.of hp1) ?_ ?_⟩
  · rintro i y σ H2 hy ⟨o2, o3, rfl, rfl, hh⟩
    obtain ⟨n, hn, rfl⟩ := map_at hy
    have hnm := List.mem_of_getElem? hn
    have bad : isNm n = false → Q .non H2 := fun e => no fun z => by
      have := List.all_eq_true.mp z.2 n hnm
      rw [this] at e
      cases e
    refine ⟨_, rfl, _, rfl, S_len63 (hle n hnm) (by decide), ?_⟩
    rw [S_len]
    refine ⟨_, _, rfl, rfl, _, rfl, iteB (fun h4 => ⟨_, _, rfl, rfl, _, rfl, iteB (fun h5 => iteT (bad ?_)) (fun h5 => ?_)⟩) (fun h4 => ⟨_, rfl, iteT (iteT (bad ?_))⟩)⟩
    · refine Bool.eq_false_iff.mpr fun z => ?_
      have := (isNm_iff.mp z).1.2
      have := of_decide_eq_false (nb1 h5)
      omega
    · have h5 := of_decide_eq_true (nb2 h5)
      have h4 := of_decide_eq_true h4
      refine ⟨_, rfl, rfl, _, rfl, iteB (fun h6 => iteT (bad ?_)) (fun h6 => ?_)⟩
      · rw [lDot] at h6
        have h6 : n = [46] := by simpa [S_eq_iff] using h6
        rw [h6]
        decide
      refine ⟨_, rfl, rfl, _, rfl, iteB (fun h7 => bad ?_) (fun h7 => ?_)⟩
      · rw [lDot2] at h7
        have h7 : n = [46, 46] := by simpa [S_eq_iff] using h7
        rw [h7]
        decide
      rw [lDot] at h6
      rw [lDot2] at h7
      have h6 : n ≠ [46] := by simpa [S_eq_iff] using h6
      have h7 : n ≠ [46, 46] := by simpa [S_eq_iff] using h7
      refine ⟨_, rfl, _, rfl, for_str (x := S n) (fun j σ H3 => ∃ o3 : Option V, σ = [some (.str (S (47 :: r))), some (.ref p), some (.str (S n)), o3] ∧ H3 = H2 ∧ ∀ c ∈ n.take j, c ∈ chars) ⟨_, rfl, rfl, fun c hc => by simp at hc⟩ ?_ ?_⟩
      · rintro j c σ H3 hc ⟨o3, rfl, rfl, hpc⟩
        have hc' : n[j]? = some c := by simpa using hc
        refine ⟨_, rfl, _, _, rfl, rfl, _, rfl, iteB (fun h8 => bad ?_) (fun h8 => ⟨_, rfl, rfl, all_take hpc hc' ?_⟩)⟩
        · rw [chars_S] at h8
          refine Bool.eq_false_iff.mpr fun z => ?_
          have z1 := (isNm_iff.mp z).2.1 c (List.mem_of_getElem? hc')
          simp [z1] at h8
        · rw [chars_S] at h8
          simpa using h8
      · rintro σ H3 ⟨o3, rfl, rfl, hpc⟩
        have hpc' : ∀ c ∈ n, c ∈ chars := fun c hc => hpc c (by rw [show (S n).cps.size = n.length from S_len n, List.take_length]; exact hc)
        exact ⟨_, _, rfl, rfl, all_take hh hn (isNm_iff.mpr ⟨⟨by omega, by omega⟩, hpc', h6, h7⟩)⟩
    · refine Bool.eq_false_iff.mpr fun z => ?_
      have := (isNm_iff.mp z).1.1
      have := of_decide_eq_false h4
      omega
  · rintro σ H2 ⟨o2, o3, rfl, rfl, hh⟩
    exact ⟨_, rfl, k1' (List.all_eq_true.mpr fun n hn => hh n (by rw [el, List.take_length]; exact hn))⟩
def P__law_places (K : PySem.W.Frag) (a : V) (H : Hp) (Q : VK) : Prop := ∃ (g : Lg) (Z : Tr) (e : Nat), a = .ref g.a ∧ LawAt H g Z ∧ WF e Z ∧ ∀ p kvs, H p = none → PlAt kvs Z → Q (.ref p) (upd H p (.dK kvs))
abbrev N__law_places : List Str := ["_law_nodes", "_law_places_here", "_law_k"]
theorem sc__law_places : FnScope N__law_places ["_law_nodes"] (defScope s_law_places) := ⟨rfl, rfl, rfl, by decide +kernel, rfl, by decide +kernel, by decide +kernel⟩
theorem ok__law_places (T : Tx w K mg) : Cal P w K mg base 1 (fAd K ("_law_places", none)) (Sp1 (P__law_places K)) := by
  refine mk1 (k := 0) T.fd_law_places sc__law_places (fun _ _ _ _ _ _ _  => rfl) fun cdv A outer s H E va Q hr h => ?_
  have hu := hu_of hr
  obtain ⟨g, Z, e, rfl, R, W, k⟩ := h
  refine ⟨_, (pss_cons (ps_set (i := 1) sc__law_places.nd rfl (Or.inl rfl) pe_dnewK)
      (pss_cons (ps_for PassesOwn.never rfl (pi_range1 (by rfl) T.f_range (pa_cons (pe_callB call_len_seq (by rfl) T.f_len (by decide +kernel) (pa_cons (pv 0) pa_nil)) pa_nil)) (pg_name (i := 2) sc__law_places.nd rfl (Or.inl rfl))
      (pss_one (ps_dput hu (pv 1) (pe_ix ix_list (pe_ix ix_list (pv 0) (pv 2) (fun _ _ => rfl)) pe_int (fun _ _ => rfl)) (pv 2) rfl)))
      (pss_one (ps_ret (pv 1))))), ?_⟩
  dsimp only [cxOf, Cx.nox]
  intro p hp
  have hZ := W.len
  have s0 : ∀ o, Same H (upd H p o) := fun o => same_new hp
  refine ⟨_, rfl, g.a, _, rfl, .inl (SqL.of (s0 _ _ _ R.top)), _, rfl, by omega, by rw [List.length_map, R.lla]; omega, ?_⟩
  rw [List.length_map, R.lla, Int.toNat_natCast]
  refine for_range (lo := 0) (n := Z.length) (fun i σ H2 => ∃ (o : Option V) (kvs : List (Key × V)), σ = [some (.ref g.a), some (.ref p), o] ∧ H2 = upd H p (.dK kvs) ∧ kvs.length ≤ i ∧ PlAt kvs (Z.take i)) ⟨none, [], rfl, rfl, Nat.le_refl 0, fun q _ => by rw [List.take_zero] <;> rfl⟩ ?_ ?_
  · rintro i σ H2 hi ⟨o, kvs, rfl, rfl, hlen, hpl⟩
    rw [Int.zero_add]
    obtain ⟨n, hn⟩ : ∃ n, Z[i]? = some n := ⟨_, List.getElem?_eq_getElem hi⟩
    obtain ⟨x, y, hx, hy, hrow, _⟩ := R.at hn
    refine ⟨_, rfl, _, rfl, _, rfl, _, rfl, g.a, _, _, _, rfl, rfl, SqL.of (s0 _ _ _ R.top), atI_nat (j := i) (mapref hx), x, _, _, _, rfl, rfl, SqL.of (s0 _ _ _ hrow), atI_nat (j := 1) rfl, p, _, rfl, DPut.k (k := Sum.inr (S (pcat n.path))) upd_same (sm63 (by omega)), ?_⟩
    refine ⟨_, putK kvs (Sum.inr (S (pcat n.path))) (.int (i : Int)), rfl, by rw [upd_upd], ?_, fun q hq => ?_⟩
    · have := length_putK kvs (Sum.inr (S (pcat n.path))) (.int (i : Int))
      omega
    · have gn := (W.good n (List.mem_of_getElem? hn)).1
      rw [valV_put, List.take_add_one, hn]
      show _ = (idx (Z.take i ++ [n]) q).map _
      rw [idx_snoc, List.length_take, Nat.min_eq_left (Nat.le_of_lt hi)]
      by_cases e : n.path = q
      · subst e
        rw [if_pos rfl]
        have : idx (Z.take i) n.path = none := idx_none.mpr fun m hm em => by
          obtain ⟨j, hj⟩ := List.getElem?_of_mem hm
          have hji : j < i := by
            have := (List.getElem?_eq_some_iff.mp hj).1
            rw [List.length_take] at this
            omega
          rw [List.getElem?_take_of_lt hji] at hj
          have := at_inj W.dist hj hn em
          omega
        rw [this, if_pos rfl] <;> rfl
      · have ne : ¬ (Sum.inr (S (pcat q)) : Key) = Sum.inr (S (pcat n.path)) := fun z => e (pcat_inj gn.fr hq.fr (inr_inj z).symm)
        rw [if_neg ne, hpl q hq, if_neg e]
        cases idx (Z.take i) q <;> rfl
  · rintro σ H2 ⟨o, kvs, rfl, rfl, hlen, hpl⟩
    rw [List.take_length] at hpl
    exact ⟨_, rfl, k p kvs hp hpl⟩
def P__law_look (K : PySem.W.Frag) (a b c : V) (H : Hp) (Q : VK) : Prop := ∃ (g : Lg) (Z : Tr) (e : Nat) (pd q : Addr) (kvs : List (Key × V)) (ns : List Nm), a = .ref g.a ∧ b = .ref pd ∧ c = .ref q ∧ LawAt H g Z ∧ WF e Z ∧ H pd = some (.dK kvs) ∧ PlAt kvs Z ∧ H q = some (.lst (nmV ns)) ∧ Good ns ∧ ns.length ≤ 6 ∧
  (∀ w, look Z [] ns = .no w → Q (.str w) H) ∧ (∀ k : Nat, look Z [] ns = .at k → Q (.int (k : Int)) H)
abbrev N__law_look : List Str := ["_law_nodes", "_law_places_here", "_law_names_here", "_law_path", "_law_name_here"]
theorem sc__law_look : FnScope N__law_look ["_law_nodes", "_law_places_here", "_law_names_here"] (defScope s_law_look) := ⟨rfl, rfl, rfl, by decide +kernel, rfl, by decide +kernel, by decide +kernel⟩
theorem ok__law_look (T : Tx w K mg) : Cal P w K mg base 1 (fAd K ("_law_look", none)) (Sp3 (P__law_look K)) := by
  refine mk3 (k := 0) T.fd_law_look sc__law_look (fun _ _ _ _ _ _ _ _ _  => rfl) fun cdv A outer s H E va vb vc Q hr h => ?_
  have hu := hu_of hr
  obtain ⟨g, Z, e, pd, q, kvs, ns, rfl, rfl, rfl, R, W, hpd, hpl, hq, gns, h6, k1, k2⟩ := h
  refine ⟨_, (pss_cons (ps_set (i := 3) sc__law_look.nd rfl (Or.inl rfl) pe_str)
      (pss_cons (ps_for PassesOwn.never rfl (pi_list (pv 2)) (pg_name (i := 4) sc__law_look.nd rfl (Or.inl rfl))
      (pss_cons (ps_if (pt_cmpR op_eq (pe_ix ix_list (pe_ix ix_list (pv 0) (pe_dget hu (pv 1) (pv 3) (fun _ _ => rfl)) (fun _ _ => rfl)) pe_int (fun _ _ => rfl)) pe_int (nomark _)) (pss_one (ps_ret pe_str)) pss_nil)
      (pss_cons (ps_set (i := 3) sc__law_look.nd rfl (Or.inl rfl) (pe_op op_add_str (pe_op op_add_str (pv 3) pe_str) (pv 4)))
      (pss_one (ps_if (pt_cmp (pc_dnotin hu (pv 3) (pv 1))) (pss_one (ps_ret pe_str)) pss_nil)))))
      (pss_one (ps_ret (pe_dget hu (pv 1) (pv 3) (fun _ _ => rfl)))))), ?_⟩
  dsimp only [cxOf, Cx.nox]
  have el : (nmV ns).length = ns.length := List.length_map _
  refine ⟨_, rfl, q, rfl, ⟨_, SqL.of hq⟩, for_list (K := K) (a := q) (xs := nmV ns) (fun i σ H2 => ∃ (o4 : Option V) (k : Nat), σ = [some (.ref g.a), some (.ref pd), some (.ref q), some (.str (S (pcat (ns.take i)))), o4] ∧ H2 = H ∧ idx Z (ns.take i) = some k ∧ look Z [] ns = look Z (ns.take i) (ns.drop i))
    ⟨none, 0, by rw [List.take_zero, pcat_nil, lEmp] <;> rfl, rfl, by rw [List.take_zero]; exact W.idx0, by rw [List.take_zero, List.drop_zero]⟩ (fun i σ H2 _ ⟨_, _, _, e, _⟩ => by rw [e]; exact SqL.of hq) ?_ ?_⟩
  · rintro i y σ H2 hy ⟨o4, kk, rfl, rfl, hi, hlk⟩
    obtain ⟨x, hx, rfl⟩ := map_at hy
    obtain ⟨hil, egx⟩ := List.getElem?_eq_some_iff.mp hx
    rw [List.drop_eq_getElem_cons hil, egx, look_cons] at hlk
    have etk : ns.take (i + 1) = ns.take i ++ [x] := by rw [List.take_add_one, hx] <;> rfl
    obtain ⟨n, hn, hpn⟩ := (idx_some W.dist).mp hi
    obtain ⟨rx, ry, hrx, hry, hrow, _⟩ := R.at hn
    have hv := hpl (ns.take i) (gns.take i)
    rw [hi] at hv
    have hF : isF Z (ns.take i) = n.file := by rw [← hpn]; exact isF_at W.dist hn
    rw [hF] at hlk
    have gx : isNm x = true := gns x (List.mem_of_getElem? hx)
    have l1 := pcat_len13 (gns.take i) (by rw [List.length_take]; omega)
    have l2 := isNm_len gx
    refine ⟨_, rfl, _, rfl, _, rfl, pd, _, rfl, (by have := DGet.k (k := Sum.inr (S (pcat (ns.take i)))) hpd; rw [hv] at this; exact this), g.a, _, _, _, rfl, rfl, SqL.of R.top, atI_nat (j := kk) (mapref hrx), rx, _, _, _, rfl, rfl, SqL.of hrow, atI_nat (j := 0) rfl, rfl, _, rfl, ?_⟩
    cases hfile : n.file with
    | true =>
      rw [hfile, if_pos rfl] at hlk
      exact iteT (k1 _ hlk)
    | false =>
      rw [hfile, if_neg (by decide)] at hlk
      refine iteF ?_
      refine ⟨_, rfl, _, _, rfl, rfl, ?_, _, rfl, _, _, rfl, rfl, ?_, ?_⟩
      · have := S_len63 l1 (by decide)
        have e63 : sizeLine = 16777216 := sizeLine_eq
        rw [S_len, show ("/" : Str).length = 1 from rfl]
        omega
      · have e63 : sizeLine = 16777216 := sizeLine_eq
        rw [lSl, S_cat, S_len, S_len, List.length_append, List.length_singleton]
        omega
      have ep : S (pcat (ns.take i)) ++ ("/" : Str) ++ S x = S (pcat (ns.take (i + 1))) := by
        rw [lSl, S_cat, S_cat, etk, pcat_app, pcat_one, List.append_assoc] <;> rfl
      rw [ep]
      have hv2 := hpl (ns.take (i + 1)) (gns.take _)
      refine ⟨_, rfl, _, rfl, pd, _, rfl, DGet.k (k := Sum.inr (S (pcat (ns.take (i + 1))))) hpd, _, rfl, ?_⟩
      rw [hv2, etk]
      cases hidx : idx Z (ns.take i ++ [x]) with
      | none =>
        rw [hidx] at hlk
        exact iteT (k1 _ hlk)
      | some j =>
        rw [hidx] at hlk
        exact iteF ⟨_, j, rfl, rfl, rfl, hlk⟩
  · rintro σ H2 ⟨o4, kk, rfl, rfl, hi, hlk⟩
    rw [el, List.take_length] at hi hlk
    rw [List.drop_length, look_nil, hi] at hlk
    rw [el, List.take_length]
    have hv := hpl ns gns
    rw [hi] at hv
    exact ⟨_, rfl, _, rfl, pd, _, rfl, (by have := DGet.k (k := Sum.inr (S (pcat ns))) hpd; rw [hv] at this; exact this), k2 _ hlk⟩
end
end Ah
/-! The law's place, inside, size, bursts, formed. -/
namespace Ah
open PySem PySem.Spec PyProof.Rows L2 He SX
theorem join_nm {p : List Nm} (ne : p ≠ []) : ("/" : Str) ++ Txt.join "/" (p.map S) = S (pcat p) := by
  rw [lSl, join_S, S_cat, ← pcat_join ne] <;> rfl
theorem sum_len (p : List Nm) : ((p.map S).map (·.length)).sum = (p.map (·.length)).sum := by rw [lens]
theorem sum12 {p : List Nm} (g : Good p) : (p.map (·.length)).sum ≤ p.length * 12 := by
  induction p with
  | nil => exact Nat.le_refl 0
  | cons n p ih =>
    have h1 := isNm_len (g n List.mem_cons_self)
    have h2 := ih fun m hm => g m (List.mem_cons_of_mem _ hm)
    rw [List.map_cons, List.sum_cons, List.length_cons]
    omega
theorem starts_pp {p q : List Nm} (gp : Good p) (gq : Good q) : Txt.startswith (S (pcat q)) (S (pcat p) ++ "/") = pp p q := by
  rw [lSl, S_cat, starts_S]
  unfold pp
  rw [Bool.eq_iff_iff, decide_eq_true_eq, pcat_pre gp.fr gq.fr, Bool.and_eq_true, decide_eq_true_eq, decide_eq_true_eq]
section
variable {P : Program} {w : World} {K : PySem.W.Frag} {mg : Str → Option Value} {base : Heap}
def P__law_place (K : PySem.W.Frag) (a b c : V) (H : Hp) (Q : VK) : Prop := ∃ (g : Lg) (Z : Tr) (e : Nat) (pd q : Addr) (kvs : List (Key × V)) (ns : List Nm), a = .ref g.a ∧ b = .ref pd ∧ c = .ref q ∧ LawAt H g Z ∧ WF e Z ∧ H pd = some (.dK kvs) ∧ PlAt kvs Z ∧ H q = some (.lst (nmV ns)) ∧ Good ns ∧ ns.length ≤ 6 ∧
  (∀ w, place Z ns = .no w → ∀ H', Same H H' → Q (.str w) H') ∧ (∀ k : Nat, place Z ns = .at k → ∀ H', Same H H' → Q (.str "") H')
abbrev N__law_place : List Str := ["_law_nodes", "_law_places_here", "_law_names_here", "_law_parent"]
theorem sc__law_place : FnScope N__law_place ["_law_nodes", "_law_places_here", "_law_names_here"] (defScope s_law_place) := ⟨rfl, rfl, rfl, by decide +kernel, rfl, by decide +kernel, by decide +kernel⟩
theorem ok__law_place (T : Tx w K mg) : Cal P w K mg base 2 (fAd K ("_law_place", none)) (Sp3 (P__law_place K)) := by
  refine mk3 (k := 1) T.fd_law_place sc__law_place (fun _ _ _ _ _ _ _ _ _  => rfl) fun cdv A outer s H E va vb vc Q hr h => ?_
  have hu := hu_of hr
  obtain ⟨g, Z, e, pd, q, kvs, ns, rfl, rfl, rfl, R, W, hpd, hpl, hq, gns, h6, k1, k2⟩ := h
  refine ⟨_, (pss_cons (ps_if (pt_cmpR (op_eqD hr.units) (pv 2) (pe_lst pa_nil) (nomark _)) (pss_one (ps_ret pe_str)) pss_nil)
      (pss_cons (ps_set (i := 3) sc__law_place.nd rfl (Or.inl rfl) (pcall (ok__law_look T) hr (by decide) rfl T.g__law_look (pa_cons (pv 0) (pa_cons (pv 1) (pa_cons (pe_slice sl_list (pv 2) po_none (po_some (pe_un un_neg pe_int))) pa_nil)))))
      (pss_cons (ps_if (pt_val (pe_callB call_isi (by rfl) T.f_isinstance (by decide +kernel) (pa_cons (pv 3) (pa_cons (pe_bltn (v := .ty "str") (by rfl) T.f_str (by decide +kernel) rfl) pa_nil)))) (pss_one (ps_ret (pv 3))) pss_nil)
      (pss_cons (ps_if (pt_cmpR op_eq (pe_ix ix_list (pe_ix ix_list (pv 0) (pv 3) (fun _ _ => rfl)) pe_int (fun _ _ => rfl)) pe_int (nomark _)) (pss_one (ps_ret pe_str)) pss_nil)
      (pss_cons (ps_if (pt_cmp (pc_din hu (pe_op op_add_str pe_str (pe_join pe_str (pv 2))) (pv 1))) (pss_one (ps_ret pe_str)) pss_nil)
      (pss_one (ps_ret pe_str))))))), ?_⟩
  dsimp only [cxOf, Cx.nox]
  refine ⟨_, rfl, sm64 (by show 0 ≤ 10000; decide), fun p0 hp0 => ?_⟩
  have s0 := same_new (o := .lst []) hp0
  refine ⟨_, _, dp_nm (s0 _ _ hq), dp_nm (p := []) upd_same, shaped_nm gns, shaped_nm (fun _ z => (nomatch z)), _, rfl, ?_⟩
  rw [eqv_nm]
  refine iteB (fun h1 => k1 _ ?_ _ s0) (fun h1 => ?_)
  · unfold place
    rw [if_pos (of_decide_eq_true h1)]
  have hne : ns ≠ [] := of_decide_eq_false h1
  have ep : place Z ns = match look Z [] ns.dropLast with
    | .no w => .no w
    | .at k => if isF Z ns.dropLast = true then .no "kind" else match idx Z ns with | some _ => .no "exists" | none => .at k := by
    unfold place
    rw [if_neg hne] <;> rfl
  have gd : Good ns.dropLast := fun n hn => gns n ((List.dropLast_sublist ns).subset hn)
  refine ⟨_, rfl, _, rfl, _, rfl, _, rfl, _, rfl, q, _, rfl, SqL.of (s0 _ _ hq), fun p1 hp1 => ?_⟩
  have s1 := s0.trans (same_new (o := .lst (cutV (nmV ns) none (some (-1)))) hp1)
  refine ⟨g, Z, e, pd, p1, kvs, ns.dropLast, rfl, rfl, rfl, R.same s1, W, s1 _ _ hpd, hpl, by rw [upd_same]; exact congrArg (fun z => some (HO.lst z)) (cut_last ns), gd, by rw [List.length_dropLast]; omega, fun w hl => ?_, fun k hl => ?_⟩
  · rw [hl] at ep
    exact ⟨_, rfl, _, _, _, _, _, rfl, isi_ss ⟨_, rfl, iteT ⟨_, rfl, k1 _ ep _ s1⟩⟩⟩
  · rw [hl] at ep
    simp only at ep
    refine ⟨_, rfl, _, _, _, _, _, rfl, isi_is ⟨_, rfl, iteF ?_⟩⟩
    obtain ⟨n, hn, hpn⟩ := look_node W hl
    obtain ⟨rx, ry, hrx, hry, hrow, _⟩ := R.at hn
    have hF : isF Z ns.dropLast = n.file := by rw [← hpn]; exact isF_at W.dist hn
    rw [hF] at ep
    refine ⟨_, rfl, _, rfl, g.a, _, _, _, rfl, rfl, SqL.of (s1 _ _ R.top), atI_nat (j := k) (mapref hrx), rx, _, _, _, rfl, rfl, SqL.of (s1 _ _ hrow), atI_nat (j := 0) rfl, rfl, _, rfl, ?_⟩
    cases hfile : n.file with
    | true =>
      rw [hfile, if_pos rfl] at ep
      exact iteT (k1 _ ep _ s1)
    | false =>
      rw [hfile, if_neg (by decide)] at ep
      refine iteF ?_
      have l1 := pcat_len13 gns h6
      have l2 := sum12 gns
      refine ⟨⟨_, rfl⟩, _, rfl, _, q, ns.map S, rfl, rfl, .inl (SqL.of (by rw [s1 _ _ hq, List.map_map] <;> rfl)), ?_, _, _, rfl, rfl, ?_, ?_⟩
      · rw [sum_len, List.length_map, show ("/" : Str).length = 1 from rfl]
        omega
      · have e63 : sizeLine = 16777216 := sizeLine_eq
        have e2 : (Txt.join "/" (ns.map S)).length ≤ 78 := by
          rw [lSl, join_S, S_len]
          have := congrArg List.length (pcat_join hne)
          rw [List.length_cons] at this
          omega
        rw [show ("/" : Str).length = 1 from rfl]
        omega
      rw [join_nm hne]
      have hv := hpl ns gns
      refine ⟨_, rfl, pd, _, rfl, DGet.k (k := Sum.inr (S (pcat ns))) (s1 _ _ hpd), _, rfl, ?_⟩
      rw [hv]
      cases hidx : idx Z ns with
      | none =>
        rw [hidx] at ep
        exact iteF (k2 _ ep _ s1)
      | some j =>
        rw [hidx] at ep
        exact iteT (k1 _ ep _ s1)
def P__law_inside (K : PySem.W.Frag) (a b : V) (H : Hp) (Q : VK) : Prop := ∃ p q : List Nm, a = .str (S (pcat q)) ∧ b = .str (S (pcat p)) ∧ Good p ∧ Good q ∧ p.length ≤ 6 ∧ Q (.bl (decide (p <+: q))) H
abbrev N__law_inside : List Str := ["_law_path", "_law_top"]
theorem sc__law_inside : FnScope N__law_inside ["_law_path", "_law_top"] (defScope s_law_inside) := ⟨rfl, rfl, rfl, by decide +kernel, rfl, by decide +kernel, by decide +kernel⟩
theorem ok__law_inside (T : Tx w K mg) : Cal P w K mg base 1 (fAd K ("_law_inside", none)) (Sp2 (P__law_inside K)) := by
  refine mk2 (k := 0) T.fd_law_inside sc__law_inside (fun _ _ _ _ _ _ _ _  => rfl) fun cdv A outer s H E va vb Q hr h => ?_
  have hu := hu_of hr
  obtain ⟨p, q, rfl, rfl, gp, gq, h6, k⟩ := h
  refine ⟨_, (pss_one (ps_ret (pe_or (pe_cmpR op_eq (pv 0) (pv 1) (nomark _)) (pe_one (pe_m1 PySem.F.slot_str_startswith PySem.F.type_str_startswith mt_startswith (pv 0) (pe_op op_add_str (pv 1) pe_str)))))), ?_⟩
  have e1 : decide (V.str (S (pcat q)) = V.str (S (pcat p))) = decide (q = p) := by
    rw [Bool.eq_iff_iff, decide_eq_true_eq, decide_eq_true_eq, V.str.injEq, S_eq_iff]
    exact ⟨fun z => pcat_inj gq.fr gp.fr z, fun z => by rw [z]⟩
  have e63 : sizeLine = 16777216 := sizeLine_eq
  have l1 := pcat_len13 gp h6
  refine ⟨_, rfl, _, rfl, rfl, _, rfl, iteB (fun h1 => ?_) (fun h1 => ⟨_, rfl, ⟨_, rfl⟩, _, rfl, _, _, rfl, rfl, by rw [S_len, show ("/" : Str).length = 1 from rfl]; omega, _, _, rfl, rfl, ?_⟩)⟩
  · rw [e1] at h1
    rw [of_decide_eq_true h1] at k
    rw [decide_eq_true (List.prefix_refl p)] at k
    exact k
  · rw [e1] at h1
    have ne := of_decide_eq_false h1
    rw [starts_pp gp gq]
    have : pp p q = decide (p <+: q) := by
      unfold pp
      rw [decide_eq_true (Ne.symm ne), Bool.and_true]
    rw [this]
    exact k
def P__law_size (K : PySem.W.Frag) (a b : V) (H : Hp) (Q : VK) : Prop := ∃ (g : Lg) (Z : Tr) (e : Nat) (p : List Nm), a = .ref g.a ∧ b = .str (S (pcat p)) ∧ LawAt H g Z ∧ WF e Z ∧ Good p ∧ p.length ≤ 6 ∧ ∀ H', Same H H' → Q (.int (sizeAt Z p : Int)) H'
abbrev N__law_size : List Str := ["_law_nodes", "_law_top", "_law_node"]
theorem sc__law_size : FnScope N__law_size ["_law_nodes", "_law_top"] (defScope s_law_size) := ⟨rfl, rfl, rfl, by decide +kernel, rfl, by decide +kernel, by decide +kernel⟩
theorem ok__law_size (T : Tx w K mg) : Cal P w K mg base 2 (fAd K ("_law_size", none)) (Sp2 (P__law_size K)) := by
  refine mk2 (k := 1) T.fd_law_size sc__law_size (fun _ _ _ _ _ _ _ _  => rfl) fun cdv A outer s H E va vb Q hr h => ?_
  have hu := hu_of hr
  obtain ⟨g, Z, e, p, rfl, rfl, R, W, gp, h6, k⟩ := h
  refine ⟨_, (pss_one (ps_ret (pe_callB (cr_sum rfl) (by rfl) T.f_sum (by decide +kernel) (pa_cons (pe_lc (own := [("_law_node", 2)]) (g := gName 2) rfl sc__law_size.nd (pi_list (pv 0)) (blkOk_by (own := [("_law_node", 2)]) (N := N__law_size) (sc := defScope s_law_size) (by decide +kernel)) (fun _ _ _ _ _ => pg_name (i := 2) sc__law_size.nd rfl (Or.inl rfl)) (fun _ _ _ _ _ => pts_one (pt_val (pcall (ok__law_inside T) hr (by decide) rfl T.g__law_inside (pa_cons (pe_ix (r := rIxL K) ix_list (pv 2) pe_int (fun _ _ => rfl)) (pa_cons (pv 1) pa_nil))))) (fun _ _ _ _ _ => (pe_ix (r := rIxL K) ix_list (pv 2) pe_int (fun _ _ => rfl)))) pa_nil)))), ?_⟩
  dsimp only [cxOf, Cx.nox]
  have hZ := W.len
  refine ⟨_, rfl, g.a, rfl, ⟨_, SqL.of R.top⟩, fun D hD => ?_⟩
  have s0 : ∀ o, Same H (upd H D o) := fun o => same_new hD
  refine lc_list (K := K) (a := g.a) (xs := g.la.map V.ref) (fun i H2 => Same H H2 ∧ H2 D = some (.lst (itV (((Z.take i).filter (inside p)).map Nd.size)))) ⟨s0 _, upd_same⟩ (fun i H2 _ h => SqL.of (h.1 _ _ R.top)) ?_ ?_
  · rintro i y H2 hy ⟨s2, hD2⟩
    obtain ⟨rx, hrx, rfl⟩ := map_at hy
    have hil : i < Z.length := by
      rw [← R.lla]
      exact (List.getElem?_eq_some_iff.mp hrx).1
    obtain ⟨n, hn⟩ : ∃ n, Z[i]? = some n := ⟨_, List.getElem?_eq_getElem hil⟩
    obtain ⟨rx', ry, hrx', hry, hrow, _⟩ := R.at hn
    rw [hrx] at hrx'
    cases hrx'
    have gn := W.good n (List.mem_of_getElem? hn)
    have etk : Z.take (i + 1) = Z.take i ++ [n] := by rw [List.take_add_one, hn] <;> rfl
    refine ⟨rfl, ?_⟩
    refine ⟨_, rfl, rx, _, _, _, rfl, rfl, SqL.of (s2 _ _ hrow), atI_nat (j := 1) rfl, _, rfl, p, n.path, rfl, rfl, gp, gn.1, h6, _, rfl, iteB (fun h1 => ?_) (fun h1 => ?_)⟩
    · refine ⟨_, rfl, rx, _, _, _, rfl, rfl, SqL.of (s2 _ _ hrow), atI_nat (j := 5) rfl, _, hD2, sm63 ?_, fun b o h => ?_, ?_⟩
      · rw [itV_len, List.length_map]
        have := List.length_filter_le (inside p) (Z.take i)
        rw [List.length_take] at this
        omega
      · rw [upd_ne (ne_of_none h hD)]
        exact s2 _ _ h
      · rw [upd_same, etk, List.filter_append, List.filter_cons_of_pos (by exact h1), List.filter_nil]
        unfold itV
        rw [List.map_append, List.map_append] <;> rfl
    · refine ⟨s2, ?_⟩
      rw [hD2, etk, List.filter_append, List.filter_cons_of_neg (by show ¬ decide (p <+: n.path) = true; rw [h1]; decide), List.filter_nil, List.append_nil]
  · rintro H2 ⟨s2, hD2⟩
    rw [List.length_map, R.lla, List.take_length] at hD2
    refine ⟨D, ((Z.filter (inside p)).map Nd.size).map fun (n : Nat) => (n : Int), rfl, SqL.of (by rw [hD2, List.map_map] <;> rfl), ?_⟩
    rw [sum_cast]
    exact k H2 s2
def P__law_bursts (K : PySem.W.Frag) (a b c d : V) (H : Hp) (Q : VK) : Prop := ∃ (g : Lg) (Z : Tr) (e : Nat) (path old : List Nm) (more : Nat), a = .ref g.a ∧ b = .str (S (pcat path)) ∧ c = .str (S (pcat old)) ∧ d = .int (more : Int) ∧ LawAt H g Z ∧ WF e Z ∧ Good path ∧ Good old ∧
  ∀ H', Same H H' → Q (.bl (bursts Z path old more)) H'
abbrev N__law_bursts : List Str := ["_law_nodes", "_law_path", "_law_old", "_law_more", "_law_node"]
theorem sc__law_bursts : FnScope N__law_bursts ["_law_nodes", "_law_path", "_law_old", "_law_more"] (defScope s_law_bursts) := ⟨rfl, rfl, rfl, by decide +kernel, rfl, by decide +kernel, by decide +kernel⟩
theorem ok__law_bursts (T : Tx w K mg) : Cal P w K mg base 3 (fAd K ("_law_bursts", none)) (Sp4 (P__law_bursts K)) := by
  refine mk4 (k := 2) T.fd_law_bursts sc__law_bursts (fun _ _ _ _ _ _ _ _ _ _  => rfl) fun cdv A outer s H E va vb vc vd Q hr h => ?_
  have hu := hu_of hr
  obtain ⟨g, Z, e, path, old, more, rfl, rfl, rfl, rfl, R, W, gp, go, k⟩ := h
  refine ⟨_, (pss_cons (ps_for PassesOwn.never rfl (pi_list (pv 0)) (pg_name (i := 4) sc__law_bursts.nd rfl (Or.inl rfl))
      (pss_one (ps_if (PW.pt (pw_and (pt_cmpR op_eq (pe_ix ix_list (pv 4) pe_int (fun _ _ => rfl)) pe_int (nomark _)) (pw_and (pt_cmpR op_ge (pe_ix ix_list (pv 4) pe_int (fun _ _ => rfl)) pe_int (nomark _)) (pw_and1 (pt_val (pe_m1 PySem.F.slot_str_startswith PySem.F.type_str_startswith mt_startswith (pv 1) (pe_op op_add_str (pe_ix ix_list (pv 4) pe_int (fun _ _ => rfl)) pe_str))))))) (pss_one (ps_if (PW.pt (pw_and (pt_not (pt_val (pe_m1 PySem.F.slot_str_startswith PySem.F.type_str_startswith mt_startswith (pv 2) (pe_op op_add_str (pe_ix ix_list (pv 4) pe_int (fun _ _ => rfl)) pe_str)))) (pw_and1 (pt_cmpR op_gt (pe_op op_add (pcall (ok__law_size T) hr (by decide) rfl T.g__law_size (pa_cons (pv 0) (pa_cons (pe_ix ix_list (pv 4) pe_int (fun _ _ => rfl)) pa_nil))) (pv 3)) (pe_ix ix_list (pv 4) pe_int (fun _ _ => rfl)) (nomark _))))) (pss_one (ps_ret pe_bl)) pss_nil)) pss_nil)))
      (pss_one (ps_ret pe_bl))), ?_⟩
  dsimp only [cxOf, Cx.nox]
  have hZ := W.len
  have e63 : sizeLine = 16777216 := sizeLine_eq
  refine ⟨_, rfl, g.a, rfl, ⟨_, SqL.of R.top⟩, for_list (K := K) (a := g.a) (xs := g.la.map V.ref) (fun i σ H2 => ∃ o4 : Option V, σ = [some (.ref g.a), some (.str (S (pcat path))), some (.str (S (pcat old))), some (.int (more : Int)), o4] ∧ Same H H2 ∧ bursts Z path old more = (Z.drop i).any fun n => !n.file && pp n.path path && !pp n.path old && (match n.lim with | some m => decide (m < ((sizeAt Z n.path + more : Nat) : Int)) | none => false))
    ⟨none, rfl, Same.refl H, by rw [List.drop_zero] <;> rfl⟩ (fun i σ H2 _ ⟨_, _, s2, _⟩ => SqL.of (s2 _ _ R.top)) ?_ ?_⟩
  · rintro i y σ H2 hy ⟨o4, rfl, s2, hb⟩
    obtain ⟨rx, hrx, rfl⟩ := map_at hy
    have hil : i < Z.length := by
      rw [← R.lla]
      exact (List.getElem?_eq_some_iff.mp hrx).1
    obtain ⟨n, hn⟩ : ∃ n, Z[i]? = some n := ⟨_, List.getElem?_eq_getElem hil⟩
    obtain ⟨rx', ry, hrx', hry, hrow, _⟩ := R.at hn
    rw [hrx] at hrx'
    cases hrx'
    have hnz := List.mem_of_getElem? hn
    have gn := W.good n hnz
    have l1 := pcat_len13 gn.1 gn.2
    have edr : Z.drop i = n :: Z.drop (i + 1) := by
      rw [List.drop_eq_getElem_cons hil, (List.getElem?_eq_some_iff.mp hn).2]
    rw [edr, List.any_cons] at hb
    have go1 : ((!n.file && pp n.path path && !pp n.path old && (match n.lim with | some m => decide (m < ((sizeAt Z n.path + more : Nat) : Int)) | none => false)) = false) → ∀ H3, Same H H3 → ∃ o4 : Option V, [some (V.ref g.a), some (.str (S (pcat path))), some (.str (S (pcat old))), some (.int (more : Int)), some (.ref rx)] = [some (V.ref g.a), some (.str (S (pcat path))), some (.str (S (pcat old))), some (.int (more : Int)), o4] ∧ Same H H3 ∧ bursts Z path old more = (Z.drop (i + 1)).any fun n => !n.file && pp n.path path && !pp n.path old && (match n.lim with | some m => decide (m < ((sizeAt Z n.path + more : Nat) : Int)) | none => false) := by
      intro hf H3 s3
      rw [hf, Bool.false_or] at hb
      exact ⟨_, rfl, s3, hb⟩
    refine ⟨_, rfl, rx, _, _, _, rfl, rfl, SqL.of (s2 _ _ hrow), atI_nat (j := 0) rfl, rfl, _, rfl, ?_⟩
    cases hfile : n.file with
    | true =>
      refine iteF (iteF (go1 ?_ H2 s2))
      rw [hfile] <;> rfl
    | false =>
      refine iteT ?_
      refine ⟨_, rfl, rx, _, _, _, rfl, rfl, SqL.of (s2 _ _ hrow), atI_nat (j := 4) rfl, _, _, rfl, rfl, _, rfl, ?_⟩
      cases hlim : n.lim with
      | none =>
        refine iteF (iteF (go1 ?_ H2 s2))
        rw [hlim]
        simp
      | some m =>
        have hm0 := (W.limp n hnz m hlim).2
        rw [show (decide ((0 : Int) ≤ (some m).getD (-1))) = true from decide_eq_true hm0]
        refine iteT ?_
        refine ⟨_, rfl, ⟨_, rfl⟩, _, rfl, rx, _, _, _, rfl, rfl, SqL.of (s2 _ _ hrow), atI_nat (j := 1) rfl, _, _, rfl, rfl, by rw [S_len, show ("/" : Str).length = 1 from rfl]; omega, _, _, rfl, rfl, _, rfl, ?_⟩
        rw [starts_pp gn.1 gp]
        refine iteB (fun h1 => ?_) (fun h1 => go1 (by rw [h1]; simp) H2 s2)
        refine ⟨_, rfl, ⟨_, rfl⟩, _, rfl, rx, _, _, _, rfl, rfl, SqL.of (s2 _ _ hrow), atI_nat (j := 1) rfl, _, _, rfl, rfl, by rw [S_len, show ("/" : Str).length = 1 from rfl]; omega, _, _, rfl, rfl, _, rfl, ?_⟩
        rw [starts_pp gn.1 go]
        refine iteB (fun h2 => ?_) (fun h2 => iteF (go1 (by rw [nb2 h2]; simp) H2 s2))
        have h2 := nb1 h2
        refine ⟨_, rfl, _, rfl, rx, _, _, _, rfl, rfl, SqL.of (s2 _ _ hrow), atI_nat (j := 1) rfl, g, Z, e, n.path, rfl, rfl, R.same s2, W, gn.1, gn.2, fun H3 s3 => ?_⟩
        have s23 := s2.trans s3
        refine ⟨_, rfl, _, _, rfl, rfl, _, rfl, rx, _, _, _, rfl, rfl, SqL.of (s23 _ _ hrow), atI_nat (j := 4) rfl, _, _, rfl, rfl, _, rfl, ?_⟩
        have ec : decide ((n.lim.getD (-1)) < (sizeAt Z n.path : Int) + (more : Int)) = decide (m < ((sizeAt Z n.path + more : Nat) : Int)) := by
          rw [hlim, Int.natCast_add] <;> rfl
        rw [ec]
        refine iteB (fun h3 => ?_) (fun h3 => go1 (by rw [hlim]; simp only [h3]; simp) H3 s23)
        have := k H3 s23
        rw [hb, hfile, h1, h2, hlim] at this
        simp only [h3] at this
        exact this
  · rintro σ H2 ⟨o4, rfl, s2, hb⟩
    rw [List.length_map, R.lla, List.drop_length] at hb
    have := k H2 s2
    rw [hb] at this
    exact this
end
end Ah
/-! The law's make, write, limit. -/
namespace Ah
open PySem PySem.Spec PyProof.Rows L2 He SX
def LDone (g : Lg) (H : Hp) (out : Tr × D) (Q : VK) : Prop := ∀ (g' : Lg) (H' : Hp) (v : V), g'.a = g.a → LawAt H' g' out.1 → Post g.fp g'.fp H H' → isV H' out.2 v → Q v H'
section
variable {H H1 H' : Hp} {g : Lg} {Z : Tr} {Q : VK} {c k : Nat} {n m : Nd} {x y : Addr} {vs : List V}
theorem LDone.same {out : Tr × D} (D : LDone g H out Q) (s : Same H H1) : LDone g H1 out Q := fun g' H' v e R p hv => D g' H' v e R ((Post.same s).trans p) hv
theorem LDone.ref {w : Str} (D : LDone g H (Z, refu w) Q) (R : LawAt H g Z) (s : Same H H1) {q : Addr} (hq : H1 q = none) : Q (.ref q) (upd H1 q (.tup [.str "refused", .str w])) := by
  have s2 : Same H (upd H1 q (.tup [.str "refused", .str w])) := s.trans (same_new hq)
  exact D g _ _ rfl (R.same s2) (Post.same s2) (isV.tup upd_same (isVs.cons isV.str (isVs.cons isV.str isVs.nil)))
theorem LDone.say {w : Str} (D : LDone g H (Z, refu w) Q) (R : LawAt H g Z) (s : Same H H1) : [V.str "refused", V.str w].length ≤ sizeLine ∧ ∀ p, H1 p = none → Q (.ref p) (upd H1 p (.tup [.str "refused", .str w])) :=
  ⟨sm64 (by show 2 ≤ 10000; decide), fun q hq => D.ref R s hq⟩
theorem LawAt.has (T : LawAt H g Z) {a : Addr} (h : a ∈ g.fp) : H a ≠ none := by
  unfold Lg.fp at h
  simp only [List.mem_cons, List.mem_append] at h
  rcases h with rfl | h | h
  · rw [T.top]; exact (fun z => nomatch z)
  · obtain ⟨k, hk⟩ := List.getElem?_of_mem h
    have hl : k < Z.length := by rw [← T.lla]; exact (List.getElem?_eq_some_iff.mp hk).1
    have := (T.row k _ (g.pb[k]'(by rw [T.lpb]; exact hl)) Z[k] hk (List.getElem?_eq_getElem _) (List.getElem?_eq_getElem _)).1
    rw [this]; exact (fun z => nomatch z)
  · obtain ⟨k, hk⟩ := List.getElem?_of_mem h
    have hl : k < Z.length := by rw [← T.lpb]; exact (List.getElem?_eq_some_iff.mp hk).1
    obtain ⟨vs, h1, _⟩ := (T.row k (g.la[k]'(by rw [T.lla]; exact hl)) _ Z[k] (List.getElem?_eq_getElem _) hk (List.getElem?_eq_getElem _)).2
    rw [h1]; exact (fun z => nomatch z)
theorem LawAt.nfp (T : LawAt H g Z) {a : Addr} (h : H a = none) : a ∉ g.fp := fun z => T.has z h
/-- a row appended -/
theorem LawAt.grow (T : LawAt H g Z) (nx : x ∉ g.fp) (ny : y ∉ g.fp) (nxy : x ≠ y) (keep : ∀ c o, c ≠ g.a → H c = some o → H' c = some o) (t : TupK H H') (e1 : H' g.a = some (.lst (g.la.map V.ref ++ [.ref x]))) (e2 : H' x = some (.lst (rowV y n))) (e3 : H' y = some (.lst vs))
    (e4 : isVs H' (n.pcs.map Pc.d) vs) : LawAt H' ⟨g.a, g.la ++ [x], g.pb ++ [y]⟩ (Z ++ [n]) := by
  refine ⟨by simp [T.lla], by simp [T.lpb], ?_, ?_, ?_⟩
  · have hperm : (g.a :: ((g.la ++ [x]) ++ (g.pb ++ [y]))).Perm (x :: y :: g.fp) := by
      have h1 : (g.la ++ [x] ++ (g.pb ++ [y])).Perm (x :: y :: (g.la ++ g.pb)) := by
        have h2 : (g.la ++ [x] ++ (g.pb ++ [y])).Perm (([x] ++ g.la) ++ ([y] ++ g.pb)) := List.Perm.append List.perm_append_comm List.perm_append_comm
        have h3 : (([x] ++ g.la) ++ ([y] ++ g.pb)) = x :: (g.la ++ y :: g.pb) := rfl
        rw [h3] at h2
        exact h2.trans (List.Perm.cons x List.perm_middle)
      have h4 : (g.a :: (x :: y :: (g.la ++ g.pb))).Perm (x :: y :: g.a :: (g.la ++ g.pb)) := by
        have : (g.a :: (x :: y :: (g.la ++ g.pb))) = [g.a] ++ ([x, y] ++ (g.la ++ g.pb)) := rfl
        rw [this]
        exact List.perm_append_comm_assoc [g.a] [x, y] (g.la ++ g.pb)
      exact (List.Perm.cons _ h1).trans h4
    refine hperm.nodup_iff.mpr (List.nodup_cons.mpr ⟨fun z => ?_, List.nodup_cons.mpr ⟨ny, T.nd⟩⟩)
    rcases List.mem_cons.mp z with z | z
    · exact nxy z
    · exact nx z
  · show H' g.a = some (.lst ((g.la ++ [x]).map V.ref))
    rw [e1, List.map_append] <;> rfl
  · intro k a b m ha hb hm
    replace ha : (g.la ++ [x])[k]? = some a := ha
    replace hb : (g.pb ++ [y])[k]? = some b := hb
    by_cases hk : k < Z.length
    · rw [List.getElem?_append_left (by rw [T.lla]; exact hk)] at ha
      rw [List.getElem?_append_left (by rw [T.lpb]; exact hk)] at hb
      rw [List.getElem?_append_left hk] at hm
      obtain ⟨h1, vs', h2, h3⟩ := T.row k a b m ha hb hm
      exact ⟨keep _ _ (T.ne_a (List.mem_append_left _ (List.mem_of_getElem? ha))) h1, vs', keep _ _ (T.ne_a (List.mem_append_right _ (List.mem_of_getElem? hb))) h2, h3.keep t⟩
    · have e : k = Z.length := by
        have := (List.getElem?_eq_some_iff.mp hm).1
        rw [List.length_append, List.length_singleton] at this
        omega
      subst e
      rw [List.getElem?_append_right (by rw [T.lla]; exact Nat.le_refl _), T.lla, Nat.sub_self] at ha
      rw [List.getElem?_append_right (by rw [T.lpb]; exact Nat.le_refl _), T.lpb, Nat.sub_self] at hb
      rw [List.getElem?_append_right (Nat.le_refl _), Nat.sub_self] at hm
      cases ha
      cases hb
      cases hm
      exact ⟨e2, vs, e3, e4⟩
theorem LawAt.grow_fp : ∀ c ∈ (⟨g.a, g.la ++ [x], g.pb ++ [y]⟩ : Lg).fp, c ∈ g.fp ∨ c = x ∨ c = y := by
  intro c hc
  have hc : c ∈ g.a :: ((g.la ++ [x]) ++ (g.pb ++ [y])) := hc
  simp only [List.mem_cons, List.mem_append, List.mem_singleton, List.not_mem_nil, or_false] at hc
  have hg : c ∈ g.fp ↔ c = g.a ∨ c ∈ g.la ∨ c ∈ g.pb := by
    unfold Lg.fp
    simp only [List.mem_cons, List.mem_append]
  rw [hg]
  rcases hc with hc | (hc | hc) | (hc | hc)
  · exact .inl (.inl hc)
  · exact .inl (.inr (.inl hc))
  · exact .inr (.inl hc)
  · exact .inl (.inr (.inr hc))
  · exact .inr (.inr hc)
theorem look_word {p : List Nm} : ∀ {r : List Nm} {w : Str}, look Z p r = .no w → w = "missing" ∨ w = "kind" := by
  intro r
  induction r generalizing p with
  | nil =>
    intro w h
    rw [look_nil] at h
    split at h
    · cases h
    · cases h
      exact .inl rfl
  | cons a r ih =>
    intro w h
    rw [look_cons] at h
    split at h
    · cases h
      exact .inr rfl
    · split at h
      · exact ih h
      · cases h
        exact .inl rfl
theorem place_word {p : List Nm} {w : Str} (h : place Z p = .no w) : decide (V.str w = V.str "") = false := by
  have : w = "exists" ∨ w = "missing" ∨ w = "kind" := by
    unfold place at h
    split at h
    · cases h
      exact .inl rfl
    · split at h
      · rename_i w' e
        cases h
        rcases look_word e with z | z
        · exact .inr (.inl z)
        · exact .inr (.inr z)
      · split at h
        · cases h
          exact .inr (.inr rfl)
        · split at h
          · cases h
            exact .inl rfl
          · cases h
  rcases this with rfl | rfl | rfl <;> decide +kernel
end
section
variable {P : Program} {w : World} {K : PySem.W.Frag} {mg : Str → Option Value} {base : Heap}
def P__law_make (K : PySem.W.Frag) (a b c d : V) (H : Hp) (Q : VK) : Prop := ∃ (g : Lg) (Z : Tr) (e : Nat) (pd da q : Addr) (kvs : List (Key × V)) (ns : List Nm) (f : Bool) (us : List V), a = .ref g.a ∧ b = .ref pd ∧ c = .ref da ∧ d = .ref q ∧ LawAt H g Z ∧ WF e Z ∧ H pd = some (.dK kvs) ∧ PlAt kvs Z ∧
  H da = some (.tup (.str (if f then "create" else "mkdir") :: us)) ∧ H q = some (.lst (nmV ns)) ∧ Good ns ∧ ns.length ≤ 6 ∧ LDone g H (mkN Z f ns) Q
abbrev N__law_make : List Str := ["_law_nodes", "_law_places_here", "_law_deed_here", "_law_names_here", "_law_word"]
theorem sc__law_make : FnScope N__law_make ["_law_nodes", "_law_places_here", "_law_deed_here", "_law_names_here"] (defScope s_law_make) := ⟨rfl, rfl, rfl, by decide +kernel, rfl, by decide +kernel, by decide +kernel⟩
theorem ok__law_make (T : Tx w K mg) : Cal P w K mg base 3 (fAd K ("_law_make", none)) (Sp4 (P__law_make K)) := by
  refine mk4 (k := 2) T.fd_law_make sc__law_make (fun _ _ _ _ _ _ _ _ _ _  => rfl) fun cdv A outer s H E va vb vc vd Q hr h => ?_
  have hu := hu_of hr
  obtain ⟨g, Z, e, pd, da, q, kvs, ns, f, us, rfl, rfl, rfl, rfl, R, W, hpd, hpl, hda, hq, gns, h6, k⟩ := h
  refine ⟨_, (pss_cons (ps_set (i := 4) sc__law_make.nd rfl (Or.inl rfl) (pcall (ok__law_place T) hr (by decide) rfl T.g__law_place (pa_cons (pv 0) (pa_cons (pv 1) (pa_cons (pv 3) pa_nil)))))
      (pss_cons (ps_if (PW.pt (pw_and (pt_cmpR op_eq (pv 4) pe_str (nomark _)) (pw_and1 (pt_cmpR op_ge (pe_callB call_len_seq (by rfl) T.f_len (by decide +kernel) (pa_cons (pv 0) pa_nil)) pe_int (nomark _))))) (pss_one (ps_set (i := 4) sc__law_make.nd rfl (Or.inl rfl) pe_str)) pss_nil)
      (pss_cons (ps_if (pt_cmpR op_ne (pv 4) pe_str (nomark _)) (pss_one (ps_ret (pe_tup (pa_cons pe_str (pa_cons (pv 4) pa_nil))))) pss_nil)
      (pss_cons (ps_expr (pe_bm PySem.F.plainAttrs_list PySem.F.slot_list_append PySem.F.type_list_append mt_append (pv 0) (pa_cons (pe_lst (pa_cons (pe_callTy call_int1 (by rfl) T.f_int (by decide +kernel) (pa_cons (pe_cmpR op_eq (pe_ix ix_tup (pv 2) pe_int (fun _ _ => rfl)) pe_str (nomark _)) pa_nil)) (pa_cons (pe_op op_add_str pe_str (pe_join pe_str (pv 3))) (pa_cons (pe_lst pa_nil) (pa_cons pe_bl (pa_cons (pe_un un_neg pe_int) (pa_cons pe_int pa_nil))))))) pa_nil)))
      (pss_one (ps_ret (pe_tup (pa_cons pe_str (pa_cons (pe_op op_sub (pe_callB call_len_seq (by rfl) T.f_len (by decide +kernel) (pa_cons (pv 0) pa_nil)) pe_int) pa_nil))))))))), ?_⟩
  dsimp only [cxOf, Cx.nox]
  have hZ := W.len
  have e63 : sizeLine = 16777216 := sizeLine_eq
  unfold mkN at k
  refine ⟨_, rfl, _, rfl, _, rfl, g, Z, e, pd, q, kvs, ns, rfl, rfl, rfl, R, W, hpd, hpl, hq, gns, h6, fun w hp H1 s1 => ?_, fun i hp H1 s1 => ?_⟩
  · rw [hp] at k
    have hw := place_word hp
    refine ⟨_, rfl, rfl, _, rfl, ?_⟩
    rw [hw]
    refine iteF (iteF ?_)
    refine ⟨_, rfl, rfl, _, rfl, ?_⟩
    rw [hw]
    exact iteT ⟨_, rfl, k.say R s1⟩
  rw [hp] at k
  have hne : ns ≠ [] := (place_at W hp).1
  refine ⟨_, rfl, rfl, _, rfl, iteT ?_⟩
  refine ⟨_, rfl, g.a, _, rfl, .inl (SqL.of (s1 _ _ R.top)), _, _, rfl, rfl, _, rfl, ?_⟩
  rw [List.length_map, R.lla]
  refine iteB (fun h1 => ?_) (fun h1 => ?_)
  · have h2 : 64 ≤ Z.length := by
      have := of_decide_eq_true h1
      omega
    simp only [if_pos h2] at k
    refine ⟨_, rfl, rfl, _, rfl, iteT ⟨_, rfl, k.say R s1⟩⟩
  have h2 : ¬ 64 ≤ Z.length := by
    have := of_decide_eq_false h1
    omega
  simp only [if_neg h2] at k
  refine ⟨_, rfl, rfl, _, rfl, iteF ?_⟩
  have l1 := pcat_len13 gns h6
  have l2 := sum12 gns
  have ef : decide (V.str (if f then "create" else "mkdir") = V.str "create") = f := by cases f <;> decide +kernel
  refine ⟨_, rfl, .inl ⟨rfl, _, SqL.of (s1 _ _ R.top)⟩, _, rfl, da, _, _, _, rfl, rfl, SqT.of (s1 _ _ hda), atI_nat (j := 0) rfl, rfl, .inr ⟨_, rfl, ?_⟩⟩
  rw [ef]
  refine ⟨⟨_, rfl⟩, _, rfl, _, q, ns.map S, rfl, rfl, .inl (SqL.of (by rw [s1 _ _ hq, List.map_map] <;> rfl)), ?_, _, _, rfl, rfl, ?_, ?_⟩
  · rw [sum_len, List.length_map, show ("/" : Str).length = 1 from rfl]
    omega
  · have e2 : (Txt.join "/" (ns.map S)).length ≤ 78 := by
      rw [lSl, join_S, S_len]
      have := congrArg List.length (pcat_join hne)
      rw [List.length_cons] at this
      omega
    rw [show ("/" : Str).length = 1 from rfl]
    omega
  rw [join_nm hne]
  refine ⟨sm64 (by show 0 ≤ 10000; decide), fun y hy => ⟨_, rfl, sm64 (by show 6 ≤ 10000; decide), fun x hx => ?_⟩⟩
  have s2 := s1.trans (same_new (o := .lst []) hy)
  have s3 := s2.trans (same_new (o := .lst (rowV y ⟨f, ns, [], false, none⟩)) hx)
  have nxy : x ≠ y := by
    rintro rfl
    rw [upd_same] at hx
    cases hx
  have hx1 : H1 x = none := by
    rw [upd_ne nxy] at hx
    exact hx
  refine ⟨g.a, _, _, rfl, rfl, s3 _ _ R.top, sm63 (by rw [List.length_map, R.lla]; omega), ?_⟩
  generalize eH3 : upd (upd H1 y (.lst [])) x (.lst [.int (if f then 1 else 0), .str (S (pcat ns)), .ref y, .bl false, .int (-1), .int 0]) = H3
  have s3 : Same H H3 := by rw [← eH3]; exact s3
  have h3x : H3 x = some (.lst (rowV y ⟨f, ns, [], false, none⟩)) := by rw [← eH3, upd_same] <;> rfl
  have h3y : H3 y = some (.lst []) := by rw [← eH3, upd_ne nxy.symm, upd_same]
  clear eH3
  have nx := R.nfp (s1.free hx1)
  have ny := R.nfp (s1.free hy)
  have kp : ∀ c o o', c ≠ g.a → H3 c = some o → (upd H3 g.a o') c = some o := fun c o o' hc h => by
    rw [upd_ne hc]
    exact h
  have nxa : x ≠ g.a := fun z => nx (by rw [z]; exact Lg.mem_a)
  have nya : y ≠ g.a := fun z => ny (by rw [z]; exact Lg.mem_a)
  have tk : ∀ o', TupK H3 (upd H3 g.a o') := fun o' c xs h => kp c _ _ (ne_of h (s3 _ _ R.top) (by intro z; cases z)) h
  have R4 := (R.same s3).grow (n := ⟨f, ns, [], false, none⟩) (H' := upd H3 g.a (.lst (g.la.map V.ref ++ [.ref x]))) nx ny nxy (fun c o hc h => kp c o _ hc h) (tk _) upd_same (kp _ _ _ nxa h3x) (kp _ _ _ nya h3y) isVs.nil
  refine ⟨_, rfl, g.a, _, rfl, .inl (SqL.of upd_same), _, _, rfl, rfl, sm64 (by show 2 ≤ 10000; decide), fun p hp9 => ?_⟩
  have el : (((g.la.map V.ref ++ [V.ref x]).length : Nat) : Int) - 1 = (Z.length : Int) := by
    rw [List.length_append, List.length_map, R.lla, List.length_singleton]
    omega
  show Q (.ref p) (upd _ p (.tup [.str "made", .int ((((g.la.map V.ref ++ [V.ref x]).length : Nat) : Int) - 1)]))
  rw [el]
  have s9 := same_new (o := .tup [.str "made", .int (Z.length : Int)]) hp9
  refine k ⟨g.a, g.la ++ [x], g.pb ++ [y]⟩ _ _ rfl (R4.same s9) ⟨fun b o h hb => s9 _ _ (kp b o _ (fun z => hb (by rw [z]; exact Lg.mem_a)) (s3 _ _ h)), (Same.tup s3).trans ((tk _).trans (Same.tup s9)), fun b hb => ?_⟩ (isV.tup upd_same (isVs.cons isV.str (isVs.cons isV.int isVs.nil)))
  rcases LawAt.grow_fp b hb with z | rfl | rfl
  · exact .inl z
  · exact .inr (s1.free hx1)
  · exact .inr (s1.free hy)
def P__law_limit (K : PySem.W.Frag) (a b c d : V) (H : Hp) (Q : VK) : Prop := ∃ (g : Lg) (Z : Tr) (e : Nat) (pd q : Addr) (kvs : List (Key × V)) (ns : List Nm) (m : Int), a = .ref g.a ∧ b = .ref pd ∧ c = .ref q ∧ d = .int m ∧ LawAt H g Z ∧ WF e Z ∧ H pd = some (.dK kvs) ∧ PlAt kvs Z ∧
  H q = some (.lst (nmV ns)) ∧ Good ns ∧ ns.length ≤ 6 ∧ LDone g H (liN Z ns m) Q
abbrev N__law_limit : List Str := ["_law_nodes", "_law_places_here", "_law_names_here", "_law_most_here", "_law_at", "_law_size_here"]
theorem sc__law_limit : FnScope N__law_limit ["_law_nodes", "_law_places_here", "_law_names_here", "_law_most_here"] (defScope s_law_limit) := ⟨rfl, rfl, rfl, by decide +kernel, rfl, by decide +kernel, by decide +kernel⟩
theorem ok__law_limit (T : Tx w K mg) : Cal P w K mg base 3 (fAd K ("_law_limit", none)) (Sp4 (P__law_limit K)) := by
  refine mk4 (k := 2) T.fd_law_limit sc__law_limit (fun _ _ _ _ _ _ _ _ _ _  => rfl) fun cdv A outer s H E va vb vc vd Q hr h => ?_
  have hu := hu_of hr
  obtain ⟨g, Z, e, pd, q, kvs, ns, m, rfl, rfl, rfl, rfl, R, W, hpd, hpl, hq, gns, h6, k⟩ := h
  refine ⟨_, (pss_cons (ps_set (i := 4) sc__law_limit.nd rfl (Or.inl rfl) (pcall (ok__law_look T) hr (by decide) rfl T.g__law_look (pa_cons (pv 0) (pa_cons (pv 1) (pa_cons (pv 2) pa_nil)))))
      (pss_cons (ps_if (pt_val (pe_callB call_isi (by rfl) T.f_isinstance (by decide +kernel) (pa_cons (pv 4) (pa_cons (pe_bltn (v := .ty "str") (by rfl) T.f_str (by decide +kernel) rfl) pa_nil)))) (pss_one (ps_ret (pe_tup (pa_cons pe_str (pa_cons (pv 4) pa_nil))))) pss_nil)
      (pss_cons (ps_if (pt_cmpR op_eq (pe_ix ix_list (pe_ix ix_list (pv 0) (pv 4) (fun _ _ => rfl)) pe_int (fun _ _ => rfl)) pe_int (nomark _)) (pss_one (ps_ret (pe_tup (pa_cons pe_str (pa_cons pe_str pa_nil))))) pss_nil)
      (pss_cons (ps_set (i := 5) sc__law_limit.nd rfl (Or.inl rfl) (pcall (ok__law_size T) hr (by decide) rfl T.g__law_size (pa_cons (pv 0) (pa_cons (pe_ix ix_list (pe_ix ix_list (pv 0) (pv 4) (fun _ _ => rfl)) pe_int (fun _ _ => rfl)) pa_nil))))
      (pss_cons (ps_if (pt_cmpR op_gt (pv 5) (pv 3) (nomark _)) (pss_one (ps_ret (pe_tup (pa_cons pe_str (pa_cons pe_str pa_nil))))) pss_nil)
      (pss_cons (ps_asg (pv 3) (pg_sub (pe_ix ix_list (pv 0) (pv 4) (fun _ _ => rfl)) pe_int set_list))
      (pss_one (ps_ret (pe_tup (pa_cons pe_str (pa_cons (pv 4) (pa_cons (pv 5) pa_nil)))))))))))), ?_⟩
  dsimp only [cxOf, Cx.nox]
  unfold liN at k
  refine ⟨_, rfl, _, rfl, _, rfl, g, Z, e, pd, q, kvs, ns, rfl, rfl, rfl, R, W, hpd, hpl, hq, gns, h6, fun w hl => ?_, fun i hl => ?_⟩
  · rw [hl] at k
    exact ⟨_, rfl, _, _, _, _, _, rfl, isi_ss ⟨_, rfl, iteT ⟨_, rfl, k.say R (Same.refl H)⟩⟩⟩
  rw [hl] at k
  refine ⟨_, rfl, _, _, _, _, _, rfl, isi_is ⟨_, rfl, iteF ?_⟩⟩
  obtain ⟨n, hn, hpn⟩ := look_node W hl
  simp only [hn] at k
  have hnz := List.mem_of_getElem? hn
  have gn := W.good n hnz
  obtain ⟨rx, ry, hrx, hry, hrow, vs, hys, hvs⟩ := R.at hn
  refine ⟨_, rfl, _, rfl, g.a, _, _, _, rfl, rfl, SqL.of R.top, atI_nat (j := i) (mapref hrx), rx, _, _, _, rfl, rfl, SqL.of hrow, atI_nat (j := 0) rfl, rfl, _, rfl, ?_⟩
  cases hfile : n.file with
  | true =>
    simp only [if_pos hfile] at k
    exact iteT (k.say R (Same.refl H))
  | false =>
    simp only [if_neg (show ¬ n.file = true by rw [hfile]; decide)] at k
    refine iteF ?_
    refine ⟨_, rfl, _, rfl, _, rfl, g.a, _, _, _, rfl, rfl, SqL.of R.top, atI_nat (j := i) (mapref hrx), rx, _, _, _, rfl, rfl, SqL.of hrow, atI_nat (j := 1) rfl, g, Z, e, n.path, rfl, rfl, R, W, gn.1, gn.2, fun H2 s2 => ?_⟩
    rw [hpn]
    refine ⟨_, rfl, _, rfl, _, _, rfl, rfl, _, rfl, iteB (fun h4 => ?_) (fun h4 => ?_)⟩
    · simp only [if_pos (of_decide_eq_true h4)] at k
      exact k.say R s2
    simp only [if_neg (of_decide_eq_false h4)] at k
    refine ⟨_, rfl, _, rfl, _, rfl, g.a, _, _, _, rfl, rfl, SqL.of (s2 _ _ R.top), atI_nat (j := i) (mapref hrx), rx, _, _, 4, rfl, rfl, s2 _ _ hrow, rfl, ?_⟩
    generalize eH5 : upd H2 rx (.lst ((rowV ry n).set 4 (.int m))) = H5
    have kp5 : ∀ c o, c ≠ rx → H c = some o → H5 c = some o := fun c o hc h => by
      rw [← eH5, upd_ne hc]
      exact s2 _ _ h
    have h5x : H5 rx = some (.lst (rowV ry { n with lim := some m })) := by rw [← eH5, upd_same] <;> rfl
    clear eH5
    have t5 : TupK H H5 := fun c xs h => kp5 c _ (ne_of h hrow (by intro z; cases z)) h
    refine ⟨_, rfl, _, rfl, sm64 (by show 3 ≤ 10000; decide), fun p6 hp6 => ?_⟩
    have s6 := same_new (o := .tup [.str "limited", .int (i : Int), .int (sizeAt Z ns : Int)]) hp6
    have R5 : LawAt H5 g (Z.set i { n with lim := some m }) := R.setR hrx hry hn (fun c o hc _ h => kp5 c o hc h) t5 ⟨h5x, vs, kp5 _ _ (R.ne_lp hrx hry).symm hys, hvs.keep t5⟩
    exact k g _ _ rfl (R5.same s6) (Post.kept (fun c o hc h => s6 _ _ (kp5 c o (fun z => hc (by rw [z]; exact Lg.mem_la hrx)) h)) (t5.trans (Same.tup s6))) (isV.tup upd_same (isVs.cons isV.str (isVs.cons isV.int (isVs.cons isV.int isVs.nil))))
/-- o: the text to append, or none: seal -/
def P__law_write (K : PySem.W.Frag) (a b c d f : V) (H : Hp) (Q : VK) : Prop := ∃ (g : Lg) (Z : Tr) (e : Nat) (pd sa da q : Addr) (kvs : List (Key × V)) (ns : List Nm) (st : St3) (o : Option Nm) (u : V), a = .ref g.a ∧ b = .ref pd ∧ c = .ref sa ∧ d = .ref da ∧ f = .ref q ∧ LawAt H g Z ∧ WF e Z ∧ e ≤ 900 ∧ H pd = some (.dK kvs) ∧ PlAt kvs Z ∧
  H sa = some (.tup (stV st)) ∧ H da = some (.tup (match o with | some tx => [.str "append", u, .str (S tx)] | none => [.str "seal", u])) ∧ (∀ tx, o = some tx → tx.length ≤ 200) ∧ H q = some (.lst (nmV ns)) ∧ Good ns ∧ ns.length ≤ 6 ∧ LDone g H (match o with | some tx => wrN Z st ns tx | none => seN Z ns) Q
abbrev N__law_write : List Str := ["_law_nodes", "_law_places_here", "_law_stamp", "_law_deed_here", "_law_names_here", "_law_at", "_law_node"]
theorem sc__law_write : FnScope N__law_write ["_law_nodes", "_law_places_here", "_law_stamp", "_law_deed_here", "_law_names_here"] (defScope s_law_write) := ⟨rfl, rfl, rfl, by decide +kernel, rfl, by decide +kernel, by decide +kernel⟩
theorem ok__law_write (T : Tx w K mg) : Cal P w K mg base 4 (fAd K ("_law_write", none)) (Sp5 (P__law_write K)) := by
  refine mk5 (k := 3) T.fd_law_write sc__law_write (fun _ _ _ _ _ _ _ _ _ _ _  => rfl) fun cdv A outer s H E va vb vc vd ve Q hr h => ?_
  have hu := hu_of hr
  obtain ⟨g, Z, e, pd, sa, da, q, kvs, ns, st, o, u, rfl, rfl, rfl, rfl, rfl, R, W, he, hpd, hpl, hsa, hda, hox, hq, gns, h6, k⟩ := h
  refine ⟨_, (pss_cons (ps_set (i := 5) sc__law_write.nd rfl (Or.inl rfl) (pcall (ok__law_look T) hr (by decide) rfl T.g__law_look (pa_cons (pv 0) (pa_cons (pv 1) (pa_cons (pv 4) pa_nil)))))
      (pss_cons (ps_if (pt_val (pe_callB call_isi (by rfl) T.f_isinstance (by decide +kernel) (pa_cons (pv 5) (pa_cons (pe_bltn (v := .ty "str") (by rfl) T.f_str (by decide +kernel) rfl) pa_nil)))) (pss_one (ps_ret (pe_tup (pa_cons pe_str (pa_cons (pv 5) pa_nil))))) pss_nil)
      (pss_cons (ps_set (i := 6) sc__law_write.nd rfl (Or.inl rfl) (pe_ix ix_list (pv 0) (pv 5) (fun _ _ => rfl)))
      (pss_cons (ps_if (pt_cmpR op_eq (pe_ix ix_list (pv 6) pe_int (fun _ _ => rfl)) pe_int (nomark _)) (pss_one (ps_ret (pe_tup (pa_cons pe_str (pa_cons pe_str pa_nil))))) pss_nil)
      (pss_cons (ps_if (pt_val (pe_ix ix_list (pv 6) pe_int (fun _ _ => rfl))) (pss_one (ps_ret (pe_tup (pa_cons pe_str (pa_cons pe_str pa_nil))))) pss_nil)
      (pss_cons (ps_if (pt_cmpR op_eq (pe_ix ix_tup (pv 3) pe_int (fun _ _ => rfl)) pe_str (nomark _)) (pss_cons (ps_asg pe_bl (pg_sub (pv 6) pe_int set_list))
      (pss_one (ps_ret (pe_tup (pa_cons pe_str (pa_cons (pv 5) (pa_cons (pe_ix ix_list (pv 6) pe_int (fun _ _ => rfl)) pa_nil))))))) pss_nil)
      (pss_cons (ps_if (pt_cmpR op_eq (pe_ix ix_tup (pv 3) pe_int (fun _ _ => rfl)) pe_str (nomark _)) (pss_one (ps_ret (pe_tup (pa_cons pe_str (pa_cons pe_str pa_nil))))) pss_nil)
      (pss_cons (ps_if (pt_val (pcall (ok__law_bursts T) hr (by decide) rfl T.g__law_bursts (pa_cons (pv 0) (pa_cons (pe_ix ix_list (pv 6) pe_int (fun _ _ => rfl)) (pa_cons pe_str (pa_cons (pe_callB call_len_str (by rfl) T.f_len (by decide +kernel) (pa_cons (pe_ix ix_tup (pv 3) pe_int (fun _ _ => rfl)) pa_nil)) pa_nil)))))) (pss_one (ps_ret (pe_tup (pa_cons pe_str (pa_cons pe_str pa_nil))))) pss_nil)
      (pss_cons (ps_expr (pe_bm PySem.F.plainAttrs_list PySem.F.slot_list_append PySem.F.type_list_append mt_append (pe_ix ix_list (pv 6) pe_int (fun _ _ => rfl)) (pa_cons (pe_tup (pa_cons (pe_ix ix_tup (pv 2) pe_int (fun _ _ => rfl)) (pa_cons (pe_ix ix_tup (pv 2) pe_int (fun _ _ => rfl)) (pa_cons (pe_ix ix_tup (pv 2) pe_int (fun _ _ => rfl)) (pa_cons (pe_ix ix_tup (pv 3) pe_int (fun _ _ => rfl)) pa_nil))))) pa_nil)))
      (pss_cons (ps_asg (pe_op op_add (pe_ix ix_list (pv 6) pe_int (fun _ _ => rfl)) (pe_callB call_len_str (by rfl) T.f_len (by decide +kernel) (pa_cons (pe_ix ix_tup (pv 3) pe_int (fun _ _ => rfl)) pa_nil))) (pg_sub (pv 6) pe_int set_list))
      (pss_one (ps_ret (pe_tup (pa_cons pe_str (pa_cons (pe_ix ix_tup (pv 2) pe_int (fun _ _ => rfl)) (pa_cons (pv 5) (pa_cons (pe_op op_sub (pe_ix ix_list (pv 6) pe_int (fun _ _ => rfl)) (pe_callB call_len_str (by rfl) T.f_len (by decide +kernel) (pa_cons (pe_ix ix_tup (pv 3) pe_int (fun _ _ => rfl)) pa_nil))) pa_nil))))))))))))))))), ?_⟩
  dsimp only [cxOf, Cx.nox]
  have hZ := W.len
  have e63 : sizeLine = 16777216 := sizeLine_eq
  refine ⟨_, rfl, _, rfl, _, rfl, g, Z, e, pd, q, kvs, ns, rfl, rfl, rfl, R, W, hpd, hpl, hq, gns, h6, fun w hl => ?_, fun i hl => ?_⟩
  · have k' : LDone g H (Z, refu w) Q := by
      cases o with
      | some tx =>
        simp only [wrN, hl] at k
        exact k
      | none =>
        simp only [seN, hl] at k
        exact k
    exact ⟨_, rfl, _, _, _, _, _, rfl, isi_ss ⟨_, rfl, iteT ⟨_, rfl, k'.say R (Same.refl H)⟩⟩⟩
  refine ⟨_, rfl, _, _, _, _, _, rfl, isi_is ⟨_, rfl, iteF ?_⟩⟩
  obtain ⟨n, hn, hpn⟩ := look_node W hl
  have hnz := List.mem_of_getElem? hn
  have gn := W.good n hnz
  obtain ⟨rx, ry, hrx, hry, hrow, vs, hys, hvs⟩ := R.at hn
  refine ⟨_, rfl, _, rfl, g.a, _, _, _, rfl, rfl, SqL.of R.top, atI_nat (j := i) (mapref hrx), ?_⟩
  refine ⟨_, rfl, rx, _, _, _, rfl, rfl, SqL.of hrow, atI_nat (j := 0) rfl, rfl, _, rfl, ?_⟩
  cases hfile : n.file with
  | false =>
    have k' : LDone g H (Z, refu "kind") Q := by
      cases o with
      | some tx =>
        simp only [wrN, hl, hn, if_pos hfile] at k
        exact k
      | none =>
        simp only [seN, hl, hn, if_pos hfile] at k
        exact k
    exact iteT (k'.say R (Same.refl H))
  | true =>
  have nf : ¬ n.file = false := by rw [hfile]; decide
  refine iteF ?_
  refine ⟨_, rfl, rx, _, _, _, rfl, rfl, SqL.of hrow, atI_nat (j := 3) rfl, _, rfl, iteB (fun h4 => ?_) (fun h4 => ?_)⟩
  · have k' : LDone g H (Z, refu "sealed") Q := by
      cases o with
      | some tx =>
        simp only [wrN, hl, hn, if_neg nf, if_pos h4] at k
        exact k
      | none =>
        simp only [seN, hl, hn, if_neg nf, if_pos h4] at k
        exact k
    exact k'.say R (Same.refl H)
  have ns4 : ¬ n.shut = true := by rw [h4]; decide
  cases o with
  | none =>
    simp only [seN, hl, hn, if_neg nf, if_neg ns4] at k
    refine ⟨_, rfl, da, _, _, _, rfl, rfl, SqT.of hda, atI_nat (j := 0) rfl, rfl, _, rfl, iteT ?_⟩
    refine ⟨_, rfl, rx, _, _, 3, rfl, rfl, hrow, rfl, ?_⟩
    generalize eH5 : upd H rx (.lst ((rowV ry n).set 3 (.bl true))) = H5
    have kp5 : ∀ c o, c ≠ rx → H c = some o → H5 c = some o := fun c o hc h => by
      rw [← eH5, upd_ne hc]
      exact h
    have h5x : H5 rx = some (.lst (rowV ry { n with shut := true })) := by rw [← eH5, upd_same] <;> rfl
    clear eH5
    have t5 : TupK H H5 := fun c xs h => kp5 c _ (ne_of h hrow (by intro z; cases z)) h
    refine ⟨_, rfl, _, rfl, rx, _, _, _, rfl, rfl, SqL.of h5x, atI_nat (j := 5) rfl, sm64 (by show 3 ≤ 10000; decide), fun p6 hp6 => ?_⟩
    have s6 := same_new (o := .tup [.str "sealed", .int (i : Int), .int (n.size : Int)]) hp6
    have R5 : LawAt H5 g (Z.set i { n with shut := true }) := R.setR hrx hry hn (fun c o hc _ h => kp5 c o hc h) t5 ⟨h5x, vs, kp5 _ _ (R.ne_lp hrx hry).symm hys, hvs.keep t5⟩
    exact k g _ _ rfl (R5.same s6) (Post.kept (fun c o hc h => s6 _ _ (kp5 c o (fun z => hc (by rw [z]; exact Lg.mem_la hrx)) h)) (t5.trans (Same.tup s6))) (isV.tup upd_same (isVs.cons isV.str (isVs.cons isV.int (isVs.cons isV.int isVs.nil))))
  | some tx =>
    simp only [wrN, hl, hn, if_neg nf, if_neg ns4] at k
    have htx := hox tx rfl
    refine ⟨_, rfl, da, _, _, _, rfl, rfl, SqT.of hda, atI_nat (j := 0) rfl, rfl, _, rfl, ?_⟩
    rw [show decide (V.str "append" = V.str "seal") = false by decide +kernel]
    refine iteF ?_
    refine ⟨_, rfl, da, _, _, _, rfl, rfl, SqT.of hda, atI_nat (j := 2) rfl, rfl, _, rfl, iteB (fun h5 => ?_) (fun h5 => ?_)⟩
    · have e5 : tx = [] := by
        rw [lEmp] at h5
        simpa [S_eq_iff] using h5
      simp only [if_pos e5] at k
      exact k.say R (Same.refl H)
    have e5 : ¬ tx = [] := by
      rw [lEmp] at h5
      simpa [S_eq_iff] using h5
    simp only [if_neg e5] at k
    refine ⟨_, rfl, _, rfl, rx, _, _, _, rfl, rfl, SqL.of hrow, atI_nat (j := 1) rfl, _, rfl, da, _, _, _, rfl, rfl, SqT.of hda, atI_nat (j := 2) rfl, _, rfl, S_len63 htx (by decide), ?_⟩
    rw [S_len]
    refine ⟨g, Z, e, n.path, [], tx.length, rfl, rfl, by rw [pcat_nil, lEmp], rfl, R, W, gn.1, fun _ z => (nomatch z), fun H2 s2 => ?_⟩
    rw [hpn]
    refine ⟨_, rfl, iteB (fun h7 => ?_) (fun h7 => ?_)⟩
    · simp only [if_pos h7] at k
      exact k.say R s2
    simp only [if_neg (show ¬ bursts Z ns [] tx.length = true by rw [h7]; decide)] at k
    refine ⟨_, rfl, rx, _, _, _, rfl, rfl, SqL.of (s2 _ _ hrow), atI_nat (j := 2) rfl, .inl ⟨rfl, _, SqL.of (s2 _ _ hys)⟩, ?_⟩
    refine ⟨_, rfl, sa, _, _, _, rfl, rfl, SqT.of (s2 _ _ hsa), atI_nat (j := 0) rfl, ?_⟩
    refine ⟨_, rfl, sa, _, _, _, rfl, rfl, SqT.of (s2 _ _ hsa), atI_nat (j := 1) rfl, ?_⟩
    refine ⟨_, rfl, sa, _, _, _, rfl, rfl, SqT.of (s2 _ _ hsa), atI_nat (j := 2) rfl, ?_⟩
    refine ⟨_, rfl, da, _, _, _, rfl, rfl, SqT.of (s2 _ _ hda), atI_nat (j := 2) rfl, sm64 (by show 4 ≤ 10000; decide), fun t0 ht0 => ?_⟩
    have hpc := W.pcn n hnz
    have hvl := hvs.length
    rw [List.length_map] at hvl
    have s3 := s2.trans (same_new (o := .tup [.int st.num, .int st.cl, .int st.ser, .str (S tx)]) ht0)
    refine ⟨ry, _, _, rfl, rfl, s3 _ _ hys, sm63 (by omega), ?_⟩
    generalize eH4 : upd H2 t0 (.tup [.int st.num, .int st.cl, .int st.ser, .str (S tx)]) = H4
    have s4 : Same H H4 := by rw [← eH4]; exact s3
    have h4t : H4 t0 = some (.tup [.int st.num, .int st.cl, .int st.ser, .str (S tx)]) := by rw [← eH4]; exact upd_same
    clear eH4
    generalize eH5 : upd H4 ry (.lst (vs ++ [.ref t0])) = H5
    have kp5 : ∀ c o, c ≠ ry → H4 c = some o → H5 c = some o := fun c o hc h => by
      rw [← eH5, upd_ne hc]
      exact h
    have h5y : H5 ry = some (.lst (vs ++ [.ref t0])) := by rw [← eH5]; exact upd_same
    clear eH5
    have t5 : TupK H4 H5 := fun c xs h => kp5 c _ (ne_of h (s4 _ _ hys) (by intro z; cases z)) h
    have nxy := R.ne_lp hrx hry
    have h5x : H5 rx = some (.lst (rowV ry n)) := kp5 _ _ nxy (s4 _ _ hrow)
    have h5d := t5 _ _ (s4 _ _ hda)
    refine ⟨_, rfl, rx, _, _, _, rfl, rfl, SqL.of h5x, atI_nat (j := 5) rfl, _, rfl, da, _, _, _, rfl, rfl, SqT.of h5d, atI_nat (j := 2) rfl, _, rfl, S_len63 htx (by decide), _, _, rfl, rfl, ?_⟩
    rw [S_len]
    refine ⟨_, rfl, rx, _, _, 5, rfl, rfl, h5x, rfl, ?_⟩
    generalize eH6 : upd H5 rx (.lst ((rowV ry n).set 5 (.int ((n.size : Int) + (tx.length : Int))))) = H6
    have kp6 : ∀ c o, c ≠ rx → H5 c = some o → H6 c = some o := fun c o hc h => by
      rw [← eH6, upd_ne hc]
      exact h
    have esz : (({ n with pcs := n.pcs ++ [⟨st.num, st.cl, st.ser, tx⟩] } : Nd).size : Int) = (n.size : Int) + (tx.length : Int) := by
      unfold Nd.size
      simp
    have h6x : H6 rx = some (.lst (rowV ry { n with pcs := n.pcs ++ [⟨st.num, st.cl, st.ser, tx⟩] })) := by
      rw [← eH6, upd_same]
      unfold rowV
      rw [esz] <;> rfl
    clear eH6
    have t6 : TupK H5 H6 := fun c xs h => kp6 c _ (ne_of h h5x (by intro z; cases z)) h
    have t46 := t5.trans t6
    have h6x' := h6x
    unfold rowV at h6x'
    rw [esz] at h6x'
    refine ⟨_, rfl, sa, _, _, _, rfl, rfl, SqT.of (t46 _ _ (s4 _ _ hsa)), atI_nat (j := 0) rfl, _, rfl, _, rfl, rx, _, _, _, rfl, rfl, SqL.of h6x', atI_nat (j := 5) rfl, _, rfl, da, _, _, _, rfl, rfl, SqT.of (t46 _ _ (s4 _ _ hda)), atI_nat (j := 2) rfl, _, rfl, S_len63 htx (by decide), _, _, rfl, rfl, sm64 (by show 4 ≤ 10000; decide), fun p6 hp6 => ?_⟩
    rw [S_len]
    show Q (.ref p6) (upd H6 p6 (.tup [.str "written", .int st.num, .int (i : Int), .int ((n.size : Int) + (tx.length : Int) - (tx.length : Int))]))
    rw [Int.add_sub_cancel]
    have s6 := same_new (o := .tup [.str "written", .int st.num, .int (i : Int), .int (n.size : Int)]) hp6
    have R5 : LawAt H6 g (Z.set i { n with pcs := n.pcs ++ [⟨st.num, st.cl, st.ser, tx⟩] }) := (R.same s4).setR hrx hry hn (fun c o hc hc2 h => kp6 c o hc (kp5 c o hc2 h)) t46 ⟨h6x, vs ++ [.ref t0], kp6 _ _ nxy.symm h5y, by
      rw [List.map_append]
      exact ((hvs.keep (Same.tup s4)).keep t46).snoc (isV.tup (t46 _ _ h4t) (isVs.cons isV.int (isVs.cons isV.int (isVs.cons isV.int (isVs.cons isV.str isVs.nil)))))⟩
    exact k g _ _ rfl (R5.same s6) (Post.kept (fun c o hc h => s6 _ _ (kp6 c o (fun z => hc (by rw [z]; exact Lg.mem_la hrx)) (kp5 c o (fun z => hc (by rw [z]; exact Lg.mem_pb hry)) (s4 _ _ h)))) ((Same.tup s4).trans (t46.trans (Same.tup s6)))) (isV.tup upd_same (isVs.cons isV.str (isVs.cons isV.int (isVs.cons isV.int (isVs.cons isV.int isVs.nil)))))
end
end Ah
/-! The law's snapshot, move. -/
namespace Ah
open PySem PySem.Spec PyProof.Rows L2 He SX
theorem cnt_count (l : List Nat) : cnt 47 l = ((l.count 47 : Nat) : Int) := by
  induction l with
  | nil => rfl
  | cons a l ih =>
    rw [cnt_cons, ih, List.count_cons]
    by_cases h : a = 47
    · subst h
      simp
      omega
    · simp [h]
theorem count_path {p : List Nm} (g : Good p) : Txt.count (S (pcat p)) "/" = (p.length : Int) := by
  rw [lSl]
  show Txt.count (S (pcat p)) ⟨#[47]⟩ = _
  rw [count_cnt, show (S (pcat p)).cps.toList = pcat p from rfl, cnt_count, pcat_count g.fr]
theorem join_len {p : List Nm} (g : Good p) (h6 : p.length ≤ 6) : (Txt.join "/" (p.map S)).length ≤ 78 := by
  by_cases hne : p = []
  · subst hne
    rw [lSl, join_S [47] [], S_len] <;> simp [TL.joinL]
  · rw [lSl, join_S, S_len]
    have := congrArg List.length (pcat_join hne)
    have l1 := pcat_len13 g h6
    rw [List.length_cons] at this
    omega
section
variable {P : Program} {w : World} {K : PySem.W.Frag} {mg : Str → Option Value} {base : Heap}
def P__law_snapshot (K : PySem.W.Frag) (a b c d : V) (H : Hp) (Q : VK) : Prop := ∃ (g : Lg) (Z : Tr) (e : Nat) (pd q1 q2 : Addr) (kvs : List (Key × V)) (o p : List Nm), a = .ref g.a ∧ b = .ref pd ∧ c = .ref q1 ∧ d = .ref q2 ∧ LawAt H g Z ∧ WF e Z ∧ H pd = some (.dK kvs) ∧ PlAt kvs Z ∧
  H q1 = some (.lst (nmV o)) ∧ H q2 = some (.lst (nmV p)) ∧ Good o ∧ Good p ∧ o.length ≤ 6 ∧ p.length ≤ 6 ∧ LDone g H (snN Z o p) Q
abbrev N__law_snapshot : List Str := ["_law_nodes", "_law_places_here", "_law_names_here", "_law_new", "_law_at", "_law_word", "_law_path"]
theorem sc__law_snapshot : FnScope N__law_snapshot ["_law_nodes", "_law_places_here", "_law_names_here", "_law_new"] (defScope s_law_snapshot) := ⟨rfl, rfl, rfl, by decide +kernel, rfl, by decide +kernel, by decide +kernel⟩
theorem ok__law_snapshot (T : Tx w K mg) : Cal P w K mg base 4 (fAd K ("_law_snapshot", none)) (Sp4 (P__law_snapshot K)) := by
  refine mk4 (k := 3) T.fd_law_snapshot sc__law_snapshot (fun _ _ _ _ _ _ _ _ _ _  => rfl) fun cdv A outer s H E va vb vc vd Q hr h => ?_
  have hu := hu_of hr
  obtain ⟨g, Z, e, pd, q1, q2, kvs, o, p, rfl, rfl, rfl, rfl, R, W, hpd, hpl, hq1, hq2, go, gp, ho6, hp6, k⟩ := h
  refine ⟨_, (pss_cons (ps_set (i := 4) sc__law_snapshot.nd rfl (Or.inl rfl) (pcall (ok__law_look T) hr (by decide) rfl T.g__law_look (pa_cons (pv 0) (pa_cons (pv 1) (pa_cons (pv 2) pa_nil)))))
      (pss_cons (ps_if (pt_val (pe_callB call_isi (by rfl) T.f_isinstance (by decide +kernel) (pa_cons (pv 4) (pa_cons (pe_bltn (v := .ty "str") (by rfl) T.f_str (by decide +kernel) rfl) pa_nil)))) (pss_one (ps_ret (pe_tup (pa_cons pe_str (pa_cons (pv 4) pa_nil))))) pss_nil)
      (pss_cons (ps_if (pt_cmpR op_eq (pe_ix ix_list (pe_ix ix_list (pv 0) (pv 4) (fun _ _ => rfl)) pe_int (fun _ _ => rfl)) pe_int (nomark _)) (pss_one (ps_ret (pe_tup (pa_cons pe_str (pa_cons pe_str pa_nil))))) pss_nil)
      (pss_cons (ps_set (i := 5) sc__law_snapshot.nd rfl (Or.inl rfl) (pcall (ok__law_place T) hr (by decide) rfl T.g__law_place (pa_cons (pv 0) (pa_cons (pv 1) (pa_cons (pv 3) pa_nil)))))
      (pss_cons (ps_set (i := 6) sc__law_snapshot.nd rfl (Or.inl rfl) (pe_op op_add_str pe_str (pe_join pe_str (pv 3))))
      (pss_cons (ps_if (PW.pt (pw_and (pt_cmpR op_eq (pv 5) pe_str (nomark _)) (pw_and1 (pt_cmpR op_ge (pe_callB call_len_seq (by rfl) T.f_len (by decide +kernel) (pa_cons (pv 0) pa_nil)) pe_int (nomark _))))) (pss_one (ps_set (i := 5) sc__law_snapshot.nd rfl (Or.inl rfl) pe_str)) pss_nil)
      (pss_cons (ps_if (PW.pt (pw_and (pt_cmpR op_eq (pv 5) pe_str (nomark _)) (pw_and1 (pt_val (pcall (ok__law_bursts T) hr (by decide) rfl T.g__law_bursts (pa_cons (pv 0) (pa_cons (pv 6) (pa_cons pe_str (pa_cons (pe_ix ix_list (pe_ix ix_list (pv 0) (pv 4) (fun _ _ => rfl)) pe_int (fun _ _ => rfl)) pa_nil))))))))) (pss_one (ps_set (i := 5) sc__law_snapshot.nd rfl (Or.inl rfl) pe_str)) pss_nil)
      (pss_cons (ps_if (pt_cmpR op_ne (pv 5) pe_str (nomark _)) (pss_one (ps_ret (pe_tup (pa_cons pe_str (pa_cons (pv 5) pa_nil))))) pss_nil)
      (pss_cons (ps_expr (pe_bm PySem.F.plainAttrs_list PySem.F.slot_list_append PySem.F.type_list_append mt_append (pv 0) (pa_cons (pe_lst (pa_cons pe_int (pa_cons (pv 6) (pa_cons (pe_callTy call_list_of (by rfl) T.f_list (by decide +kernel) (pa_cons (pe_ix ix_list (pe_ix ix_list (pv 0) (pv 4) (fun _ _ => rfl)) pe_int (fun _ _ => rfl)) pa_nil)) (pa_cons pe_bl (pa_cons (pe_un un_neg pe_int) (pa_cons (pe_ix ix_list (pe_ix ix_list (pv 0) (pv 4) (fun _ _ => rfl)) pe_int (fun _ _ => rfl)) pa_nil))))))) pa_nil)))
      (pss_one (ps_ret (pe_tup (pa_cons pe_str (pa_cons (pe_op op_sub (pe_callB call_len_seq (by rfl) T.f_len (by decide +kernel) (pa_cons (pv 0) pa_nil)) pe_int) pa_nil)))))))))))))), ?_⟩
  dsimp only [cxOf, Cx.nox]
  have hZ := W.len
  have e63 : sizeLine = 16777216 := sizeLine_eq
  unfold snN at k
  refine ⟨_, rfl, _, rfl, _, rfl, g, Z, e, pd, q1, kvs, o, rfl, rfl, rfl, R, W, hpd, hpl, hq1, go, ho6, fun w hl => ?_, fun i hl => ?_⟩
  · rw [hl] at k
    exact ⟨_, rfl, _, _, _, _, _, rfl, isi_ss ⟨_, rfl, iteT ⟨_, rfl, k.say R (Same.refl H)⟩⟩⟩
  rw [hl] at k
  refine ⟨_, rfl, _, _, _, _, _, rfl, isi_is ⟨_, rfl, iteF ?_⟩⟩
  obtain ⟨n, hn, hpn⟩ := look_node W hl
  simp only [hn] at k
  have hnz := List.mem_of_getElem? hn
  have gn := W.good n hnz
  obtain ⟨rx, ry, hrx, hry, hrow, vs, hys, hvs⟩ := R.at hn
  refine ⟨_, rfl, _, rfl, g.a, _, _, _, rfl, rfl, SqL.of R.top, atI_nat (j := i) (mapref hrx), rx, _, _, _, rfl, rfl, SqL.of hrow, atI_nat (j := 0) rfl, rfl, _, rfl, ?_⟩
  cases hfile : n.file with
  | false =>
    simp only [if_pos hfile] at k
    exact iteT (k.say R (Same.refl H))
  | true =>
  simp only [if_neg (show ¬ n.file = false by rw [hfile]; decide)] at k
  refine iteF ?_
  have l2 := sum12 gp
  have jl := join_len gp hp6
  have joins : ∀ H2, Same H H2 → ∀ Q' : VK, Q' (.str ("/" ++ Txt.join "/" (p.map S))) H2 → (∃ a, V.str "/" = V.str a) ∧ ∃ v, [some (V.ref g.a), some (.ref pd), some (.ref q1), some (.ref q2)][3]? = some (some v) ∧ ∃ a p' ys, V.str "/" = V.str a ∧ [v] = [V.ref p'] ∧ (SqL K H2 p' (ys.map V.str) ∨ SqT K H2 p' (ys.map V.str)) ∧ (ys.map (·.length)).sum + ys.length * a.length ≤ 16777216 ∧ ∃ i j, V.str "/" = .str i ∧ V.str (Txt.join a ys) = .str j ∧ i.length + j.length ≤ sizeLine ∧ Q' (.str (i ++ j)) H2 := by
    intro H2 s2 Q' hq'
    refine ⟨⟨_, rfl⟩, _, rfl, _, q2, p.map S, rfl, rfl, .inl (SqL.of (by rw [s2 _ _ hq2, List.map_map] <;> rfl)), ?_, _, _, rfl, rfl, ?_, hq'⟩
    · rw [sum_len, List.length_map, show ("/" : Str).length = 1 from rfl]
      omega
    · rw [show ("/" : Str).length = 1 from rfl]
      omega
  refine ⟨_, rfl, _, rfl, _, rfl, g, Z, e, pd, q2, kvs, p, rfl, rfl, rfl, R, W, hpd, hpl, hq2, gp, hp6, fun w hp H2 s2 => ?_, fun j hp H2 s2 => ?_⟩
  · rw [hp] at k
    have hw := place_word hp
    obtain ⟨j1, _, j2, j3⟩ := joins H2 s2 (fun v H3 => v = .str ("/" ++ Txt.join "/" (p.map S)) ∧ H3 = H2) ⟨rfl, rfl⟩
    refine ⟨⟨_, rfl⟩, _, rfl, _, q2, p.map S, rfl, rfl, .inl (SqL.of (by rw [s2 _ _ hq2, List.map_map] <;> rfl)), ?_, _, _, rfl, rfl, ?_, ?_⟩
    · rw [sum_len, List.length_map, show ("/" : Str).length = 1 from rfl]
      omega
    · rw [show ("/" : Str).length = 1 from rfl]
      omega
    refine ⟨_, rfl, rfl, _, rfl, ?_⟩
    rw [hw]
    refine iteF (iteF ?_)
    refine ⟨_, rfl, rfl, _, rfl, ?_⟩
    rw [hw]
    refine iteF (iteF ?_)
    refine ⟨_, rfl, rfl, _, rfl, ?_⟩
    rw [hw]
    exact iteT ⟨_, rfl, k.say R s2⟩
  rw [hp] at k
  have hne : p ≠ [] := (place_at W hp).1
  refine ⟨⟨_, rfl⟩, _, rfl, _, q2, p.map S, rfl, rfl, .inl (SqL.of (by rw [s2 _ _ hq2, List.map_map] <;> rfl)), ?_, _, _, rfl, rfl, ?_, ?_⟩
  · rw [sum_len, List.length_map, show ("/" : Str).length = 1 from rfl]
    omega
  · rw [show ("/" : Str).length = 1 from rfl]
    omega
  rw [join_nm hne]
  refine ⟨_, rfl, rfl, _, rfl, iteT ?_⟩
  refine ⟨_, rfl, g.a, _, rfl, .inl (SqL.of (s2 _ _ R.top)), _, _, rfl, rfl, _, rfl, ?_⟩
  rw [List.length_map, R.lla]
  refine iteB (fun h1 => ?_) (fun h1 => ?_)
  · have h2 : 64 ≤ Z.length := by
      have := of_decide_eq_true h1
      omega
    simp only [if_pos h2] at k
    exact ⟨_, rfl, rfl, _, rfl, iteF (iteF ⟨_, rfl, rfl, _, rfl, iteT ⟨_, rfl, k.say R s2⟩⟩)⟩
  have h2 : ¬ 64 ≤ Z.length := by
    have := of_decide_eq_false h1
    omega
  simp only [if_neg h2] at k
  refine ⟨_, rfl, rfl, _, rfl, iteT ?_⟩
  refine ⟨_, rfl, _, rfl, _, rfl, _, rfl, g.a, _, _, _, rfl, rfl, SqL.of (s2 _ _ R.top), atI_nat (j := i) (mapref hrx), rx, _, _, _, rfl, rfl, SqL.of (s2 _ _ hrow), atI_nat (j := 5) rfl, ?_⟩
  refine ⟨g, Z, e, p, [], n.size, rfl, rfl, by rw [pcat_nil, lEmp], rfl, R.same s2, W, gp, fun _ z => (nomatch z), fun H3 s3 => ?_⟩
  have s23 := s2.trans s3
  refine ⟨_, rfl, iteB (fun h7 => ?_) (fun h7 => ?_)⟩
  · simp only [if_pos h7] at k
    exact ⟨_, rfl, rfl, _, rfl, iteT ⟨_, rfl, k.say R s23⟩⟩
  simp only [if_neg (show ¬ bursts Z p [] n.size = true by rw [h7]; decide)] at k
  refine ⟨_, rfl, rfl, _, rfl, iteF ?_⟩
  refine ⟨_, rfl, .inl ⟨rfl, _, SqL.of (s23 _ _ R.top)⟩, _, rfl, _, rfl, _, rfl, g.a, _, _, _, rfl, rfl, SqL.of (s23 _ _ R.top), atI_nat (j := i) (mapref hrx), rx, _, _, _, rfl, rfl, SqL.of (s23 _ _ hrow), atI_nat (j := 2) rfl, ry, vs, rfl, .inl (SqL.of (s23 _ _ hys)), fun y hy => ?_⟩
  have s4 := s23.trans (same_new (o := .lst vs) hy)
  refine ⟨_, rfl, _, rfl, _, rfl, g.a, _, _, _, rfl, rfl, SqL.of (s4 _ _ R.top), atI_nat (j := i) (mapref hrx), rx, _, _, _, rfl, rfl, SqL.of (s4 _ _ hrow), atI_nat (j := 5) rfl, sm64 (by show 6 ≤ 10000; decide), fun x hx => ?_⟩
  have s5 := s4.trans (same_new (o := .lst (rowV y ⟨true, p, n.pcs, true, none⟩)) hx)
  have nxy : x ≠ y := by
    rintro rfl
    rw [upd_same] at hx
    cases hx
  have hx1 : H3 x = none := by
    rw [upd_ne nxy] at hx
    exact hx
  refine ⟨g.a, _, _, rfl, rfl, s5 _ _ R.top, sm63 (by rw [List.length_map, R.lla]; omega), ?_⟩
  generalize eH5 : upd (upd H3 y (.lst vs)) x (.lst [.int 1, .str (S (pcat p)), .ref y, .bl true, .int (-1), .int (n.size : Int)]) = H5
  have s5 : Same H H5 := by rw [← eH5]; exact s5
  have h5x : H5 x = some (.lst (rowV y ⟨true, p, n.pcs, true, none⟩)) := by rw [← eH5, upd_same] <;> rfl
  have h5y : H5 y = some (.lst vs) := by rw [← eH5, upd_ne nxy.symm, upd_same]
  clear eH5
  have nx := R.nfp (s23.free hx1)
  have ny := R.nfp (s23.free hy)
  have kp : ∀ c o o', c ≠ g.a → H5 c = some o → (upd H5 g.a o') c = some o := fun c o o' hc h => by
    rw [upd_ne hc]
    exact h
  have nxa : x ≠ g.a := fun z => nx (by rw [z]; exact Lg.mem_a)
  have nya : y ≠ g.a := fun z => ny (by rw [z]; exact Lg.mem_a)
  have tk : ∀ o', TupK H5 (upd H5 g.a o') := fun o' c xs h => kp c _ _ (ne_of h (s5 _ _ R.top) (by intro z; cases z)) h
  have R6 := (R.same s5).grow (n := ⟨true, p, n.pcs, true, none⟩) (H' := upd H5 g.a (.lst (g.la.map V.ref ++ [.ref x]))) nx ny nxy (fun c o hc h => kp c o _ hc h) (tk _) upd_same (kp _ _ _ nxa h5x) (kp _ _ _ nya h5y) ((hvs.keep (Same.tup s5)).keep (tk _))
  refine ⟨_, rfl, g.a, _, rfl, .inl (SqL.of upd_same), _, _, rfl, rfl, sm64 (by show 2 ≤ 10000; decide), fun p9 hp9 => ?_⟩
  have el : (((g.la.map V.ref ++ [V.ref x]).length : Nat) : Int) - 1 = (Z.length : Int) := by
    rw [List.length_append, List.length_map, R.lla, List.length_singleton]
    omega
  show Q (.ref p9) (upd _ p9 (.tup [.str "made", .int ((((g.la.map V.ref ++ [V.ref x]).length : Nat) : Int) - 1)]))
  rw [el]
  have s9 := same_new (o := .tup [.str "made", .int (Z.length : Int)]) hp9
  refine k ⟨g.a, g.la ++ [x], g.pb ++ [y]⟩ _ _ rfl (R6.same s9) ⟨fun b o h hb => s9 _ _ (kp b o _ (fun z => hb (by rw [z]; exact Lg.mem_a)) (s5 _ _ h)), (Same.tup s5).trans ((tk _).trans (Same.tup s9)), fun b hb => ?_⟩ (isV.tup upd_same (isVs.cons isV.str (isVs.cons isV.int isVs.nil)))
  rcases LawAt.grow_fp b hb with z | rfl | rfl
  · exact .inl z
  · exact .inr (s23.free hx1)
  · exact .inr (s23.free hy)
def P__law_move (K : PySem.W.Frag) (a b c d : V) (H : Hp) (Q : VK) : Prop := ∃ (g : Lg) (Z : Tr) (e : Nat) (pd q1 q2 : Addr) (kvs : List (Key × V)) (o p : List Nm), a = .ref g.a ∧ b = .ref pd ∧ c = .ref q1 ∧ d = .ref q2 ∧ LawAt H g Z ∧ WF e Z ∧ H pd = some (.dK kvs) ∧ PlAt kvs Z ∧
  H q1 = some (.lst (nmV o)) ∧ H q2 = some (.lst (nmV p)) ∧ Good o ∧ Good p ∧ o.length ≤ 6 ∧ p.length ≤ 6 ∧ LDone g H (mvN Z o p) Q
abbrev N__law_move : List Str := ["_law_nodes", "_law_places_here", "_law_names_here", "_law_new", "_law_at", "_law_word", "_law_old", "_law_path", "_law_deep", "_law_node", "_law_k"]
theorem sc__law_move : FnScope N__law_move ["_law_nodes", "_law_places_here", "_law_names_here", "_law_new"] (defScope s_law_move) := ⟨rfl, rfl, rfl, by decide +kernel, rfl, by decide +kernel, by decide +kernel⟩
theorem ok__law_move (T : Tx w K mg) : Cal P w K mg base 4 (fAd K ("_law_move", none)) (Sp4 (P__law_move K)) := by
  refine mk4 (k := 3) T.fd_law_move sc__law_move (fun _ _ _ _ _ _ _ _ _ _  => rfl) fun cdv A outer s H E va vb vc vd Q hr h => ?_
  have hu := hu_of hr
  obtain ⟨g, Z, e, pd, q1, q2, kvs, o, p, rfl, rfl, rfl, rfl, R, W, hpd, hpl, hq1, hq2, go, gp, ho6, hp6, k⟩ := h
  refine ⟨_, (pss_cons (ps_if (pt_cmpR (op_eqD hr.units) (pv 2) (pe_lst pa_nil) (nomark _)) (pss_one (ps_ret (pe_tup (pa_cons pe_str (pa_cons pe_str pa_nil))))) pss_nil)
      (pss_cons (ps_set (i := 4) sc__law_move.nd rfl (Or.inl rfl) (pcall (ok__law_look T) hr (by decide) rfl T.g__law_look (pa_cons (pv 0) (pa_cons (pv 1) (pa_cons (pv 2) pa_nil)))))
      (pss_cons (ps_if (pt_val (pe_callB call_isi (by rfl) T.f_isinstance (by decide +kernel) (pa_cons (pv 4) (pa_cons (pe_bltn (v := .ty "str") (by rfl) T.f_str (by decide +kernel) rfl) pa_nil)))) (pss_one (ps_ret (pe_tup (pa_cons pe_str (pa_cons (pv 4) pa_nil))))) pss_nil)
      (pss_cons (ps_if (pt_cmpR (op_eqD hr.units) (pe_slice sl_list (pv 3) po_none (po_some (pe_callB call_len_seq (by rfl) T.f_len (by decide +kernel) (pa_cons (pv 2) pa_nil)))) (pv 2) (nomark _)) (pss_one (ps_ret (pe_tup (pa_cons pe_str (pa_cons pe_str pa_nil))))) pss_nil)
      (pss_cons (ps_set (i := 5) sc__law_move.nd rfl (Or.inl rfl) (pcall (ok__law_place T) hr (by decide) rfl T.g__law_place (pa_cons (pv 0) (pa_cons (pv 1) (pa_cons (pv 3) pa_nil)))))
      (pss_cons (ps_if (pt_cmpR op_ne (pv 5) pe_str (nomark _)) (pss_one (ps_ret (pe_tup (pa_cons pe_str (pa_cons (pv 5) pa_nil))))) pss_nil)
      (pss_cons (ps_set (i := 6) sc__law_move.nd rfl (Or.inl rfl) (pe_ix ix_list (pe_ix ix_list (pv 0) (pv 4) (fun _ _ => rfl)) pe_int (fun _ _ => rfl)))
      (pss_cons (ps_set (i := 7) sc__law_move.nd rfl (Or.inl rfl) (pe_op op_add_str pe_str (pe_join pe_str (pv 3))))
      (pss_cons (ps_set (i := 8) sc__law_move.nd rfl (Or.inl rfl) pe_int)
      (pss_cons (ps_for PassesOwn.never rfl (pi_list (pv 0)) (pg_name (i := 9) sc__law_move.nd rfl (Or.inl rfl))
      (pss_one (ps_if (pt_val (pcall (ok__law_inside T) hr (by decide) rfl T.g__law_inside (pa_cons (pe_ix ix_list (pv 9) pe_int (fun _ _ => rfl)) (pa_cons (pv 6) pa_nil)))) (pss_one (ps_set (i := 8) sc__law_move.nd rfl (Or.inl rfl) (pe_callB (call_max2 rfl) (by rfl) T.f_max (by decide +kernel) (pa_cons (pv 8) (pa_cons (pe_op op_sub (pe_op op_add (pe_callB call_len_seq (by rfl) T.f_len (by decide +kernel) (pa_cons (pv 3) pa_nil)) (pe_m1 PySem.F.slot_str_count PySem.F.type_str_count mt_count (pe_ix ix_list (pv 9) pe_int (fun _ _ => rfl)) pe_str)) (pe_m1 PySem.F.slot_str_count PySem.F.type_str_count mt_count (pv 6) pe_str)) pa_nil))))) pss_nil)))
      (pss_cons (ps_if (pt_cmpR op_gt (pv 8) pe_int (nomark _)) (pss_one (ps_ret (pe_tup (pa_cons pe_str (pa_cons pe_str pa_nil))))) pss_nil)
      (pss_cons (ps_if (pt_val (pcall (ok__law_bursts T) hr (by decide) rfl T.g__law_bursts (pa_cons (pv 0) (pa_cons (pv 7) (pa_cons (pv 6) (pa_cons (pcall (ok__law_size T) hr (by decide) rfl T.g__law_size (pa_cons (pv 0) (pa_cons (pv 6) pa_nil))) pa_nil)))))) (pss_one (ps_ret (pe_tup (pa_cons pe_str (pa_cons pe_str pa_nil))))) pss_nil)
      (pss_cons (ps_for PassesOwn.never rfl (pi_range1 (by rfl) T.f_range (pa_cons (pe_callB call_len_seq (by rfl) T.f_len (by decide +kernel) (pa_cons (pv 0) pa_nil)) pa_nil)) (pg_name (i := 10) sc__law_move.nd rfl (Or.inl rfl))
      (pss_one (ps_if (pt_val (pcall (ok__law_inside T) hr (by decide) rfl T.g__law_inside (pa_cons (pe_ix ix_list (pe_ix ix_list (pv 0) (pv 10) (fun _ _ => rfl)) pe_int (fun _ _ => rfl)) (pa_cons (pv 6) pa_nil)))) (pss_one (ps_asg (pe_op op_add_str (pv 7) (pe_slice sl_str (pe_ix ix_list (pe_ix ix_list (pv 0) (pv 10) (fun _ _ => rfl)) pe_int (fun _ _ => rfl)) (po_some (pe_callB call_len_str (by rfl) T.f_len (by decide +kernel) (pa_cons (pv 6) pa_nil))) po_none)) (pg_sub (pe_ix ix_list (pv 0) (pv 10) (fun _ _ => rfl)) pe_int set_list))) pss_nil)))
      (pss_one (ps_ret (pe_tup (pa_cons pe_str (pa_cons (pv 4) pa_nil)))))))))))))))))), ?_⟩
  dsimp only [cxOf, Cx.nox]
  have hZ := W.len
  have e63 : sizeLine = 16777216 := sizeLine_eq
  unfold mvN at k
  refine ⟨_, rfl, sm64 (by show 0 ≤ 10000; decide), fun p0 hp0 => ?_⟩
  have s0 := same_new (o := .lst []) hp0
  refine ⟨_, _, dp_nm (s0 _ _ hq1), dp_nm (p := []) upd_same, shaped_nm go, shaped_nm (fun _ z => (nomatch z)), _, rfl, ?_⟩
  rw [eqv_nm]
  refine iteB (fun h1 => ?_) (fun h1 => ?_)
  · simp only [if_pos (of_decide_eq_true h1)] at k
    exact k.say R s0
  have one := of_decide_eq_false h1
  simp only [if_neg one] at k
  refine ⟨_, rfl, _, rfl, _, rfl, g, Z, e, pd, q1, kvs, o, rfl, rfl, rfl, R.same s0, W, s0 _ _ hpd, hpl, s0 _ _ hq1, go, ho6, fun w hl => ?_, fun i hl => ?_⟩
  · rw [hl] at k
    exact ⟨_, rfl, _, _, _, _, _, rfl, isi_ss ⟨_, rfl, iteT ⟨_, rfl, k.say R s0⟩⟩⟩
  simp only [hl] at k
  refine ⟨_, rfl, _, _, _, _, _, rfl, isi_is ⟨_, rfl, iteF ?_⟩⟩
  obtain ⟨n, hn, hpn⟩ := look_node W hl
  have hnz := List.mem_of_getElem? hn
  subst hpn
  obtain ⟨rx, ry, hrx, hry, hrow, vs, hys, hvs⟩ := R.at hn
  refine ⟨_, rfl, _, rfl, q1, _, rfl, .inl (SqL.of (s0 _ _ hq1)), _, rfl, q2, _, rfl, SqL.of (s0 _ _ hq2), fun p1 hp1 => ?_⟩
  rw [cut_take, nmV_len]
  have s1 := s0.trans (same_new (o := .lst (nmV (p.take n.path.length))) hp1)
  refine ⟨_, rfl, _, _, dp_nm (p := p.take n.path.length) upd_same, dp_nm (s1 _ _ hq1), shaped_nm (gp.take _), shaped_nm go, _, rfl, ?_⟩
  rw [eqv_nm]
  refine iteB (fun h2 => ?_) (fun h2 => ?_)
  · simp only [if_pos (pre_take.mp (of_decide_eq_true h2))] at k
    exact k.say R s1
  have nop : ¬ n.path <+: p := fun z => of_decide_eq_false h2 (pre_take.mpr z)
  simp only [if_neg nop] at k
  refine ⟨_, rfl, _, rfl, _, rfl, g, Z, e, pd, q2, kvs, p, rfl, rfl, rfl, R.same s1, W, s1 _ _ hpd, hpl, s1 _ _ hq2, gp, hp6, fun w hp H2 s2 => ?_, fun j hp H2 s2 => ?_⟩
  · rw [hp] at k
    have hw := place_word hp
    refine ⟨_, rfl, rfl, _, rfl, ?_⟩
    rw [hw]
    exact iteT ⟨_, rfl, k.say R (s1.trans s2)⟩
  simp only [hp] at k
  have s02 := s1.trans s2
  have hne : p ≠ [] := (place_at W hp).1
  refine ⟨_, rfl, rfl, _, rfl, iteF ?_⟩
  refine ⟨_, rfl, _, rfl, g.a, _, _, _, rfl, rfl, SqL.of (s02 _ _ R.top), atI_nat (j := i) (mapref hrx), rx, _, _, _, rfl, rfl, SqL.of (s02 _ _ hrow), atI_nat (j := 1) rfl, ?_⟩
  have l2 := sum12 gp
  have jl := join_len gp hp6
  refine ⟨⟨_, rfl⟩, _, rfl, _, q2, p.map S, rfl, rfl, .inl (SqL.of (by rw [s02 _ _ hq2, List.map_map] <;> rfl)), ?_, _, _, rfl, rfl, ?_, ?_⟩
  · rw [sum_len, List.length_map, show ("/" : Str).length = 1 from rfl]
    omega
  · rw [show ("/" : Str).length = 1 from rfl]
    omega
  rw [join_nm hne]
  -- how deep
  refine ⟨_, rfl, g.a, rfl, ⟨_, SqL.of (s02 _ _ R.top)⟩, for_list (K := K) (a := g.a) (xs := g.la.map V.ref) (fun r σ H3 => ∃ (o9 : Option V) (dd : Nat), σ = [some (.ref g.a), some (.ref pd), some (.ref q1), some (.ref q2), some (.int (i : Int)), some (.str ""), some (.str (S (pcat n.path))), some (.str (S (pcat p))), some (.int (dd : Int)), o9, none] ∧ H3 = H2 ∧
    ∀ b, dd ≤ b ↔ ∀ m ∈ Z.take r, n.path <+: m.path → p.length + (m.path.length - n.path.length) ≤ b) ⟨none, 0, rfl, rfl, fun b => ⟨fun _ m hm => by simp at hm, fun _ => Nat.zero_le _⟩⟩ (fun r σ H3 _ ⟨_, _, _, e3, _⟩ => by rw [e3]; exact SqL.of (s02 _ _ R.top)) ?_ ?_⟩
  · rintro r y σ H3 hy ⟨o9, dd, rfl, rfl, hdd⟩
    obtain ⟨ra, hra, rfl⟩ := map_at hy
    have hrl : r < Z.length := by
      rw [← R.lla]
      exact (List.getElem?_eq_some_iff.mp hra).1
    obtain ⟨m, hm⟩ : ∃ m, Z[r]? = some m := ⟨_, List.getElem?_eq_getElem hrl⟩
    obtain ⟨ra', rb, hra', hrb, hrw, _⟩ := R.at hm
    rw [hra] at hra'
    cases hra'
    have gm := W.good m (List.mem_of_getElem? hm)
    have etk : Z.take (r + 1) = Z.take r ++ [m] := by rw [List.take_add_one, hm] <;> rfl
    have hsn : ∀ b, (∀ z ∈ Z.take (r + 1), n.path <+: z.path → p.length + (z.path.length - n.path.length) ≤ b) ↔ (∀ z ∈ Z.take r, n.path <+: z.path → p.length + (z.path.length - n.path.length) ≤ b) ∧ (n.path <+: m.path → p.length + (m.path.length - n.path.length) ≤ b) := fun b => by
      rw [etk]
      constructor
      · exact fun h => ⟨fun z hz => h z (List.mem_append_left _ hz), h m (List.mem_append_right _ List.mem_cons_self)⟩
      · rintro ⟨h, h'⟩ z hz
        rcases List.mem_append.mp hz with hz | hz
        · exact h z hz
        · rw [List.mem_singleton.mp hz]
          exact h'
    refine ⟨_, rfl, ra, _, _, _, rfl, rfl, SqL.of (s02 _ _ hrw), atI_nat (j := 1) rfl, _, rfl, n.path, m.path, rfl, rfl, go, gm.1, ho6, _, rfl, iteB (fun h4 => ?_) (fun h4 => ?_)⟩
    · have hin : n.path <+: m.path := of_decide_eq_true h4
      have hle := hin.length_le
      refine ⟨_, rfl, _, rfl, q2, _, rfl, .inl (SqL.of (s02 _ _ hq2)), _, rfl, ra, _, _, _, rfl, rfl, SqL.of (s02 _ _ hrw), atI_nat (j := 1) rfl, ⟨_, rfl⟩, _, _, rfl, rfl, ?_⟩
      rw [count_path gm.1, nmV_len]
      refine ⟨_, _, rfl, rfl, _, rfl, ⟨_, rfl⟩, _, _, rfl, rfl, ?_⟩
      rw [count_path go]
      refine ⟨_, _, rfl, rfl, _, _, rfl, ?_⟩
      refine ⟨some (.ref ra), max dd (p.length + (m.path.length - n.path.length)), ?_, rfl, fun b => ?_⟩
      · have : (if (p.length : Int) + (m.path.length : Int) - (n.path.length : Int) > (dd : Int) then (p.length : Int) + (m.path.length : Int) - (n.path.length : Int) else (dd : Int)) = ((max dd (p.length + (m.path.length - n.path.length)) : Nat) : Int) := by
          split <;> omega
        show [some (V.ref g.a), some (.ref pd), some (.ref q1), some (.ref q2), some (.int (i : Int)), some (.str ""), some (.str (S (pcat n.path))), some (.str (S (pcat p))), some (.int (if (p.length : Int) + (m.path.length : Int) - (n.path.length : Int) > (dd : Int) then (p.length : Int) + (m.path.length : Int) - (n.path.length : Int) else (dd : Int))), some (.ref ra), none] = _
        rw [this]
      · rw [hsn, Nat.max_le, hdd]
        exact and_congr_right fun _ => ⟨fun h _ => h, fun h => h hin⟩
    · have hin : ¬ n.path <+: m.path := of_decide_eq_false h4
      refine ⟨_, dd, rfl, rfl, fun b => ?_⟩
      rw [hsn, hdd]
      exact ⟨fun h => ⟨h, fun z => absurd z hin⟩, fun h => h.1⟩
  rintro σ H3 ⟨o9, dd, rfl, rfl, hdd⟩
  rw [List.length_map, R.lla, List.take_length] at hdd
  have hdeep : 6 < dd ↔ 6 < p.length + heightAt Z n.path := by
    have h1 := hdd 6
    have h2 := height_le (Z := Z) (p := n.path) (b := 6 - p.length)
    have h3 : (∀ m ∈ Z, n.path <+: m.path → p.length + (m.path.length - n.path.length) ≤ 6) ↔ (∀ m ∈ Z, n.path <+: m.path → m.path.length - n.path.length ≤ 6 - p.length) := by
      constructor
      · intro h m hm hp
        have := h m hm hp
        omega
      · intro h m hm hp
        have := h m hm hp
        omega
    rw [h3, ← h2] at h1
    omega
  refine ⟨_, rfl, _, _, rfl, rfl, _, rfl, iteB (fun h3 => ?_) (fun h3 => ?_)⟩
  · have h3' : 6 < p.length + heightAt Z n.path := hdeep.mp (by have := of_decide_eq_true h3; omega)
    simp only [if_pos h3'] at k
    exact k.say R s02
  have h3' : ¬ 6 < p.length + heightAt Z n.path := fun z => by
    have := hdeep.mpr z
    have := of_decide_eq_false h3
    omega
  simp only [if_neg h3'] at k
  refine ⟨_, rfl, _, rfl, _, rfl, _, rfl, _, rfl, g, Z, e, n.path, rfl, rfl, R.same s02, W, go, ho6, fun H4 s4 => ?_⟩
  have s04 := s02.trans s4
  refine ⟨g, Z, e, p, n.path, sizeAt Z n.path, rfl, rfl, rfl, rfl, R.same s04, W, gp, go, fun H5 s5 => ?_⟩
  have s05 := s04.trans s5
  refine ⟨_, rfl, iteB (fun h6 => ?_) (fun h6 => ?_)⟩
  · simp only [if_pos h6] at k
    exact k.say R s05
  simp only [if_neg (show ¬ bursts Z p n.path (sizeAt Z n.path) = true by rw [h6]; decide)] at k
  -- the rows, one after the other
  refine ⟨_, rfl, g.a, _, rfl, .inl (SqL.of (s05 _ _ R.top)), _, rfl, by omega, by rw [List.length_map, R.lla]; omega, ?_⟩
  rw [List.length_map, R.lla, Int.toNat_natCast]
  have R5 := R.same s05
  refine for_range (lo := 0) (n := Z.length) (fun r σ H6 => ∃ o9 o10 : Option V, σ = [some (.ref g.a), some (.ref pd), some (.ref q1), some (.ref q2), some (.int (i : Int)), some (.str ""), some (.str (S (pcat n.path))), some (.str (S (pcat p))), some (.int (dd : Int)), o9, o10] ∧
    LawAt H6 g ((Z.take r).map (moved n.path p) ++ Z.drop r) ∧ (∀ c o, c ∉ g.fp → H5 c = some o → H6 c = some o) ∧ TupK H5 H6) ⟨_, none, rfl, by rw [List.take_zero, List.drop_zero, List.map_nil, List.nil_append]; exact R5, fun _ _ _ h => h, TupK.refl _⟩ ?_ ?_
  · rintro r σ H6 hr' ⟨o9, o10, rfl, R6, kp6, t6⟩
    rw [Int.zero_add]
    obtain ⟨m, hm⟩ : ∃ m, Z[r]? = some m := ⟨_, List.getElem?_eq_getElem hr'⟩
    have gm := W.good m (List.mem_of_getElem? hm)
    have hlt : ((Z.take r).map (moved n.path p)).length = r := by
      rw [List.length_map, List.length_take]
      omega
    have hm6 : ((Z.take r).map (moved n.path p) ++ Z.drop r)[r]? = some m := by
      rw [List.getElem?_append_right (by rw [hlt]; exact Nat.le_refl _), hlt, Nat.sub_self, List.getElem?_drop, Nat.add_zero]
      exact hm
    have hset : ((Z.take r).map (moved n.path p) ++ Z.drop r).set r (moved n.path p m) = (Z.take (r + 1)).map (moved n.path p) ++ Z.drop (r + 1) := by
      rw [List.set_append_right _ _ (by rw [hlt]; exact Nat.le_refl _), hlt, Nat.sub_self, List.take_add_one, hm, List.drop_eq_getElem_cons hr', List.set_cons_zero, List.map_append]
      simp
    obtain ⟨ra, rb, hra, hrb, hrw, vz, hvz, hvzs⟩ := R6.at hm6
    refine ⟨_, rfl, _, rfl, g.a, _, _, _, rfl, rfl, SqL.of R6.top, atI_nat (j := r) (mapref hra), ra, _, _, _, rfl, rfl, SqL.of hrw, atI_nat (j := 1) rfl, _, rfl, n.path, m.path, rfl, rfl, go, gm.1, ho6, _, rfl, iteB (fun h4 => ?_) (fun h4 => ?_)⟩
    · have hin : n.path <+: m.path := of_decide_eq_true h4
      obtain ⟨t, ht⟩ := hin
      have epc : pcat m.path = pcat n.path ++ pcat t := by rw [← ht, pcat_app]
      have l4 := pcat_len13 gm.1 gm.2
      have l5 := pcat_len13 gp hp6
      have lo := pcat_len13 go ho6
      refine ⟨_, rfl, _, rfl, _, rfl, g.a, _, _, _, rfl, rfl, SqL.of R6.top, atI_nat (j := r) (mapref hra), ra, _, _, _, rfl, rfl, SqL.of hrw, atI_nat (j := 1) rfl, _, rfl, _, rfl, S_len63 lo (by decide), _, rfl, _, rfl, S_len63 l4 (by decide), ?_⟩
      rw [S_len, cut_from, epc, List.drop_left]
      refine ⟨_, _, rfl, rfl, ?_, ?_⟩
      · have : (pcat t).length ≤ 78 := by
          rw [epc, List.length_append] at l4
          omega
        rw [S_len, S_len]
        omega
      rw [S_cat, ← pcat_app]
      refine ⟨_, rfl, _, rfl, g.a, _, _, _, rfl, rfl, SqL.of R6.top, atI_nat (j := r) (mapref hra), ra, _, _, 1, rfl, rfl, hrw, rfl, ?_⟩
      have em : moved n.path p m = { m with path := p ++ t } := by
        rw [moved_in ⟨t, ht⟩, ← ht, List.drop_left]
      generalize eH7 : upd H6 ra (.lst ((rowV rb m).set 1 (.str (S (pcat (p ++ t)))))) = H7
      have kp7 : ∀ c o, c ≠ ra → H6 c = some o → H7 c = some o := fun c o hc h => by
        rw [← eH7, upd_ne hc]
        exact h
      have h7 : H7 ra = some (.lst (rowV rb { m with path := p ++ t })) := by rw [← eH7, upd_same] <;> rfl
      clear eH7
      have t7 : TupK H6 H7 := fun c xs h => kp7 c _ (ne_of h hrw (by intro z; cases z)) h
      refine ⟨_, _, rfl, ?_, fun c o hc h => kp7 c o (fun z => hc (by rw [z]; exact Lg.mem_la hra)) (kp6 c o hc h), t6.trans t7⟩
      rw [← hset, em]
      exact R6.setR hra hrb hm6 (fun c o hc _ h => kp7 c o hc h) t7 ⟨h7, vz, kp7 _ _ (R6.ne_lp hra hrb).symm hvz, hvzs.keep t7⟩
    · have hin : ¬ n.path <+: m.path := of_decide_eq_false h4
      refine ⟨_, _, rfl, ?_, kp6, t6⟩
      rw [← hset, moved_out hin]
      have : ((Z.take r).map (moved n.path p) ++ Z.drop r).set r m = (Z.take r).map (moved n.path p) ++ Z.drop r := by
        refine List.ext_getElem? fun a => ?_
        by_cases ea : r = a
        · subst ea
          rw [hm6, List.getElem?_set_self (List.getElem?_eq_some_iff.mp hm6).1]
        · rw [List.getElem?_set_ne ea]
      rw [this]
      exact R6
  · rintro σ H6 ⟨o9, o10, rfl, R6, kp6, t6⟩
    rw [List.take_length, List.drop_length, List.append_nil] at R6
    refine ⟨_, rfl, sm64 (by show 2 ≤ 10000; decide), fun p9 hp9 => ?_⟩
    have s9 := same_new (o := .tup [.str "moved", .int (i : Int)]) hp9
    exact k g _ _ rfl (R6.same s9) (Post.kept (fun c o hc h => s9 _ _ (kp6 c o hc (s05 _ _ h))) ((Same.tup s05).trans (t6.trans (Same.tup s9)))) (isV.tup upd_same (isVs.cons isV.str (isVs.cons isV.int isVs.nil)))
end
end Ah
/-! The law's formed, apply. -/
namespace Ah
open PySem PySem.Spec PyProof.Rows L2 He SX
theorem iteD {A B : Prop} {b : Bool} (h : b = false) (hb : B) : if b = true then A else B := by
  subst h
  exact iteF hb
theorem iteD1 {A B : Prop} {b : Bool} (h : b = true) (hb : A) : if b = true then A else B := by
  subst h
  exact iteT hb
def lawF (w : Nm) : List It → Bool
  | [.s _] => decide (w = cMkdir ∨ w = cCreate ∨ w = cSeal)
  | [.s _, .i n] => !decide (w = cMkdir ∨ w = cCreate ∨ w = cSeal) && (decide (w = cLimit) && decide (0 ≤ n))
  | [.s _, .s _] => !decide (w = cMkdir ∨ w = cCreate ∨ w = cSeal) && (!decide (w = cLimit) && decide (w = cAppend ∨ w = cMove ∨ w = cSnapshot))
  | _ => false
theorem lawF_good (en : Ent) (h : en.Ok) (w : Nm) (is : List It) (e : en.its = .s w :: is) : lawF w is = en.good := by
  cases en with
  | deed d =>
    have e : d.its = .s w :: is := e
    cases d with
    | mkdir x => cases e; exact (by decide +kernel : decide (cMkdir = cMkdir ∨ cMkdir = cCreate ∨ cMkdir = cSeal) = true)
    | create x => cases e; exact (by decide +kernel : decide (cCreate = cMkdir ∨ cCreate = cCreate ∨ cCreate = cSeal) = true)
    | shut x => cases e; exact (by decide +kernel : decide (cSeal = cMkdir ∨ cSeal = cCreate ∨ cSeal = cSeal) = true)
    | append x t => cases e; exact (by decide +kernel : (!decide (cAppend = cMkdir ∨ cAppend = cCreate ∨ cAppend = cSeal) && (!decide (cAppend = cLimit) && decide (cAppend = cAppend ∨ cAppend = cMove ∨ cAppend = cSnapshot))) = true)
    | move x t => cases e; exact (by decide +kernel : (!decide (cMove = cMkdir ∨ cMove = cCreate ∨ cMove = cSeal) && (!decide (cMove = cLimit) && decide (cMove = cAppend ∨ cMove = cMove ∨ cMove = cSnapshot))) = true)
    | snapshot x t => cases e; exact (by decide +kernel : (!decide (cSnapshot = cMkdir ∨ cSnapshot = cCreate ∨ cSnapshot = cSeal) && (!decide (cSnapshot = cLimit) && decide (cSnapshot = cAppend ∨ cSnapshot = cMove ∨ cSnapshot = cSnapshot))) = true)
    | limit x m =>
      cases e
      have h0 : (0 : Int) ≤ m := h.2.2
      show (!decide (cLimit = cMkdir ∨ cLimit = cCreate ∨ cLimit = cSeal) && (decide (cLimit = cLimit) && decide (0 ≤ m))) = true
      rw [decide_eq_true h0]
      decide +kernel
  | odd l =>
    have e : l = .s w :: is := e
    subst e
    have h : Odd (.s w :: is) := h
    cases h with
    | w1 _ _ => rfl
    | create x => exact (by decide +kernel : (!decide (cCreate = cMkdir ∨ cCreate = cCreate ∨ cCreate = cSeal) && (!decide (cCreate = cLimit) && decide (cCreate = cAppend ∨ cCreate = cMove ∨ cCreate = cSnapshot))) = false)
    | append2 x => exact (by decide +kernel : decide (cAppend = cMkdir ∨ cAppend = cCreate ∨ cAppend = cSeal) = false)
    | append3 x n _ => show (!decide (cAppend = cMkdir ∨ cAppend = cCreate ∨ cAppend = cSeal) && (decide (cAppend = cLimit) && decide (0 ≤ n))) = false; rw [show decide (cAppend = cLimit) = false by decide +kernel]; simp
    | appendI n x => rfl
    | limitS x y _ => exact (by decide +kernel : (!decide (cLimit = cMkdir ∨ cLimit = cCreate ∨ cLimit = cSeal) && (!decide (cLimit = cLimit) && decide (cLimit = cAppend ∨ cLimit = cMove ∨ cLimit = cSnapshot))) = false)
    | limitN x n _ h0 _ => show (!decide (cLimit = cMkdir ∨ cLimit = cCreate ∨ cLimit = cSeal) && (decide (cLimit = cLimit) && decide (0 ≤ n))) = false; rw [show decide ((0 : Int) ≤ n) = false from decide_eq_false (by omega)]; simp
    | limit2 x => exact (by decide +kernel : decide (cLimit = cMkdir ∨ cLimit = cCreate ∨ cLimit = cSeal) = false)
    | move2 x => exact (by decide +kernel : decide (cMove = cMkdir ∨ cMove = cCreate ∨ cMove = cSeal) = false)
    | moveI x n _ => show (!decide (cMove = cMkdir ∨ cMove = cCreate ∨ cMove = cSeal) && (decide (cMove = cLimit) && decide (0 ≤ n))) = false; rw [show decide (cMove = cLimit) = false by decide +kernel]; simp
    | seal3 x y => exact (by decide +kernel : (!decide (cSeal = cMkdir ∨ cSeal = cCreate ∨ cSeal = cSeal) && (!decide (cSeal = cLimit) && decide (cSeal = cAppend ∨ cSeal = cMove ∨ cSeal = cSnapshot))) = false)
    | miss2 w x hw =>
      rcases hw with rfl | rfl
      · exact (by decide +kernel : decide (cRemove = cMkdir ∨ cRemove = cCreate ∨ cRemove = cSeal) = false)
      · exact (by decide +kernel : decide (cMkdirU = cMkdir ∨ cMkdirU = cCreate ∨ cMkdirU = cSeal) = false)
    | snap4 x => rfl
    | contentI n => rfl
    | sealI n => rfl
    | limitI n m => rfl
theorem in3a (w : Nm) : inV (.str (S w)) [.str "mkdir", .str "create", .str "seal"] = decide (w = cMkdir ∨ w = cCreate ∨ w = cSeal) := by
  rw [lw_mkdir, lw_create, lw_seal, Bool.eq_iff_iff]
  simp only [inV, List.any_cons, List.any_nil, eqV, S_beq_eq, Bool.or_false, Bool.or_eq_true, decide_eq_true_eq]
  constructor
  · rintro (h | h | h)
    · exact .inl h.symm
    · exact .inr (.inl h.symm)
    · exact .inr (.inr h.symm)
  · rintro (h | h | h)
    · exact .inl h.symm
    · exact .inr (.inl h.symm)
    · exact .inr (.inr h.symm)
theorem in3b (w : Nm) : inV (.str (S w)) [.str "append", .str "move", .str "snapshot"] = decide (w = cAppend ∨ w = cMove ∨ w = cSnapshot) := by
  rw [lw_append, lw_move, lw_snapshot, Bool.eq_iff_iff]
  simp only [inV, List.any_cons, List.any_nil, eqV, S_beq_eq, Bool.or_false, Bool.or_eq_true, decide_eq_true_eq]
  constructor
  · rintro (h | h | h)
    · exact .inl h.symm
    · exact .inr (.inl h.symm)
    · exact .inr (.inr h.symm)
  · rintro (h | h | h)
    · exact .inl h.symm
    · exact .inr (.inl h.symm)
    · exact .inr (.inr h.symm)
theorem eq_lim (w : Nm) : decide (V.str (S w) = V.str "limit") = decide (w = cLimit) := by
  rw [lw_limit, Bool.eq_iff_iff, decide_eq_true_eq, decide_eq_true_eq, V.str.injEq, S_eq_iff]
section
variable {P : Program} {w : World} {K : PySem.W.Frag} {mg : Str → Option Value} {base : Heap}
def P__law_formed (K : PySem.W.Frag) (a : V) (H : Hp) (Q : VK) : Prop := ∃ (da : Addr) (x : Nm) (is : List It), a = .ref da ∧ H da = some (.tup (V.str (S x) :: is.map itmV)) ∧ ∀ H', Same H H' → Q (.bl (lawF x is)) H'
abbrev N__law_formed : List Str := ["_law_deed_here"]
theorem sc__law_formed : FnScope N__law_formed ["_law_deed_here"] (defScope s_law_formed) := ⟨rfl, rfl, rfl, by decide +kernel, rfl, by decide +kernel, by decide +kernel⟩
theorem ok__law_formed (T : Tx w K mg) : Cal P w K mg base 1 (fAd K ("_law_formed", none)) (Sp1 (P__law_formed K)) := by
  refine mk1 (k := 0) T.fd_law_formed sc__law_formed (fun _ _ _ _ _ _ _  => rfl) fun cdv A outer s H E va Q hr h => ?_
  have hu := hu_of hr
  obtain ⟨da, x, is, rfl, hda, k⟩ := h
  refine ⟨_, (pss_cons (ps_if (pt_cmpR op_in_seq (pe_ix ix_tup (pv 0) pe_int (fun _ _ => rfl)) (pe_tup (pa_cons pe_str (pa_cons pe_str (pa_cons pe_str pa_nil)))) (by rfl)) (pss_one (ps_ret (pe_and (pe_cmpR op_eq (pe_callB call_len_seq (by rfl) T.f_len (by decide +kernel) (pa_cons (pv 0) pa_nil)) pe_int (nomark _)) (pe_one (pe_callB call_isi (by rfl) T.f_isinstance (by decide +kernel) (pa_cons (pe_ix ix_tup (pv 0) pe_int (fun _ _ => rfl)) (pa_cons (pe_bltn (v := .ty "str") (by rfl) T.f_str (by decide +kernel) rfl) pa_nil))))))) pss_nil)
      (pss_cons (ps_if (PW.pt (pw_or (pt_cmpR op_ne (pe_callB call_len_seq (by rfl) T.f_len (by decide +kernel) (pa_cons (pv 0) pa_nil)) pe_int (nomark _)) (pw_or1 (pt_not (pt_val (pe_callB call_isi (by rfl) T.f_isinstance (by decide +kernel) (pa_cons (pe_ix ix_tup (pv 0) pe_int (fun _ _ => rfl)) (pa_cons (pe_bltn (v := .ty "str") (by rfl) T.f_str (by decide +kernel) rfl) pa_nil)))))))) (pss_one (ps_ret pe_bl)) pss_nil)
      (pss_cons (ps_if (pt_cmpR op_eq (pe_ix ix_tup (pv 0) pe_int (fun _ _ => rfl)) pe_str (nomark _)) (pss_one (ps_ret (pe_and (pe_callB call_isi (by rfl) T.f_isinstance (by decide +kernel) (pa_cons (pe_ix ix_tup (pv 0) pe_int (fun _ _ => rfl)) (pa_cons (pe_bltn (v := .ty "int") (by rfl) T.f_int (by decide +kernel) rfl) pa_nil))) (pe_one (pe_cmpR op_ge (pe_ix ix_tup (pv 0) pe_int (fun _ _ => rfl)) pe_int (nomark _)))))) pss_nil)
      (pss_one (ps_ret (pe_and (pe_cmpR op_in_seq (pe_ix ix_tup (pv 0) pe_int (fun _ _ => rfl)) (pe_tup (pa_cons pe_str (pa_cons pe_str (pa_cons pe_str pa_nil)))) (by rfl)) (pe_one (pe_callB call_isi (by rfl) T.f_isinstance (by decide +kernel) (pa_cons (pe_ix ix_tup (pv 0) pe_int (fun _ _ => rfl)) (pa_cons (pe_bltn (v := .ty "str") (by rfl) T.f_str (by decide +kernel) rfl) pa_nil)))))))))), ?_⟩
  dsimp only [cxOf, Cx.nox]
  refine ⟨_, rfl, da, _, _, _, rfl, rfl, SqT.of hda, atI_nat (j := 0) rfl, sm64 (by show 3 ≤ 10000; decide), fun t ht => ?_⟩
  have s1 := same_new (o := .tup [.str "mkdir", .str "create", .str "seal"]) ht
  have hd1 := s1 _ _ hda
  refine ⟨t, _, rfl, .inr (SqT.of upd_same), rfl, rfl, _, rfl, ?_⟩
  have e3 : (if false = true then !inV (.str (S x)) [.str "mkdir", .str "create", .str "seal"] else inV (.str (S x)) [.str "mkdir", .str "create", .str "seal"]) = decide (x = cMkdir ∨ x = cCreate ∨ x = cSeal) := by
    rw [if_neg (by decide), in3a]
  rw [e3]
  have elen : ∀ j : Nat, decide (V.int (((V.str (S x) :: is.map itmV).length : Nat) : Int) = V.int ((j : Nat) : Int)) = decide (is.length + 1 = j) := fun j => by
    rw [List.length_cons, List.length_map, Bool.eq_iff_iff, decide_eq_true_eq, decide_eq_true_eq, V.int.injEq]
    omega
  refine iteB (fun h1 => ?_) (fun h1 => ?_)
  · refine ⟨_, rfl, da, _, rfl, .inr (SqT.of hd1), rfl, _, rfl, ?_⟩
    have e2 := elen 2
    refine iteB (fun h2 => ?_) (fun h2 => ?_)
    · have hl : is.length + 1 = 2 := of_decide_eq_true (e2.symm.trans h2)
      match is, hl with
      | [.s y], _ =>
        refine ⟨_, rfl, da, _, _, _, rfl, rfl, SqT.of hd1, atI_nat (j := 1) rfl, _, _, _, _, _, rfl, isi_ss ?_⟩
        have := k _ s1
        unfold lawF at this
        rw [h1] at this
        exact this
      | [.i y], _ =>
        refine ⟨_, rfl, da, _, _, _, rfl, rfl, SqT.of hd1, atI_nat (j := 1) rfl, _, _, _, _, _, rfl, isi_is ?_⟩
        exact k _ s1
    · have hl : ¬ is.length + 1 = 2 := of_decide_eq_false (e2.symm.trans h2)
      have : lawF x is = false := by
        match is with
        | [] => rfl
        | [_] => exact absurd rfl hl
        | [.s _, .i n] => show (!decide (x = cMkdir ∨ x = cCreate ∨ x = cSeal) && _) = false; rw [h1] <;> rfl
        | [.s _, .s _] => show (!decide (x = cMkdir ∨ x = cCreate ∨ x = cSeal) && _) = false; rw [h1] <;> rfl
        | .i _ :: _ :: _ => rfl
        | .s _ :: .i _ :: _ :: _ => rfl
        | .s _ :: .s _ :: _ :: _ => rfl
      have := this ▸ k _ s1
      exact this
  · refine ⟨_, rfl, da, _, rfl, .inr (SqT.of hd1), rfl, _, rfl, ?_⟩
    have e2 := elen 3
    refine iteB (fun h2 => ?_) (fun h2 => ?_)
    · have hl : ¬ is.length + 1 = 3 := of_decide_eq_false (e2.symm.trans (nb1 h2))
      have : lawF x is = false := by
        match is with
        | [] => rfl
        | [.s _] => exact h1
        | [.i _] => rfl
        | [_, _] => exact absurd rfl hl
        | .i _ :: _ :: _ :: _ => rfl
        | .s _ :: .i _ :: _ :: _ => rfl
        | .s _ :: .s _ :: _ :: _ => rfl
      have := this ▸ k _ s1
      exact iteT this
    · have hl : is.length + 1 = 3 := of_decide_eq_true (e2.symm.trans (nb2 h2))
      match is, hl with
      | [.i y, z], _ =>
        refine ⟨_, rfl, da, _, _, _, rfl, rfl, SqT.of hd1, atI_nat (j := 1) rfl, _, _, _, _, _, rfl, isi_is ⟨_, rfl, iteT (k _ s1)⟩⟩
      | [.s y, .i z], _ =>
        refine ⟨_, rfl, da, _, _, _, rfl, rfl, SqT.of hd1, atI_nat (j := 1) rfl, _, _, _, _, _, rfl, isi_ss ⟨_, rfl, iteF ?_⟩⟩
        have kk := k
        unfold lawF at kk
        rw [h1] at kk
        refine ⟨_, rfl, da, _, _, _, rfl, rfl, SqT.of hd1, atI_nat (j := 0) rfl, rfl, _, rfl, ?_⟩
        rw [eq_lim]
        refine iteB (fun h3 => ?_) (fun h3 => ?_)
        · rw [h3] at kk
          refine ⟨_, rfl, da, _, _, _, rfl, rfl, SqT.of hd1, atI_nat (j := 2) rfl, _, _, _, _, _, rfl, isi_ii ⟨_, rfl, iteT ?_⟩⟩
          refine ⟨_, rfl, da, _, _, _, rfl, rfl, SqT.of hd1, atI_nat (j := 2) rfl, _, _, rfl, rfl, ?_⟩
          exact kk _ s1
        · rw [h3] at kk
          refine ⟨_, rfl, da, _, _, _, rfl, rfl, SqT.of hd1, atI_nat (j := 0) rfl, sm64 (by show 3 ≤ 10000; decide), fun t2 ht2 => ?_⟩
          have s2 := same_new (o := .tup [.str "append", .str "move", .str "snapshot"]) ht2
          refine ⟨t2, _, rfl, .inr (SqT.of upd_same), rfl, rfl, _, rfl, iteB (fun h4 => ?_) (fun h4 => ?_)⟩
          · exact ⟨_, rfl, da, _, _, _, rfl, rfl, SqT.of (s2 _ _ hd1), atI_nat (j := 2) rfl, _, _, _, _, _, rfl, isi_is (kk _ (s1.trans s2))⟩
          · exact kk _ (s1.trans s2)
      | [.s y, .s z], _ =>
        refine ⟨_, rfl, da, _, _, _, rfl, rfl, SqT.of hd1, atI_nat (j := 1) rfl, _, _, _, _, _, rfl, isi_ss ⟨_, rfl, iteF ?_⟩⟩
        have kk := k
        unfold lawF at kk
        rw [h1] at kk
        refine ⟨_, rfl, da, _, _, _, rfl, rfl, SqT.of hd1, atI_nat (j := 0) rfl, rfl, _, rfl, ?_⟩
        rw [eq_lim]
        refine iteB (fun h3 => ?_) (fun h3 => ?_)
        · rw [h3] at kk
          exact ⟨_, rfl, da, _, _, _, rfl, rfl, SqT.of hd1, atI_nat (j := 2) rfl, _, _, _, _, _, rfl, isi_si ⟨_, rfl, iteF (kk _ s1)⟩⟩
        · rw [h3] at kk
          refine ⟨_, rfl, da, _, _, _, rfl, rfl, SqT.of hd1, atI_nat (j := 0) rfl, sm64 (by show 3 ≤ 10000; decide), fun t2 ht2 => ?_⟩
          have s2 := same_new (o := .tup [.str "append", .str "move", .str "snapshot"]) ht2
          refine ⟨t2, _, rfl, .inr (SqT.of upd_same), rfl, rfl, _, rfl, ?_⟩
          have e4 : (if false = true then !inV (.str (S x)) [.str "append", .str "move", .str "snapshot"] else inV (.str (S x)) [.str "append", .str "move", .str "snapshot"]) = decide (x = cAppend ∨ x = cMove ∨ x = cSnapshot) := by
            rw [if_neg (by decide), in3b]
          rw [e4]
          refine iteB (fun h4 => ?_) (fun h4 => ?_)
          · rw [h4] at kk
            exact ⟨_, rfl, da, _, _, _, rfl, rfl, SqT.of (s2 _ _ hd1), atI_nat (j := 2) rfl, _, _, _, _, _, rfl, isi_ss (kk _ (s1.trans s2))⟩
          · rw [h4] at kk
            exact kk _ (s1.trans s2)
def P__law_apply (K : PySem.W.Frag) (a b c : V) (H : Hp) (Q : VK) : Prop := ∃ (g : Lg) (Z : Tr) (e : Nat) (sa da : Addr) (st : St3) (en : Ent), a = .ref g.a ∧ b = .ref sa ∧ c = .ref da ∧ LawAt H g Z ∧ WF e Z ∧ e ≤ 900 ∧ H sa = some (.tup (stV st)) ∧ H da = some (.tup (en.its.map itmV)) ∧ en.Ok ∧ LDone g H (doE Z st en) Q
abbrev N__law_apply : List Str := ["_law_nodes", "_law_stamp", "_law_deed_here", "_law_names_here", "_law_new", "_law_places_here"]
theorem sc__law_apply : FnScope N__law_apply ["_law_nodes", "_law_stamp", "_law_deed_here"] (defScope s_law_apply) := ⟨rfl, rfl, rfl, by decide +kernel, rfl, by decide +kernel, by decide +kernel⟩
theorem ok__law_apply (T : Tx w K mg) : Cal P w K mg base 8 (fAd K ("_law_apply", none)) (Sp3 (P__law_apply K)) := by
  refine mk3 (k := 7) T.fd_law_apply sc__law_apply (fun _ _ _ _ _ _ _ _ _  => rfl) fun cdv A outer s H E va vb vc Q hr h => ?_
  have hu := hu_of hr
  obtain ⟨g, Z, e, sa, da, st, en, rfl, rfl, rfl, R, W, he, hsa, hda, hok, k⟩ := h
  obtain ⟨x, is, eits, hgood, hno, hrd⟩ := ent_form en hok
  have hlaw := lawF_good en hok x is eits
  refine ⟨_, (pss_cons (ps_if (pt_not (pt_val (pcall (ok__law_formed T) hr (by decide) rfl T.g__law_formed (pa_cons (pv 2) pa_nil)))) (pss_one (ps_ret (pe_tup (pa_cons pe_str (pa_cons pe_str pa_nil))))) pss_nil)
      (pss_cons (ps_set (i := 3) sc__law_apply.nd rfl (Or.inl rfl) (pcall (ok__law_split T) hr (by decide) rfl T.g__law_split (pa_cons (pe_ix ix_tup (pv 2) pe_int (fun _ _ => rfl)) pa_nil)))
      (pss_cons (ps_set (i := 4) sc__law_apply.nd rfl (Or.inl rfl) (pe_lst pa_nil))
      (pss_cons (ps_if (PW.pt (pw_or (pt_cmpR op_eq (pe_ix ix_tup (pv 2) pe_int (fun _ _ => rfl)) pe_str (nomark _)) (pw_or1 (pt_cmpR op_eq (pe_ix ix_tup (pv 2) pe_int (fun _ _ => rfl)) pe_str (nomark _))))) (pss_one (ps_set (i := 4) sc__law_apply.nd rfl (Or.inl rfl) (pcall (ok__law_split T) hr (by decide) rfl T.g__law_split (pa_cons (pe_ix ix_tup (pv 2) pe_int (fun _ _ => rfl)) pa_nil)))) pss_nil)
      (pss_cons (ps_if (PW.pt (pw_or (pt_cmpR op_isN (pv 3) pe_non (nomark _)) (pw_or1 (pt_cmpR op_isN (pv 4) pe_non (nomark _))))) (pss_one (ps_ret (pe_tup (pa_cons pe_str (pa_cons pe_str pa_nil))))) pss_nil)
      (pss_cons (ps_set (i := 5) sc__law_apply.nd rfl (Or.inl rfl) (pcall (ok__law_places T) hr (by decide) rfl T.g__law_places (pa_cons (pv 0) pa_nil)))
      (pss_cons (ps_if (PW.pt (pw_or (pt_cmpR op_eq (pe_ix ix_tup (pv 2) pe_int (fun _ _ => rfl)) pe_str (nomark _)) (pw_or1 (pt_cmpR op_eq (pe_ix ix_tup (pv 2) pe_int (fun _ _ => rfl)) pe_str (nomark _))))) (pss_one (ps_ret (pcall (ok__law_make T) hr (by decide) rfl T.g__law_make (pa_cons (pv 0) (pa_cons (pv 5) (pa_cons (pv 2) (pa_cons (pv 3) pa_nil))))))) pss_nil)
      (pss_cons (ps_if (pt_cmpR op_eq (pe_ix ix_tup (pv 2) pe_int (fun _ _ => rfl)) pe_str (nomark _)) (pss_one (ps_ret (pcall (ok__law_move T) hr (by decide) rfl T.g__law_move (pa_cons (pv 0) (pa_cons (pv 5) (pa_cons (pv 3) (pa_cons (pv 4) pa_nil))))))) pss_nil)
      (pss_cons (ps_if (pt_cmpR op_eq (pe_ix ix_tup (pv 2) pe_int (fun _ _ => rfl)) pe_str (nomark _)) (pss_one (ps_ret (pcall (ok__law_snapshot T) hr (by decide) rfl T.g__law_snapshot (pa_cons (pv 0) (pa_cons (pv 5) (pa_cons (pv 3) (pa_cons (pv 4) pa_nil))))))) pss_nil)
      (pss_cons (ps_if (pt_cmpR op_eq (pe_ix ix_tup (pv 2) pe_int (fun _ _ => rfl)) pe_str (nomark _)) (pss_one (ps_ret (pcall (ok__law_limit T) hr (by decide) rfl T.g__law_limit (pa_cons (pv 0) (pa_cons (pv 5) (pa_cons (pv 3) (pa_cons (pe_ix ix_tup (pv 2) pe_int (fun _ _ => rfl)) pa_nil))))))) pss_nil)
      (pss_one (ps_ret (pcall (ok__law_write T) hr (by decide) rfl T.g__law_write (pa_cons (pv 0) (pa_cons (pv 5) (pa_cons (pv 1) (pa_cons (pv 2) (pa_cons (pv 3) pa_nil)))))))))))))))))), ?_⟩
  dsimp only [cxOf, Cx.nox]
  refine ⟨_, rfl, da, x, is, rfl, by rw [hda, eits] <;> rfl, fun H1 s1 => ⟨_, rfl, ?_⟩⟩
  rw [hlaw]
  cases en with
  | odd l => exact iteT (k.say R s1)
  | deed d =>
    refine iteF ?_
    have k : LDone g H (doD Z st d) Q := k
    have hd1 : H1 da = some (.tup (d.its.map itmV)) := s1 _ _ hda
    clear hgood hno hrd hlaw eits hda
    cases d with
    | mkdir x =>
      have hx : tOk x := hok
      refine ⟨_, rfl, da, _, _, _, rfl, rfl, SqT.of hd1, atI_nat (j := 1) rfl, x, rfl, tl2000 hx, fun ns hns q hq => ?_, fun hns H2 s2 => ?_⟩
      · have gx := (split_good hns)
        have s2 := same_new (o := .lst (nmV ns)) hq
        have hq2 : (upd H1 q (.lst (nmV ns))) q = some (.lst (nmV ns)) := upd_same
        generalize upd H1 q (.lst (nmV ns)) = H2 at s2 hq2
        refine ⟨sm64 (by show 0 ≤ 10000; decide), fun p0 hp0 => ?_⟩
        have s3 := s2.trans (same_new (o := .lst []) hp0)
        have hq3 := same_new (o := .lst []) hp0 _ _ hq2
        generalize upd H2 p0 (.lst []) = H3 at s3 hq3
        have hd3 := s3 _ _ hd1
        refine ⟨_, rfl, da, _, _, _, rfl, rfl, SqT.of (hd3), atI_nat (j := 0) rfl, rfl, _, rfl, iteD (by decide +kernel) ?_⟩
        refine ⟨_, rfl, da, _, _, _, rfl, rfl, SqT.of (hd3), atI_nat (j := 0) rfl, rfl, _, rfl, iteD (by decide +kernel) ?_⟩
        have s13 := s1.trans s3
        simp only [doD, hns] at k
        refine ⟨_, rfl, rfl, _, rfl, iteD rfl ⟨_, rfl, rfl, _, rfl, iteD rfl ?_⟩⟩
        refine ⟨_, rfl, g, Z, e, rfl, R.same s13, W, fun pd kvs hpd hpl => ?_⟩
        have s5 := same_new (o := .dK kvs) hpd
        have hpd5 : (upd H3 pd (.dK kvs)) pd = some (.dK kvs) := upd_same
        generalize upd H3 pd (.dK kvs) = H5 at s5 hpd5
        have s15 := s13.trans s5
        have hd5 := s5 _ _ hd3
        refine ⟨_, rfl, da, _, _, _, rfl, rfl, SqT.of (hd5), atI_nat (j := 0) rfl, rfl, _, rfl, iteD1 (by decide +kernel) ?_⟩
        refine iteT ?_
        exact ⟨_, rfl, _, rfl, _, rfl, _, rfl, g, Z, e, pd, da, q, kvs, ns, false, _, rfl, rfl, rfl, rfl, R.same s15, W, hpd5, hpl, (by rw [hd5]; show some (HO.tup [V.str (S cMkdir), .str (S x)]) = _; rw [← lw_mkdir] <;> rfl), s5 _ _ hq3, gx.1, gx.2, k.same s15⟩
      · have gx := (hx)
        refine ⟨sm64 (by show 0 ≤ 10000; decide), fun p0 hp0 => ?_⟩
        have s3 := s2.trans (same_new (o := .lst []) hp0)
        generalize upd H2 p0 (.lst []) = H3 at s3
        have hd3 := s3 _ _ hd1
        refine ⟨_, rfl, da, _, _, _, rfl, rfl, SqT.of (hd3), atI_nat (j := 0) rfl, rfl, _, rfl, iteD (by decide +kernel) ?_⟩
        refine ⟨_, rfl, da, _, _, _, rfl, rfl, SqT.of (hd3), atI_nat (j := 0) rfl, rfl, _, rfl, iteD (by decide +kernel) ?_⟩
        have s13 := s1.trans s3
        have kk : LDone g H (Z, refu "path") Q := by
          simp only [doD, hns] at k
          exact k
        exact ⟨_, rfl, rfl, _, rfl, iteD1 rfl (iteT (kk.say R s13))⟩
    | create x =>
      have hx : tOk x := hok
      refine ⟨_, rfl, da, _, _, _, rfl, rfl, SqT.of hd1, atI_nat (j := 1) rfl, x, rfl, tl2000 hx, fun ns hns q hq => ?_, fun hns H2 s2 => ?_⟩
      · have gx := (split_good hns)
        have s2 := same_new (o := .lst (nmV ns)) hq
        have hq2 : (upd H1 q (.lst (nmV ns))) q = some (.lst (nmV ns)) := upd_same
        generalize upd H1 q (.lst (nmV ns)) = H2 at s2 hq2
        refine ⟨sm64 (by show 0 ≤ 10000; decide), fun p0 hp0 => ?_⟩
        have s3 := s2.trans (same_new (o := .lst []) hp0)
        have hq3 := same_new (o := .lst []) hp0 _ _ hq2
        generalize upd H2 p0 (.lst []) = H3 at s3 hq3
        have hd3 := s3 _ _ hd1
        refine ⟨_, rfl, da, _, _, _, rfl, rfl, SqT.of (hd3), atI_nat (j := 0) rfl, rfl, _, rfl, iteD (by decide +kernel) ?_⟩
        refine ⟨_, rfl, da, _, _, _, rfl, rfl, SqT.of (hd3), atI_nat (j := 0) rfl, rfl, _, rfl, iteD (by decide +kernel) ?_⟩
        have s13 := s1.trans s3
        simp only [doD, hns] at k
        refine ⟨_, rfl, rfl, _, rfl, iteD rfl ⟨_, rfl, rfl, _, rfl, iteD rfl ?_⟩⟩
        refine ⟨_, rfl, g, Z, e, rfl, R.same s13, W, fun pd kvs hpd hpl => ?_⟩
        have s5 := same_new (o := .dK kvs) hpd
        have hpd5 : (upd H3 pd (.dK kvs)) pd = some (.dK kvs) := upd_same
        generalize upd H3 pd (.dK kvs) = H5 at s5 hpd5
        have s15 := s13.trans s5
        have hd5 := s5 _ _ hd3
        refine ⟨_, rfl, da, _, _, _, rfl, rfl, SqT.of (hd5), atI_nat (j := 0) rfl, rfl, _, rfl, iteD (by decide +kernel) ?_⟩
        refine ⟨_, rfl, da, _, _, _, rfl, rfl, SqT.of (hd5), atI_nat (j := 0) rfl, rfl, _, rfl, iteD1 (by decide +kernel) ?_⟩
        exact ⟨_, rfl, _, rfl, _, rfl, _, rfl, g, Z, e, pd, da, q, kvs, ns, true, _, rfl, rfl, rfl, rfl, R.same s15, W, hpd5, hpl, (by rw [hd5]; show some (HO.tup [V.str (S cCreate), .str (S x)]) = _; rw [← lw_create] <;> rfl), s5 _ _ hq3, gx.1, gx.2, k.same s15⟩
      · have gx := (hx)
        refine ⟨sm64 (by show 0 ≤ 10000; decide), fun p0 hp0 => ?_⟩
        have s3 := s2.trans (same_new (o := .lst []) hp0)
        generalize upd H2 p0 (.lst []) = H3 at s3
        have hd3 := s3 _ _ hd1
        refine ⟨_, rfl, da, _, _, _, rfl, rfl, SqT.of (hd3), atI_nat (j := 0) rfl, rfl, _, rfl, iteD (by decide +kernel) ?_⟩
        refine ⟨_, rfl, da, _, _, _, rfl, rfl, SqT.of (hd3), atI_nat (j := 0) rfl, rfl, _, rfl, iteD (by decide +kernel) ?_⟩
        have s13 := s1.trans s3
        have kk : LDone g H (Z, refu "path") Q := by
          simp only [doD, hns] at k
          exact k
        exact ⟨_, rfl, rfl, _, rfl, iteD1 rfl (iteT (kk.say R s13))⟩
    | append x t =>
      have hx : tOk x := hok.1
      refine ⟨_, rfl, da, _, _, _, rfl, rfl, SqT.of hd1, atI_nat (j := 1) rfl, x, rfl, tl2000 hx, fun ns hns q hq => ?_, fun hns H2 s2 => ?_⟩
      · have gx := (split_good hns)
        have s2 := same_new (o := .lst (nmV ns)) hq
        have hq2 : (upd H1 q (.lst (nmV ns))) q = some (.lst (nmV ns)) := upd_same
        generalize upd H1 q (.lst (nmV ns)) = H2 at s2 hq2
        refine ⟨sm64 (by show 0 ≤ 10000; decide), fun p0 hp0 => ?_⟩
        have s3 := s2.trans (same_new (o := .lst []) hp0)
        have hq3 := same_new (o := .lst []) hp0 _ _ hq2
        generalize upd H2 p0 (.lst []) = H3 at s3 hq3
        have hd3 := s3 _ _ hd1
        refine ⟨_, rfl, da, _, _, _, rfl, rfl, SqT.of (hd3), atI_nat (j := 0) rfl, rfl, _, rfl, iteD (by decide +kernel) ?_⟩
        refine ⟨_, rfl, da, _, _, _, rfl, rfl, SqT.of (hd3), atI_nat (j := 0) rfl, rfl, _, rfl, iteD (by decide +kernel) ?_⟩
        have s13 := s1.trans s3
        simp only [doD, hns] at k
        refine ⟨_, rfl, rfl, _, rfl, iteD rfl ⟨_, rfl, rfl, _, rfl, iteD rfl ?_⟩⟩
        refine ⟨_, rfl, g, Z, e, rfl, R.same s13, W, fun pd kvs hpd hpl => ?_⟩
        have s5 := same_new (o := .dK kvs) hpd
        have hpd5 : (upd H3 pd (.dK kvs)) pd = some (.dK kvs) := upd_same
        generalize upd H3 pd (.dK kvs) = H5 at s5 hpd5
        have s15 := s13.trans s5
        have hd5 := s5 _ _ hd3
        refine ⟨_, rfl, da, _, _, _, rfl, rfl, SqT.of (hd5), atI_nat (j := 0) rfl, rfl, _, rfl, iteD (by decide +kernel) ?_⟩
        refine ⟨_, rfl, da, _, _, _, rfl, rfl, SqT.of (hd5), atI_nat (j := 0) rfl, rfl, _, rfl, iteD (by decide +kernel) ?_⟩
        refine ⟨_, rfl, da, _, _, _, rfl, rfl, SqT.of (hd5), atI_nat (j := 0) rfl, rfl, _, rfl, iteD (by decide +kernel) ?_⟩
        refine ⟨_, rfl, da, _, _, _, rfl, rfl, SqT.of (hd5), atI_nat (j := 0) rfl, rfl, _, rfl, iteD (by decide +kernel) ?_⟩
        refine ⟨_, rfl, da, _, _, _, rfl, rfl, SqT.of (hd5), atI_nat (j := 0) rfl, rfl, _, rfl, iteD (by decide +kernel) ?_⟩
        exact ⟨_, rfl, _, rfl, _, rfl, _, rfl, _, rfl, g, Z, e, pd, sa, da, q, kvs, ns, st, some t, .str (S x), rfl, rfl, rfl, rfl, rfl, R.same s15, W, he, hpd5, hpl, s15 _ _ hsa, (by rw [hd5]; show some (HO.tup [V.str (S cAppend), .str (S x), .str (S t)]) = _; rw [← lw_append] <;> rfl), (fun tx h => by cases h; exact hok.2.1), s5 _ _ hq3, gx.1, gx.2, k.same s15⟩
      · have gx := (hx)
        refine ⟨sm64 (by show 0 ≤ 10000; decide), fun p0 hp0 => ?_⟩
        have s3 := s2.trans (same_new (o := .lst []) hp0)
        generalize upd H2 p0 (.lst []) = H3 at s3
        have hd3 := s3 _ _ hd1
        refine ⟨_, rfl, da, _, _, _, rfl, rfl, SqT.of (hd3), atI_nat (j := 0) rfl, rfl, _, rfl, iteD (by decide +kernel) ?_⟩
        refine ⟨_, rfl, da, _, _, _, rfl, rfl, SqT.of (hd3), atI_nat (j := 0) rfl, rfl, _, rfl, iteD (by decide +kernel) ?_⟩
        have s13 := s1.trans s3
        have kk : LDone g H (Z, refu "path") Q := by
          simp only [doD, hns] at k
          exact k
        exact ⟨_, rfl, rfl, _, rfl, iteD1 rfl (iteT (kk.say R s13))⟩
    | shut x =>
      have hx : tOk x := hok
      refine ⟨_, rfl, da, _, _, _, rfl, rfl, SqT.of hd1, atI_nat (j := 1) rfl, x, rfl, tl2000 hx, fun ns hns q hq => ?_, fun hns H2 s2 => ?_⟩
      · have gx := (split_good hns)
        have s2 := same_new (o := .lst (nmV ns)) hq
        have hq2 : (upd H1 q (.lst (nmV ns))) q = some (.lst (nmV ns)) := upd_same
        generalize upd H1 q (.lst (nmV ns)) = H2 at s2 hq2
        refine ⟨sm64 (by show 0 ≤ 10000; decide), fun p0 hp0 => ?_⟩
        have s3 := s2.trans (same_new (o := .lst []) hp0)
        have hq3 := same_new (o := .lst []) hp0 _ _ hq2
        generalize upd H2 p0 (.lst []) = H3 at s3 hq3
        have hd3 := s3 _ _ hd1
        refine ⟨_, rfl, da, _, _, _, rfl, rfl, SqT.of (hd3), atI_nat (j := 0) rfl, rfl, _, rfl, iteD (by decide +kernel) ?_⟩
        refine ⟨_, rfl, da, _, _, _, rfl, rfl, SqT.of (hd3), atI_nat (j := 0) rfl, rfl, _, rfl, iteD (by decide +kernel) ?_⟩
        have s13 := s1.trans s3
        simp only [doD, hns] at k
        refine ⟨_, rfl, rfl, _, rfl, iteD rfl ⟨_, rfl, rfl, _, rfl, iteD rfl ?_⟩⟩
        refine ⟨_, rfl, g, Z, e, rfl, R.same s13, W, fun pd kvs hpd hpl => ?_⟩
        have s5 := same_new (o := .dK kvs) hpd
        have hpd5 : (upd H3 pd (.dK kvs)) pd = some (.dK kvs) := upd_same
        generalize upd H3 pd (.dK kvs) = H5 at s5 hpd5
        have s15 := s13.trans s5
        have hd5 := s5 _ _ hd3
        refine ⟨_, rfl, da, _, _, _, rfl, rfl, SqT.of (hd5), atI_nat (j := 0) rfl, rfl, _, rfl, iteD (by decide +kernel) ?_⟩
        refine ⟨_, rfl, da, _, _, _, rfl, rfl, SqT.of (hd5), atI_nat (j := 0) rfl, rfl, _, rfl, iteD (by decide +kernel) ?_⟩
        refine ⟨_, rfl, da, _, _, _, rfl, rfl, SqT.of (hd5), atI_nat (j := 0) rfl, rfl, _, rfl, iteD (by decide +kernel) ?_⟩
        refine ⟨_, rfl, da, _, _, _, rfl, rfl, SqT.of (hd5), atI_nat (j := 0) rfl, rfl, _, rfl, iteD (by decide +kernel) ?_⟩
        refine ⟨_, rfl, da, _, _, _, rfl, rfl, SqT.of (hd5), atI_nat (j := 0) rfl, rfl, _, rfl, iteD (by decide +kernel) ?_⟩
        exact ⟨_, rfl, _, rfl, _, rfl, _, rfl, _, rfl, g, Z, e, pd, sa, da, q, kvs, ns, st, none, .str (S x), rfl, rfl, rfl, rfl, rfl, R.same s15, W, he, hpd5, hpl, s15 _ _ hsa, (by rw [hd5]; show some (HO.tup [V.str (S cSeal), .str (S x)]) = _; rw [← lw_seal] <;> rfl), (fun tx h => by cases h), s5 _ _ hq3, gx.1, gx.2, k.same s15⟩
      · have gx := (hx)
        refine ⟨sm64 (by show 0 ≤ 10000; decide), fun p0 hp0 => ?_⟩
        have s3 := s2.trans (same_new (o := .lst []) hp0)
        generalize upd H2 p0 (.lst []) = H3 at s3
        have hd3 := s3 _ _ hd1
        refine ⟨_, rfl, da, _, _, _, rfl, rfl, SqT.of (hd3), atI_nat (j := 0) rfl, rfl, _, rfl, iteD (by decide +kernel) ?_⟩
        refine ⟨_, rfl, da, _, _, _, rfl, rfl, SqT.of (hd3), atI_nat (j := 0) rfl, rfl, _, rfl, iteD (by decide +kernel) ?_⟩
        have s13 := s1.trans s3
        have kk : LDone g H (Z, refu "path") Q := by
          simp only [doD, hns] at k
          exact k
        exact ⟨_, rfl, rfl, _, rfl, iteD1 rfl (iteT (kk.say R s13))⟩
    | move x y =>
      have hx : tOk x := hok.1
      refine ⟨_, rfl, da, _, _, _, rfl, rfl, SqT.of hd1, atI_nat (j := 1) rfl, x, rfl, tl2000 hx, fun ns hns q hq => ?_, fun hns H2 s2 => ?_⟩
      · have gx := (split_good hns)
        have s2 := same_new (o := .lst (nmV ns)) hq
        have hq2 : (upd H1 q (.lst (nmV ns))) q = some (.lst (nmV ns)) := upd_same
        generalize upd H1 q (.lst (nmV ns)) = H2 at s2 hq2
        refine ⟨sm64 (by show 0 ≤ 10000; decide), fun p0 hp0 => ?_⟩
        have s3 := s2.trans (same_new (o := .lst []) hp0)
        have hq3 := same_new (o := .lst []) hp0 _ _ hq2
        generalize upd H2 p0 (.lst []) = H3 at s3 hq3
        have hd3 := s3 _ _ hd1
        refine ⟨_, rfl, da, _, _, _, rfl, rfl, SqT.of (hd3), atI_nat (j := 0) rfl, rfl, _, rfl, iteD1 (by decide +kernel) ?_⟩
        refine iteT ?_
        refine ⟨_, rfl, da, _, _, _, rfl, rfl, SqT.of hd3, atI_nat (j := 2) rfl, y, rfl, tl2000 hok.2, fun ms hms q2 hq2' => ?_, fun hms H4 s4 => ?_⟩
        · have tt := trivial
          have s4 := same_new (o := .lst (nmV ms)) hq2'
          have hq24 : (upd H3 q2 (.lst (nmV ms))) q2 = some (.lst (nmV ms)) := upd_same
          generalize upd H3 q2 (.lst (nmV ms)) = H4 at s4 hq24
          have s14 := s1.trans (s3.trans s4)
          have hd4 := s4 _ _ hd3
          simp only [doD, hns, hms] at k
          refine ⟨_, rfl, rfl, _, rfl, iteD rfl ⟨_, rfl, rfl, _, rfl, iteD rfl ?_⟩⟩
          refine ⟨_, rfl, g, Z, e, rfl, R.same s14, W, fun pd kvs hpd hpl => ?_⟩
          have s5 := same_new (o := .dK kvs) hpd
          have hpd5 : (upd H4 pd (.dK kvs)) pd = some (.dK kvs) := upd_same
          generalize upd H4 pd (.dK kvs) = H5 at s5 hpd5
          have s15 := s14.trans s5
          have hd5 := s5 _ _ hd4
          refine ⟨_, rfl, da, _, _, _, rfl, rfl, SqT.of (hd5), atI_nat (j := 0) rfl, rfl, _, rfl, iteD (by decide +kernel) ?_⟩
          refine ⟨_, rfl, da, _, _, _, rfl, rfl, SqT.of (hd5), atI_nat (j := 0) rfl, rfl, _, rfl, iteD (by decide +kernel) ?_⟩
          refine ⟨_, rfl, da, _, _, _, rfl, rfl, SqT.of (hd5), atI_nat (j := 0) rfl, rfl, _, rfl, iteD1 (by decide +kernel) ?_⟩
          exact ⟨_, rfl, _, rfl, _, rfl, _, rfl, g, Z, e, pd, q, q2, kvs, ns, ms, rfl, rfl, rfl, rfl, R.same s15, W, hpd5, hpl, (s4.trans s5) _ _ hq3, s5 _ _ hq24, gx.1, (split_good hms).1, gx.2, (split_good hms).2, k.same s15⟩
        · have tt := trivial
          have s14 := s1.trans (s3.trans s4)
          have hd4 := s4 _ _ hd3
          have kk : LDone g H (Z, refu "path") Q := by
            simp only [doD, hns, hms] at k
            exact k
          exact ⟨_, rfl, rfl, _, rfl, iteD rfl ⟨_, rfl, rfl, _, rfl, iteD1 rfl (kk.say R s14)⟩⟩
      · have gx := (hx)
        refine ⟨sm64 (by show 0 ≤ 10000; decide), fun p0 hp0 => ?_⟩
        have s3 := s2.trans (same_new (o := .lst []) hp0)
        generalize upd H2 p0 (.lst []) = H3 at s3
        have hd3 := s3 _ _ hd1
        refine ⟨_, rfl, da, _, _, _, rfl, rfl, SqT.of (hd3), atI_nat (j := 0) rfl, rfl, _, rfl, iteD1 (by decide +kernel) ?_⟩
        refine iteT ?_
        refine ⟨_, rfl, da, _, _, _, rfl, rfl, SqT.of hd3, atI_nat (j := 2) rfl, y, rfl, tl2000 hok.2, fun ms hms q2 hq2' => ?_, fun hms H4 s4 => ?_⟩
        · have tt := trivial
          have s4 := same_new (o := .lst (nmV ms)) hq2'
          have hq24 : (upd H3 q2 (.lst (nmV ms))) q2 = some (.lst (nmV ms)) := upd_same
          generalize upd H3 q2 (.lst (nmV ms)) = H4 at s4 hq24
          have s14 := s1.trans (s3.trans s4)
          have hd4 := s4 _ _ hd3
          have kk : LDone g H (Z, refu "path") Q := by
            simp only [doD, hns, hms] at k
            exact k
          exact ⟨_, rfl, rfl, _, rfl, iteD1 rfl (iteT (kk.say R s14))⟩
        · have tt := trivial
          have s14 := s1.trans (s3.trans s4)
          have hd4 := s4 _ _ hd3
          have kk : LDone g H (Z, refu "path") Q := by
            simp only [doD, hns, hms] at k
            exact k
          exact ⟨_, rfl, rfl, _, rfl, iteD1 rfl (iteT (kk.say R s14))⟩
    | snapshot x y =>
      have hx : tOk x := hok.1
      refine ⟨_, rfl, da, _, _, _, rfl, rfl, SqT.of hd1, atI_nat (j := 1) rfl, x, rfl, tl2000 hx, fun ns hns q hq => ?_, fun hns H2 s2 => ?_⟩
      · have gx := (split_good hns)
        have s2 := same_new (o := .lst (nmV ns)) hq
        have hq2 : (upd H1 q (.lst (nmV ns))) q = some (.lst (nmV ns)) := upd_same
        generalize upd H1 q (.lst (nmV ns)) = H2 at s2 hq2
        refine ⟨sm64 (by show 0 ≤ 10000; decide), fun p0 hp0 => ?_⟩
        have s3 := s2.trans (same_new (o := .lst []) hp0)
        have hq3 := same_new (o := .lst []) hp0 _ _ hq2
        generalize upd H2 p0 (.lst []) = H3 at s3 hq3
        have hd3 := s3 _ _ hd1
        refine ⟨_, rfl, da, _, _, _, rfl, rfl, SqT.of (hd3), atI_nat (j := 0) rfl, rfl, _, rfl, iteD (by decide +kernel) ?_⟩
        refine ⟨_, rfl, da, _, _, _, rfl, rfl, SqT.of (hd3), atI_nat (j := 0) rfl, rfl, _, rfl, iteD1 (by decide +kernel) ?_⟩
        refine ⟨_, rfl, da, _, _, _, rfl, rfl, SqT.of hd3, atI_nat (j := 2) rfl, y, rfl, tl2000 hok.2, fun ms hms q2 hq2' => ?_, fun hms H4 s4 => ?_⟩
        · have tt := trivial
          have s4 := same_new (o := .lst (nmV ms)) hq2'
          have hq24 : (upd H3 q2 (.lst (nmV ms))) q2 = some (.lst (nmV ms)) := upd_same
          generalize upd H3 q2 (.lst (nmV ms)) = H4 at s4 hq24
          have s14 := s1.trans (s3.trans s4)
          have hd4 := s4 _ _ hd3
          simp only [doD, hns, hms] at k
          refine ⟨_, rfl, rfl, _, rfl, iteD rfl ⟨_, rfl, rfl, _, rfl, iteD rfl ?_⟩⟩
          refine ⟨_, rfl, g, Z, e, rfl, R.same s14, W, fun pd kvs hpd hpl => ?_⟩
          have s5 := same_new (o := .dK kvs) hpd
          have hpd5 : (upd H4 pd (.dK kvs)) pd = some (.dK kvs) := upd_same
          generalize upd H4 pd (.dK kvs) = H5 at s5 hpd5
          have s15 := s14.trans s5
          have hd5 := s5 _ _ hd4
          refine ⟨_, rfl, da, _, _, _, rfl, rfl, SqT.of (hd5), atI_nat (j := 0) rfl, rfl, _, rfl, iteD (by decide +kernel) ?_⟩
          refine ⟨_, rfl, da, _, _, _, rfl, rfl, SqT.of (hd5), atI_nat (j := 0) rfl, rfl, _, rfl, iteD (by decide +kernel) ?_⟩
          refine ⟨_, rfl, da, _, _, _, rfl, rfl, SqT.of (hd5), atI_nat (j := 0) rfl, rfl, _, rfl, iteD (by decide +kernel) ?_⟩
          refine ⟨_, rfl, da, _, _, _, rfl, rfl, SqT.of (hd5), atI_nat (j := 0) rfl, rfl, _, rfl, iteD1 (by decide +kernel) ?_⟩
          exact ⟨_, rfl, _, rfl, _, rfl, _, rfl, g, Z, e, pd, q, q2, kvs, ns, ms, rfl, rfl, rfl, rfl, R.same s15, W, hpd5, hpl, (s4.trans s5) _ _ hq3, s5 _ _ hq24, gx.1, (split_good hms).1, gx.2, (split_good hms).2, k.same s15⟩
        · have tt := trivial
          have s14 := s1.trans (s3.trans s4)
          have hd4 := s4 _ _ hd3
          have kk : LDone g H (Z, refu "path") Q := by
            simp only [doD, hns, hms] at k
            exact k
          exact ⟨_, rfl, rfl, _, rfl, iteD rfl ⟨_, rfl, rfl, _, rfl, iteD1 rfl (kk.say R s14)⟩⟩
      · have gx := (hx)
        refine ⟨sm64 (by show 0 ≤ 10000; decide), fun p0 hp0 => ?_⟩
        have s3 := s2.trans (same_new (o := .lst []) hp0)
        generalize upd H2 p0 (.lst []) = H3 at s3
        have hd3 := s3 _ _ hd1
        refine ⟨_, rfl, da, _, _, _, rfl, rfl, SqT.of (hd3), atI_nat (j := 0) rfl, rfl, _, rfl, iteD (by decide +kernel) ?_⟩
        refine ⟨_, rfl, da, _, _, _, rfl, rfl, SqT.of (hd3), atI_nat (j := 0) rfl, rfl, _, rfl, iteD1 (by decide +kernel) ?_⟩
        refine ⟨_, rfl, da, _, _, _, rfl, rfl, SqT.of hd3, atI_nat (j := 2) rfl, y, rfl, tl2000 hok.2, fun ms hms q2 hq2' => ?_, fun hms H4 s4 => ?_⟩
        · have tt := trivial
          have s4 := same_new (o := .lst (nmV ms)) hq2'
          have hq24 : (upd H3 q2 (.lst (nmV ms))) q2 = some (.lst (nmV ms)) := upd_same
          generalize upd H3 q2 (.lst (nmV ms)) = H4 at s4 hq24
          have s14 := s1.trans (s3.trans s4)
          have hd4 := s4 _ _ hd3
          have kk : LDone g H (Z, refu "path") Q := by
            simp only [doD, hns, hms] at k
            exact k
          exact ⟨_, rfl, rfl, _, rfl, iteD1 rfl (iteT (kk.say R s14))⟩
        · have tt := trivial
          have s14 := s1.trans (s3.trans s4)
          have hd4 := s4 _ _ hd3
          have kk : LDone g H (Z, refu "path") Q := by
            simp only [doD, hns, hms] at k
            exact k
          exact ⟨_, rfl, rfl, _, rfl, iteD1 rfl (iteT (kk.say R s14))⟩
    | limit x m =>
      have hx : tOk x := hok.1
      refine ⟨_, rfl, da, _, _, _, rfl, rfl, SqT.of hd1, atI_nat (j := 1) rfl, x, rfl, tl2000 hx, fun ns hns q hq => ?_, fun hns H2 s2 => ?_⟩
      · have gx := (split_good hns)
        have s2 := same_new (o := .lst (nmV ns)) hq
        have hq2 : (upd H1 q (.lst (nmV ns))) q = some (.lst (nmV ns)) := upd_same
        generalize upd H1 q (.lst (nmV ns)) = H2 at s2 hq2
        refine ⟨sm64 (by show 0 ≤ 10000; decide), fun p0 hp0 => ?_⟩
        have s3 := s2.trans (same_new (o := .lst []) hp0)
        have hq3 := same_new (o := .lst []) hp0 _ _ hq2
        generalize upd H2 p0 (.lst []) = H3 at s3 hq3
        have hd3 := s3 _ _ hd1
        refine ⟨_, rfl, da, _, _, _, rfl, rfl, SqT.of (hd3), atI_nat (j := 0) rfl, rfl, _, rfl, iteD (by decide +kernel) ?_⟩
        refine ⟨_, rfl, da, _, _, _, rfl, rfl, SqT.of (hd3), atI_nat (j := 0) rfl, rfl, _, rfl, iteD (by decide +kernel) ?_⟩
        have s13 := s1.trans s3
        simp only [doD, hns] at k
        refine ⟨_, rfl, rfl, _, rfl, iteD rfl ⟨_, rfl, rfl, _, rfl, iteD rfl ?_⟩⟩
        refine ⟨_, rfl, g, Z, e, rfl, R.same s13, W, fun pd kvs hpd hpl => ?_⟩
        have s5 := same_new (o := .dK kvs) hpd
        have hpd5 : (upd H3 pd (.dK kvs)) pd = some (.dK kvs) := upd_same
        generalize upd H3 pd (.dK kvs) = H5 at s5 hpd5
        have s15 := s13.trans s5
        have hd5 := s5 _ _ hd3
        refine ⟨_, rfl, da, _, _, _, rfl, rfl, SqT.of (hd5), atI_nat (j := 0) rfl, rfl, _, rfl, iteD (by decide +kernel) ?_⟩
        refine ⟨_, rfl, da, _, _, _, rfl, rfl, SqT.of (hd5), atI_nat (j := 0) rfl, rfl, _, rfl, iteD (by decide +kernel) ?_⟩
        refine ⟨_, rfl, da, _, _, _, rfl, rfl, SqT.of (hd5), atI_nat (j := 0) rfl, rfl, _, rfl, iteD (by decide +kernel) ?_⟩
        refine ⟨_, rfl, da, _, _, _, rfl, rfl, SqT.of (hd5), atI_nat (j := 0) rfl, rfl, _, rfl, iteD (by decide +kernel) ?_⟩
        refine ⟨_, rfl, da, _, _, _, rfl, rfl, SqT.of (hd5), atI_nat (j := 0) rfl, rfl, _, rfl, iteD1 (by decide +kernel) ?_⟩
        exact ⟨_, rfl, _, rfl, _, rfl, _, rfl, da, _, _, _, rfl, rfl, SqT.of hd5, atI_nat (j := 2) rfl, g, Z, e, pd, q, kvs, ns, m, rfl, rfl, rfl, rfl, R.same s15, W, hpd5, hpl, s5 _ _ hq3, gx.1, gx.2, k.same s15⟩
      · have gx := (hx)
        refine ⟨sm64 (by show 0 ≤ 10000; decide), fun p0 hp0 => ?_⟩
        have s3 := s2.trans (same_new (o := .lst []) hp0)
        generalize upd H2 p0 (.lst []) = H3 at s3
        have hd3 := s3 _ _ hd1
        refine ⟨_, rfl, da, _, _, _, rfl, rfl, SqT.of (hd3), atI_nat (j := 0) rfl, rfl, _, rfl, iteD (by decide +kernel) ?_⟩
        refine ⟨_, rfl, da, _, _, _, rfl, rfl, SqT.of (hd3), atI_nat (j := 0) rfl, rfl, _, rfl, iteD (by decide +kernel) ?_⟩
        have s13 := s1.trans s3
        have kk : LDone g H (Z, refu "path") Q := by
          simp only [doD, hns] at k
          exact k
        exact ⟨_, rfl, rfl, _, rfl, iteD1 rfl (iteT (kk.say R s13))⟩
end
end Ah
/-! The law's answers. -/
namespace Ah
open PySem PySem.Spec PyProof.Rows L2 He SX
theorem qwc (n : Int) : decide (V.str (S (Qy.content n).w) = V.str "content") = true := (by decide +kernel : decide (V.str (S cContent) = V.str "content") = true)
theorem qwf (x : Nm) : decide (V.str (S (Qy.find x).w) = V.str "content") = false := (by decide +kernel : decide (V.str (S [102, 105, 110, 100]) = V.str "content") = false)
theorem qwn (x : Nm) : decide (V.str (S (Qy.names x).w) = V.str "content") = false := (by decide +kernel : decide (V.str (S [110, 97, 109, 101, 115]) = V.str "content") = false)
theorem qff (x : Nm) : decide (V.str (S (Qy.find x).w) = V.str "find") = true := (by decide +kernel : decide (V.str (S [102, 105, 110, 100]) = V.str "find") = true)
theorem qnf (x : Nm) : decide (V.str (S (Qy.names x).w) = V.str "find") = false := (by decide +kernel : decide (V.str (S [110, 97, 109, 101, 115]) = V.str "find") = false)
theorem kidsN_snoc (Z : Tr) (n : Nd) (p : List Nm) : kidsN (Z ++ [n]) p = kidsN Z p ++ kidsN [n] p := by
  unfold kidsN
  exact List.filterMap_append
theorem kidsN_yes {n : Nd} {p : List Nm} {x : Nm} (h : n.path = p ++ [x]) : kidsN [n] p = [x] := by
  unfold kidsN
  have : (if n.path ≠ [] ∧ n.path.dropLast = p then n.path.getLast? else none) = some x := by
    rw [if_pos ⟨by rw [h]; simp, by rw [h, List.dropLast_concat]⟩, h]
    simp
  simp only [List.filterMap_cons, this, List.filterMap_nil]
theorem kidsN_not {n : Nd} {p : List Nm} (h : ∀ x, n.path ≠ p ++ [x]) : kidsN [n] p = [] := by
  cases e : kidsN [n] p with
  | nil => rfl
  | cons x r =>
    have : x ∈ kidsN [n] p := by rw [e]; exact List.mem_cons_self
    obtain ⟨m, hm, hp⟩ := kidsN_mem.mp this
    rw [List.mem_singleton.mp hm] at hp
    exact absurd hp (h x)
section
variable {P : Program} {w : World} {K : PySem.W.Frag} {mg : Str → Option Value} {base : Heap}
theorem sayA {H H1 : Hp} {Q : VK} {w : Str} (A : Ans' H (refu w) Q) (s : Same H H1) : [V.str "refused", V.str w].length ≤ sizeLine ∧ ∀ p, H1 p = none → Q (.ref p) (upd H1 p (.tup [.str "refused", .str w])) :=
  ⟨sm64 (by show 2 ≤ 10000; decide), fun q hq => A _ _ (s.trans (same_new hq)) (isV.tup upd_same (isVs.cons isV.str (isVs.cons isV.str isVs.nil)))⟩
def P__law_content (K : PySem.W.Frag) (a b : V) (H : Hp) (Q : VK) : Prop := ∃ (g : Lg) (Z : Tr) (e : Nat) (n : Int), a = .ref g.a ∧ b = .int n ∧ LawAt H g Z ∧ WF e Z ∧ Ans' H (ask Z (.content n)) Q
abbrev N__law_content : List Str := ["_law_nodes", "_law_number"]
theorem sc__law_content : FnScope N__law_content ["_law_nodes", "_law_number"] (defScope s_law_content) := ⟨rfl, rfl, rfl, by decide +kernel, rfl, by decide +kernel, by decide +kernel⟩
theorem ok__law_content (T : Tx w K mg) : Cal P w K mg base 3 (fAd K ("_law_content", none)) (Sp2 (P__law_content K)) := by
  refine mk2 (k := 2) T.fd_law_content sc__law_content (fun _ _ _ _ _ _ _ _  => rfl) fun cdv A outer s H E va vb Q hr h => ?_
  have hu := hu_of hr
  obtain ⟨g, Z, e, n, rfl, rfl, R, W, k⟩ := h
  refine ⟨_, (pss_cons (ps_if (pt_not (pt_chain op_le op_lt pe_int (pv 1) (pe_callB call_len_seq (by rfl) T.f_len (by decide +kernel) (pa_cons (pv 0) pa_nil)))) (pss_one (ps_ret (pe_tup (pa_cons pe_str (pa_cons pe_str pa_nil))))) pss_nil)
      (pss_cons (ps_if (pt_cmpR op_eq (pe_ix ix_list (pe_ix ix_list (pv 0) (pv 1) (fun _ _ => rfl)) pe_int (fun _ _ => rfl)) pe_int (nomark _)) (pss_one (ps_ret (pe_tup (pa_cons pe_str (pa_cons pe_str pa_nil))))) pss_nil)
      (pss_one (ps_ret (pe_tup (pa_cons pe_str (pa_cons (pv 1) (pa_cons (pe_callTy call_int1 (by rfl) T.f_int (by decide +kernel) (pa_cons (pe_ix ix_list (pe_ix ix_list (pv 0) (pv 1) (fun _ _ => rfl)) pe_int (fun _ _ => rfl)) pa_nil)) (pa_cons (pe_callTy call_tuple_of (by rfl) T.f_tuple (by decide +kernel) (pa_cons (pe_ix ix_list (pe_ix ix_list (pv 0) (pv 1) (fun _ _ => rfl)) pe_int (fun _ _ => rfl)) pa_nil)) pa_nil))))))))), ?_⟩
  dsimp only [cxOf, Cx.nox]
  have hZ := W.len
  unfold ask at k
  refine ⟨_, rfl, _, _, rfl, rfl, _, rfl, iteB (fun h1 => ⟨_, rfl, g.a, _, rfl, .inl (SqL.of R.top), _, _, rfl, rfl, _, rfl, ?_⟩) (fun h1 => ⟨_, rfl, iteT ?_⟩)⟩
  · rw [List.length_map, R.lla]
    refine iteB (fun h2 => ?_) (fun h2 => ?_)
    · have h2 := of_decide_eq_false (nb1 h2)
      simp only [if_neg (show ¬ (0 ≤ n ∧ n < (Z.length : Int)) from fun z => h2 z.2)] at k
      exact sayA k (Same.refl H)
    have h1 := of_decide_eq_true h1
    have h2 := of_decide_eq_true (nb2 h2)
    simp only [if_pos (show 0 ≤ n ∧ n < (Z.length : Int) from ⟨h1, h2⟩)] at k
    obtain ⟨i, rfl⟩ : ∃ i : Nat, n = (i : Int) := ⟨n.toNat, by omega⟩
    rw [Int.toNat_natCast] at k
    have hil : i < Z.length := by omega
    obtain ⟨nd, hnd⟩ : ∃ nd, Z[i]? = some nd := ⟨_, List.getElem?_eq_getElem hil⟩
    simp only [hnd] at k
    obtain ⟨rx, ry, hrx, hry, hrow, vs, hys, hvs⟩ := R.at hnd
    refine ⟨_, rfl, _, rfl, g.a, _, _, _, rfl, rfl, SqL.of R.top, atI_nat (j := i) (mapref hrx), rx, _, _, _, rfl, rfl, SqL.of hrow, atI_nat (j := 0) rfl, rfl, _, rfl, ?_⟩
    cases hfile : nd.file with
    | false =>
      simp only [if_pos hfile] at k
      exact iteT (sayA k (Same.refl H))
    | true =>
      simp only [if_neg (show ¬ nd.file = false by rw [hfile]; decide)] at k
      refine iteF ?_
      refine ⟨_, rfl, _, rfl, _, rfl, g.a, _, _, _, rfl, rfl, SqL.of R.top, atI_nat (j := i) (mapref hrx), rx, _, _, _, rfl, rfl, SqL.of hrow, atI_nat (j := 3) rfl, .inr ⟨_, rfl, ?_⟩⟩
      refine ⟨_, rfl, _, rfl, g.a, _, _, _, rfl, rfl, SqL.of R.top, atI_nat (j := i) (mapref hrx), rx, _, _, _, rfl, rfl, SqL.of hrow, atI_nat (j := 2) rfl, ry, vs, rfl, .inl ⟨SqL.of hys, fun t0 ht0 => ⟨sm64 (by show 4 ≤ 10000; decide), fun p hp => ?_⟩⟩⟩
      have s1 := same_new (o := .tup vs) ht0
      have s2 := same_new (o := .tup [.str "content", .int (i : Int), .int (if nd.shut then 1 else 0), .ref t0]) hp
      exact k _ _ (s1.trans s2) (isV.tup upd_same (isVs.cons isV.str (isVs.cons isV.int (isVs.cons isV.int (isVs.cons (isV.tup (s2 _ _ upd_same) (hvs.keep (Same.tup (s1.trans s2)))) isVs.nil)))))
  · have h1 := of_decide_eq_false h1
    simp only [if_neg (show ¬ (0 ≤ n ∧ n < (Z.length : Int)) from fun z => h1 z.1)] at k
    exact sayA k (Same.refl H)
def P__law_listing (K : PySem.W.Frag) (a b : V) (H : Hp) (Q : VK) : Prop := ∃ (g : Lg) (Z : Tr) (e : Nat) (p : List Nm), a = .ref g.a ∧ b = .str (S (pcat p)) ∧ LawAt H g Z ∧ WF e Z ∧ Good p ∧ p.length ≤ 6 ∧ Ans' H (.t [.s "names", .t ((sortN (kidsN Z p)).map fun n => .s (S n))]) Q
abbrev N__law_listing : List Str := ["_law_nodes", "_law_top", "_law_names_here", "_law_node"]
theorem sc__law_listing : FnScope N__law_listing ["_law_nodes", "_law_top"] (defScope s_law_listing) := ⟨rfl, rfl, rfl, by decide +kernel, rfl, by decide +kernel, by decide +kernel⟩
theorem ok__law_listing (T : Tx w K mg) : Cal P w K mg base 1 (fAd K ("_law_listing", none)) (Sp2 (P__law_listing K)) := by
  refine mk2 (k := 0) T.fd_law_listing sc__law_listing (fun _ _ _ _ _ _ _ _  => rfl) fun cdv A outer s H E va vb Q hr h => ?_
  have hu := hu_of hr
  obtain ⟨g, Z, e, p, rfl, rfl, R, W, gp, h6, k⟩ := h
  refine ⟨_, (pss_cons (ps_set (i := 2) sc__law_listing.nd rfl (Or.inl rfl) (pe_lst pa_nil))
      (pss_cons (ps_for PassesOwn.never rfl (pi_list (pv 0)) (pg_name (i := 3) sc__law_listing.nd rfl (Or.inl rfl))
      (pss_one (ps_if (PW.pt (pw_and (pt_val (pe_m1 PySem.F.slot_str_startswith PySem.F.type_str_startswith mt_startswith (pe_ix ix_list (pv 3) pe_int (fun _ _ => rfl)) (pe_op op_add_str (pv 1) pe_str))) (pw_and1 (pt_cmpR op_notIn_sign pe_str (pe_slice sl_str (pe_ix ix_list (pv 3) pe_int (fun _ _ => rfl)) (po_some (pe_op op_add (pe_callB call_len_str (by rfl) T.f_len (by decide +kernel) (pa_cons (pv 1) pa_nil)) pe_int)) po_none) (by rfl))))) (pss_one (ps_expr (pe_bm PySem.F.plainAttrs_list PySem.F.slot_list_append PySem.F.type_list_append mt_append (pv 2) (pa_cons (pe_slice sl_str (pe_ix ix_list (pv 3) pe_int (fun _ _ => rfl)) (po_some (pe_op op_add (pe_callB call_len_str (by rfl) T.f_len (by decide +kernel) (pa_cons (pv 1) pa_nil)) pe_int)) po_none) pa_nil)))) pss_nil)))
      (pss_one (ps_ret (pe_tup (pa_cons pe_str (pa_cons (pe_callTy call_tuple_of (by rfl) T.f_tuple (by decide +kernel) (pa_cons (pe_callB cr_sortedS (by rfl) T.f_sorted (by decide +kernel) (pa_cons (pv 2) pa_nil)) pa_nil)) pa_nil))))))), ?_⟩
  dsimp only [cxOf, Cx.nox]
  have hZ := W.len
  have e63 : sizeLine = 16777216 := sizeLine_eq
  have lp := pcat_len13 gp h6
  refine ⟨sm64 (by show 0 ≤ 10000; decide), fun D hD => ?_⟩
  have s0 : ∀ o, Same H (upd H D o) := fun o => same_new hD
  refine ⟨_, rfl, g.a, rfl, ⟨_, SqL.of (s0 _ _ _ R.top)⟩, for_list (K := K) (a := g.a) (xs := g.la.map V.ref) (fun i σ H2 => ∃ o3 : Option V, σ = [some (.ref g.a), some (.str (S (pcat p))), some (.ref D), o3] ∧ H2 = upd H D (.lst (nmV (kidsN (Z.take i) p)))) ⟨none, rfl, by rw [List.take_zero] <;> rfl⟩ (fun i σ H2 _ ⟨_, _, e⟩ => by rw [e]; exact SqL.of (s0 _ _ _ R.top)) ?_ ?_⟩
  · rintro i y σ H2 hy ⟨o3, rfl, rfl⟩
    obtain ⟨rx, hrx, rfl⟩ := map_at hy
    have hil : i < Z.length := by
      rw [← R.lla]
      exact (List.getElem?_eq_some_iff.mp hrx).1
    obtain ⟨n, hn⟩ : ∃ n, Z[i]? = some n := ⟨_, List.getElem?_eq_getElem hil⟩
    obtain ⟨rx', ry, hrx', hry, hrow, _⟩ := R.at hn
    rw [hrx] at hrx'
    cases hrx'
    have gn := W.good n (List.mem_of_getElem? hn)
    have ln := pcat_len13 gn.1 gn.2
    have etk : Z.take (i + 1) = Z.take i ++ [n] := by rw [List.take_add_one, hn] <;> rfl
    have hlen : (kidsN (Z.take i) p).length ≤ 64 := by
      have h1 := List.length_filterMap_le (fun n : Nd => if n.path ≠ [] ∧ n.path.dropLast = p then n.path.getLast? else none) (Z.take i)
      have h2 : (Z.take i).length ≤ 64 := by
        rw [List.length_take]
        omega
      exact Nat.le_trans h1 h2
    refine ⟨_, rfl, rx, _, _, _, rfl, rfl, SqL.of (s0 _ _ _ hrow), atI_nat (j := 1) rfl, ⟨_, rfl⟩, _, rfl, _, _, rfl, rfl, by rw [S_len, show ("/" : Str).length = 1 from rfl]; omega, _, _, rfl, rfl, _, rfl, ?_⟩
    rw [starts_pp gp gn.1]
    have skip : (∀ x, n.path ≠ p ++ [x]) → ∃ o3 : Option V, [some (V.ref g.a), some (.str (S (pcat p))), some (.ref D), some (.ref rx)] = [some (V.ref g.a), some (.str (S (pcat p))), some (.ref D), o3] ∧ upd H D (.lst (nmV (kidsN (Z.take i) p))) = upd H D (.lst (nmV (kidsN (Z.take (i + 1)) p))) := fun h => ⟨_, rfl, by rw [etk, kidsN_snoc, kidsN_not h, List.append_nil]⟩
    refine iteB (fun h1 => ?_) (fun h1 => iteF (skip fun x hx => ?_))
    · obtain ⟨hpre, hnq⟩ := pp_iff.mp h1
      have hkid := pcat_kid gn.1.fr hpre hnq
      refine ⟨_, rfl, rx, _, _, _, rfl, rfl, SqL.of (s0 _ _ _ hrow), atI_nat (j := 1) rfl, _, rfl, _, rfl, S_len63 lp (by decide), _, _, rfl, rfl, _, rfl, _, rfl, S_len63 ln (by decide), ?_⟩
      have ecut : cutS (S (pcat n.path)) (some (((S (pcat p)).length : Int) + 1)) none = S ((pcat n.path).drop ((pcat p).length + 1)) := by
        rw [S_len]
        exact cut_from (pcat n.path) ((pcat p).length + 1)
      rw [ecut]
      refine ⟨47, _, congrArg V.str lSl, rfl, _, rfl, iteB (fun h2 => ?_) (fun h2 => skip fun x hx => ?_)⟩
      · have h2' : 47 ∉ (pcat n.path).drop ((pcat p).length + 1) := of_decide_eq_false (nb1 h2)
        obtain ⟨x, hx⟩ := hkid.mp h2'
        refine ⟨_, rfl, .inl ⟨rfl, _, SqL.of upd_same⟩, _, rfl, rx, _, _, _, rfl, rfl, SqL.of (s0 _ _ _ hrow), atI_nat (j := 1) rfl, _, rfl, _, rfl, S_len63 lp (by decide), _, _, rfl, rfl, _, rfl, _, rfl, S_len63 ln (by decide), ?_⟩
        rw [ecut, hx, pcat_drop1]
        refine ⟨D, _, _, rfl, rfl, upd_same, sm63 (by rw [nmV_len]; omega), _, rfl, ?_⟩
        rw [upd_upd, etk, kidsN_snoc, kidsN_yes hx, nmV_app] <;> rfl
      · have h2' : 47 ∈ (pcat n.path).drop ((pcat p).length + 1) := of_decide_eq_true (nb2 h2)
        exact hkid.mpr ⟨x, hx⟩ h2'
    · rw [hx] at h1
      have : pp p (p ++ [x]) = true := pp_iff.mpr ⟨List.prefix_append _ _, by simp⟩
      rw [this] at h1
      cases h1
  · rintro σ H2 ⟨o3, rfl, rfl⟩
    rw [List.length_map, R.lla, List.take_length]
    have hk64 : (kidsN Z p).length < 64 := by
      have := kidsN_len W (p := p)
      omega
    refine ⟨_, rfl, D, (kidsN Z p).map S, rfl, SqL.of (by rw [upd_same, List.map_map] <;> rfl), by rw [List.length_map]; exact hk64, fun ys q hperm hsort hq => ?_⟩
    have ey := sorted_is hperm hsort
    subst ey
    have emv : ((sortN (kidsN Z p)).map S).map V.str = nmV (sortN (kidsN Z p)) := by rw [List.map_map] <;> rfl
    rw [emv]
    have s1 := same_new (o := .lst (nmV (sortN (kidsN Z p)))) hq
    refine ⟨q, _, rfl, .inl ⟨SqL.of upd_same, fun t0 ht0 => ⟨sm64 (by show 2 ≤ 10000; decide), fun r hr' => ?_⟩⟩⟩
    have s2 := same_new (o := .tup (nmV (sortN (kidsN Z p)))) ht0
    have s3 := same_new (o := .tup [.str "names", .ref t0]) hr'
    exact k _ _ ((s0 _).trans (s1.trans (s2.trans s3))) (isV.tup upd_same (isVs.cons isV.str (isVs.cons (isV.tup (s3 _ _ upd_same) (isVs_names _)) isVs.nil)))
def P__law_answer (K : PySem.W.Frag) (a b : V) (H : Hp) (Q : VK) : Prop := ∃ (g : Lg) (Z : Tr) (e : Nat) (qa : Addr) (qy : Qy), a = .ref g.a ∧ b = .ref qa ∧ LawAt H g Z ∧ WF e Z ∧ H qa = some (.tup [.str (S qy.w), itmV qy.it]) ∧ qy.Ok ∧ Ans' H (ask Z qy) Q
abbrev N__law_answer : List Str := ["_law_nodes", "_law_query_here", "_law_names_here", "_law_at"]
theorem sc__law_answer : FnScope N__law_answer ["_law_nodes", "_law_query_here"] (defScope s_law_answer) := ⟨rfl, rfl, rfl, by decide +kernel, rfl, by decide +kernel, by decide +kernel⟩
theorem ok__law_answer (T : Tx w K mg) : Cal P w K mg base 5 (fAd K ("_law_answer", none)) (Sp2 (P__law_answer K)) := by
  refine mk2 (k := 4) T.fd_law_answer sc__law_answer (fun _ _ _ _ _ _ _ _  => rfl) fun cdv A outer s H E va vb Q hr h => ?_
  have hu := hu_of hr
  obtain ⟨g, Z, e, qa, qy, rfl, rfl, R, W, hqa, hok, k⟩ := h
  refine ⟨_, (pss_cons (ps_if (pt_cmpR op_eq (pe_ix ix_tup (pv 1) pe_int (fun _ _ => rfl)) pe_str (nomark _)) (pss_one (ps_ret (pcall (ok__law_content T) hr (by decide) rfl T.g__law_content (pa_cons (pv 0) (pa_cons (pe_ix ix_tup (pv 1) pe_int (fun _ _ => rfl)) pa_nil))))) pss_nil)
      (pss_cons (ps_set (i := 2) sc__law_answer.nd rfl (Or.inl rfl) (pcall (ok__law_split T) hr (by decide) rfl T.g__law_split (pa_cons (pe_ix ix_tup (pv 1) pe_int (fun _ _ => rfl)) pa_nil)))
      (pss_cons (ps_if (pt_cmpR op_isN (pv 2) pe_non (nomark _)) (pss_one (ps_ret (pe_tup (pa_cons pe_str (pa_cons pe_str pa_nil))))) pss_nil)
      (pss_cons (ps_set (i := 3) sc__law_answer.nd rfl (Or.inl rfl) (pcall (ok__law_look T) hr (by decide) rfl T.g__law_look (pa_cons (pv 0) (pa_cons (pcall (ok__law_places T) hr (by decide) rfl T.g__law_places (pa_cons (pv 0) pa_nil)) (pa_cons (pv 2) pa_nil)))))
      (pss_cons (ps_if (pt_val (pe_callB call_isi (by rfl) T.f_isinstance (by decide +kernel) (pa_cons (pv 3) (pa_cons (pe_bltn (v := .ty "str") (by rfl) T.f_str (by decide +kernel) rfl) pa_nil)))) (pss_one (ps_ret (pe_tup (pa_cons pe_str (pa_cons (pv 3) pa_nil))))) pss_nil)
      (pss_cons (ps_if (pt_cmpR op_eq (pe_ix ix_tup (pv 1) pe_int (fun _ _ => rfl)) pe_str (nomark _)) (pss_one (ps_ret (pe_tup (pa_cons pe_str (pa_cons (pv 3) (pa_cons (pe_ix ix_list (pe_ix ix_list (pv 0) (pv 3) (fun _ _ => rfl)) pe_int (fun _ _ => rfl)) (pa_cons (pcall (ok__law_size T) hr (by decide) rfl T.g__law_size (pa_cons (pv 0) (pa_cons (pe_ix ix_list (pe_ix ix_list (pv 0) (pv 3) (fun _ _ => rfl)) pe_int (fun _ _ => rfl)) pa_nil))) pa_nil))))))) pss_nil)
      (pss_cons (ps_if (pt_cmpR op_eq (pe_ix ix_list (pe_ix ix_list (pv 0) (pv 3) (fun _ _ => rfl)) pe_int (fun _ _ => rfl)) pe_int (nomark _)) (pss_one (ps_ret (pe_tup (pa_cons pe_str (pa_cons pe_str pa_nil))))) pss_nil)
      (pss_one (ps_ret (pcall (ok__law_listing T) hr (by decide) rfl T.g__law_listing (pa_cons (pv 0) (pa_cons (pe_ix ix_list (pe_ix ix_list (pv 0) (pv 3) (fun _ _ => rfl)) pe_int (fun _ _ => rfl)) pa_nil)))))))))))), ?_⟩
  dsimp only [cxOf, Cx.nox]
  refine ⟨_, rfl, qa, _, _, _, rfl, rfl, SqT.of hqa, atI_nat (j := 0) rfl, rfl, _, rfl, ?_⟩
  have path : ∀ (x : Nm) (dd : List Nm → D), tOk x → ask Z qy = (match split x with | none => refu "path" | some p => match look Z [] p with | .no w => refu w | .at k => dd p) → True := fun _ _ _ _ => trivial
  cases qy with
  | content n =>
    refine iteD1 (qwc n) ?_
    exact ⟨_, rfl, _, rfl, qa, _, _, _, rfl, rfl, SqT.of hqa, atI_nat (j := 1) rfl, g, Z, e, n, rfl, rfl, R, W, k⟩
  | find x =>
    refine iteD (qwf x) ?_
    unfold ask at k
    refine ⟨_, rfl, qa, _, _, _, rfl, rfl, SqT.of hqa, atI_nat (j := 1) rfl, x, rfl, tl2000 hok, fun ns hns q hq => ?_, fun hns H2 s2 => ?_⟩
    · have s1 := same_new (o := .lst (nmV ns)) hq
      have gx := split_good hns
      simp only [hns] at k
      refine ⟨_, rfl, rfl, _, rfl, iteD rfl ?_⟩
      refine ⟨_, rfl, _, rfl, g, Z, e, rfl, R.same s1, W, fun pd kvs hpd hpl => ?_⟩
      have s2 := s1.trans (same_new (o := .dK kvs) hpd)
      have nqd : q ≠ pd := ne_of_none upd_same hpd
      refine ⟨_, rfl, g, Z, e, pd, q, kvs, ns, rfl, rfl, rfl, R.same s2, W, upd_same, hpl, by rw [upd_ne nqd, upd_same], gx.1, gx.2, fun w hl => ?_, fun i hl => ?_⟩
      · rw [hl] at k
        exact ⟨_, rfl, _, _, _, _, _, rfl, isi_ss ⟨_, rfl, iteT ⟨_, rfl, sayA k s2⟩⟩⟩
      rw [hl] at k
      refine ⟨_, rfl, _, _, _, _, _, rfl, isi_is ⟨_, rfl, iteF ?_⟩⟩
      obtain ⟨n, hn, hpn⟩ := look_node W hl
      obtain ⟨rx, ry, hrx, hry, hrow, _⟩ := R.at hn
      have gn := W.good n (List.mem_of_getElem? hn)
      have hF : isF Z ns = n.file := by rw [← hpn]; exact isF_at W.dist hn
      refine ⟨_, rfl, qa, _, _, _, rfl, rfl, SqT.of (s2 _ _ hqa), atI_nat (j := 0) rfl, rfl, _, rfl, iteD1 (qff x) ?_⟩
      refine ⟨_, rfl, _, rfl, _, rfl, g.a, _, _, _, rfl, rfl, SqL.of (s2 _ _ R.top), atI_nat (j := i) (mapref hrx), rx, _, _, _, rfl, rfl, SqL.of (s2 _ _ hrow), atI_nat (j := 0) rfl, ?_⟩
      refine ⟨_, rfl, _, rfl, _, rfl, g.a, _, _, _, rfl, rfl, SqL.of (s2 _ _ R.top), atI_nat (j := i) (mapref hrx), rx, _, _, _, rfl, rfl, SqL.of (s2 _ _ hrow), atI_nat (j := 1) rfl, g, Z, e, n.path, rfl, rfl, R.same s2, W, gn.1, gn.2, fun H3 s3 => ⟨sm64 (by show 4 ≤ 10000; decide), fun p hp => ?_⟩⟩
      rw [hF, ← hpn] at k
      exact k _ _ (s2.trans (s3.trans (same_new hp))) (isV.tup upd_same (isVs.cons isV.str (isVs.cons isV.int (isVs.cons isV.int (isVs.cons isV.int isVs.nil)))))
    · simp only [hns] at k
      exact ⟨_, rfl, rfl, _, rfl, iteD1 rfl (sayA k s2)⟩
  | names x =>
    refine iteD (qwn x) ?_
    unfold ask at k
    refine ⟨_, rfl, qa, _, _, _, rfl, rfl, SqT.of hqa, atI_nat (j := 1) rfl, x, rfl, tl2000 hok, fun ns hns q hq => ?_, fun hns H2 s2 => ?_⟩
    · have s1 := same_new (o := .lst (nmV ns)) hq
      have gx := split_good hns
      simp only [hns] at k
      refine ⟨_, rfl, rfl, _, rfl, iteD rfl ?_⟩
      refine ⟨_, rfl, _, rfl, g, Z, e, rfl, R.same s1, W, fun pd kvs hpd hpl => ?_⟩
      have s2 := s1.trans (same_new (o := .dK kvs) hpd)
      have nqd : q ≠ pd := ne_of_none upd_same hpd
      refine ⟨_, rfl, g, Z, e, pd, q, kvs, ns, rfl, rfl, rfl, R.same s2, W, upd_same, hpl, by rw [upd_ne nqd, upd_same], gx.1, gx.2, fun w hl => ?_, fun i hl => ?_⟩
      · rw [hl] at k
        exact ⟨_, rfl, _, _, _, _, _, rfl, isi_ss ⟨_, rfl, iteT ⟨_, rfl, sayA k s2⟩⟩⟩
      rw [hl] at k
      refine ⟨_, rfl, _, _, _, _, _, rfl, isi_is ⟨_, rfl, iteF ?_⟩⟩
      obtain ⟨n, hn, hpn⟩ := look_node W hl
      obtain ⟨rx, ry, hrx, hry, hrow, _⟩ := R.at hn
      have gn := W.good n (List.mem_of_getElem? hn)
      have hF : isF Z ns = n.file := by rw [← hpn]; exact isF_at W.dist hn
      simp only [hF] at k
      refine ⟨_, rfl, qa, _, _, _, rfl, rfl, SqT.of (s2 _ _ hqa), atI_nat (j := 0) rfl, rfl, _, rfl, iteD (qnf x) ?_⟩
      refine ⟨_, rfl, _, rfl, g.a, _, _, _, rfl, rfl, SqL.of (s2 _ _ R.top), atI_nat (j := i) (mapref hrx), rx, _, _, _, rfl, rfl, SqL.of (s2 _ _ hrow), atI_nat (j := 0) rfl, rfl, _, rfl, ?_⟩
      cases hfile : n.file with
      | true =>
        simp only [if_pos hfile] at k
        exact iteT (sayA k s2)
      | false =>
        simp only [if_neg (show ¬ n.file = true by rw [hfile]; decide)] at k
        refine iteF ?_
        refine ⟨_, rfl, _, rfl, _, rfl, g.a, _, _, _, rfl, rfl, SqL.of (s2 _ _ R.top), atI_nat (j := i) (mapref hrx), rx, _, _, _, rfl, rfl, SqL.of (s2 _ _ hrow), atI_nat (j := 1) rfl, g, Z, e, n.path, rfl, rfl, R.same s2, W, gn.1, gn.2, ?_⟩
        rw [hpn]
        exact Ans'.same k s2
    · simp only [hns] at k
      exact ⟨_, rfl, rfl, _, rfl, iteD1 rfl (sayA k s2)⟩
end
end Ah
/-! The law's comparisons. -/
namespace Ah
open PySem PySem.Spec PyProof.Rows L2 He SX
/-- an answer of few items, not deep -/
def Dep : Nat → D → Prop
  | 0, _ => False
  | _ + 1, .i _ => True
  | _ + 1, .s _ => True
  | n + 1, .t l => l.length ≤ 1000 ∧ ∀ d ∈ l, Dep n d
theorem Dep.two {n : Nat} {a b : D} (ha : Dep n a) (hb : Dep n b) : Dep (n + 1) (.t [a, b]) := ⟨by show 2 ≤ 1000; decide, fun d hd => by
  simp only [List.mem_cons, List.not_mem_nil, or_false] at hd
  rcases hd with rfl | rfl
  · exact ha
  · exact hb⟩
theorem Dep.three {n : Nat} {a b c : D} (ha : Dep n a) (hb : Dep n b) (hc : Dep n c) : Dep (n + 1) (.t [a, b, c]) := ⟨by show 3 ≤ 1000; decide, fun d hd => by
  simp only [List.mem_cons, List.not_mem_nil, or_false] at hd
  rcases hd with rfl | rfl | rfl
  · exact ha
  · exact hb
  · exact hc⟩
theorem Dep.four {n : Nat} {a b c e : D} (ha : Dep n a) (hb : Dep n b) (hc : Dep n c) (he : Dep n e) : Dep (n + 1) (.t [a, b, c, e]) := ⟨by show 4 ≤ 1000; decide, fun d hd => by
  simp only [List.mem_cons, List.not_mem_nil, or_false] at hd
  rcases hd with rfl | rfl | rfl | rfl
  · exact ha
  · exact hb
  · exact hc
  · exact he⟩
theorem dep_refu (w : Str) : Dep 4 (refu w) := Dep.two trivial trivial
theorem dep_pc (p : Pc) : Dep 2 p.d := Dep.four trivial trivial trivial trivial
theorem dep_made (n : Int) : Dep 4 (.t [.s "made", .i n]) := Dep.two trivial trivial
section
variable {c : Nat} {Z : Tr}
theorem dep_look {p : List Nm} {f : Nat → D} (h : ∀ k, Dep 4 (f k)) : Dep 4 (match look Z [] p with | .no w => refu w | .at k => f k) := by
  cases look Z [] p with
  | no w => exact dep_refu w
  | «at» k => exact h k
theorem dep_ask (W : WF c Z) (hc : c ≤ 900) (q : Qy) : Dep 4 (ask Z q) := by
  have hZ := W.len
  cases q with
  | content n =>
    simp only [ask]
    split
    · cases e : Z[n.toNat]? with
      | none => exact dep_refu _
      | some nd =>
        simp only
        split
        · exact dep_refu _
        · refine Dep.four trivial trivial trivial ⟨?_, fun d hd => ?_⟩
          · rw [List.length_map]
            have := W.pcn nd (List.mem_of_getElem? e)
            omega
          · obtain ⟨p, _, rfl⟩ := List.mem_map.mp hd
            exact dep_pc p
    · exact dep_refu _
  | find x =>
    simp only [ask]
    cases split x with
    | none => exact dep_refu _
    | some p =>
      simp only
      cases look Z [] p with
      | no w => exact dep_refu _
      | «at» k => exact Dep.four trivial trivial trivial trivial
  | names x =>
    simp only [ask]
    cases split x with
    | none => exact dep_refu _
    | some p =>
      simp only
      cases look Z [] p with
      | no w => exact dep_refu _
      | «at» k =>
        simp only
        split
        · exact dep_refu _
        · refine Dep.two trivial ⟨?_, fun d hd => ?_⟩
          · rw [List.length_map, (sortN_perm _).length_eq]
            have := kidsN_len W (p := p)
            omega
          · obtain ⟨p, _, rfl⟩ := List.mem_map.mp hd
            exact trivial
theorem dep_mkN (f : Bool) (p : List Nm) : Dep 4 (mkN Z f p).2 := by
  unfold mkN
  cases place Z p with
  | no w => exact dep_refu _
  | «at» k =>
    simp only
    split
    · exact dep_refu _
    · exact dep_made _
theorem dep_wrN (st : St3) (p : List Nm) (x : Nm) : Dep 4 (wrN Z st p x).2 := by
  unfold wrN
  cases look Z [] p with
  | no w => exact dep_refu _
  | «at» k =>
    simp only
    cases Z[k]? with
    | none => exact dep_refu _
    | some n =>
      simp only
      repeat' split
      all_goals first | exact dep_refu _ | exact Dep.four trivial trivial trivial trivial
theorem dep_seN (p : List Nm) : Dep 4 (seN Z p).2 := by
  unfold seN
  cases look Z [] p with
  | no w => exact dep_refu _
  | «at» k =>
    simp only
    cases Z[k]? with
    | none => exact dep_refu _
    | some n =>
      simp only
      repeat' split
      all_goals first | exact dep_refu _ | exact Dep.three trivial trivial trivial
theorem dep_mvN (o p : List Nm) : Dep 4 (mvN Z o p).2 := by
  unfold mvN
  split
  · exact dep_refu _
  cases look Z [] o with
  | no w => exact dep_refu _
  | «at» k =>
    simp only
    split
    · exact dep_refu _
    cases place Z p with
    | no w => exact dep_refu _
    | «at» j =>
      simp only
      repeat' split
      all_goals first | exact dep_refu _ | exact Dep.two trivial trivial
theorem dep_snN (o p : List Nm) : Dep 4 (snN Z o p).2 := by
  unfold snN
  cases look Z [] o with
  | no w => exact dep_refu _
  | «at» k =>
    simp only
    cases Z[k]? with
    | none => exact dep_refu _
    | some n =>
      simp only
      split
      · exact dep_refu _
      cases place Z p with
      | no w => exact dep_refu _
      | «at» j =>
        simp only
        repeat' split
        all_goals first | exact dep_refu _ | exact dep_made _
theorem dep_liN (p : List Nm) (m : Int) : Dep 4 (liN Z p m).2 := by
  unfold liN
  cases look Z [] p with
  | no w => exact dep_refu _
  | «at» k =>
    simp only
    cases Z[k]? with
    | none => exact dep_refu _
    | some n =>
      simp only
      repeat' split
      all_goals first | exact dep_refu _ | exact Dep.three trivial trivial trivial
theorem dep_doE (st : St3) (en : Ent) : Dep 4 (doE Z st en).2 := by
  cases en with
  | odd l => exact dep_refu _
  | deed d =>
    show Dep 4 (doD Z st d).2
    cases d with
    | mkdir x =>
      simp only [doD]
      cases split x with
      | none => exact dep_refu _
      | some p => exact dep_mkN _ _
    | create x =>
      simp only [doD]
      cases split x with
      | none => exact dep_refu _
      | some p => exact dep_mkN _ _
    | append x t =>
      simp only [doD]
      cases split x with
      | none => exact dep_refu _
      | some p => exact dep_wrN _ _ _
    | shut x =>
      simp only [doD]
      cases split x with
      | none => exact dep_refu _
      | some p => exact dep_seN _
    | limit x m =>
      simp only [doD]
      cases split x with
      | none => exact dep_refu _
      | some p => exact dep_liN _ _
    | move x y =>
      simp only [doD]
      cases split x with
      | none => exact dep_refu _
      | some p =>
        cases split y with
        | none => exact dep_refu _
        | some q => exact dep_mvN _ _
    | snapshot x y =>
      simp only [doD]
      cases split x with
      | none => exact dep_refu _
      | some p =>
        cases split y with
        | none => exact dep_refu _
        | some q => exact dep_snN _ _
end
section
variable {P : Program} {w : World} {K : PySem.W.Frag} {mg : Str → Option Value} {base : Heap}
def P_same (K : PySem.W.Frag) (n : Nat) (a b : V) (H : Hp) (Q : VK) : Prop := ∃ d, Dep n d ∧ isV H d a ∧ isV H d b ∧ Q (.bl true) H
abbrev N__law_same : List Str := ["_law_actual", "_law_due", "_law_k"]
theorem sc__law_same : FnScope N__law_same ["_law_actual", "_law_due"] (defScope s_law_same) := ⟨rfl, rfl, rfl, by decide +kernel, rfl, by decide +kernel, by decide +kernel⟩
theorem same_d (T : Tx w K mg) : ∀ n, Cal P w K mg base (1 + n) (fAd K ("_law_same", none)) (Sp2 (P_same K n)) := by
  intro n
  induction n with
  | zero =>
    refine mk2 (k := 0) T.fd_law_same sc__law_same (fun _ _ _ _ _ _ _ _ => rfl) fun cdv A outer s H E va vb Q hr h => ?_
    obtain ⟨d, hd, _⟩ := h
    exact hd.elim
  | succ n ih =>
    refine mk2 (k := 1 + n) T.fd_law_same sc__law_same (fun _ _ _ _ _ _ _ _ => rfl) fun cdv A outer s H E va vb Q hr h => ?_
    have hu := hu_of hr
    obtain ⟨d, hd, ha, hb, k⟩ := h
    refine ⟨_, (pss_cons (ps_if (pt_val (pe_callB call_isi (by rfl) T.f_isinstance (by decide +kernel) (pa_cons (pv 1) (pa_cons (pe_bltn (v := .ty "tuple") (by rfl) T.f_tuple (by decide +kernel) rfl) pa_nil)))) (pss_cons (ps_if (PW.pt (pw_or (pt_not (pt_val (pe_callB call_isi (by rfl) T.f_isinstance (by decide +kernel) (pa_cons (pv 0) (pa_cons (pe_bltn (v := .ty "tuple") (by rfl) T.f_tuple (by decide +kernel) rfl) pa_nil))))) (pw_or1 (pt_cmpR op_ne (pe_callB call_len_seq (by rfl) T.f_len (by decide +kernel) (pa_cons (pv 0) pa_nil)) (pe_callB call_len_seq (by rfl) T.f_len (by decide +kernel) (pa_cons (pv 1) pa_nil)) (nomark _))))) (pss_one (ps_ret pe_bl)) pss_nil)
      (pss_cons (ps_for PassesOwn.never rfl (pi_range1 (by rfl) T.f_range (pa_cons (pe_callB call_len_seq (by rfl) T.f_len (by decide +kernel) (pa_cons (pv 1) pa_nil)) pa_nil)) (pg_name (i := 2) sc__law_same.nd rfl (Or.inl rfl))
      (pss_one (ps_if (pt_not (pt_val (pcall ih hr (by omega) rfl T.g__law_same (pa_cons (pe_ix ix_tup (pv 0) (pv 2) (fun _ _ => rfl)) (pa_cons (pe_ix ix_tup (pv 1) (pv 2) (fun _ _ => rfl)) pa_nil))))) (pss_one (ps_ret pe_bl)) pss_nil)))
      (pss_one (ps_ret pe_bl)))) pss_nil)
      (pss_cons (ps_if (pt_val (pe_callB call_isi (by rfl) T.f_isinstance (by decide +kernel) (pa_cons (pv 1) (pa_cons (pe_bltn (v := .ty "str") (by rfl) T.f_str (by decide +kernel) rfl) pa_nil)))) (pss_one (ps_ret (pe_and (pe_callB call_isi (by rfl) T.f_isinstance (by decide +kernel) (pa_cons (pv 0) (pa_cons (pe_bltn (v := .ty "str") (by rfl) T.f_str (by decide +kernel) rfl) pa_nil))) (pe_one (pe_cmpR op_eq (pv 0) (pv 1) (nomark _)))))) pss_nil)
      (pss_one (ps_ret (pe_and (pe_callB call_isi (by rfl) T.f_isinstance (by decide +kernel) (pa_cons (pv 0) (pa_cons (pe_bltn (v := .ty "int") (by rfl) T.f_int (by decide +kernel) rfl) pa_nil))) (pe_and (pe_not (pe_callB call_isi (by rfl) T.f_isinstance (by decide +kernel) (pa_cons (pv 0) (pa_cons (pe_bltn (v := .ty "bool") (by rfl) T.f_bool (by decide +kernel) rfl) pa_nil)))) (pe_one (pe_cmpR op_eq (pv 0) (pv 1) (nomark _))))))))), ?_⟩
    dsimp only [cxOf, Cx.nox]
    cases d with
    | i m =>
      unfold isV at ha hb
      subst ha hb
      refine ⟨_, rfl, _, _, _, _, _, rfl, isi_it ⟨_, rfl, iteF ?_⟩⟩
      refine ⟨_, rfl, _, _, _, _, _, rfl, isi_is ⟨_, rfl, iteF ?_⟩⟩
      refine ⟨_, rfl, _, _, _, _, _, rfl, isi_ii ⟨_, rfl, iteT ?_⟩⟩
      refine ⟨_, rfl, _, _, _, _, _, rfl, isi_ib ⟨_, rfl, _, rfl, iteT ?_⟩⟩
      refine ⟨_, rfl, _, rfl, rfl, ?_⟩
      rw [decide_eq_true (rfl : V.int m = V.int m)]
      exact k
    | s x =>
      unfold isV at ha hb
      subst ha hb
      refine ⟨_, rfl, _, _, _, _, _, rfl, isi_st ⟨_, rfl, iteF ?_⟩⟩
      refine ⟨_, rfl, _, _, _, _, _, rfl, isi_ss ⟨_, rfl, iteT ?_⟩⟩
      refine ⟨_, rfl, _, _, _, _, _, rfl, isi_ss ⟨_, rfl, iteT ?_⟩⟩
      refine ⟨_, rfl, _, rfl, rfl, ?_⟩
      rw [decide_eq_true (rfl : V.str x = V.str x)]
      exact k
    | t l =>
      obtain ⟨hl, hds⟩ := hd
      unfold isV at ha hb
      obtain ⟨aa, vs, rfl, haa, hvs⟩ := ha
      obtain ⟨ab, us, rfl, hab, hus⟩ := hb
      refine ⟨_, rfl, _, _, _, _, _, rfl, isi_tt hab ⟨_, rfl, iteT ?_⟩⟩
      refine ⟨_, rfl, _, _, _, _, _, rfl, isi_tt haa ⟨_, rfl, iteF ?_⟩⟩
      refine ⟨_, rfl, aa, _, rfl, .inr (SqT.of haa), _, rfl, ab, _, rfl, .inr (SqT.of hab), rfl, _, rfl, ?_⟩
      rw [hvs.length, hus.length]
      refine iteD (by rw [decide_eq_true rfl] <;> rfl) ?_
      refine ⟨_, rfl, ab, _, rfl, .inr (SqT.of hab), _, rfl, by omega, by rw [hus.length]; omega, ?_⟩
      rw [hus.length, Int.toNat_natCast]
      refine for_range (lo := 0) (n := l.length) (fun i σ H2 => ∃ o : Option V, σ = [some (.ref aa), some (.ref ab), o] ∧ H2 = H) ⟨none, rfl, rfl⟩ ?_ ?_
      · rintro i σ H2 hi ⟨o, rfl, rfl⟩
        rw [Int.zero_add]
        obtain ⟨dd, hdd⟩ : ∃ dd, l[i]? = some dd := ⟨_, List.getElem?_eq_getElem hi⟩
        obtain ⟨v, hv1, hv2⟩ := hvs.get hdd
        obtain ⟨u, hu1, hu2⟩ := hus.get hdd
        refine ⟨_, rfl, _, rfl, aa, _, _, _, rfl, rfl, SqT.of haa, atI_nat (j := i) hv1, ?_⟩
        refine ⟨_, rfl, _, rfl, ab, _, _, _, rfl, rfl, SqT.of hab, atI_nat (j := i) hu1, ?_⟩
        exact ⟨dd, hds dd (List.mem_of_getElem? hdd), hv2, hu2, _, rfl, iteF ⟨_, rfl, rfl⟩⟩
      · rintro σ H2 ⟨o, rfl, rfl⟩
        exact k
theorem ok__law_same (T : Tx w K mg) : Cal P w K mg base 5 (fAd K ("_law_same", none)) (Sp2 (P_same K 4)) := same_d T 4
/-- the law's books of the clients -/
def BkAt (H : Hp) (cl : Int → Option (Int × D)) (b : Int) (ss : List Int) (as : List V) : Prop := ss.length = 3 ∧ as.length = 3 ∧ ∀ j : Nat, j < 3 → ∃ s v, ss[j]? = some s ∧ as[j]? = some v ∧
  ((cl (b + (j : Int)) = none ∧ s = 0 ∧ v = .non) ∨ ∃ d, cl (b + (j : Int)) = some (s, d) ∧ 0 < s ∧ isV H d v ∧ Dep 4 d)
theorem BkAt.keep {H H' : Hp} {cl : Int → Option (Int × D)} {b : Int} {ss : List Int} {as : List V} (h : BkAt H cl b ss as) (t : TupK H H') : BkAt H' cl b ss as := ⟨h.1, h.2.1, fun j hj => by
  obtain ⟨s, v, h1, h2, h3⟩ := h.2.2 j hj
  exact ⟨s, v, h1, h2, h3.elim .inl fun ⟨d, a, b, c, e⟩ => .inr ⟨d, a, b, c.keep t, e⟩⟩⟩
def inV3 (b : Int) : List V := [.int b, .int (b + 1), .int (b + 2)]
theorem inV3_at {b : Int} {j : Nat} (h : j < 3) : (inV3 b)[j]? = some (.int (b + (j : Int))) := by
  match j, h with
  | 0, _ => show some (V.int b) = some (V.int (b + 0)); rw [Int.add_zero]
  | 1, _ => rfl
  | 2, _ => rfl
def P__law_clients_are (K : PySem.W.Frag) (a b c d : V) (H : Hp) (Q : VK) : Prop := ∃ (q : Sg) (y : Sys) (c1 c2 c3 : Addr) (bb : Int) (ss : List Int) (as : List V), a = .ref q.sp ∧ b = .ref c1 ∧ c = .ref c2 ∧ d = .ref c3 ∧ SpAt K H q y ∧ H c1 = some (.lst (inV3 bb)) ∧ H c2 = some (.lst (ss.map V.int)) ∧ H c3 = some (.lst as) ∧ BkAt H y.cl bb ss as ∧ Q (.bl true) H
abbrev N__law_clients_are : List Str := ["_law_space", "_law_clients", "_law_serials", "_law_answers", "_law_k"]
theorem sc__law_clients_are : FnScope N__law_clients_are ["_law_space", "_law_clients", "_law_serials", "_law_answers"] (defScope s_law_clients_are) := ⟨rfl, rfl, rfl, by decide +kernel, rfl, by decide +kernel, by decide +kernel⟩
theorem ok__law_clients_are (T : Tx w K mg) : Cal P w K mg base 6 (fAd K ("_law_clients_are", none)) (Sp4 (P__law_clients_are K)) := by
  refine mk4 (k := 5) T.fd_law_clients_are sc__law_clients_are (fun _ _ _ _ _ _ _ _ _ _  => rfl) fun cdv A outer s H E va vb vc vd Q hr h => ?_
  have hu := hu_of hr
  obtain ⟨q, y, c1, c2, c3, bb, ss, as, rfl, rfl, rfl, rfl, R, h1, h2, h3, hB, k⟩ := h
  refine ⟨_, (pss_cons (ps_for PassesOwn.never rfl (pi_range1 (by rfl) T.f_range (pa_cons pe_int pa_nil)) (pg_name (i := 4) sc__law_clients_are.nd rfl (Or.inl rfl))
      (pss_cons (ps_if (pt_not (pt_val (pcall (ok__law_same T) hr (by decide) rfl T.g__law_same (pa_cons (pmeth T.c_Space T.m_Space_last_serial (ok_Space_last_serial T) hr (by decide) (pv 0) (pa_cons (pe_ix ix_list (pv 1) (pv 4) (fun _ _ => rfl)) pa_nil)) (pa_cons (pe_ix ix_list (pv 2) (pv 4) (fun _ _ => rfl)) pa_nil))))) (pss_one (ps_ret pe_bl)) pss_nil)
      (pss_cons (ps_if (PW.pt (pw_and (pt_cmpR op_eq (pe_ix ix_list (pv 2) (pv 4) (fun _ _ => rfl)) pe_int (nomark _)) (pw_and1 (pt_cmpR op_notN (pmeth T.c_Space T.m_Space_last_answer (ok_Space_last_answer T) hr (by decide) (pv 0) (pa_cons (pe_ix ix_list (pv 1) (pv 4) (fun _ _ => rfl)) pa_nil)) pe_non (nomark _))))) (pss_one (ps_ret pe_bl)) pss_nil)
      (pss_one (ps_if (PW.pt (pw_and (pt_cmpR op_gt (pe_ix ix_list (pv 2) (pv 4) (fun _ _ => rfl)) pe_int (nomark _)) (pw_and1 (pt_not (pt_val (pcall (ok__law_same T) hr (by decide) rfl T.g__law_same (pa_cons (pmeth T.c_Space T.m_Space_last_answer (ok_Space_last_answer T) hr (by decide) (pv 0) (pa_cons (pe_ix ix_list (pv 1) (pv 4) (fun _ _ => rfl)) pa_nil)) (pa_cons (pe_ix ix_list (pv 3) (pv 4) (fun _ _ => rfl)) pa_nil)))))))) (pss_one (ps_ret pe_bl)) pss_nil)))))
      (pss_one (ps_ret pe_bl))), ?_⟩
  dsimp only [cxOf, Cx.nox]
  obtain ⟨dx, hs⟩ := R.sp
  refine ⟨_, rfl, by decide, by decide, for_range (lo := 0) (n := 3) (fun i σ H2 => ∃ o : Option V, σ = [some (.ref q.sp), some (.ref c1), some (.ref c2), some (.ref c3), o] ∧ H2 = H) ⟨none, rfl, rfl⟩ ?_ ?_⟩
  · rintro j σ H2 hj ⟨o, rfl, rfl⟩
    rw [Int.zero_add]
    obtain ⟨s, v, e1, e2, e3⟩ := hB.2.2 j hj
    have e1' : (ss.map V.int)[j]? = some (.int s) := by rw [List.getElem?_map, e1] <;> rfl
    have els : lastS y.cl (bb + (j : Int)) = s := by
      unfold lastS
      rcases e3 with ⟨f1, f2, f3⟩ | ⟨d, f1, _⟩
      · rw [f1, f2]
      · rw [f1]
    refine ⟨_, rfl, q.sp, dx, _, rfl, hs, znone (by decide +kernel), _, rfl, _, rfl, c1, _, _, _, rfl, rfl, SqL.of h1, atI_nat (j := j) (inV3_at hj), q, y, bb + (j : Int), rfl, rfl, R, ?_⟩
    rw [els]
    refine ⟨_, rfl, _, rfl, c2, _, _, _, rfl, rfl, SqL.of h2, atI_nat (j := j) e1', .i s, trivial, isV.int, isV.int, _, rfl, iteF ?_⟩
    refine ⟨_, rfl, _, rfl, c2, _, _, _, rfl, rfl, SqL.of h2, atI_nat (j := j) e1', rfl, _, rfl, ?_⟩
    rcases e3 with ⟨f1, f2, f3⟩ | ⟨d, f1, f2, f3, f4⟩
    · subst f2 f3
      refine iteT ?_
      refine ⟨_, rfl, q.sp, dx, _, rfl, hs, znone (by decide +kernel), _, rfl, _, rfl, c1, _, _, _, rfl, rfl, SqL.of h1, atI_nat (j := j) (inV3_at hj), q, y, bb + (j : Int), rfl, rfl, R, fun _ => ?_, (fun s d v e => by rw [f1] at e; cases e)⟩
      refine ⟨rfl, _, rfl, iteF ?_⟩
      refine ⟨_, rfl, _, rfl, c2, _, _, _, rfl, rfl, SqL.of h2, atI_nat (j := j) e1', _, _, rfl, rfl, _, rfl, iteF (iteF ⟨_, rfl, rfl⟩)⟩
    · have hs0 : decide (V.int s = V.int 0) = false := by
        rw [decide_eq_false_iff_not, V.int.injEq]
        omega
      rw [hs0]
      refine iteF (iteF ?_)
      refine ⟨_, rfl, _, rfl, c2, _, _, _, rfl, rfl, SqL.of h2, atI_nat (j := j) e1', _, _, rfl, rfl, _, rfl, ?_⟩
      refine iteD1 (decide_eq_true f2) ?_
      refine ⟨_, rfl, q.sp, dx, _, rfl, hs, znone (by decide +kernel), _, rfl, _, rfl, c1, _, _, _, rfl, rfl, SqL.of h1, atI_nat (j := j) (inV3_at hj), q, y, bb + (j : Int), rfl, rfl, R, (fun e => by rw [f1] at e; cases e), fun s' d' v' e hv => ?_⟩
      rw [f1] at e
      cases e
      exact ⟨_, rfl, _, rfl, c3, _, _, _, rfl, rfl, SqL.of h3, atI_nat (j := j) e2, d, f4, hv, f3, _, rfl, iteF ⟨_, rfl, rfl⟩⟩
  · rintro σ H2 ⟨o, rfl, rfl⟩
    exact k
theorem tOk_path {p : List Nm} (g : Good p) (h : p.length ≤ 6) : tOk (pcat p) := by
  refine ⟨by have := pcat_len13 g h; omega, fun c hc => ?_⟩
  unfold pcat at hc
  obtain ⟨n, hn, hc⟩ := List.mem_flatMap.mp hc
  rcases List.mem_cons.mp hc with rfl | hc
  · decide
  · have h1 : c ∈ chars := (isNm_iff.mp (g n hn)).2.1 c hc
    have h2 : ∀ c ∈ chars, 32 ≤ c ∧ c ≤ 126 ∧ c ≠ 37 := by decide
    exact h2 c h1
/-- the path as it is asked for -/
def askP (k : Nat) (p : List Nm) : Nm := if k = 0 then [47] else pcat p
theorem tOk_ask {k : Nat} {p : List Nm} (g : Good p) (h : p.length ≤ 6) : tOk (askP k p) := by
  unfold askP
  split
  · exact ⟨by decide, by decide⟩
  · exact tOk_path g h
def P__law_space_is (K : PySem.W.Frag) (a b : V) (H : Hp) (Q : VK) : Prop := ∃ (q : Sg) (y : Sys) (l : Lg) (e : Nat), a = .ref q.sp ∧ b = .ref l.a ∧ SpAt K H q y ∧ LawAt H l y.Z ∧ WF e y.Z ∧ e ≤ 900 ∧ ∀ H', Q (.bl true) H'
abbrev N__law_space_is : List Str := ["_law_space", "_law_nodes", "_law_places_here", "_law_node", "_law_k", "_law_query_here"]
theorem sc__law_space_is : FnScope N__law_space_is ["_law_space", "_law_nodes"] (defScope s_law_space_is) := ⟨rfl, rfl, rfl, by decide +kernel, rfl, by decide +kernel, by decide +kernel⟩
theorem ok__law_space_is (T : Tx w K mg) : Cal P w K mg base 20 (fAd K ("_law_space_is", none)) (Sp2 (P__law_space_is K)) := by
  refine mk2 (k := 19) T.fd_law_space_is sc__law_space_is (fun _ _ _ _ _ _ _ _  => rfl) fun cdv A outer s H E va vb Q hr h => ?_
  have hu := hu_of hr
  obtain ⟨q, y, l, e, rfl, rfl, R, L, W, he, k⟩ := h
  refine ⟨_, (pss_cons (ps_setLc (i := 2) (own := [("_law_node", 3)]) (g := gName 3) (tt := tYes) rfl sc__law_space_is.nd rfl rfl (sw_true rfl rfl rfl (by decide +kernel)) (pi_list (pv 1)) (blkOk_by (own := [("_law_node", 3)]) (N := N__law_space_is) (sc := defScope s_law_space_is) (by decide +kernel)) (fun _ _ _ _ _ => pg_name (i := 3) sc__law_space_is.nd rfl (Or.inl rfl)) (fun _ _ _ _ _ => pts_nil) (fun _ _ _ _ _ => (pe_ix (r := rIxL K) ix_list (pv 3) pe_int (fun _ _ => rfl))))
      (pss_cons (ps_asg pe_str (pg_sub (pv 2) pe_int set_list))
      (pss_cons (ps_for PassesOwn.never rfl (pi_range1 (by rfl) T.f_range (pa_cons (pe_callB call_len_seq (by rfl) T.f_len (by decide +kernel) (pa_cons (pv 1) pa_nil)) pa_nil)) (pg_name (i := 4) sc__law_space_is.nd rfl (Or.inl rfl))
      (pss_one (ps_for PassesOwn.never rfl (pi_list (pe_lst (pa_cons (pe_tup (pa_cons pe_str (pa_cons (pv 4) pa_nil))) (pa_cons (pe_tup (pa_cons pe_str (pa_cons (pe_ix ix_list (pv 2) (pv 4) (fun _ _ => rfl)) pa_nil))) (pa_cons (pe_tup (pa_cons pe_str (pa_cons (pe_ix ix_list (pv 2) (pv 4) (fun _ _ => rfl)) pa_nil))) pa_nil))))) (pg_name (i := 5) sc__law_space_is.nd rfl (Or.inl rfl))
      (pss_one (ps_if (pt_not (pt_val (pcall (ok__law_same T) hr (by decide) rfl T.g__law_same (pa_cons (pmeth T.c_Space T.m_Space_query (ok_Space_query T) hr (by decide) (pv 0) (pa_cons (pv 5) pa_nil)) (pa_cons (pcall (ok__law_answer T) hr (by decide) rfl T.g__law_answer (pa_cons (pv 1) (pa_cons (pv 5) pa_nil))) pa_nil))))) (pss_one (ps_ret pe_bl)) pss_nil)))))
      (pss_one (ps_ret (pcall (ok__law_same T) hr (by decide) rfl T.g__law_same (pa_cons (pmeth T.c_Space T.m_Space_query (ok_Space_query T) hr (by decide) (pv 0) (pa_cons (pe_tup (pa_cons pe_str (pa_cons (pe_callB call_len_seq (by rfl) T.f_len (by decide +kernel) (pa_cons (pv 1) pa_nil)) pa_nil))) pa_nil)) (pa_cons (pe_tup (pa_cons pe_str (pa_cons pe_str pa_nil))) pa_nil)))))))), ?_⟩
  dsimp only [cxOf, Cx.nox]
  have hZ := W.len
  have hZ0 := W.pos
  obtain ⟨dx, hs⟩ := R.sp
  refine ⟨_, rfl, l.a, rfl, ⟨_, SqL.of L.top⟩, fun D hD => ?_⟩
  have s0 : ∀ o, Same H (upd H D o) := fun o => same_new hD
  refine lc_list (K := K) (a := l.a) (xs := l.la.map V.ref) (fun i H2 => H2 = upd H D (.lst ((y.Z.take i).map fun n => V.str (S (pcat n.path))))) (by rw [List.take_zero] <;> rfl) (fun i H2 _ h => by rw [h]; exact SqL.of (s0 _ _ _ L.top)) ?_ ?_
  · rintro i v H2 hy rfl
    obtain ⟨rx, hrx, rfl⟩ := map_at hy
    have hil : i < y.Z.length := by
      rw [← L.lla]
      exact (List.getElem?_eq_some_iff.mp hrx).1
    obtain ⟨n, hn⟩ : ∃ n, y.Z[i]? = some n := ⟨_, List.getElem?_eq_getElem hil⟩
    obtain ⟨rx', ry, hrx', hry, hrow, _⟩ := L.at hn
    rw [hrx] at hrx'
    cases hrx'
    refine ⟨rfl, ?_⟩
    refine ⟨_, rfl, rx, _, _, _, rfl, rfl, SqL.of (s0 _ _ _ hrow), atI_nat (j := 1) rfl, _, upd_same, sm63 (by rw [List.length_map, List.length_take]; omega), ?_⟩
    rw [upd_upd, List.take_add_one, hn, List.map_append] <;> rfl
  rintro H2 rfl
  rw [List.length_map, L.lla, List.take_length]
  have ix0 : ixN (y.Z.map fun n => V.str (S (pcat n.path))).length 0 = some 0 := by
    unfold ixN
    rw [List.length_map, if_pos (by omega), if_pos (by omega)] <;> rfl
  refine ⟨_, rfl, D, _, _, 0, rfl, rfl, upd_same, ix0, ?_⟩
  rw [upd_upd]
  generalize eps : (y.Z.map fun n => V.str (S (pcat n.path))).set 0 (.str "/") = ps
  have hps : ∀ (i : Nat) (n : Nd), y.Z[i]? = some n → ps[i]? = some (.str (S (askP i n.path))) := by
    intro i n hn
    rw [← eps]
    unfold askP
    by_cases h0 : i = 0
    · subst h0
      rw [List.getElem?_set_self (by rw [List.length_map]; exact hZ0), if_pos rfl, lSl]
    · rw [List.getElem?_set_ne (Ne.symm h0), List.getElem?_map, hn, if_neg h0] <;> rfl
  clear eps
  have s1 := s0 (.lst ps)
  have hD1 : (upd H D (.lst ps)) D = some (.lst ps) := upd_same
  generalize upd H D (.lst ps) = H1 at s1 hD1
  refine ⟨_, rfl, l.a, _, rfl, .inl (SqL.of (s1 _ _ L.top)), _, rfl, by omega, by rw [List.length_map, L.lla]; omega, ?_⟩
  rw [List.length_map, L.lla, Int.toNat_natCast]
  refine for_range (lo := 0) (n := y.Z.length) (fun i σ H2 => ∃ o3 o4 o5 : Option V, σ = [some (.ref q.sp), some (.ref l.a), some (.ref D), o3, o4, o5] ∧ Same H1 H2) ⟨_, _, _, rfl, Same.refl _⟩ ?_ ?_
  · rintro i σ H2 hi ⟨o3, o4, o5, rfl, s2⟩
    rw [Int.zero_add]
    obtain ⟨n, hn⟩ : ∃ n, y.Z[i]? = some n := ⟨_, List.getElem?_eq_getElem hi⟩
    have gn := W.good n (List.mem_of_getElem? hn)
    have s12 := s1.trans s2
    -- the three queries
    refine ⟨_, rfl, sm64 (by show 2 ≤ 10000; decide), fun t1 ht1 => ?_⟩
    have n1 := same_new (o := .tup [.str "content", .int (i : Int)]) ht1
    refine ⟨_, rfl, _, rfl, D, _, _, _, rfl, rfl, SqL.of (n1 _ _ (s2 _ _ hD1)), atI_nat (j := i) (hps i n hn), sm64 (by show 2 ≤ 10000; decide), fun t2 ht2 => ?_⟩
    have n2 := same_new (o := .tup [.str "find", .str (S (askP i n.path))]) ht2
    refine ⟨_, rfl, _, rfl, D, _, _, _, rfl, rfl, SqL.of (n2 _ _ (n1 _ _ (s2 _ _ hD1))), atI_nat (j := i) (hps i n hn), sm64 (by show 2 ≤ 10000; decide), fun t3 ht3 => ?_⟩
    have n3 := same_new (o := .tup [.str "names", .str (S (askP i n.path))]) ht3
    refine ⟨sm64 (by show 3 ≤ 10000; decide), fun ql hql => ?_⟩
    have n4 := same_new (o := .lst [.ref t1, .ref t2, .ref t3]) hql
    have s24 := n1.trans (n2.trans (n3.trans n4))
    have q1 := n4 _ _ (n3 _ _ (n2 _ _ (upd_same (H := H2) (a := t1) (o := .tup [.str "content", .int (i : Int)]))))
    have q2 := n4 _ _ (n3 _ _ (upd_same (H := upd H2 t1 (.tup [.str "content", .int (i : Int)])) (a := t2) (o := .tup [.str "find", .str (S (askP i n.path))])))
    have q3 := n4 _ _ (upd_same (H := upd (upd H2 t1 (.tup [.str "content", .int (i : Int)])) t2 (.tup [.str "find", .str (S (askP i n.path))])) (a := t3) (o := .tup [.str "names", .str (S (askP i n.path))]))
    have q4 : (upd (upd (upd (upd H2 t1 (.tup [.str "content", .int (i : Int)])) t2 (.tup [.str "find", .str (S (askP i n.path))])) t3 (.tup [.str "names", .str (S (askP i n.path))])) ql (.lst [.ref t1, .ref t2, .ref t3])) ql = some (.lst [.ref t1, .ref t2, .ref t3]) := upd_same
    generalize upd (upd (upd (upd H2 t1 (.tup [.str "content", .int (i : Int)])) t2 (.tup [.str "find", .str (S (askP i n.path))])) t3 (.tup [.str "names", .str (S (askP i n.path))])) ql (.lst [.ref t1, .ref t2, .ref t3]) = H3 at s24 q1 q2 q3 q4
    have qs : ∀ (j : Nat) (v : V), ([V.ref t1, .ref t2, .ref t3])[j]? = some v → ∃ (t : Addr) (qy : Qy), v = .ref t ∧ H3 t = some (.tup [.str (S qy.w), itmV qy.it]) ∧ qy.Ok := by
      intro j v hv
      match j, hv with
      | 0, hv =>
        cases hv
        refine ⟨t1, .content (i : Int), rfl, ?_, ⟨by omega, by omega⟩⟩
        rw [q1, lw_content] <;> rfl
      | 1, hv =>
        cases hv
        refine ⟨t2, .find (askP i n.path), rfl, ?_, tOk_ask gn.1 gn.2⟩
        rw [q2, lw_find] <;> rfl
      | 2, hv =>
        cases hv
        refine ⟨t3, .names (askP i n.path), rfl, ?_, tOk_ask gn.1 gn.2⟩
        rw [q3, lw_names] <;> rfl
      | j + 3, hv => simp at hv
    refine ⟨ql, rfl, ⟨_, SqL.of q4⟩, for_list (K := K) (a := ql) (xs := [.ref t1, .ref t2, .ref t3]) (fun j σ H4 => ∃ o3 o5 : Option V, σ = [some (.ref q.sp), some (.ref l.a), some (.ref D), o3, some (.int (i : Int)), o5] ∧ Same H3 H4) ⟨_, _, rfl, Same.refl _⟩ (fun j σ H4 _ ⟨_, _, _, s4⟩ => SqL.of (s4 _ _ q4)) ?_ ?_⟩
    · rintro j v σ H4 hv ⟨o3, o5, rfl, s4⟩
      obtain ⟨t, qy, rfl, hqy, hok⟩ := qs j v hv
      have s04 := s12.trans (s24.trans s4)
      refine ⟨_, rfl, q.sp, dx, _, rfl, s04 _ _ hs, znone (by decide +kernel), _, rfl, q, y, e, t, qy, rfl, rfl, R.same s04, W, s4 _ _ hqy, hok, fun H5 v5 s5 hv5 => ?_⟩
      refine ⟨_, rfl, _, rfl, l, y.Z, e, t, qy, rfl, rfl, L.same (s04.trans s5), W, s5 _ _ (s4 _ _ hqy), hok, fun H6 v6 s6 hv6 => ?_⟩
      exact ⟨ask y.Z qy, dep_ask W he qy, hv5.keep (Same.tup s6), hv6, _, rfl, iteF ⟨_, _, rfl, s4.trans (s5.trans s6)⟩⟩
    · rintro σ H4 ⟨o3, o5, rfl, s4⟩
      exact ⟨_, _, _, rfl, s2.trans (s24.trans s4)⟩
  · rintro σ H2 ⟨o3, o4, o5, rfl, s2⟩
    have s12 := s1.trans s2
    refine ⟨_, rfl, q.sp, dx, _, rfl, s12 _ _ hs, znone (by decide +kernel), _, rfl, l.a, _, rfl, .inl (SqL.of (s12 _ _ L.top)), sm64 (by show 2 ≤ 10000; decide), fun t1 ht1 => ?_⟩
    rw [List.length_map, L.lla]
    have n1 := same_new (o := .tup [.str "content", .int (y.Z.length : Int)]) ht1
    refine ⟨q, y, e, t1, .content (y.Z.length : Int), rfl, rfl, R.same (s12.trans n1), W, by rw [upd_same, lw_content] <;> rfl, ⟨by omega, by omega⟩, fun H3 v3 s3 hv3 => ?_⟩
    refine ⟨sm64 (by show 2 ≤ 10000; decide), fun t4 ht4 => ?_⟩
    have n4 := same_new (o := .tup [.str "refused", .str "missing"]) ht4
    have ea : ask y.Z (.content (y.Z.length : Int)) = refu "missing" := by
      simp only [ask]
      rw [if_neg (by omega)]
    rw [ea] at hv3
    exact ⟨refu "missing", dep_refu _, hv3.keep (Same.tup n4), isV.tup upd_same (isVs.cons isV.str (isVs.cons isV.str isVs.nil)), k _⟩
end
end Ah
/-! What the law draws: numbers, names, texts. -/
namespace Ah
open PySem PySem.Spec PyProof.Rows L2 He SX
theorem Same.sql {K : PySem.W.Frag} {H H' : Hp} {a : Addr} {xs : List V} (s : Same H H') (h : SqL K H a xs) : SqL K H' a xs := by
  rcases h with h | h
  · exact .inl (h.elim (fun e => .inl (s _ _ e)) fun ⟨o, e⟩ => .inr ⟨o, s _ _ e⟩)
  · exact .inr h
def sgT : List Nat := [32, 33, 34, 35, 36, 38, 39, 40, 41, 42, 43, 44, 45, 46, 47, 48, 49, 50, 51, 52, 53, 54, 55, 56, 57, 58, 59, 60, 61, 62, 63, 64, 65, 66, 67, 68, 69, 70, 71, 72, 73, 74, 75, 76, 77, 78, 79, 80, 81, 82, 83, 84, 85, 86, 87, 88, 89, 90, 91, 92, 93, 94, 95, 96]
def sgL : List Nat := [97, 98, 99, 100, 101, 102, 103, 104, 105, 106, 107, 108, 109, 110, 111, 112, 113, 114, 115, 116, 117, 118, 119, 120, 121, 122, 123, 124, 125, 126]
theorem sgT_S : (" !\"#$&'()*+,-./0123456789:;<=>?@ABCDEFGHIJKLMNOPQRSTUVWXYZ[\\]^_`" : Str) = S sgT := by decide +kernel
theorem sgL_S : ("abcdefghijklmnopqrstuvwxyz{|}~" : Str) = S sgL := by decide +kernel
theorem sg_ok : ∀ c ∈ sgT ++ sgL, 32 ≤ c ∧ c ≤ 126 ∧ c ≠ 37 := by decide
theorem mod_lt {d : Int} {m : Nat} (h : 0 < m) : ∃ j : Nat, j < m ∧ d % (m : Int) = (j : Int) := by
  refine ⟨(d % (m : Int)).toNat, ?_, ?_⟩
  · have h1 := Int.emod_lt_of_pos d (show (0 : Int) < (m : Int) by omega)
    have h2 := Int.emod_nonneg d (show (m : Int) ≠ 0 by omega)
    omega
  · have h2 := Int.emod_nonneg d (show (m : Int) ≠ 0 by omega)
    omega
theorem all_snoc {α : Type} {l : List α} {M : α → Prop} {c : α} (h : ∀ x ∈ l, M x) (m : M c) : ∀ x ∈ l ++ [c], M x := fun x hx => (List.mem_append.mp hx).elim (h x) fun z => by rw [List.mem_singleton.mp z]; exact m
section
variable {P : Program} {w : World} {K : PySem.W.Frag} {mg : Str → Option Value} {base : Heap}
def P__law_stream (K : PySem.W.Frag) (a b : V) (H : Hp) (Q : VK) : Prop := ∃ (p : Addr) (ns : List Int) (many : Nat), a = .ref p ∧ b = .int (many : Int) ∧ many ≤ 1000 ∧ SqL K H p (ns.map V.int) ∧ ∀ l (ds : List Int), H l = none → Q (.ref l) (upd H l (.lst (ds.map V.int)))
abbrev N__law_stream : List Str := ["_law_script", "_law_many", "_law_draws", "_law_cell", "_law_rest", "_law_k", "_law_mixed", "_law_wide", "_law_j"]
theorem sc__law_stream : FnScope N__law_stream ["_law_script", "_law_many"] (defScope s_law_stream) := ⟨rfl, rfl, rfl, by decide +kernel, rfl, by decide +kernel, by decide +kernel⟩
theorem ok__law_stream (T : Tx w K mg) : Cal P w K mg base 1 (fAd K ("_law_stream", none)) (Sp2 (P__law_stream K)) := by
  refine mk2 (k := 0) T.fd_law_stream sc__law_stream (fun _ _ _ _ _ _ _ _  => rfl) fun cdv A outer s H E va vb Q hr h => ?_
  have hu := hu_of hr
  obtain ⟨p, ns, many, rfl, rfl, hmany, hp, k⟩ := h
  refine ⟨_, (pss_cons (ps_set (i := 2) sc__law_stream.nd rfl (Or.inl rfl) (pe_lst pa_nil))
      (pss_cons (ps_for PassesOwn.never rfl (pi_list (pv 0)) (pg_name (i := 3) sc__law_stream.nd rfl (Or.inl rfl))
      (pss_cons (ps_if (pt_cmpR op_ge (pe_callB call_len_seq (by rfl) T.f_len (by decide +kernel) (pa_cons (pv 2) pa_nil)) (pv 1) (nomark _)) (pss_one ps_break) pss_nil)
      (pss_one (ps_if (pt_cmpR op_ge (pv 3) (pe_op op_pow pe_int pe_int) (nomark _)) (pss_cons (ps_set (i := 4) sc__law_stream.nd rfl (Or.inl rfl) (pv 3))
      (pss_one (ps_for PassesOwn.never rfl (pi_range1 (by rfl) T.f_range (pa_cons pe_int pa_nil)) (pg_name (i := 5) sc__law_stream.nd rfl (Or.inl rfl))
      (pss_one (ps_if (pt_cmpR op_gt (pv 4) pe_int (nomark _)) (pss_cons (ps_expr (pe_bm PySem.F.plainAttrs_list PySem.F.slot_list_append PySem.F.type_list_append mt_append (pv 2) (pa_cons (pe_op op_mod (pe_callTy call_int1 (by rfl) T.f_int (by decide +kernel) (pa_cons (pv 4) pa_nil)) (pe_op op_pow pe_int pe_int)) pa_nil)))
      (pss_one (ps_set (i := 4) sc__law_stream.nd rfl (Or.inl rfl) (pe_op op_fdivW (pv 4) (pe_op op_pow pe_int pe_int))))) pss_nil))))) (pss_cons (ps_set (i := 6) sc__law_stream.nd rfl (Or.inl rfl) (pe_op op_mod (pe_callTy call_int1 (by rfl) T.f_int (by decide +kernel) (pa_cons (pe_op op_add (pe_op op_add (pe_op op_mul (pv 3) pe_int) (pe_op op_mul (pe_callB call_len_seq (by rfl) T.f_len (by decide +kernel) (pa_cons (pv 2) pa_nil)) pe_int)) pe_int) pa_nil)) pe_int))
      (pss_one (ps_for PassesOwn.never rfl (pi_range1 (by rfl) T.f_range (pa_cons pe_int pa_nil)) (pg_name (i := 5) sc__law_stream.nd rfl (Or.inl rfl))
      (pss_cons (ps_set (i := 7) sc__law_stream.nd rfl (Or.inl rfl) pe_int)
      (pss_cons (ps_for PassesOwn.never rfl (pi_range1 (by rfl) T.f_range (pa_cons pe_int pa_nil)) (pg_name (i := 8) sc__law_stream.nd rfl (Or.inl rfl))
      (pss_cons (ps_set (i := 6) sc__law_stream.nd rfl (Or.inl rfl) (pe_op op_mod (pe_callTy call_int1 (by rfl) T.f_int (by decide +kernel) (pa_cons (pe_op op_add (pe_op op_add (pe_op op_add (pe_op op_mul (pv 6) pe_int) (pe_op op_mul pe_int (pv 5))) (pe_op op_mul pe_int (pv 8))) pe_int) pa_nil)) pe_int))
      (pss_one (ps_set (i := 7) sc__law_stream.nd rfl (Or.inl rfl) (pe_op op_add (pe_op op_mul (pv 7) pe_int) (pv 6))))))
      (pss_one (ps_expr (pe_bm PySem.F.plainAttrs_list PySem.F.slot_list_append PySem.F.type_list_append mt_append (pv 2) (pa_cons (pe_op op_mod (pe_callTy call_int1 (by rfl) T.f_int (by decide +kernel) (pa_cons (pe_op op_fdiv (pv 7) pe_int) pa_nil)) (pe_op op_pow pe_int pe_int)) pa_nil)))))))))))))
      (pss_one (ps_ret (pv 2))))), ?_⟩
  dsimp only [cxOf, Cx.nox]
  refine ⟨sm64 (by show 0 ≤ 10000; decide), fun D hD => ?_⟩
  have s0 : ∀ o, Same H (upd H D o) := fun o => same_new hD
  have hpow : ∀ n : Nat, n ≤ 1000 → CPow 10 (n : Int) := fun n hn => ⟨by omega, by omega, by decide⟩
  refine ⟨_, rfl, p, rfl, ⟨_, Same.sql (s0 _) hp⟩, for_list (K := K) (a := p) (xs := ns.map V.int) (fun i σ H2 => ∃ (o3 o4 o5 o6 o7 o8 : Option V) (ds : List Int), σ = [some (.ref p), some (.int (many : Int)), some (.ref D), o3, o4, o5, o6, o7, o8] ∧ H2 = upd H D (.lst (ds.map V.int)) ∧ ds.length ≤ many + 60) ⟨_, _, _, _, _, _, [], rfl, rfl, Nat.zero_le _⟩
    (fun i σ H2 _ ⟨_, _, _, _, _, _, _, _, e, _⟩ => by rw [e]; exact Same.sql (s0 _) hp) ?_ ?_⟩
  · rintro i y σ H2 hy ⟨o3, o4, o5, o6, o7, o8, ds, rfl, rfl, hl⟩
    obtain ⟨c, hc, rfl⟩ := map_at hy
    refine ⟨_, rfl, D, _, rfl, .inl (SqL.of upd_same), _, rfl, _, _, rfl, rfl, _, rfl, ?_⟩
    rw [List.length_map]
    refine iteB (fun h1 => ⟨_, rfl, k D ds hD⟩) (fun h1 => ?_)
    have h1 : ¬ (many : Int) ≤ (ds.length : Int) := of_decide_eq_false h1
    refine ⟨_, rfl, _, _, rfl, rfl, hpow 18 (by decide), _, _, rfl, rfl, _, rfl, iteB (fun h2 => ?_) (fun h2 => ?_)⟩
    · refine ⟨_, rfl, _, rfl, by decide, by decide, ?_⟩
      refine for_range (lo := 0) (n := 60) (fun j σ H3 => ∃ (o5 o6 o7 o8 : Option V) (r : Int) (es : List Int), σ = [some (.ref p), some (.int (many : Int)), some (.ref D), some (.int c), some (.int r), o5, o6, o7, o8] ∧ H3 = upd H D (.lst (es.map V.int)) ∧ es.length ≤ ds.length + j) ⟨_, _, _, _, c, ds, rfl, rfl, Nat.le_refl _⟩ ?_ ?_
      · rintro j σ H3 hj ⟨o5, o6, o7, o8, r, es, rfl, rfl, hes⟩
        refine ⟨_, rfl, _, _, rfl, rfl, _, rfl, iteB (fun h3 => ?_) (fun h3 => ⟨_, _, _, _, r, es, rfl, rfl, by omega⟩)⟩
        refine ⟨_, rfl, .inl ⟨rfl, _, SqL.of upd_same⟩, _, rfl, .inl ⟨_, rfl, _, _, rfl, rfl, hpow 24 (by decide), _, _, rfl, rfl, (show (0 : Int) < _ by decide), D, _, _, rfl, rfl, upd_same, sm63 (by rw [List.length_map]; omega), ?_⟩⟩
        refine ⟨_, rfl, _, _, rfl, rfl, hpow 24 (by decide), _, _, rfl, rfl, wide_div (b := 100) (by decide) (by decide) (by decide) (by decide), ?_⟩
        refine ⟨_, _, _, _, _, es ++ [r % (10 : Int) ^ (24 : Int).toNat], rfl, ?_, ?_⟩
        · rw [upd_upd, List.map_append] <;> rfl
        · rw [List.length_append, List.length_singleton]
          omega
      · rintro σ H3 ⟨o5, o6, o7, o8, r, es, rfl, rfl, hes⟩
        exact ⟨_, _, _, _, _, _, es, rfl, rfl, by omega⟩
    · refine ⟨_, rfl, _, _, rfl, rfl, .inr ⟨by decide, by decide⟩, ?_⟩
      refine ⟨_, rfl, D, _, rfl, .inl (SqL.of upd_same), _, _, rfl, rfl, .inr ⟨by decide, by decide⟩, _, _, rfl, rfl, _, _, rfl, rfl, .inl ⟨_, rfl, _, _, rfl, rfl, (show (0 : Int) < _ by decide), ?_⟩⟩
      refine ⟨_, rfl, by decide, by decide, ?_⟩
      refine for_range (lo := 0) (n := 4) (fun j σ H3 => ∃ (o4 o5 o7 o8 : Option V) (m : Int) (es : List Int), σ = [some (.ref p), some (.int (many : Int)), some (.ref D), some (.int c), o4, o5, some (.int m), o7, o8] ∧ H3 = upd H D (.lst (es.map V.int)) ∧ es.length ≤ ds.length + j) ⟨_, _, _, _, _, ds, rfl, rfl, Nat.le_refl _⟩ ?_ ?_
      · rintro j σ H3 hj ⟨o4, o5, o7, o8, m, es, rfl, rfl, hes⟩
        rw [Int.zero_add]
        refine ⟨_, rfl, by decide, by decide, ?_⟩
        refine for_range (lo := 0) (n := 3) (fun j2 σ H4 => ∃ (o4 o8 : Option V) (m wd : Int), σ = [some (.ref p), some (.int (many : Int)), some (.ref D), some (.int c), o4, some (.int (j : Int)), some (.int m), some (.int wd), o8] ∧ H4 = upd H D (.lst (es.map V.int))) ⟨_, _, _, _, rfl, rfl⟩ ?_ ?_
        · rintro j2 σ H4 hj2 ⟨o4, o8, m, wd, rfl, rfl⟩
          rw [Int.zero_add]
          refine ⟨_, rfl, _, _, rfl, rfl, .inr ⟨by decide, by decide⟩, _, rfl, _, _, rfl, rfl, .inl ⟨by decide, by decide⟩, _, _, rfl, rfl, _, rfl, _, _, rfl, rfl, .inl ⟨by decide, by decide⟩, _, _, rfl, rfl, _, _, rfl, rfl, .inl ⟨_, rfl, _, _, rfl, rfl, (show (0 : Int) < _ by decide), ?_⟩⟩
          exact ⟨_, rfl, _, _, rfl, rfl, .inr ⟨by decide, by decide⟩, _, rfl, _, _, rfl, rfl, _, _, _, _, rfl, rfl⟩
        · rintro σ H4 ⟨o4, o8, m, wd, rfl, rfl⟩
          refine ⟨_, rfl, .inl ⟨rfl, _, SqL.of upd_same⟩, _, rfl, _, _, rfl, rfl, ⟨by decide, by decide⟩, .inl ⟨_, rfl, _, _, rfl, rfl, hpow 24 (by decide), _, _, rfl, rfl, (show (0 : Int) < _ by decide), D, _, _, rfl, rfl, upd_same, sm63 (by rw [List.length_map]; omega), ?_⟩⟩
          refine ⟨_, _, _, _, _, es ++ [(wd / 7) % (10 : Int) ^ (24 : Int).toNat], rfl, ?_, ?_⟩
          · rw [upd_upd, List.map_append] <;> rfl
          · rw [List.length_append, List.length_singleton]
            omega
      · rintro σ H3 ⟨o4, o5, o7, o8, m, es, rfl, rfl, hes⟩
        exact ⟨_, _, _, _, _, _, es, rfl, rfl, by omega⟩
  · rintro σ H2 ⟨o3, o4, o5, o6, o7, o8, ds, rfl, rfl, hl⟩
    exact ⟨_, rfl, k D ds hD⟩
def P__law_draw (K : PySem.W.Frag) (a b : V) (H : Hp) (Q : VK) : Prop := ∃ (p : Addr) (ds : List Int) (i : Nat), a = .ref p ∧ b = .int (i : Int) ∧ H p = some (.lst (ds.map V.int)) ∧ ∀ n, Q (.int n) H
abbrev N__law_draw : List Str := ["_law_draws", "_law_k"]
theorem sc__law_draw : FnScope N__law_draw ["_law_draws", "_law_k"] (defScope s_law_draw) := ⟨rfl, rfl, rfl, by decide +kernel, rfl, by decide +kernel, by decide +kernel⟩
theorem ok__law_draw (T : Tx w K mg) : Cal P w K mg base 1 (fAd K ("_law_draw", none)) (Sp2 (P__law_draw K)) := by
  refine mk2 (k := 0) T.fd_law_draw sc__law_draw (fun _ _ _ _ _ _ _ _  => rfl) fun cdv A outer s H E va vb Q hr h => ?_
  have hu := hu_of hr
  obtain ⟨p, ds, i, rfl, rfl, hp, k⟩ := h
  refine ⟨_, (pss_cons (ps_if (pt_cmpR op_lt (pv 1) (pe_callB call_len_seq (by rfl) T.f_len (by decide +kernel) (pa_cons (pv 0) pa_nil)) (nomark _)) (pss_one (ps_ret (pe_ix ix_list (pv 0) (pv 1) (fun _ _ => rfl)))) pss_nil)
      (pss_one (ps_ret pe_int))), ?_⟩
  dsimp only [cxOf, Cx.nox]
  refine ⟨_, rfl, _, rfl, p, _, rfl, .inl (SqL.of hp), _, _, rfl, rfl, _, rfl, iteB (fun h1 => ?_) (fun h1 => k 0)⟩
  rw [List.length_map] at h1
  have h1 := of_decide_eq_true h1
  obtain ⟨n, hn⟩ : ∃ n, ds[i]? = some n := ⟨_, List.getElem?_eq_getElem (by omega)⟩
  exact ⟨_, rfl, _, rfl, p, _, _, _, rfl, rfl, SqL.of hp, atI_nat (j := i) (by rw [List.getElem?_map, hn] <;> rfl), k n⟩
theorem good_in {n : Nm} (hl : n.length ≤ 12) (hc : ∀ c ∈ n, c ∈ chars) : (n = [] ∨ n = [46] ∨ n = [46, 46]) ∨ isNm n = true := by
  by_cases h1 : n = []
  · exact .inl (.inl h1)
  by_cases h2 : n = [46]
  · exact .inl (.inr (.inl h2))
  by_cases h3 : n = [46, 46]
  · exact .inl (.inr (.inr h3))
  · have : n.length ≠ 0 := fun z => h1 (List.length_eq_zero_iff.mp z)
    exact .inr (isNm_iff.mpr ⟨⟨by omega, hl⟩, hc, h2, h3⟩)
theorem lA : ("a" : Str) = S [97] := by decide +kernel
def P__law_good (K : PySem.W.Frag) (a : V) (H : Hp) (Q : VK) : Prop := ∃ n : Nm, a = .str (S n) ∧ n.length ≤ 12 ∧ (∀ c ∈ n, c ∈ chars) ∧ ∀ m, isNm m = true → Q (.str (S m)) H
abbrev N__law_good : List Str := ["_law_name_here"]
theorem sc__law_good : FnScope N__law_good ["_law_name_here"] (defScope s_law_good) := ⟨rfl, rfl, rfl, by decide +kernel, rfl, by decide +kernel, by decide +kernel⟩
theorem ok__law_good (T : Tx w K mg) : Cal P w K mg base 1 (fAd K ("_law_good", none)) (Sp1 (P__law_good K)) := by
  refine mk1 (k := 0) T.fd_law_good sc__law_good (fun _ _ _ _ _ _ _  => rfl) fun cdv A outer s H E va Q hr h => ?_
  have hu := hu_of hr
  obtain ⟨n, rfl, hl, hc, k⟩ := h
  refine ⟨_, (pss_cons (ps_if (PW.pt (pw_or (pt_cmpR op_eq (pv 0) pe_str (nomark _)) (pw_or (pt_cmpR op_eq (pv 0) pe_str (nomark _)) (pw_or1 (pt_cmpR op_eq (pv 0) pe_str (nomark _)))))) (pss_one (ps_ret (pe_op op_add_str (pv 0) pe_str))) pss_nil)
      (pss_one (ps_ret (pv 0)))), ?_⟩
  have e63 : sizeLine = 16777216 := sizeLine_eq
  have fin : isNm (n ++ [97]) = true → ∃ i j, V.str (S n) = .str i ∧ V.str "a" = .str j ∧ i.length + j.length ≤ sizeLine ∧ Q (.str (i ++ j)) H := fun h => ⟨_, _, rfl, rfl, by rw [lA, S_len, S_len, List.length_singleton]; omega, by rw [lA, S_cat]; exact k _ h⟩
  refine ⟨_, rfl, rfl, _, rfl, iteB (fun h1 => iteT ⟨_, rfl, fin ?_⟩) (fun h1 => ?_)⟩
  · rw [lEmp] at h1
    have : n = [] := by simpa [S_eq_iff] using h1
    rw [this]
    decide
  refine ⟨_, rfl, rfl, _, rfl, iteB (fun h2 => iteT ⟨_, rfl, fin ?_⟩) (fun h2 => ?_)⟩
  · rw [lDot] at h2
    have : n = [46] := by simpa [S_eq_iff] using h2
    rw [this]
    decide
  refine ⟨_, rfl, rfl, _, rfl, iteB (fun h3 => ⟨_, rfl, fin ?_⟩) (fun h3 => ⟨_, rfl, k n ?_⟩)⟩
  · rw [lDot2] at h3
    have : n = [46, 46] := by simpa [S_eq_iff] using h3
    rw [this]
    decide
  · rw [lEmp] at h1
    rw [lDot] at h2
    rw [lDot2] at h3
    have h1 : n ≠ [] := by simpa [S_eq_iff] using h1
    have h2 : n ≠ [46] := by simpa [S_eq_iff] using h2
    have h3 : n ≠ [46, 46] := by simpa [S_eq_iff] using h3
    rcases good_in hl hc with (h | h | h) | h
    · exact absurd h h1
    · exact absurd h h2
    · exact absurd h h3
    · exact h
theorem chars_len : chars.length = 38 := by decide
theorem char_at (j : Nat) (h : j < 38) : ∃ c, atI ("abcdefghijklmnopqrstuvwxyz0123456789-." : Str).cps.toList (j : Int) = some c ∧ c ∈ chars := by
  rw [chars_S]
  have hl : j < chars.length := by rw [chars_len]; exact h
  exact ⟨chars[j], atI_nat (j := j) (List.getElem?_eq_getElem hl), List.getElem_mem hl⟩
theorem chars_63 : ("abcdefghijklmnopqrstuvwxyz0123456789-." : Str).length ≤ sizeLine := by
  rw [chars_S, S_len, chars_len, sizeLine_eq]
  omega
theorem S_snoc (l : Nm) (c : Nat) : S l ++ (⟨#[c]⟩ : Str) = S (l ++ [c]) := S_cat l [c]
def P__law_name (K : PySem.W.Frag) (a : V) (H : Hp) (Q : VK) : Prop := ∃ d : Int, a = .int d ∧ ∀ m, isNm m = true → Q (.str (S m)) H
abbrev N__law_name : List Str := ["_law_draw_here", "_law_signs", "_law_name_here", "_law_rest", "_law_k"]
theorem sc__law_name : FnScope N__law_name ["_law_draw_here"] (defScope s_law_name) := ⟨rfl, rfl, rfl, by decide +kernel, rfl, by decide +kernel, by decide +kernel⟩
theorem ok__law_name (T : Tx w K mg) : Cal P w K mg base 2 (fAd K ("_law_name", none)) (Sp1 (P__law_name K)) := by
  refine mk1 (k := 1) T.fd_law_name sc__law_name (fun _ _ _ _ _ _ _  => rfl) fun cdv A outer s H E va Q hr h => ?_
  have hu := hu_of hr
  obtain ⟨d, rfl, k⟩ := h
  refine ⟨_, (pss_cons (ps_set (i := 1) sc__law_name.nd rfl (Or.inl rfl) pe_str)
      (pss_cons (ps_set (i := 2) sc__law_name.nd rfl (Or.inl rfl) pe_str)
      (pss_cons (ps_set (i := 3) sc__law_name.nd rfl (Or.inl rfl) (pe_op op_fdiv (pv 0) pe_int))
      (pss_cons (ps_for PassesOwn.never rfl (pi_range1 (by rfl) T.f_range (pa_cons (pe_op op_add pe_int (pe_op op_mod (pe_callTy call_int1 (by rfl) T.f_int (by decide +kernel) (pa_cons (pv 0) pa_nil)) pe_int)) pa_nil)) (pg_name (i := 4) sc__law_name.nd rfl (Or.inl rfl))
      (pss_cons (ps_set (i := 2) sc__law_name.nd rfl (Or.inl rfl) (pe_op op_add_str (pv 2) (pe_ix ix_str (pv 1) (pe_op op_mod (pe_callTy call_int1 (by rfl) T.f_int (by decide +kernel) (pa_cons (pv 3) pa_nil)) pe_int) (fun _ _ => rfl))))
      (pss_one (ps_set (i := 3) sc__law_name.nd rfl (Or.inl rfl) (pe_op op_fdiv (pv 3) pe_int)))))
      (pss_one (ps_ret (pcall (ok__law_good T) hr (by decide) rfl T.g__law_good (pa_cons (pv 2) pa_nil)))))))), ?_⟩
  dsimp only [cxOf, Cx.nox]
  have e63 : sizeLine = 16777216 := sizeLine_eq
  refine ⟨_, rfl, _, _, rfl, rfl, ⟨by decide, by decide⟩, ?_⟩
  obtain ⟨j0, hj0, ej0⟩ := mod_lt (d := d) (m := 12) (by decide)
  have ej0 : d % 12 = (j0 : Int) := ej0
  refine ⟨_, rfl, .inl ⟨_, rfl, _, _, rfl, rfl, (show (0 : Int) < _ by decide), _, _, rfl, rfl, _, rfl, (by show -(2 ^ 62) ≤ (1 : Int) + d % 12; omega), (by show (1 : Int) + d % 12 < 2 ^ 62; omega), ?_⟩⟩
  have hle : ((1 : Int) + d % 12).toNat ≤ 12 := by omega
  clear ej0 hj0
  refine for_range (lo := 0) (n := ((1 : Int) + d % 12).toNat) (fun i σ H2 => ∃ (o4 : Option V) (n : Nm) (r : Int), σ = [some (.int d), some (.str "abcdefghijklmnopqrstuvwxyz0123456789-."), some (.str (S n)), some (.int r), o4] ∧ H2 = H ∧ n.length = i ∧ ∀ c ∈ n, c ∈ chars) ⟨_, [], _, rfl, rfl, rfl, fun c z => (nomatch z)⟩ ?_ ?_
  · rintro i σ H2 hi ⟨o4, n, r, rfl, rfl, hn, hc⟩
    obtain ⟨j, hj, ej⟩ := mod_lt (d := r) (m := 38) (by decide)
    have ej : r % 38 = (j : Int) := ej
    obtain ⟨c, hc1, hc2⟩ := char_at j hj
    refine ⟨_, rfl, _, rfl, _, rfl, .inl ⟨_, rfl, _, _, rfl, rfl, (show (0 : Int) < _ by decide), _, _, c, rfl, rfl, chars_63, ?_, ?_⟩⟩
    · rw [ej]
      exact hc1
    refine ⟨_, _, rfl, rfl, ?_, ?_⟩
    · rw [S_len, hn, show ((⟨#[c]⟩ : Str).length) = 1 from rfl]
      omega
    rw [S_snoc]
    refine ⟨_, rfl, _, _, rfl, rfl, ⟨by decide, by decide⟩, ?_⟩
    exact ⟨_, n ++ [c], _, rfl, rfl, by rw [List.length_append, List.length_singleton, hn], all_snoc hc hc2⟩
  · rintro σ H2 ⟨o4, n, r, rfl, rfl, hn, hc⟩
    exact ⟨_, rfl, n, rfl, by omega, hc, k⟩
def P__law_near (K : PySem.W.Frag) (a b : V) (H : Hp) (Q : VK) : Prop := ∃ (n : Nm) (d : Int), a = .str (S n) ∧ b = .int d ∧ isNm n = true ∧ ∀ m, isNm m = true → Q (.str (S m)) H
abbrev N__law_near : List Str := ["_law_name_here", "_law_draw_here", "_law_signs", "_law_at", "_law_sign"]
theorem sc__law_near : FnScope N__law_near ["_law_name_here", "_law_draw_here"] (defScope s_law_near) := ⟨rfl, rfl, rfl, by decide +kernel, rfl, by decide +kernel, by decide +kernel⟩
theorem ok__law_near (T : Tx w K mg) : Cal P w K mg base 2 (fAd K ("_law_near", none)) (Sp2 (P__law_near K)) := by
  refine mk2 (k := 1) T.fd_law_near sc__law_near (fun _ _ _ _ _ _ _ _  => rfl) fun cdv A outer s H E va vb Q hr h => ?_
  have hu := hu_of hr
  obtain ⟨n, d, rfl, rfl, hn, k⟩ := h
  refine ⟨_, (pss_cons (ps_set (i := 2) sc__law_near.nd rfl (Or.inl rfl) pe_str)
      (pss_cons (ps_set (i := 3) sc__law_near.nd rfl (Or.inl rfl) (pe_op op_mod (pe_callTy call_int1 (by rfl) T.f_int (by decide +kernel) (pa_cons (pv 1) pa_nil)) (pe_callB call_len_str (by rfl) T.f_len (by decide +kernel) (pa_cons (pv 0) pa_nil))))
      (pss_cons (ps_set (i := 4) sc__law_near.nd rfl (Or.inl rfl) (pe_ix ix_str (pv 2) (pe_op op_mod (pe_callTy call_int1 (by rfl) T.f_int (by decide +kernel) (pa_cons (pe_op op_fdiv (pv 1) pe_int) pa_nil)) pe_int) (fun _ _ => rfl)))
      (pss_one (ps_ret (pcall (ok__law_good T) hr (by decide) rfl T.g__law_good (pa_cons (pe_op op_add_str (pe_op op_add_str (pe_slice sl_str (pv 0) po_none (po_some (pv 3))) (pv 4)) (pe_slice sl_str (pv 0) (po_some (pe_op op_add (pv 3) pe_int)) po_none)) pa_nil))))))), ?_⟩
  dsimp only [cxOf, Cx.nox]
  have e63 : sizeLine = 16777216 := sizeLine_eq
  have hn1 := (isNm_iff.mp hn).1
  have hn2 := (isNm_iff.mp hn).2.1
  obtain ⟨j0, hj0, ej0⟩ := mod_lt (d := d) (m := n.length) (by omega)
  obtain ⟨j, hj, ej⟩ := mod_lt (d := d / 12) (m := 38) (by decide)
  have ej : d / 12 % 38 = (j : Int) := ej
  obtain ⟨c, hc1, hc2⟩ := char_at j hj
  refine ⟨_, rfl, .inl ⟨_, rfl, _, rfl, _, rfl, S_len63 hn1.2 (by decide), _, _, rfl, rfl, by rw [S_len]; omega, ?_⟩⟩
  rw [S_len]
  dsimp only
  rw [ej0]
  refine ⟨_, rfl, _, rfl, _, _, rfl, rfl, ⟨by decide, by decide⟩, .inl ⟨_, rfl, _, _, rfl, rfl, (show (0 : Int) < _ by decide), _, _, c, rfl, rfl, chars_63, by rw [ej]; exact hc1, ?_⟩⟩
  clear ej ej0
  refine ⟨_, rfl, _, rfl, _, rfl, _, rfl, S_len63 hn1.2 (by decide), ?_⟩
  rw [cut_to]
  refine ⟨_, rfl, _, _, rfl, rfl, ?_, ?_⟩
  · rw [S_len, List.length_take, show ((⟨#[c]⟩ : Str).length) = 1 from rfl]
    omega
  rw [S_snoc]
  refine ⟨_, rfl, _, rfl, _, _, rfl, rfl, _, rfl, _, rfl, S_len63 hn1.2 (by decide), ?_⟩
  rw [show cutS (S n) (some ((j0 : Int) + 1)) none = S (n.drop (j0 + 1)) from cut_from n (j0 + 1)]
  refine ⟨_, _, rfl, rfl, ?_, ?_⟩
  · rw [S_len, S_len, List.length_append, List.length_take, List.length_drop, List.length_singleton]
    omega
  rw [S_cat]
  refine ⟨_, rfl, ?_, ?_, k⟩
  · rw [List.length_append, List.length_append, List.length_take, List.length_drop, List.length_singleton]
    omega
  · intro x hx
    rcases List.mem_append.mp hx with hx | hx
    · exact all_snoc (fun y hy => hn2 y (List.mem_of_mem_take hy)) hc2 x hx
    · exact hn2 x (List.mem_of_mem_drop hx)
def P__law_names (K : PySem.W.Frag) (a b : V) (H : Hp) (Q : VK) : Prop := ∃ (p : Addr) (ds : List Int) (i : Nat), a = .ref p ∧ b = .int (i : Int) ∧ H p = some (.lst (ds.map V.int)) ∧ ∀ l ns, H l = none → Good ns → ns.length = 6 → Q (.ref l) (upd H l (.lst (nmV ns)))
abbrev N__law_names : List Str := ["_law_draws", "_law_at", "_law_names_here", "_law_k", "_law_draw_here"]
theorem sc__law_names : FnScope N__law_names ["_law_draws", "_law_at"] (defScope s_law_names) := ⟨rfl, rfl, rfl, by decide +kernel, rfl, by decide +kernel, by decide +kernel⟩
theorem ok__law_names (T : Tx w K mg) : Cal P w K mg base 3 (fAd K ("_law_names", none)) (Sp2 (P__law_names K)) := by
  refine mk2 (k := 2) T.fd_law_names sc__law_names (fun _ _ _ _ _ _ _ _  => rfl) fun cdv A outer s H E va vb Q hr h => ?_
  have hu := hu_of hr
  obtain ⟨p, ds, i, rfl, rfl, hp, k⟩ := h
  refine ⟨_, (pss_cons (ps_set (i := 2) sc__law_names.nd rfl (Or.inl rfl) (pe_lst (pa_cons (pcall (ok__law_name T) hr (by decide) rfl T.g__law_name (pa_cons (pcall (ok__law_draw T) hr (by decide) rfl T.g__law_draw (pa_cons (pv 0) (pa_cons (pv 1) pa_nil))) pa_nil)) pa_nil)))
      (pss_cons (ps_for PassesOwn.never rfl (pi_range2 (by rfl) T.f_range (pa_cons pe_int (pa_cons pe_int pa_nil))) (pg_name (i := 3) sc__law_names.nd rfl (Or.inl rfl))
      (pss_cons (ps_set (i := 4) sc__law_names.nd rfl (Or.inl rfl) (pcall (ok__law_draw T) hr (by decide) rfl T.g__law_draw (pa_cons (pv 0) (pa_cons (pe_op op_add (pv 1) (pv 3)) pa_nil))))
      (pss_one (ps_if (pt_cmpR op_eq (pe_op op_mod (pe_callTy call_int1 (by rfl) T.f_int (by decide +kernel) (pa_cons (pv 4) pa_nil)) pe_int) pe_int (nomark _)) (pss_one (ps_expr (pe_bm PySem.F.plainAttrs_list PySem.F.slot_list_append PySem.F.type_list_append mt_append (pv 2) (pa_cons (pcall (ok__law_near T) hr (by decide) rfl T.g__law_near (pa_cons (pe_ix ix_list (pv 2) pe_int (fun _ _ => rfl)) (pa_cons (pe_op op_fdiv (pv 4) pe_int) pa_nil))) pa_nil)))) (pss_one (ps_expr (pe_bm PySem.F.plainAttrs_list PySem.F.slot_list_append PySem.F.type_list_append mt_append (pv 2) (pa_cons (pcall (ok__law_name T) hr (by decide) rfl T.g__law_name (pa_cons (pe_op op_fdiv (pv 4) pe_int) pa_nil)) pa_nil))))))))
      (pss_one (ps_ret (pv 2))))), ?_⟩
  dsimp only [cxOf, Cx.nox]
  refine ⟨_, rfl, _, rfl, p, ds, i, rfl, rfl, hp, fun d0 => ⟨d0, rfl, fun m0 hm0 => ⟨sm64 (by show 1 ≤ 10000; decide), fun D hD => ?_⟩⟩⟩
  have s0 : ∀ o, Same H (upd H D o) := fun o => same_new hD
  refine ⟨_, _, rfl, ⟨by decide, by decide, by decide, by decide⟩, ?_⟩
  refine for_range (lo := 1) (n := 5) (fun j σ H2 => ∃ (o3 o4 : Option V) (ns : List Nm), σ = [some (.ref p), some (.int (i : Int)), some (.ref D), o3, o4] ∧ H2 = upd H D (.lst (nmV ns)) ∧ Good ns ∧ ns.length = j + 1) ⟨_, _, [m0], rfl, rfl, fun n hn => by rw [List.mem_singleton.mp hn]; exact hm0, rfl⟩ ?_ ?_
  · rintro j σ H2 hj ⟨o3, o4, ns, rfl, rfl, gns, hl⟩
    refine ⟨_, rfl, _, rfl, _, rfl, _, _, rfl, rfl, p, ds, i + (1 + j), rfl, by rw [Int.natCast_add, Int.natCast_add] <;> rfl, s0 _ _ _ hp, fun d => ?_⟩
    obtain ⟨x, hx⟩ : ∃ x, ns[0]? = some x := ⟨_, List.getElem?_eq_getElem (by omega)⟩
    have gx : isNm x = true := gns x (List.mem_of_getElem? hx)
    have app : ∀ m, isNm m = true → ∃ l xs y, V.ref D = V.ref l ∧ [V.str (S m)] = [y] ∧ (upd H D (.lst (nmV ns))) l = some (.lst xs) ∧ xs.length < sizeLine ∧ ∃ (o3 o4 : Option V) (ms : List Nm), [some (V.ref p), some (.int (i : Int)), some (.ref D), some (.int (1 + (j : Int))), some (.int d)] = [some (.ref p), some (.int (i : Int)), some (.ref D), o3, o4] ∧ upd (upd H D (.lst (nmV ns))) l (.lst (xs ++ [y])) = upd H D (.lst (nmV ms)) ∧ Good ms ∧ ms.length = j + 1 + 1 := fun m hm =>
      ⟨D, _, _, rfl, rfl, upd_same, sm63 (by rw [nmV_len]; omega), _, _, ns ++ [m], rfl, by rw [upd_upd, nmV_app] <;> rfl, gns.app1 hm, by rw [List.length_append, List.length_singleton, hl]⟩
    refine ⟨_, rfl, .inl ⟨_, rfl, _, _, rfl, rfl, (show (0 : Int) < _ by decide), rfl, _, rfl, iteB (fun h1 => ?_) (fun h1 => ?_)⟩⟩
    · refine ⟨_, rfl, .inl ⟨rfl, _, SqL.of upd_same⟩, _, rfl, D, _, _, _, rfl, rfl, SqL.of upd_same, atI_nat (j := 0) (by unfold nmV; rw [List.getElem?_map, hx] <;> rfl), _, rfl, _, _, rfl, rfl, ⟨by decide, by decide⟩, x, _, rfl, rfl, gx, fun m hm => app m hm⟩
    · exact ⟨_, rfl, .inl ⟨rfl, _, SqL.of upd_same⟩, _, rfl, _, _, rfl, rfl, ⟨by decide, by decide⟩, _, rfl, fun m hm => app m hm⟩
  · rintro σ H2 ⟨o3, o4, ns, rfl, rfl, gns, hl⟩
    exact ⟨_, rfl, k D ns hD gns hl⟩
theorem rep_mem {l : List Nat} {n : Nat} {x : Nat} (h : x ∈ (List.replicate n l).flatten) : x ∈ l := by
  obtain ⟨y, hy, hx⟩ := List.mem_flatten.mp h
  rw [(List.mem_replicate.mp hy).2] at hx
  exact hx
theorem rep_len (l : List Nat) : ∀ k : Nat, (List.replicate k l).flatten.length = k * l.length
  | 0 => by rw [Nat.zero_mul] <;> rfl
  | k + 1 => by rw [List.replicate_succ, List.flatten_cons, List.length_append, rep_len l k, Nat.succ_mul, Nat.add_comm]
theorem sg_len : (sgT ++ sgL).length = 94 := by decide
def P__law_text (K : PySem.W.Frag) (a : V) (H : Hp) (Q : VK) : Prop := ∃ d : Int, a = .int d ∧ ∀ x, tOk x → Q (.str (S x)) H
abbrev N__law_text : List Str := ["_law_draw_here", "_law_signs", "_law_size_here", "_law_rest", "_law_part", "_law_k"]
theorem sc__law_text : FnScope N__law_text ["_law_draw_here"] (defScope s_law_text) := ⟨rfl, rfl, rfl, by decide +kernel, rfl, by decide +kernel, by decide +kernel⟩
theorem ok__law_text (T : Tx w K mg) : Cal P w K mg base 1 (fAd K ("_law_text", none)) (Sp1 (P__law_text K)) := by
  refine mk1 (k := 0) T.fd_law_text sc__law_text (fun _ _ _ _ _ _ _  => rfl) fun cdv A outer s H E va Q hr h => ?_
  have hu := hu_of hr
  obtain ⟨d, rfl, k⟩ := h
  refine ⟨_, (pss_cons (ps_set (i := 1) sc__law_text.nd rfl (Or.inl rfl) pe_str)
      (pss_cons (ps_set (i := 1) sc__law_text.nd rfl (Or.inl rfl) (pe_op op_add_str (pv 1) pe_str))
      (pss_cons (ps_set (i := 2) sc__law_text.nd rfl (Or.inl rfl) (pe_op op_add pe_int (pe_op op_mod (pe_callTy call_int1 (by rfl) T.f_int (by decide +kernel) (pa_cons (pe_op op_fdiv (pv 0) pe_int) pa_nil)) pe_int)))
      (C8.pss_cut (ps_if (pt_cmpR op_eq (pe_op op_mod (pe_callTy call_int1 (by rfl) T.f_int (by decide +kernel) (pa_cons (pv 0) pa_nil)) pe_int) pe_int (nomark _)) (pss_one (ps_set (i := 2) sc__law_text.nd rfl (Or.inl rfl) (pe_op op_mod (pe_callTy call_int1 (by rfl) T.f_int (by decide +kernel) (pa_cons (pe_op op_fdiv (pv 0) pe_int) pa_nil)) pe_int))) pss_nil)
      (pss_cons (ps_set (i := 3) sc__law_text.nd rfl (Or.inl rfl) (pe_op op_fdiv (pv 0) pe_int))
      (pss_cons (ps_set (i := 4) sc__law_text.nd rfl (Or.inl rfl) pe_str)
      (pss_cons (ps_for PassesOwn.never rfl (pi_range1 (by rfl) T.f_range (pa_cons (pe_callB (call_min2 rfl) (by rfl) T.f_min (by decide +kernel) (pa_cons (pv 2) (pa_cons pe_int pa_nil))) pa_nil)) (pg_name (i := 5) sc__law_text.nd rfl (Or.inl rfl))
      (pss_cons (ps_set (i := 4) sc__law_text.nd rfl (Or.inl rfl) (pe_op op_add_str (pv 4) (pe_ix ix_str (pv 1) (pe_op op_mod (pe_callTy call_int1 (by rfl) T.f_int (by decide +kernel) (pa_cons (pv 3) pa_nil)) pe_int) (fun _ _ => rfl))))
      (pss_one (ps_set (i := 3) sc__law_text.nd rfl (Or.inl rfl) (pe_op op_fdiv (pv 3) pe_int)))))
      (pss_one (ps_ret (pe_slice sl_str (pe_op op_mulS (pv 4) pe_int) po_none (po_some (pv 2)))))))))))), ?_⟩
  have e63 : sizeLine = 16777216 := sizeLine_eq
  refine ⟨_, rfl, _, _, rfl, rfl, ?_, ?_⟩
  · have : sgT.length = 64 := by decide
    have : sgL.length = 30 := by decide
    show (" !\"#$&'()*+,-./0123456789:;<=>?@ABCDEFGHIJKLMNOPQRSTUVWXYZ[\\]^_`" : Str).length + ("abcdefghijklmnopqrstuvwxyz{|}~" : Str).length ≤ _
    rw [sgT_S, sgL_S, S_len, S_len]
    omega
  have esg : (" !\"#$&'()*+,-./0123456789:;<=>?@ABCDEFGHIJKLMNOPQRSTUVWXYZ[\\]^_`" : Str) ++ ("abcdefghijklmnopqrstuvwxyz{|}~" : Str) = S (sgT ++ sgL) := by rw [sgT_S, sgL_S, S_cat]
  rw [esg]
  generalize esig : sgT ++ sgL = sg
  have sgok : ∀ c ∈ sg, 32 ≤ c ∧ c ≤ 126 ∧ c ≠ 37 := by rw [← esig]; exact sg_ok
  have sglen : sg.length = 94 := by rw [← esig]; exact sg_len
  clear esig esg
  obtain ⟨j1, hj1, ej1⟩ := mod_lt (d := d / 8) (m := 6) (by decide)
  have ej1 : d / 8 % 6 = (j1 : Int) := ej1
  obtain ⟨j2, hj2, ej2⟩ := mod_lt (d := d / 8) (m := 201) (by decide)
  have ej2 : d / 8 % 201 = (j2 : Int) := ej2
  refine ⟨_, rfl, _, _, rfl, rfl, ⟨by decide, by decide⟩, .inl ⟨_, rfl, _, _, rfl, rfl, (show (0 : Int) < _ by decide), _, _, rfl, rfl, ?_⟩⟩
  dsimp only
  rw [ej1]
  refine ⟨fun σ' H' => ∃ sz : Nat, sz ≤ 200 ∧ σ' = [some (.int d), some (.str (S sg)), some (.int (sz : Int)), none, none, none] ∧ H' = H, ?_, ?_⟩
  · refine ⟨_, rfl, .inl ⟨_, rfl, _, _, rfl, rfl, (show (0 : Int) < _ by decide), rfl, _, rfl, iteB (fun h1 => ?_) (fun h1 => ⟨1 + j1, by omega, by rw [Int.natCast_add] <;> rfl, rfl⟩)⟩⟩
    refine ⟨_, rfl, _, _, rfl, rfl, ⟨by decide, by decide⟩, .inl ⟨_, rfl, _, _, rfl, rfl, (show (0 : Int) < _ by decide), ?_⟩⟩
    dsimp only
    rw [ej2]
    exact ⟨j2, by omega, rfl, rfl⟩
  rintro σ' H' ⟨sz, hsz, rfl, rfl⟩
  clear ej1 ej2 hj1 hj2 e63
  have e63 : sizeLine = 16777216 := sizeLine_eq
  refine ⟨_, rfl, _, _, rfl, rfl, ⟨by decide, by decide⟩, ?_⟩
  have emin : (if (9 : Int) < (sz : Int) then (9 : Int) else (sz : Int)) = ((min sz 9 : Nat) : Int) := by
    split <;> omega
  refine ⟨_, rfl, _, _, rfl, ?_⟩
  rw [emin]
  refine ⟨_, rfl, by omega, by omega, ?_⟩
  rw [Int.toNat_natCast]
  refine for_range (lo := 0) (n := min sz 9) (fun i σ H2 => ∃ (o5 : Option V) (r : Int) (n : Nm), σ = [some (.int d), some (.str (S sg)), some (.int (sz : Int)), some (.int r), some (.str (S n)), o5] ∧ H2 = H' ∧ n.length = i ∧ ∀ c ∈ n, c ∈ sg) ⟨_, _, [], rfl, rfl, rfl, fun c z => (nomatch z)⟩ ?_ ?_
  · rintro i σ H2 hi ⟨o5, r, n, rfl, rfl, hn, hc⟩
    obtain ⟨j, hj, ej⟩ := mod_lt (d := r) (m := 94) (by decide)
    obtain ⟨c, hc1⟩ : ∃ c, sg[j]? = some c := ⟨_, List.getElem?_eq_getElem (by rw [sglen]; exact hj)⟩
    refine ⟨_, rfl, _, rfl, _, rfl, .inl ⟨_, rfl, _, _, rfl, rfl, (show (0 : Int) < _ by decide), _, _, c, rfl, rfl, by rw [S_len]; omega, by rw [show r % 94 = (j : Int) from ej]; exact atI_nat (j := j) hc1, ?_⟩⟩
    clear ej
    refine ⟨_, _, rfl, rfl, ?_, ?_⟩
    · rw [S_len, hn, show ((⟨#[c]⟩ : Str).length) = 1 from rfl]
      omega
    rw [S_snoc]
    refine ⟨_, rfl, _, _, rfl, rfl, ⟨by decide, by decide⟩, ?_⟩
    exact ⟨_, _, n ++ [c], rfl, rfl, by rw [List.length_append, List.length_singleton, hn], all_snoc hc (List.mem_of_getElem? hc1)⟩
  · rintro σ H2 ⟨o5, r, n, rfl, rfl, hn, hc⟩
    have h9 : n.length ≤ 9 := by
      rw [hn]
      exact Nat.min_le_right _ _
    have e23 : (List.replicate 23 n).flatten.length = 23 * n.length := rep_len n 23
    have hlr : (List.replicate 23 n).flatten.length ≤ 1000 := by
      rw [e23]
      exact Nat.le_trans (Nat.mul_le_mul_left 23 h9) (by decide)
    have hl23 : n.length * 23 ≤ 1000 := Nat.le_trans (Nat.mul_le_mul_right 23 h9) (by decide)
    refine ⟨_, rfl, n, 23, rfl, rfl, (by decide : 2 ≤ 23), (by decide), hl23, _, rfl, _, rfl, _, rfl, S_len63 hlr (by decide), ?_⟩
    rw [cut_to]
    refine k _ ⟨?_, fun c hc' => sgok c (hc c (rep_mem (List.mem_of_mem_take hc')))⟩
    rw [List.length_take]
    exact Nat.le_trans (Nat.min_le_left _ _) hsz
end
end Ah
/-! What the law draws: paths, numbers, serials, fillings. -/
namespace Ah
open PySem PySem.Spec PyProof.Rows L2 He SX
def okC (c : Nat) : Prop := 32 ≤ c ∧ c ≤ 126 ∧ c ≠ 37
/-- a short text of good signs -/
def TSn (z : Str) (n : Nat) : Prop := ∃ x : Nm, z = S x ∧ (∀ c ∈ x, okC c) ∧ x.length ≤ n
theorem TSn.app {a b : Str} {m n : Nat} (ha : TSn a m) (hb : TSn b n) : TSn (a ++ b) (m + n) := by
  obtain ⟨x, rfl, h1, h2⟩ := ha
  obtain ⟨y, rfl, h3, h4⟩ := hb
  exact ⟨x ++ y, S_cat x y, fun c hc => (List.mem_append.mp hc).elim (h1 c) (h3 c), by rw [List.length_append]; omega⟩
theorem TSn.fit {a b : Str} {m n : Nat} (ha : TSn a m) (hb : TSn b n) (h : m + n ≤ 10000) : a.length + b.length ≤ sizeLine := by
  obtain ⟨x, rfl, h1, h2⟩ := ha
  obtain ⟨y, rfl, h3, h4⟩ := hb
  rw [S_len, S_len, sizeLine_eq]
  omega
def tSh (x : Nm) : Prop := x.length ≤ 120 ∧ ∀ c ∈ x, 32 ≤ c ∧ c ≤ 126 ∧ c ≠ 37
theorem tSh.ok {x : Nm} (h : tSh x) : tOk x := ⟨Nat.le_trans h.1 (by decide), h.2⟩
theorem tSh.ts {x : Nm} (h : tSh x) : TSn (S x) 120 := ⟨x, rfl, h.2, h.1⟩
theorem TSn.ok {a : Str} {n : Nat} (h : TSn a n) (hn : n ≤ 120) : ∃ x, a = S x ∧ tSh x := by
  obtain ⟨x, rfl, h1, h2⟩ := h
  exact ⟨x, rfl, by omega, h1⟩
theorem okC_chars : ∀ c ∈ chars, okC c := by
  have : ∀ c ∈ chars, 32 ≤ c ∧ c ≤ 126 ∧ c ≠ 37 := by decide
  exact this
theorem okC_path {p : List Nm} (g : Good p) : ∀ c ∈ pcat p, okC c := fun c hc => by
  unfold pcat at hc
  obtain ⟨n, hn, hc⟩ := List.mem_flatMap.mp hc
  rcases List.mem_cons.mp hc with rfl | hc
  · exact ⟨by decide, by decide, by decide⟩
  · exact okC_chars c ((isNm_iff.mp (g n hn)).2.1 c hc)
theorem ts_path {p : List Nm} (g : Good p) (h : p.length ≤ 6) : TSn (S (pcat p)) 78 := ⟨_, rfl, okC_path g, pcat_len13 g h⟩
theorem ts_name {n : Nm} (g : isNm n = true) : TSn (S n) 12 := ⟨n, rfl, fun c hc => okC_chars c ((isNm_iff.mp g).2.1 c hc), isNm_len g⟩
def tsB (l : List Nat) (n : Nat) : Bool := l.all (fun c => decide (32 ≤ c) && (decide (c ≤ 126) && decide (c ≠ 37))) && decide (l.length ≤ n)
theorem ts_lit {z : Str} (l : List Nat) {n : Nat} (e : z = S l) (h : tsB l n = true) : TSn z n := by
  unfold tsB at h
  obtain ⟨h1, h2⟩ := Bool.and_eq_true_iff.mp h
  refine ⟨l, e, fun c hc => ?_, of_decide_eq_true h2⟩
  have := List.all_eq_true.mp h1 c hc
  obtain ⟨a, b⟩ := Bool.and_eq_true_iff.mp this
  obtain ⟨b, c⟩ := Bool.and_eq_true_iff.mp b
  exact ⟨of_decide_eq_true a, of_decide_eq_true b, of_decide_eq_true c⟩
def TX (v : V) : Prop := ∃ x, v = .str (S x) ∧ tSh x
theorem TSn.tx {a : Str} {n : Nat} (h : TSn a n) (hn : n ≤ 120) : TX (.str a) := by
  obtain ⟨x, rfl, hx⟩ := h.ok hn
  exact ⟨x, rfl, hx⟩
theorem allc {α : Type} {M : α → Prop} {v : α} {vs : List α} (h : M v) (t : ∀ u ∈ vs, M u) : ∀ u ∈ v :: vs, M u := fun u hu => (List.mem_cons.mp hu).elim (fun e => by rw [e]; exact h) (t u)
theorem alln {α : Type} {M : α → Prop} : ∀ u ∈ ([] : List α), M u := fun u hu => (nomatch hu)
theorem alla {α : Type} {M : α → Prop} {xs ys : List α} (h : ∀ u ∈ xs, M u) (t : ∀ u ∈ ys, M u) : ∀ u ∈ xs ++ ys, M u := fun u hu => (List.mem_append.mp hu).elim (h u) (t u)
theorem pick_at {xs : List V} {M : V → Prop} {d : Int} {m : Nat} (h : ∀ u ∈ xs, M u) (hl : xs.length = m) (hm : 0 < m) : ∃ v, atI xs (d % (m : Int)) = some v ∧ M v := by
  obtain ⟨j, hj, ej⟩ := mod_lt (d := d) hm
  obtain ⟨v, hv⟩ : ∃ v, xs[j]? = some v := ⟨_, List.getElem?_eq_getElem (by omega)⟩
  exact ⟨v, by rw [ej]; exact atI_nat (j := j) hv, h v (List.mem_of_getElem? hv)⟩
theorem t_sl : TSn ("/" : Str) 1 := ts_lit [47] (by decide +kernel) (by decide +kernel)
theorem t_sl2 : TSn ("//" : Str) 2 := ts_lit [47, 47] (by decide +kernel) (by decide +kernel)
theorem t_slA : TSn ("/A" : Str) 2 := ts_lit [47, 65] (by decide +kernel) (by decide +kernel)
theorem t_dd : TSn ("/.." : Str) 3 := ts_lit [47, 46, 46] (by decide +kernel) (by decide +kernel)
theorem t_d : TSn ("/." : Str) 2 := ts_lit [47, 46] (by decide +kernel) (by decide +kernel)
theorem t_emp : TSn ("" : Str) 0 := ts_lit [] (by decide +kernel) (by decide +kernel)
theorem t_a12 : TSn ("aaaaaaaaaaaa" : Str) 12 := ts_lit [97, 97, 97, 97, 97, 97, 97, 97, 97, 97, 97, 97] (by decide +kernel) (by decide +kernel)
theorem t_aub : TSn ("/a_b" : Str) 4 := ts_lit [47, 97, 95, 98] (by decide +kernel) (by decide +kernel)
theorem t_lng : TSn ("/a/b/c/d/e/f/g" : Str) 14 := ts_lit [47, 97, 47, 98, 47, 99, 47, 100, 47, 101, 47, 102, 47, 103] (by decide +kernel) (by decide +kernel)
theorem t_sps : TSn (" /" : Str) 2 := ts_lit [32, 47] (by decide +kernel) (by decide +kernel)
theorem t_asb : TSn ("/a b" : Str) 4 := ts_lit [47, 97, 32, 98] (by decide +kernel) (by decide +kernel)
section
variable {P : Program} {w : World} {K : PySem.W.Frag} {mg : Str → Option Value} {base : Heap}
def P__law_crooked (K : PySem.W.Frag) (a b c : V) (H : Hp) (Q : VK) : Prop := ∃ (q : List Nm) (x : Nm) (d : Int), a = .str (S (pcat q)) ∧ b = .str (S x) ∧ c = .int d ∧ Good q ∧ q.length ≤ 6 ∧ isNm x = true ∧ ∀ y H', tSh y → Same H H' → Q (.str (S y)) H'
abbrev N__law_crooked : List Str := ["_law_base", "_law_name_here", "_law_draw_here", "_law_rows"]
theorem sc__law_crooked : FnScope N__law_crooked ["_law_base", "_law_name_here", "_law_draw_here"] (defScope s_law_crooked) := ⟨rfl, rfl, rfl, by decide +kernel, rfl, by decide +kernel, by decide +kernel⟩
theorem ok__law_crooked (T : Tx w K mg) : Cal P w K mg base 1 (fAd K ("_law_crooked", none)) (Sp3 (P__law_crooked K)) := by
  refine mk3 (k := 0) T.fd_law_crooked sc__law_crooked (fun _ _ _ _ _ _ _ _ _  => rfl) fun cdv A outer s H E va vb vc Q hr h => ?_
  have hu := hu_of hr
  obtain ⟨q, x, d, rfl, rfl, rfl, gq, hq, gx, k⟩ := h
  refine ⟨_, (pss_cons (ps_set (i := 3) sc__law_crooked.nd rfl (Or.inl rfl) (pe_lst (pa_cons (pe_op op_add_str (pe_op op_add_str (pe_op op_add_str (pv 0) pe_str) (pv 1)) pe_str) (pa_cons (pe_op op_add_str (pe_op op_add_str (pv 0) pe_str) (pv 1)) (pa_cons (pv 1) (pa_cons (pe_op op_add_str (pv 0) pe_str) (pa_cons (pe_op op_add_str (pv 0) pe_str) (pa_cons (pe_op op_add_str (pv 0) pe_str) (pa_cons pe_str pa_nil)))))))))
      (pss_cons (ps_set (i := 3) sc__law_crooked.nd rfl (Or.inl rfl) (pe_op op_cat (pv 3) (pe_lst (pa_cons (pe_op op_add_str (pe_op op_add_str (pe_op op_add_str (pv 0) pe_str) (pv 1)) pe_str) (pa_cons (pe_op op_add_str (pv 0) pe_str) (pa_cons pe_str (pa_cons (pe_op op_add_str pe_str (pv 1)) (pa_cons (pe_op op_add_str (pv 0) pe_str) pa_nil))))))))
      (pss_one (ps_ret (pe_ix ix_list (pv 3) (pe_op op_mod (pe_callTy call_int1 (by rfl) T.f_int (by decide +kernel) (pa_cons (pv 2) pa_nil)) pe_int) (fun _ _ => rfl)))))), ?_⟩
  dsimp only [cxOf, Cx.nox]
  have hb := ts_path gq hq
  have hn := ts_name gx
  refine ⟨_, rfl, _, _, rfl, rfl, TSn.fit (hb) (t_sl) (by decide), _, rfl, _, _, rfl, rfl, TSn.fit (TSn.app (hb) (t_sl)) (hn) (by decide), _, _, rfl, rfl, TSn.fit (TSn.app (TSn.app (hb) (t_sl)) (hn)) (t_sl) (by decide), _, rfl, _, _, rfl, rfl, TSn.fit (hb) (t_sl2) (by decide), _, rfl, _, _, rfl, rfl, TSn.fit (TSn.app (hb) (t_sl2)) (hn) (by decide), _, rfl, _, rfl, _, _, rfl, rfl, TSn.fit (hb) (t_slA) (by decide), _, rfl, _, _, rfl, rfl, TSn.fit (hb) (t_dd) (by decide), _, rfl, _, _, rfl, rfl, TSn.fit (hb) (t_d) (by decide), sm64 (by show 7 ≤ 10000; decide), fun p hp => ?_⟩
  have s1 := same_new (o := .lst []) hp
  refine ⟨_, rfl, _, rfl, _, _, rfl, rfl, TSn.fit (hb) (t_sl) (by decide), _, rfl, _, _, rfl, rfl, TSn.fit (TSn.app (hb) (t_sl)) (hn) (by decide), _, _, rfl, rfl, TSn.fit (TSn.app (TSn.app (hb) (t_sl)) (hn)) (t_a12) (by decide), _, rfl, _, _, rfl, rfl, TSn.fit (hb) (t_aub) (by decide), _, rfl, _, _, rfl, rfl, TSn.fit (t_sps) (hn) (by decide), _, rfl, _, _, rfl, rfl, TSn.fit (hb) (t_asb) (by decide), sm64 (by show 5 ≤ 10000; decide), fun p2 hp2 => ?_⟩
  have np : p ≠ p2 := ne_of_none upd_same hp2
  refine ⟨p, p2, _, _, rfl, rfl, (by rw [upd_ne np]; exact upd_same), upd_same, sm64 (by show 12 ≤ 10000; decide), fun r hr' => ?_⟩
  obtain ⟨v, hv, y, rfl, hy⟩ := pick_at (d := d) (m := 12) (M := TX) (alla (allc (TSn.tx (TSn.app (TSn.app (TSn.app (hb) (t_sl)) (hn)) (t_sl)) (by decide)) (allc (TSn.tx (TSn.app (TSn.app (hb) (t_sl2)) (hn)) (by decide)) (allc (TSn.tx (hn) (by decide)) (allc (TSn.tx (TSn.app (hb) (t_slA)) (by decide)) (allc (TSn.tx (TSn.app (hb) (t_dd)) (by decide)) (allc (TSn.tx (TSn.app (hb) (t_d)) (by decide)) (allc (TSn.tx (t_emp) (by decide)) alln))))))) (allc (TSn.tx (TSn.app (TSn.app (TSn.app (hb) (t_sl)) (hn)) (t_a12)) (by decide)) (allc (TSn.tx (TSn.app (hb) (t_aub)) (by decide)) (allc (TSn.tx (t_lng) (by decide)) (allc (TSn.tx (TSn.app (t_sps) (hn)) (by decide)) (allc (TSn.tx (TSn.app (hb) (t_asb)) (by decide)) alln)))))) rfl (by decide)
  refine ⟨_, rfl, _, rfl, .inl ⟨_, rfl, _, _, rfl, rfl, (show (0 : Int) < _ by decide), r, _, _, _, rfl, rfl, SqL.of upd_same, hv, ?_⟩⟩
  exact k y _ hy fun b o h => by
    have h2 : ∀ o', (upd H p o') b = some o := fun o' => same_new hp _ _ h
    rw [upd_ne (ne_of_none (by rw [upd_ne (ne_of_none (h2 _) hp2)]; exact h2 _) hr'), upd_ne (ne_of_none (h2 _) hp2)]
    exact h2 _
def P__law_most (K : PySem.W.Frag) (a : V) (H : Hp) (Q : VK) : Prop := ∃ d : Int, a = .int d ∧ ∀ n, iOk n → 0 ≤ n → Q (.int n) H
abbrev N__law_most : List Str := ["_law_draw_here"]
theorem sc__law_most : FnScope N__law_most ["_law_draw_here"] (defScope s_law_most) := ⟨rfl, rfl, rfl, by decide +kernel, rfl, by decide +kernel, by decide +kernel⟩
theorem ok__law_most (T : Tx w K mg) : Cal P w K mg base 1 (fAd K ("_law_most", none)) (Sp1 (P__law_most K)) := by
  refine mk1 (k := 0) T.fd_law_most sc__law_most (fun _ _ _ _ _ _ _  => rfl) fun cdv A outer s H E va Q hr h => ?_
  have hu := hu_of hr
  obtain ⟨d, rfl, k⟩ := h
  refine ⟨_, (pss_cons (ps_if (pt_cmpR op_eq (pe_op op_mod (pe_callTy call_int1 (by rfl) T.f_int (by decide +kernel) (pa_cons (pv 0) pa_nil)) pe_int) pe_int (nomark _)) (pss_one (ps_ret (pe_op op_mod (pe_callTy call_int1 (by rfl) T.f_int (by decide +kernel) (pa_cons (pe_op op_fdiv (pv 0) pe_int) pa_nil)) (pe_op op_add (pe_op op_pow pe_int pe_int) pe_int)))) pss_nil)
      (pss_one (ps_ret (pe_op op_mod (pe_callTy call_int1 (by rfl) T.f_int (by decide +kernel) (pa_cons (pe_op op_fdiv (pv 0) pe_int) pa_nil)) pe_int)))), ?_⟩
  have hpow : CPow 10 18 := ⟨by decide, by decide, by decide⟩
  refine ⟨_, rfl, .inl ⟨_, rfl, _, _, rfl, rfl, (show (0 : Int) < _ by decide), rfl, _, rfl, iteB (fun h1 => ?_) (fun h1 => ?_)⟩⟩
  · refine ⟨_, rfl, _, _, rfl, rfl, ⟨by decide, by decide⟩, .inl ⟨_, rfl, _, _, rfl, rfl, hpow, _, _, rfl, rfl, _, _, rfl, rfl, (show (0 : Int) < _ by decide), ?_⟩⟩
    have h2 := Int.emod_lt_of_pos (d / 8) (show (0 : Int) < (10 : Int) ^ (18 : Int).toNat + 1 by decide)
    have h3 := Int.emod_nonneg (d / 8) (show (10 : Int) ^ (18 : Int).toNat + 1 ≠ 0 by decide)
    have e : (10 : Int) ^ (18 : Int).toNat = 10 ^ 18 := rfl
    refine k _ ⟨?_, ?_⟩ h3
    · exact Int.le_trans (by decide) h3
    · exact Int.le_of_lt_add_one h2
  · refine ⟨_, rfl, _, _, rfl, rfl, ⟨by decide, by decide⟩, .inl ⟨_, rfl, _, _, rfl, rfl, (show (0 : Int) < _ by decide), ?_⟩⟩
    have h2 := Int.emod_lt_of_pos (d / 8) (show (0 : Int) < 60 by decide)
    have h3 := Int.emod_nonneg (d / 8) (show (60 : Int) ≠ 0 by decide)
    exact k _ ⟨Int.le_trans (by decide) h3, Int.le_trans (Int.le_of_lt h2) (by decide)⟩ h3
def P__law_serial (K : PySem.W.Frag) (a b : V) (H : Hp) (Q : VK) : Prop := ∃ l d : Int, a = .int l ∧ b = .int d ∧ ∀ n H', Same H H' → Q (.int n) H'
abbrev N__law_serial : List Str := ["_law_last", "_law_draw_here", "_law_rows", "_law_serial_here"]
theorem sc__law_serial : FnScope N__law_serial ["_law_last", "_law_draw_here"] (defScope s_law_serial) := ⟨rfl, rfl, rfl, by decide +kernel, rfl, by decide +kernel, by decide +kernel⟩
theorem ok__law_serial (T : Tx w K mg) : Cal P w K mg base 1 (fAd K ("_law_serial", none)) (Sp2 (P__law_serial K)) := by
  refine mk2 (k := 0) T.fd_law_serial sc__law_serial (fun _ _ _ _ _ _ _ _  => rfl) fun cdv A outer s H E va vb Q hr h => ?_
  have hu := hu_of hr
  obtain ⟨l, d, rfl, rfl, k⟩ := h
  refine ⟨_, (pss_cons (ps_if (pt_cmpR op_gt (pe_op op_mod (pe_callTy call_int1 (by rfl) T.f_int (by decide +kernel) (pa_cons (pv 1) pa_nil)) pe_int) pe_int (nomark _)) (pss_one (ps_ret (pe_op op_add (pv 0) pe_int))) pss_nil)
      (pss_cons (ps_set (i := 2) sc__law_serial.nd rfl (Or.inl rfl) (pe_lst (pa_cons (pv 0) (pa_cons (pe_op op_add (pv 0) pe_int) (pa_cons (pe_op op_add pe_int (pe_op op_mod (pe_callTy call_int1 (by rfl) T.f_int (by decide +kernel) (pa_cons (pe_op op_fdiv (pv 1) pe_int) pa_nil)) (pe_op op_pow pe_int pe_int))) (pa_cons (pe_op op_sub (pv 0) pe_int) pa_nil))))))
      (pss_cons (ps_set (i := 3) sc__law_serial.nd rfl (Or.inl rfl) (pe_ix ix_list (pv 2) (pe_op op_mod (pe_callTy call_int1 (by rfl) T.f_int (by decide +kernel) (pa_cons (pe_op op_fdiv (pv 1) pe_int) pa_nil)) pe_int) (fun _ _ => rfl)))
      (pss_cons (ps_if (PW.pt (pw_or (pt_cmpR op_lt (pv 3) pe_int (nomark _)) (pw_or1 (pt_cmpR op_eq (pv 3) (pe_op op_add (pv 0) pe_int) (nomark _))))) (pss_one (ps_ret (pe_op op_add (pv 0) pe_int))) pss_nil)
      (pss_one (ps_ret (pv 3))))))), ?_⟩
  dsimp only [cxOf, Cx.nox]
  have hpow : CPow 10 18 := ⟨by decide, by decide, by decide⟩
  refine ⟨_, rfl, .inl ⟨_, rfl, _, _, rfl, rfl, (show (0 : Int) < _ by decide), _, _, rfl, rfl, _, rfl, iteB (fun h1 => ⟨_, rfl, _, _, rfl, rfl, k _ _ (Same.refl H)⟩) (fun h1 => ?_)⟩⟩
  refine ⟨_, rfl, _, rfl, _, _, rfl, rfl, _, rfl, _, _, rfl, rfl, ⟨by decide, by decide⟩, .inl ⟨_, rfl, _, _, rfl, rfl, hpow, _, _, rfl, rfl, (show (0 : Int) < _ by decide), _, _, rfl, rfl, ?_⟩⟩
  refine ⟨_, rfl, _, _, rfl, rfl, sm64 (by show 4 ≤ 10000; decide), fun p hp => ?_⟩
  obtain ⟨v, hv, m, rfl⟩ := pick_at (d := d / 8) (m := 4) (M := fun v => ∃ m, v = V.int m) (xs := [.int l, .int (l + 2), .int (1 + (d / 32) % (10 : Int) ^ (18 : Int).toNat), .int (l - 1)]) (allc ⟨_, rfl⟩ (allc ⟨_, rfl⟩ (allc ⟨_, rfl⟩ (allc ⟨_, rfl⟩ alln)))) rfl (by decide)
  have s1 := same_new (o := .lst [.int l, .int (l + 2), .int (1 + (d / 32) % (10 : Int) ^ (18 : Int).toNat), .int (l - 1)]) hp
  refine ⟨_, rfl, _, rfl, _, _, rfl, rfl, ⟨by decide, by decide⟩, .inl ⟨_, rfl, _, _, rfl, rfl, (show (0 : Int) < _ by decide), p, _, _, _, rfl, rfl, SqL.of upd_same, hv, ?_⟩⟩
  refine ⟨_, rfl, _, _, rfl, rfl, _, rfl, iteB (fun h2 => iteT ⟨_, rfl, _, _, rfl, rfl, k _ _ s1⟩) (fun h2 => ?_)⟩
  exact ⟨_, rfl, _, rfl, _, _, rfl, rfl, rfl, _, rfl, iteB (fun h3 => ⟨_, rfl, _, _, rfl, rfl, k _ _ s1⟩) (fun h3 => ⟨_, rfl, k _ _ s1⟩)⟩
end
end Ah
/-! The law's pick, query, fill. -/
namespace Ah
open PySem PySem.Spec PyProof.Rows L2 He SX
theorem shaped_tx {p : List Nm} (g : ∀ n ∈ p, ∀ c ∈ n, okC c) : SeqAt.shaped (.list (nmD p)) = true := by
  have h1 : ∀ p : List Nm, (∀ n ∈ p, ∀ c ∈ n, okC c) → PyData.canLayAll0 (nmD p) = true ∧ PyData.depthAll (nmD p) = 0 := by
    intro p
    induction p with
    | nil => exact fun _ => ⟨by simp [nmD, PyData.canLayAll0], by simp [nmD, PyData.depthAll]⟩
    | cons n p ih =>
      intro g
      obtain ⟨i1, i2⟩ := ih fun m hm => g m (List.mem_cons_of_mem _ hm)
      have i3 : PyData.strOk (S n) = true := by
        unfold PyData.strOk
        rw [← Array.all_toList]
        refine List.all_eq_true.mpr fun c hc => decide_eq_true ?_
        have h1 : okC c := g n List.mem_cons_self c hc
        have := h1.2.1
        omega
      unfold nmD at i1 i2 ⊢
      exact ⟨by simp [PyData.canLayAll0, PyData.canLay0, i3, i1], by simp [PyData.depthAll, PyData.depth, i2]⟩
  obtain ⟨a, b⟩ := h1 p g
  show (PyData.canLay0 (.list (nmD p)) && decide (PyData.depth (.list (nmD p)) ≤ 64)) = true
  rw [Bool.and_eq_true]
  refine ⟨by simp only [PyData.canLay0]; exact a, decide_eq_true ?_⟩
  simp only [PyData.depth, b]
  omega
theorem tSh_path {p : List Nm} (g : Good p) (h : p.length ≤ 6) : tSh (pcat p) := ⟨by have := pcat_len13 g h; omega, okC_path g⟩
/-- paths of nodes -/
def pths (l : List Nd) : List Nm := l.map fun n => pcat n.path
theorem mod_lt' {d : Int} {m : Nat} (h : 0 < m) : ∃ j : Nat, j < m ∧ d % (m : Int) = (j : Int) := mod_lt h
section
variable {P : Program} {w : World} {K : PySem.W.Frag} {mg : Str → Option Value} {base : Heap}
def P__law_pick (K : PySem.W.Frag) (a b c d : V) (H : Hp) (Q : VK) : Prop := ∃ (l : Lg) (Z : Tr) (e : Nat) (q : Addr) (ns : List Nm) (dr wa : Int), a = .ref l.a ∧ b = .ref q ∧ c = .int dr ∧ d = .int wa ∧ LawAt H l Z ∧ WF e Z ∧ H q = some (.lst (nmV ns)) ∧ Good ns ∧ ns.length = 6 ∧
  ∀ y H', tSh y → Same H H' → Q (.str (S y)) H'
abbrev N__law_pick : List Str := ["_law_nodes", "_law_names_here", "_law_draw_here", "_law_want", "_law_choice", "_law_rest", "_law_name_here", "_law_base", "_law_path", "_law_k", "_law_picked", "_law_node"]
theorem sc__law_pick : FnScope N__law_pick ["_law_nodes", "_law_names_here", "_law_draw_here", "_law_want"] (defScope s_law_pick) := ⟨rfl, rfl, rfl, by decide +kernel, rfl, by decide +kernel, by decide +kernel⟩
theorem ok__law_pick (T : Tx w K mg) : Cal P w K mg base 2 (fAd K ("_law_pick", none)) (Sp4 (P__law_pick K)) := by
  refine mk4 (k := 1) T.fd_law_pick sc__law_pick (fun _ _ _ _ _ _ _ _ _ _  => rfl) fun cdv A outer s H E va vb vc vd Q hr h => ?_
  have hu := hu_of hr
  obtain ⟨l, Z, e, q, ns, dr, wa, rfl, rfl, rfl, rfl, L, W, hq, gns, h6, k⟩ := h
  refine ⟨_, (pss_cons (ps_set (i := 4) sc__law_pick.nd rfl (Or.inl rfl) (pe_op op_mod (pe_callTy call_int1 (by rfl) T.f_int (by decide +kernel) (pa_cons (pv 2) pa_nil)) pe_int))
      (pss_cons (ps_set (i := 5) sc__law_pick.nd rfl (Or.inl rfl) (pe_op op_fdiv (pv 2) pe_int))
      (pss_cons (ps_set (i := 6) sc__law_pick.nd rfl (Or.inl rfl) (pe_ix ix_list (pv 1) (pe_op op_mod (pe_callTy call_int1 (by rfl) T.f_int (by decide +kernel) (pa_cons (pe_op op_fdiv (pv 5) pe_int) pa_nil)) pe_int) (fun _ _ => rfl)))
      (pss_cons (ps_set (i := 7) sc__law_pick.nd rfl (Or.inl rfl) (pe_ix ix_list (pe_ix ix_list (pv 0) (pe_op op_mod (pe_callTy call_int1 (by rfl) T.f_int (by decide +kernel) (pa_cons (pv 5) pa_nil)) (pe_callB call_len_seq (by rfl) T.f_len (by decide +kernel) (pa_cons (pv 0) pa_nil))) (fun _ _ => rfl)) pe_int (fun _ _ => rfl)))
      (pss_cons (ps_if (pt_cmpR op_eq (pv 4) pe_int (nomark _)) (pss_one (ps_ret (pcall (ok__law_crooked T) hr (by decide) rfl T.g__law_crooked (pa_cons (pv 7) (pa_cons (pv 6) (pa_cons (pe_op op_fdiv (pv 5) pe_int) pa_nil)))))) pss_nil)
      (pss_cons (ps_if (pt_cmpR op_eq (pv 4) pe_int (nomark _)) (pss_cons (ps_set (i := 8) sc__law_pick.nd rfl (Or.inl rfl) pe_str)
      (pss_cons (ps_for PassesOwn.never rfl (pi_range1 (by rfl) T.f_range (pa_cons (pe_op op_add pe_int (pe_op op_mod (pe_callTy call_int1 (by rfl) T.f_int (by decide +kernel) (pa_cons (pe_op op_fdiv (pv 5) pe_int) pa_nil)) pe_int)) pa_nil)) (pg_name (i := 9) sc__law_pick.nd rfl (Or.inl rfl))
      (pss_cons (ps_set (i := 8) sc__law_pick.nd rfl (Or.inl rfl) (pe_op op_add_str (pe_op op_add_str (pv 8) pe_str) (pe_ix ix_list (pv 1) (pe_op op_mod (pe_callTy call_int1 (by rfl) T.f_int (by decide +kernel) (pa_cons (pe_op op_fdiv (pv 5) pe_int) pa_nil)) pe_int) (fun _ _ => rfl))))
      (pss_one (ps_set (i := 5) sc__law_pick.nd rfl (Or.inl rfl) (pe_op op_fdiv (pv 5) pe_int)))))
      (pss_one (ps_ret (pv 8))))) pss_nil)
      (pss_cons (ps_if (pt_cmpR op_eq (pv 4) pe_int (nomark _)) (pss_one (ps_ret (pe_op op_add_str (pe_op op_add_str (pe_op op_add_str (pe_op op_add_str (pv 7) pe_str) (pv 6)) pe_str) (pe_ix ix_list (pv 1) (pe_op op_mod (pe_callTy call_int1 (by rfl) T.f_int (by decide +kernel) (pa_cons (pe_op op_fdiv (pv 5) pe_int) pa_nil)) pe_int) (fun _ _ => rfl))))) pss_nil)
      (pss_cons (ps_setLc (i := 10) (own := [("_law_node", 11)]) (g := gName 11) rfl sc__law_pick.nd rfl rfl (sw_true rfl rfl rfl (by decide +kernel)) (pi_list (pv 0)) (blkOk_by (own := [("_law_node", 11)]) (N := N__law_pick) (sc := defScope s_law_pick) (by decide +kernel)) (fun _ _ _ _ _ => pg_name (i := 11) sc__law_pick.nd rfl (Or.inl rfl)) (fun _ _ _ _ _ => pts_one (pt_cmpR op_eq (pe_ix (r := rIxL K) ix_list (pv 11) pe_int (fun _ _ => rfl)) (pe_callTy call_int1 (by rfl) T.f_int (by decide +kernel) (pa_cons (pe_cmpR op_eq (pv 3) pe_int (nomark _)) pa_nil)) (nomark _))) (fun _ _ _ _ _ => (pe_ix (r := rIxL K) ix_list (pv 11) pe_int (fun _ _ => rfl))))
      (C8.pss_cut (ps_if (PW.pt (pw_or (pt_cmpR (op_eqD hr.units) (pv 10) (pe_lst pa_nil) (nomark _)) (pw_or (pt_cmpR op_eq (pv 3) pe_int (nomark _)) (pw_or1 (pt_cmpR op_eq (pv 4) pe_int (nomark _)))))) (pss_one (ps_setLc (i := 10) (own := [("_law_node", 11)]) (g := gName 11) (tt := tYes) rfl sc__law_pick.nd rfl rfl (sw_true rfl rfl rfl (by decide +kernel)) (pi_list (pv 0)) (blkOk_by (own := [("_law_node", 11)]) (N := N__law_pick) (sc := defScope s_law_pick) (by decide +kernel)) (fun _ _ _ _ _ => pg_name (i := 11) sc__law_pick.nd rfl (Or.inl rfl)) (fun _ _ _ _ _ => pts_nil) (fun _ _ _ _ _ => (pe_ix (r := rIxL K) ix_list (pv 11) pe_int (fun _ _ => rfl))))) pss_nil)
      (pss_cons (ps_set (i := 7) sc__law_pick.nd rfl (Or.inl rfl) (pe_ix ix_list (pv 10) (pe_op op_mod (pe_callTy call_int1 (by rfl) T.f_int (by decide +kernel) (pa_cons (pv 5) pa_nil)) (pe_callB call_len_seq (by rfl) T.f_len (by decide +kernel) (pa_cons (pv 10) pa_nil))) (fun _ _ => rfl)))
      (pss_cons (ps_if (PW.pt (pw_and (pt_cmpR op_eq (pv 3) pe_int (nomark _)) (pw_and1 (pt_cmpR op_ne (pv 4) pe_int (nomark _))))) (pss_one (ps_ret (pe_op op_add_str (pe_op op_add_str (pv 7) pe_str) (pv 6)))) pss_nil)
      (pss_cons (ps_if (pt_cmpR op_eq (pv 7) pe_str (nomark _)) (pss_one (ps_ret pe_str)) pss_nil)
      (pss_one (ps_ret (pv 7))))))))))))))), ?_⟩
  have hZ := W.len
  have hZ0 := W.pos
  have e63 : sizeLine = 16777216 := sizeLine_eq
  have gx : ∀ v ∈ nmV ns, ∃ x, v = V.str (S x) ∧ isNm x = true := fun v hv => by
    obtain ⟨n, hn, rfl⟩ := List.mem_map.mp hv
    exact ⟨n, rfl, gns n hn⟩
  have nl : (nmV ns).length = 6 := by rw [nmV_len, h6]
  refine ⟨_, rfl, .inl ⟨_, rfl, _, _, rfl, rfl, (show (0 : Int) < _ by decide), ?_⟩⟩
  refine ⟨_, rfl, _, _, rfl, rfl, ⟨by decide, by decide⟩, ?_⟩
  obtain ⟨v, hv, x, rfl, hx⟩ := pick_at (d := dr / 16 / 64) (m := 6) gx nl (by decide)
  refine ⟨_, rfl, _, rfl, _, _, rfl, rfl, ⟨by decide, by decide⟩, .inl ⟨_, rfl, _, _, rfl, rfl, (show (0 : Int) < _ by decide), q, _, _, _, rfl, rfl, SqL.of hq, hv, ?_⟩⟩
  -- a node's path
  have rows : ∀ u ∈ l.la.map V.ref, ∃ rx ry n, u = V.ref rx ∧ n ∈ Z ∧ H rx = some (.lst (rowV ry n)) := fun u hu => by
    obtain ⟨rx, hrx, rfl⟩ := List.mem_map.mp hu
    obtain ⟨i, hi⟩ := List.getElem?_of_mem hrx
    have hil : i < Z.length := by
      rw [← L.lla]
      exact (List.getElem?_eq_some_iff.mp hi).1
    obtain ⟨n, hn⟩ : ∃ n, Z[i]? = some n := ⟨_, List.getElem?_eq_getElem hil⟩
    obtain ⟨rx', ry, hrx', hry, hrow, _⟩ := L.at hn
    rw [hi] at hrx'
    cases hrx'
    exact ⟨rx, ry, n, rfl, List.mem_of_getElem? hn, hrow⟩
  have ll : (l.la.map V.ref).length = Z.length := by rw [List.length_map, L.lla]
  obtain ⟨v0, hv0, rx, ry, n, rfl, hnz, hrow⟩ := pick_at (d := dr / 16) (m := Z.length) rows ll hZ0
  have gn := W.good n hnz
  have hlen : ((l.la.map V.ref).length : Int) = (Z.length : Int) := by rw [ll]
  refine ⟨_, rfl, _, rfl, .inl ⟨_, rfl, _, rfl, l.a, _, rfl, .inl (SqL.of L.top), _, _, rfl, rfl, by show (0 : Int) < ((l.la.map V.ref).length : Int); omega, l.a, _, _, _, rfl, rfl, SqL.of L.top, by rw [hlen]; exact hv0, rx, _, _, _, rfl, rfl, SqL.of hrow, atI_nat (j := 1) rfl, ?_⟩⟩
  have hb := ts_path gn.1 gn.2
  have hn := ts_name hx
  -- crooked
  refine ⟨_, rfl, rfl, _, rfl, iteB (fun h1 => ?_) (fun h1 => ?_)⟩
  · exact ⟨_, rfl, _, rfl, _, rfl, _, _, rfl, rfl, ⟨by decide, by decide⟩, n.path, x, _, rfl, rfl, rfl, gn.1, gn.2, hx, k⟩
  -- names after names
  refine ⟨_, rfl, rfl, _, rfl, iteB (fun h2 => ?_) (fun h2 => ?_)⟩
  · have hle : ((1 : Int) + dr / 16 / 384 % 6).toNat ≤ 6 := by omega
    have hlo : (1 : Int) + dr / 16 / 384 % 6 < 2 ^ 62 := by omega
    have hlo2 : -(2 ^ 62) ≤ (1 : Int) + dr / 16 / 384 % 6 := by omega
    refine ⟨_, rfl, _, _, rfl, rfl, ⟨by decide, by decide⟩, .inl ⟨_, rfl, _, _, rfl, rfl, (show (0 : Int) < _ by decide), _, _, rfl, rfl, _, rfl, hlo2, hlo, ?_⟩⟩
    refine for_range (lo := 0) (n := ((1 : Int) + dr / 16 / 384 % 6).toNat) (fun i σ H2 => ∃ (o9 : Option V) (r : Int) (ms : List Nm) (o4 o6 o7 : Option V), σ = [some (.ref l.a), some (.ref q), some (.int dr), some (.int wa), o4, some (.int r), o6, o7, some (.str (S (pcat ms))), o9, none, none] ∧ H2 = H ∧ Good ms ∧ ms.length = i) ⟨_, _, [], _, _, _, rfl, rfl, fun _ z => (nomatch z), rfl⟩ ?_ ?_
    · rintro i σ H2 hi ⟨o9, r, ms, o4, o6, o7, rfl, rfl, gms, hms⟩
      obtain ⟨v2, hv2, x2, rfl, hx2⟩ := pick_at (d := r / 2304) (m := 6) gx nl (by decide)
      have hp := ts_path gms (by omega)
      refine ⟨_, rfl, _, _, rfl, rfl, TSn.fit hp t_sl (by decide), ?_⟩
      refine ⟨_, rfl, _, rfl, _, _, rfl, rfl, ⟨by decide, by decide⟩, .inl ⟨_, rfl, _, _, rfl, rfl, (show (0 : Int) < _ by decide), q, _, _, _, rfl, rfl, SqL.of hq, hv2, _, _, rfl, rfl, TSn.fit (TSn.app hp t_sl) (ts_name hx2) (by decide), ?_⟩⟩
      have ep : S (pcat ms) ++ ("/" : Str) ++ S x2 = S (pcat (ms ++ [x2])) := by
        rw [lSl, S_cat, S_cat, pcat_app, pcat_one, List.append_assoc] <;> rfl
      rw [ep]
      refine ⟨_, rfl, _, _, rfl, rfl, ⟨by decide, by decide⟩, ?_⟩
      exact ⟨_, _, ms ++ [x2], _, _, _, rfl, rfl, gms.app1 hx2, by rw [List.length_append, List.length_singleton, hms]⟩
    · rintro σ H2 ⟨o9, r, ms, o4, o6, o7, rfl, rfl, gms, hms⟩
      exact ⟨_, rfl, k _ _ (tSh_path gms (by omega)) (Same.refl _)⟩
  -- two names below
  refine ⟨_, rfl, rfl, _, rfl, iteB (fun h3 => ?_) (fun h3 => ?_)⟩
  · obtain ⟨v2, hv2, x2, rfl, hx2⟩ := pick_at (d := dr / 16 / 384) (m := 6) gx nl (by decide)
    refine ⟨_, rfl, _, _, rfl, rfl, TSn.fit hb t_sl (by decide), _, rfl, _, _, rfl, rfl, TSn.fit (TSn.app hb t_sl) hn (by decide), _, _, rfl, rfl, TSn.fit (TSn.app (TSn.app hb t_sl) hn) t_sl (by decide), ?_⟩
    refine ⟨_, rfl, _, rfl, _, _, rfl, rfl, ⟨by decide, by decide⟩, .inl ⟨_, rfl, _, _, rfl, rfl, (show (0 : Int) < _ by decide), q, _, _, _, rfl, rfl, SqL.of hq, hv2, _, _, rfl, rfl, TSn.fit (TSn.app (TSn.app (TSn.app hb t_sl) hn) t_sl) (ts_name hx2) (by decide), ?_⟩⟩
    obtain ⟨y, ey, hy⟩ := (TSn.app (TSn.app (TSn.app (TSn.app hb t_sl) hn) t_sl) (ts_name hx2)).ok (by decide)
    have := k y H hy (Same.refl H)
    rw [← ey] at this
    exact this
  -- the picked
  refine ⟨_, rfl, l.a, rfl, ⟨_, SqL.of L.top⟩, fun D hD => ?_⟩
  have s0 : ∀ o, Same H (upd H D o) := fun o => same_new hD
  have row_at : ∀ (i : Nat) (u : V), (l.la.map V.ref)[i]? = some u → ∃ rx ry n, u = V.ref rx ∧ Z[i]? = some n ∧ H rx = some (.lst (rowV ry n)) := fun i u hu => by
    obtain ⟨rx, hrx, rfl⟩ := map_at hu
    have hil : i < Z.length := by
      rw [← L.lla]
      exact (List.getElem?_eq_some_iff.mp hrx).1
    obtain ⟨n, hn⟩ : ∃ n, Z[i]? = some n := ⟨_, List.getElem?_eq_getElem hil⟩
    obtain ⟨rx', ry, hrx', hry, hrow, _⟩ := L.at hn
    rw [hrx] at hrx'
    cases hrx'
    exact ⟨rx, ry, n, rfl, hn, hrow⟩
  refine lc_list (K := K) (a := l.a) (xs := l.la.map V.ref) (fun i H2 => ∃ ps : List Nd, H2 = upd H D (.lst (nmV (pths ps))) ∧ (∀ m ∈ ps, m ∈ Z) ∧ ps.length ≤ i) ⟨[], rfl, fun _ z => (nomatch z), Nat.le_refl 0⟩ (fun i H2 _ ⟨_, e, _⟩ => by rw [e]; exact SqL.of (s0 _ _ _ L.top)) ?_ ?_
  · rintro i u H2 hu ⟨ps, rfl, hps, hpl⟩
    obtain ⟨rx2, ry2, n2, rfl, hn2, hrow2⟩ := row_at i u hu
    have hil := (List.getElem?_eq_some_iff.mp hn2).1
    refine ⟨rfl, ?_⟩
    refine ⟨_, rfl, rx2, _, _, _, rfl, rfl, SqL.of (s0 _ _ _ hrow2), atI_nat (j := 0) rfl, _, rfl, rfl, .inr ⟨_, rfl, rfl, _, rfl, iteB (fun h4 => ?_) (fun h4 => ⟨ps, rfl, hps, by omega⟩)⟩⟩
    refine ⟨_, rfl, rx2, _, _, _, rfl, rfl, SqL.of (s0 _ _ _ hrow2), atI_nat (j := 1) rfl, _, upd_same, sm63 (by rw [nmV_len]; unfold pths; rw [List.length_map]; omega), ps ++ [n2], ?_, all_snoc hps (List.mem_of_getElem? hn2), by rw [List.length_append, List.length_singleton]; omega⟩
    rw [upd_upd]
    unfold pths
    rw [List.map_append, nmV_app] <;> rfl
  rintro H2 ⟨ps, rfl, hps, hpl⟩
  have okps : ∀ ps : List Nd, (∀ m ∈ ps, m ∈ Z) → ∀ t ∈ pths ps, ∀ c ∈ t, okC c := fun ps h t ht => by
    obtain ⟨m, hm, rfl⟩ := List.mem_map.mp ht
    exact okC_path (W.good m (h m hm)).1
  have pl : ∀ ps : List Nd, (pths ps).length = ps.length := fun ps => List.length_map _
  -- if nothing is picked, all are
  refine ⟨fun σ' H' => ∃ (D' : Addr) (ms : List Nd) (o11 : Option V), σ' = [some (.ref l.a), some (.ref q), some (.int dr), some (.int wa), some (.int (dr % 16)), some (.int (dr / 16)), some (.str (S x)), some (.str (S (pcat n.path))), none, none, some (.ref D'), o11] ∧ Same H H' ∧ H' D' = some (.lst (nmV (pths ms))) ∧ (∀ m ∈ ms, m ∈ Z) ∧ 0 < ms.length ∧ ms.length ≤ 64, ?_, ?_⟩
  · refine ⟨_, rfl, sm64 (by show 0 ≤ 10000; decide), fun p0 hp0 => ?_⟩
    have n0 : D ≠ p0 := ne_of_none upd_same hp0
    have s2 := (s0 (.lst (nmV (pths ps)))).trans (same_new (o := .lst []) hp0)
    refine ⟨_, _, dp_nm (p := pths ps) (by rw [upd_ne n0]; exact upd_same), dp_nm (p := []) upd_same, shaped_tx (okps ps hps), shaped_nm (fun _ z => (nomatch z)), _, rfl, ?_⟩
    rw [eqv_nm]
    -- the second comprehension
    have second : ∀ (H3 : Hp) (σ3 : L2.St), σ3 = [some (V.ref l.a), some (.ref q), some (.int dr), some (.int wa), some (.int (dr % 16)), some (.int (dr / 16)), some (.str (S x)), some (.str (S (pcat n.path))), none, none, some (.ref D), none] → Same H H3 → ∀ D2, H3 D2 = none → ∀ H4, H4 = upd H3 D2 (.lst (nmV (pths Z))) →
        ∃ (D' : Addr) (ms : List Nd) (o11 : Option V), σ3.set 10 (some (V.ref D2)) = [some (.ref l.a), some (.ref q), some (.int dr), some (.int wa), some (.int (dr % 16)), some (.int (dr / 16)), some (.str (S x)), some (.str (S (pcat n.path))), none, none, some (.ref D'), o11] ∧ Same H H4 ∧ H4 D' = some (.lst (nmV (pths ms))) ∧ (∀ m ∈ ms, m ∈ Z) ∧ 0 < ms.length ∧ ms.length ≤ 64 := by
      rintro H3 σ3 rfl s3 D2 hD2 H4 rfl
      exact ⟨D2, Z, _, rfl, s3.trans (same_new hD2), upd_same, fun _ h => h, hZ0, hZ⟩
    refine iteB (fun h5 => iteT ?_) (fun h5 => ?_)
    · refine ⟨_, rfl, l.a, rfl, ⟨_, SqL.of (s2 _ _ L.top)⟩, fun D2 hD2 => ?_⟩
      have s3 : ∀ o, Same H (upd (upd (upd H D (.lst (nmV (pths ps)))) p0 (.lst [])) D2 o) := fun o => s2.trans (same_new hD2)
      refine lc_list (K := K) (a := l.a) (xs := l.la.map V.ref) (fun i H3 => H3 = upd (upd (upd H D (.lst (nmV (pths ps)))) p0 (.lst [])) D2 (.lst (nmV (pths (Z.take i))))) (by rw [List.take_zero] <;> rfl) (fun i H3 _ e => by rw [e]; exact SqL.of (s3 _ _ _ L.top)) ?_ ?_
      · rintro i u H3 hu rfl
        obtain ⟨rx2, ry2, n2, rfl, hn2, hrow2⟩ := row_at i u hu
        refine ⟨rfl, ?_⟩
        refine ⟨_, rfl, rx2, _, _, _, rfl, rfl, SqL.of (s3 _ _ _ hrow2), atI_nat (j := 1) rfl, _, upd_same, sm63 (by rw [nmV_len, pl, List.length_take]; omega), ?_⟩
        rw [upd_upd, List.take_add_one, hn2]
        unfold pths
        rw [List.map_append, nmV_app] <;> rfl
      · rintro H3 rfl
        rw [ll, List.take_length]
        exact second _ _ rfl s2 D2 hD2 _ rfl
    · refine ⟨_, rfl, rfl, _, rfl, iteB (fun h6' => iteT ?_) (fun h6' => ?_)⟩
      · refine ⟨_, rfl, l.a, rfl, ⟨_, SqL.of (s2 _ _ L.top)⟩, fun D2 hD2 => ?_⟩
        have s3 : ∀ o, Same H (upd (upd (upd H D (.lst (nmV (pths ps)))) p0 (.lst [])) D2 o) := fun o => s2.trans (same_new hD2)
        refine lc_list (K := K) (a := l.a) (xs := l.la.map V.ref) (fun i H3 => H3 = upd (upd (upd H D (.lst (nmV (pths ps)))) p0 (.lst [])) D2 (.lst (nmV (pths (Z.take i))))) (by rw [List.take_zero] <;> rfl) (fun i H3 _ e => by rw [e]; exact SqL.of (s3 _ _ _ L.top)) ?_ ?_
        · rintro i u H3 hu rfl
          obtain ⟨rx2, ry2, n2, rfl, hn2, hrow2⟩ := row_at i u hu
          refine ⟨rfl, ?_⟩
          refine ⟨_, rfl, rx2, _, _, _, rfl, rfl, SqL.of (s3 _ _ _ hrow2), atI_nat (j := 1) rfl, _, upd_same, sm63 (by rw [nmV_len, pl, List.length_take]; omega), ?_⟩
          rw [upd_upd, List.take_add_one, hn2]
          unfold pths
          rw [List.map_append, nmV_app] <;> rfl
        · rintro H3 rfl
          rw [ll, List.take_length]
          exact second _ _ rfl s2 D2 hD2 _ rfl
      · refine ⟨_, rfl, rfl, _, rfl, iteB (fun h7 => ?_) (fun h7 => ?_)⟩
        · refine ⟨_, rfl, l.a, rfl, ⟨_, SqL.of (s2 _ _ L.top)⟩, fun D2 hD2 => ?_⟩
          have s3 : ∀ o, Same H (upd (upd (upd H D (.lst (nmV (pths ps)))) p0 (.lst [])) D2 o) := fun o => s2.trans (same_new hD2)
          refine lc_list (K := K) (a := l.a) (xs := l.la.map V.ref) (fun i H3 => H3 = upd (upd (upd H D (.lst (nmV (pths ps)))) p0 (.lst [])) D2 (.lst (nmV (pths (Z.take i))))) (by rw [List.take_zero] <;> rfl) (fun i H3 _ e => by rw [e]; exact SqL.of (s3 _ _ _ L.top)) ?_ ?_
          · rintro i u H3 hu rfl
            obtain ⟨rx2, ry2, n2, rfl, hn2, hrow2⟩ := row_at i u hu
            refine ⟨rfl, ?_⟩
            refine ⟨_, rfl, rx2, _, _, _, rfl, rfl, SqL.of (s3 _ _ _ hrow2), atI_nat (j := 1) rfl, _, upd_same, sm63 (by rw [nmV_len, pl, List.length_take]; omega), ?_⟩
            rw [upd_upd, List.take_add_one, hn2]
            unfold pths
            rw [List.map_append, nmV_app] <;> rfl
          · rintro H3 rfl
            rw [ll, List.take_length]
            exact second _ _ rfl s2 D2 hD2 _ rfl
        · have hne : pths ps ≠ [] := of_decide_eq_false h5
          have : ps.length ≠ 0 := fun z => hne (List.length_eq_zero_iff.mp (by rw [pl]; exact z))
          rw [ll] at hpl
          exact ⟨D, ps, _, rfl, s2, by rw [upd_ne n0]; exact upd_same, hps, by omega, by omega⟩
  rintro σ' H' ⟨D', ms, o11, rfl, s', hD', hms, hm0, hm64⟩
  have gms : ∀ v ∈ nmV (pths ms), ∃ m ∈ Z, v = V.str (S (pcat m.path)) := fun v hv => by
    obtain ⟨t, ht, rfl⟩ := List.mem_map.mp hv
    obtain ⟨m, hm, rfl⟩ := List.mem_map.mp ht
    exact ⟨m, hms m hm, rfl⟩
  have lm : (nmV (pths ms)).length = ms.length := by rw [nmV_len, pl]
  obtain ⟨v2, hv2, m2, hm2, rfl⟩ := pick_at (d := dr / 16) (m := ms.length) gms lm hm0
  have g2 := W.good m2 hm2
  have hb2 := ts_path g2.1 g2.2
  have hlen2 : ((nmV (pths ms)).length : Int) = (ms.length : Int) := by rw [lm]
  refine ⟨_, rfl, _, rfl, .inl ⟨_, rfl, _, rfl, D', _, rfl, .inl (SqL.of hD'), _, _, rfl, rfl, by show (0 : Int) < ((nmV (pths ms)).length : Int); omega, D', _, _, _, rfl, rfl, SqL.of hD', by rw [hlen2]; exact hv2, ?_⟩⟩
  have below : ∃ v, [some (V.ref l.a), some (.ref q), some (.int dr), some (.int wa), some (.int (dr % 16)), some (.int (dr / 16)), some (.str (S x)), some (.str (S (pcat m2.path))), none, none, some (.ref D'), o11][7]? = some (some v) ∧ ∃ i j, v = V.str i ∧ V.str "/" = V.str j ∧ i.length + j.length ≤ sizeLine ∧ ∃ v2, [some (V.ref l.a), some (.ref q), some (.int dr), some (.int wa), some (.int (dr % 16)), some (.int (dr / 16)), some (.str (S x)), some (.str (S (pcat m2.path))), none, none, some (.ref D'), o11][6]? = some (some v2) ∧ ∃ i2 j2, V.str (i ++ j) = V.str i2 ∧ v2 = V.str j2 ∧ i2.length + j2.length ≤ sizeLine ∧ Q (.str (i2 ++ j2)) H' := by
    refine ⟨_, rfl, _, _, rfl, rfl, TSn.fit hb2 t_sl (by decide), _, rfl, _, _, rfl, rfl, TSn.fit (TSn.app hb2 t_sl) hn (by decide), ?_⟩
    obtain ⟨y, ey, hy⟩ := (TSn.app (TSn.app hb2 t_sl) hn).ok (by decide)
    have := k y H' hy s'
    rw [← ey] at this
    exact this
  have rest : ∀ {A : Prop}, (Q (.str "/") H' → (¬ S (pcat m2.path) = "" → Q (.str (S (pcat m2.path))) H') → A) → A := fun f => f (by rw [lSl]; exact k [47] H' ⟨by decide, by decide⟩ s') fun _ => k _ H' (tSh_path g2.1 g2.2) s'
  have last : ∃ v, [some (V.ref l.a), some (.ref q), some (.int dr), some (.int wa), some (.int (dr % 16)), some (.int (dr / 16)), some (.str (S x)), some (.str (S (pcat m2.path))), none, none, some (.ref D'), o11][7]? = some (some v) ∧ scal v (.str "") = true ∧ ∃ c, V.bl (decide (v = V.str "")) = .bl c ∧ if c = true then Q (.str "/") H' else ∃ v2, [some (V.ref l.a), some (.ref q), some (.int dr), some (.int wa), some (.int (dr % 16)), some (.int (dr / 16)), some (.str (S x)), some (.str (S (pcat m2.path))), none, none, some (.ref D'), o11][7]? = some (some v2) ∧ Q v2 H' := by
    refine ⟨_, rfl, rfl, _, rfl, iteB (fun _ => ?_) (fun _ => ⟨_, rfl, k _ H' (tSh_path g2.1 g2.2) s'⟩)⟩
    rw [lSl]
    exact k [47] H' ⟨by decide, by decide⟩ s'
  refine ⟨_, rfl, rfl, _, rfl, iteB (fun h8 => ?_) (fun h8 => iteF last)⟩
  exact ⟨_, rfl, rfl, _, rfl, iteB (fun h9 => below) (fun h9 => last)⟩
end
end Ah
/-! The law's odd, deed, query, fill. -/
namespace Ah
open PySem PySem.Spec PyProof.Rows L2 He SX
/-- a deed without form, laid -/
def OddAt (H : Hp) (v : V) : Prop := ∃ (a : Addr) (l : List It), v = .ref a ∧ Odd l ∧ H a = some (.tup (l.map itmV))
theorem stepO {H : Hp} {vs us : List V} {t : Addr} {l : List It} (A : ∀ v ∈ vs, OddAt H v) (ht : H t = none) (e : us = l.map itmV) (h : Odd l) : ∀ v ∈ vs ++ [.ref t], OddAt (upd H t (.tup us)) v := fun v hv => by
  rcases List.mem_append.mp hv with hv | hv
  · obtain ⟨a, l', e1, h1, h2⟩ := A v hv
    exact ⟨a, l', e1, h1, same_new ht _ _ h2⟩
  · rw [List.mem_singleton.mp hv]
    exact ⟨t, l, rfl, h, by rw [upd_same, e]⟩
theorem keepO {H H' : Hp} {vs : List V} (A : ∀ v ∈ vs, OddAt H v) (s : Same H H') : ∀ v ∈ vs, OddAt H' v := fun v hv => by
  obtain ⟨a, l', e1, h1, h2⟩ := A v hv
  exact ⟨a, l', e1, h1, s _ _ h2⟩
theorem at_new {H : Hp} {p : Addr} {o : HO} (h : H p = none) : (upd H p o) p = some o := upd_same
theorem l5 : ("5" : Str) = S [53] := by decide +kernel
theorem lX : ("x" : Str) = S cX := lw_x
section
variable {P : Program} {w : World} {K : PySem.W.Frag} {mg : Str → Option Value} {base : Heap}
def P__law_odd (K : PySem.W.Frag) (a b : V) (H : Hp) (Q : VK) : Prop := ∃ (x : Nm) (d : Int), a = .str (S x) ∧ b = .int d ∧ tOk x ∧ ∀ t l H', Odd l → Same H H' → H' t = some (.tup (l.map itmV)) → Q (.ref t) H'
abbrev N__law_odd : List Str := ["_law_path", "_law_draw_here", "_law_rows"]
theorem sc__law_odd : FnScope N__law_odd ["_law_path", "_law_draw_here"] (defScope s_law_odd) := ⟨rfl, rfl, rfl, by decide +kernel, rfl, by decide +kernel, by decide +kernel⟩
theorem ok__law_odd (T : Tx w K mg) : Cal P w K mg base 1 (fAd K ("_law_odd", none)) (Sp2 (P__law_odd K)) := by
  refine mk2 (k := 0) T.fd_law_odd sc__law_odd (fun _ _ _ _ _ _ _ _  => rfl) fun cdv A outer s H E va vb Q hr h => ?_
  have hu := hu_of hr
  obtain ⟨x, d, rfl, rfl, hx, k⟩ := h
  refine ⟨_, (pss_cons (ps_set (i := 2) sc__law_odd.nd rfl (Or.inl rfl) (pe_lst (pa_cons (pe_tup (pa_cons pe_str pa_nil)) (pa_cons (pe_tup (pa_cons pe_str (pa_cons (pv 0) (pa_cons (pv 0) pa_nil)))) (pa_cons (pe_tup (pa_cons pe_str (pa_cons (pv 0) pa_nil))) (pa_cons (pe_tup (pa_cons pe_str (pa_cons (pv 0) (pa_cons pe_int pa_nil)))) (pa_cons (pe_tup (pa_cons pe_str (pa_cons pe_int (pa_cons pe_str pa_nil)))) pa_nil)))))))
      (pss_cons (ps_set (i := 2) sc__law_odd.nd rfl (Or.inl rfl) (pe_op op_cat (pv 2) (pe_lst (pa_cons (pe_tup (pa_cons pe_str (pa_cons (pv 0) (pa_cons pe_str pa_nil)))) (pa_cons (pe_tup (pa_cons pe_str (pa_cons (pv 0) (pa_cons (pe_un un_neg pe_int) pa_nil)))) (pa_cons (pe_tup (pa_cons pe_str (pa_cons (pv 0) pa_nil))) (pa_cons (pe_tup (pa_cons pe_str (pa_cons (pv 0) pa_nil))) (pa_cons (pe_tup (pa_cons pe_str (pa_cons (pv 0) (pa_cons pe_int pa_nil)))) pa_nil))))))))
      (pss_cons (ps_set (i := 2) sc__law_odd.nd rfl (Or.inl rfl) (pe_op op_cat (pv 2) (pe_lst (pa_cons (pe_tup (pa_cons pe_str (pa_cons (pv 0) (pa_cons pe_str pa_nil)))) (pa_cons (pe_tup (pa_cons pe_str (pa_cons (pv 0) pa_nil))) (pa_cons (pe_tup (pa_cons pe_str (pa_cons (pv 0) pa_nil))) (pa_cons (pe_tup (pa_cons pe_str pa_nil)) (pa_cons (pe_tup (pa_cons pe_str (pa_cons (pv 0) (pa_cons (pv 0) (pa_cons (pv 0) pa_nil))))) pa_nil))))))))
      (pss_cons (ps_set (i := 2) sc__law_odd.nd rfl (Or.inl rfl) (pe_op op_cat (pv 2) (pe_lst (pa_cons (pe_tup (pa_cons pe_str (pa_cons pe_int pa_nil))) (pa_cons (pe_tup (pa_cons pe_str (pa_cons pe_int pa_nil))) (pa_cons (pe_tup (pa_cons pe_str (pa_cons pe_int (pa_cons pe_int pa_nil)))) (pa_cons (pe_tup (pa_cons pe_str (pa_cons pe_str (pa_cons (pe_op op_sub (pe_un un_neg pe_int) (pe_op op_mod (pe_callTy call_int1 (by rfl) T.f_int (by decide +kernel) (pa_cons (pe_op op_fdiv (pv 1) pe_int) pa_nil)) (pe_op op_pow pe_int pe_int))) pa_nil)))) pa_nil)))))))
      (pss_one (ps_ret (pe_ix ix_list (pv 2) (pe_op op_mod (pe_callTy call_int1 (by rfl) T.f_int (by decide +kernel) (pa_cons (pv 1) pa_nil)) pe_int) (fun _ _ => rfl)))))))), ?_⟩
  dsimp only [cxOf, Cx.nox]
  have hpow : CPow 10 18 := ⟨by decide, by decide, by decide⟩
  have A0 : ∀ v ∈ ([] : List V), OddAt H v := fun v hv => (nomatch hv)
  have S0 : Same H H := Same.refl H
  have h2 := Int.emod_lt_of_pos (d / 20) (show (0 : Int) < (10 : Int) ^ (18 : Int).toNat by decide)
  have h3 := Int.emod_nonneg (d / 20) (show (10 : Int) ^ (18 : Int).toNat ≠ 0 by decide)
  have hneg : -1 - (d / 20) % (10 : Int) ^ (18 : Int).toNat < 0 := by omega
  have hio : iOk (-1 - (d / 20) % (10 : Int) ^ (18 : Int).toNat) := by
    have e : (10 : Int) ^ (18 : Int).toNat = 10 ^ 18 := rfl
    rw [e] at h2 h3 ⊢
    exact ⟨by omega, by omega⟩
  refine ⟨sm64 (by show 1 ≤ 10000; decide), fun t1 ht1 => ?_⟩
  have N1 := same_new (o := .tup [.str "mkdir"]) ht1
  have A1 := stepO (us := [.str "mkdir"]) (l := [.s cMkdir]) A0 ht1 (by rw [lw_mkdir] <;> rfl) (.w1 cMkdir (.inl rfl))
  have S1 := S0.trans N1
  refine ⟨_, rfl, _, rfl, sm64 (by show 3 ≤ 10000; decide), fun t2 ht2 => ?_⟩
  have N2 := same_new (o := .tup [.str "create", .str (S x), .str (S x)]) ht2
  have A2 := stepO (us := [.str "create", .str (S x), .str (S x)]) (l := [.s cCreate, .s x, .s x]) A1 ht2 (by rw [lw_create] <;> rfl) (.create x)
  have S2 := S1.trans N2
  refine ⟨_, rfl, sm64 (by show 2 ≤ 10000; decide), fun t3 ht3 => ?_⟩
  have N3 := same_new (o := .tup [.str "append", .str (S x)]) ht3
  have A3 := stepO (us := [.str "append", .str (S x)]) (l := [.s cAppend, .s x]) A2 ht3 (by rw [lw_append] <;> rfl) (.append2 x)
  have S3 := S2.trans N3
  refine ⟨_, rfl, sm64 (by show 3 ≤ 10000; decide), fun t4 ht4 => ?_⟩
  have N4 := same_new (o := .tup [.str "append", .str (S x), .int (5)]) ht4
  have A4 := stepO (us := [.str "append", .str (S x), .int (5)]) (l := [.s cAppend, .s x, .i (5)]) A3 ht4 (by rw [lw_append] <;> rfl) (.append3 x 5 hx)
  have S4 := S3.trans N4
  refine ⟨sm64 (by show 3 ≤ 10000; decide), fun t5 ht5 => ?_⟩
  have N5 := same_new (o := .tup [.str "append", .int (5), .str "x"]) ht5
  have A5 := stepO (us := [.str "append", .int (5), .str "x"]) (l := [.s cAppend, .i (5), .s cX]) A4 ht5 (by rw [lw_append, lX] <;> rfl) (.appendI 5 cX)
  have S5 := S4.trans N5
  refine ⟨sm64 (by show 5 ≤ 10000; decide), fun p0 hp0 => ?_⟩
  have M0 := same_new (o := .lst [.ref t1, .ref t2, .ref t3, .ref t4, .ref t5]) hp0
  have B0 := keepO A5 M0
  have T0 := S5.trans M0
  have q0 := at_new (o := .lst [.ref t1, .ref t2, .ref t3, .ref t4, .ref t5]) hp0
  refine ⟨_, rfl, _, rfl, sm64 (by show 3 ≤ 10000; decide), fun t6 ht6 => ?_⟩
  have N6 := same_new (o := .tup [.str "limit", .str (S x), .str "5"]) ht6
  have A6 := stepO (us := [.str "limit", .str (S x), .str "5"]) (l := [.s cLimit, .s x, .s [53]]) B0 ht6 (by rw [lw_limit, l5] <;> rfl) (.limitS x [53] hx)
  have S6 := T0.trans N6
  have q6 := N6 _ _ q0
  refine ⟨_, rfl, _, rfl, sm64 (by show 3 ≤ 10000; decide), fun t7 ht7 => ?_⟩
  have N7 := same_new (o := .tup [.str "limit", .str (S x), .int (-1)]) ht7
  have A7 := stepO (us := [.str "limit", .str (S x), .int (-1)]) (l := [.s cLimit, .s x, .i (-1)]) A6 ht7 (by rw [lw_limit] <;> rfl) (.limitN x (-1) hx (by decide) ⟨by decide, by decide⟩)
  have S7 := S6.trans N7
  have q7 := N7 _ _ q6
  refine ⟨_, rfl, sm64 (by show 2 ≤ 10000; decide), fun t8 ht8 => ?_⟩
  have N8 := same_new (o := .tup [.str "limit", .str (S x)]) ht8
  have A8 := stepO (us := [.str "limit", .str (S x)]) (l := [.s cLimit, .s x]) A7 ht8 (by rw [lw_limit] <;> rfl) (.limit2 x)
  have S8 := S7.trans N8
  have q8 := N8 _ _ q7
  refine ⟨_, rfl, sm64 (by show 2 ≤ 10000; decide), fun t9 ht9 => ?_⟩
  have N9 := same_new (o := .tup [.str "move", .str (S x)]) ht9
  have A9 := stepO (us := [.str "move", .str (S x)]) (l := [.s cMove, .s x]) A8 ht9 (by rw [lw_move] <;> rfl) (.move2 x)
  have S9 := S8.trans N9
  have q9 := N9 _ _ q8
  refine ⟨_, rfl, sm64 (by show 3 ≤ 10000; decide), fun t10 ht10 => ?_⟩
  have N10 := same_new (o := .tup [.str "move", .str (S x), .int (7)]) ht10
  have A10 := stepO (us := [.str "move", .str (S x), .int (7)]) (l := [.s cMove, .s x, .i (7)]) A9 ht10 (by rw [lw_move] <;> rfl) (.moveI x 7 hx)
  have S10 := S9.trans N10
  have q10 := N10 _ _ q9
  refine ⟨sm64 (by show 5 ≤ 10000; decide), fun p1 hp1 => ?_⟩
  have M1 := same_new (o := .lst [.ref t6, .ref t7, .ref t8, .ref t9, .ref t10]) hp1
  have B1 := keepO A10 M1
  have T1 := S10.trans M1
  have r1 := M1 _ _ q10
  refine ⟨_, p1, _, _, rfl, rfl, r1, at_new hp1, sm64 (by show 10 ≤ 10000; decide), fun c1 hc1 => ?_⟩
  have V1 := same_new (o := .lst [.ref t1, .ref t2, .ref t3, .ref t4, .ref t5, .ref t6, .ref t7, .ref t8, .ref t9, .ref t10]) hc1
  have D1 := keepO B1 V1
  have U1 := T1.trans V1
  have q_1 := at_new (o := .lst [.ref t1, .ref t2, .ref t3, .ref t4, .ref t5, .ref t6, .ref t7, .ref t8, .ref t9, .ref t10]) hc1
  refine ⟨_, rfl, _, rfl, sm64 (by show 3 ≤ 10000; decide), fun t11 ht11 => ?_⟩
  have N11 := same_new (o := .tup [.str "seal", .str (S x), .str ""]) ht11
  have A11 := stepO (us := [.str "seal", .str (S x), .str ""]) (l := [.s cSeal, .s x, .s []]) D1 ht11 (by rw [lw_seal, lEmp] <;> rfl) (.seal3 x [])
  have S11 := U1.trans N11
  have q11 := N11 _ _ q_1
  refine ⟨_, rfl, sm64 (by show 2 ≤ 10000; decide), fun t12 ht12 => ?_⟩
  have N12 := same_new (o := .tup [.str "remove", .str (S x)]) ht12
  have A12 := stepO (us := [.str "remove", .str (S x)]) (l := [.s cRemove, .s x]) A11 ht12 (by rw [lw_remove] <;> rfl) (.miss2 cRemove x (.inl rfl))
  have S12 := S11.trans N12
  have q12 := N12 _ _ q11
  refine ⟨_, rfl, sm64 (by show 2 ≤ 10000; decide), fun t13 ht13 => ?_⟩
  have N13 := same_new (o := .tup [.str "Mkdir", .str (S x)]) ht13
  have A13 := stepO (us := [.str "Mkdir", .str (S x)]) (l := [.s cMkdirU, .s x]) A12 ht13 (by rw [lw_Mkdir] <;> rfl) (.miss2 cMkdirU x (.inr rfl))
  have S13 := S12.trans N13
  have q13 := N13 _ _ q12
  refine ⟨sm64 (by show 1 ≤ 10000; decide), fun t14 ht14 => ?_⟩
  have N14 := same_new (o := .tup [.str "x"]) ht14
  have A14 := stepO (us := [.str "x"]) (l := [.s cX]) A13 ht14 (by rw [lw_x] <;> rfl) (.w1 cX (.inr rfl))
  have S14 := S13.trans N14
  have q14 := N14 _ _ q13
  refine ⟨_, rfl, _, rfl, _, rfl, sm64 (by show 4 ≤ 10000; decide), fun t15 ht15 => ?_⟩
  have N15 := same_new (o := .tup [.str "snapshot", .str (S x), .str (S x), .str (S x)]) ht15
  have A15 := stepO (us := [.str "snapshot", .str (S x), .str (S x), .str (S x)]) (l := [.s cSnapshot, .s x, .s x, .s x]) A14 ht15 (by rw [lw_snapshot] <;> rfl) (.snap4 x)
  have S15 := S14.trans N15
  have q15 := N15 _ _ q14
  refine ⟨sm64 (by show 5 ≤ 10000; decide), fun p2 hp2 => ?_⟩
  have M2 := same_new (o := .lst [.ref t11, .ref t12, .ref t13, .ref t14, .ref t15]) hp2
  have B2 := keepO A15 M2
  have T2 := S15.trans M2
  have r2 := M2 _ _ q15
  refine ⟨_, p2, _, _, rfl, rfl, r2, at_new hp2, sm64 (by show 15 ≤ 10000; decide), fun c2 hc2 => ?_⟩
  have V2 := same_new (o := .lst [.ref t1, .ref t2, .ref t3, .ref t4, .ref t5, .ref t6, .ref t7, .ref t8, .ref t9, .ref t10, .ref t11, .ref t12, .ref t13, .ref t14, .ref t15]) hc2
  have D2 := keepO B2 V2
  have U2 := T2.trans V2
  have q_2 := at_new (o := .lst [.ref t1, .ref t2, .ref t3, .ref t4, .ref t5, .ref t6, .ref t7, .ref t8, .ref t9, .ref t10, .ref t11, .ref t12, .ref t13, .ref t14, .ref t15]) hc2
  refine ⟨_, rfl, sm64 (by show 2 ≤ 10000; decide), fun t16 ht16 => ?_⟩
  have N16 := same_new (o := .tup [.str "content", .int (0)]) ht16
  have A16 := stepO (us := [.str "content", .int (0)]) (l := [.s cContent, .i (0)]) D2 ht16 (by rw [lw_content] <;> rfl) (.contentI 0)
  have S16 := U2.trans N16
  have q16 := N16 _ _ q_2
  refine ⟨sm64 (by show 2 ≤ 10000; decide), fun t17 ht17 => ?_⟩
  have N17 := same_new (o := .tup [.str "seal", .int (0)]) ht17
  have A17 := stepO (us := [.str "seal", .int (0)]) (l := [.s cSeal, .i (0)]) A16 ht17 (by rw [lw_seal] <;> rfl) (.sealI 0)
  have S17 := S16.trans N17
  have q17 := N17 _ _ q16
  refine ⟨sm64 (by show 3 ≤ 10000; decide), fun t18 ht18 => ?_⟩
  have N18 := same_new (o := .tup [.str "limit", .int (0), .int (0)]) ht18
  have A18 := stepO (us := [.str "limit", .int (0), .int (0)]) (l := [.s cLimit, .i (0), .i (0)]) A17 ht18 (by rw [lw_limit] <;> rfl) (.limitI 0 0)
  have S18 := S17.trans N18
  have q18 := N18 _ _ q17
  refine ⟨_, rfl, _, rfl, _, _, rfl, rfl, ⟨by decide, by decide⟩, .inl ⟨_, rfl, _, _, rfl, rfl, hpow, _, _, rfl, rfl, (show (0 : Int) < _ by decide), _, _, rfl, rfl, sm64 (by show 3 ≤ 10000; decide), fun t19 ht19 => ?_⟩⟩
  have N19 := same_new (o := .tup [.str "limit", .str "", .int (-1 - (d / 20) % (10 : Int) ^ (18 : Int).toNat)]) ht19
  have A19 := stepO (us := [.str "limit", .str "", .int (-1 - (d / 20) % (10 : Int) ^ (18 : Int).toNat)]) (l := [.s cLimit, .s [], .i (-1 - (d / 20) % (10 : Int) ^ (18 : Int).toNat)]) A18 ht19 (by rw [lw_limit, lEmp] <;> rfl) (.limitN [] _ ⟨by decide, fun c z => (nomatch z)⟩ hneg hio)
  have S19 := S18.trans N19
  have q19 := N19 _ _ q18
  refine ⟨sm64 (by show 4 ≤ 10000; decide), fun p3 hp3 => ?_⟩
  have M3 := same_new (o := .lst [.ref t16, .ref t17, .ref t18, .ref t19]) hp3
  have B3 := keepO A19 M3
  have T3 := S19.trans M3
  have r3 := M3 _ _ q19
  refine ⟨_, p3, _, _, rfl, rfl, r3, at_new hp3, sm64 (by show 19 ≤ 10000; decide), fun c3 hc3 => ?_⟩
  have V3 := same_new (o := .lst [.ref t1, .ref t2, .ref t3, .ref t4, .ref t5, .ref t6, .ref t7, .ref t8, .ref t9, .ref t10, .ref t11, .ref t12, .ref t13, .ref t14, .ref t15, .ref t16, .ref t17, .ref t18, .ref t19]) hc3
  have D3 := keepO B3 V3
  have U3 := T3.trans V3
  have q_3 := at_new (o := .lst [.ref t1, .ref t2, .ref t3, .ref t4, .ref t5, .ref t6, .ref t7, .ref t8, .ref t9, .ref t10, .ref t11, .ref t12, .ref t13, .ref t14, .ref t15, .ref t16, .ref t17, .ref t18, .ref t19]) hc3
  obtain ⟨v, hv, t, l, rfl, hl, hvt⟩ := pick_at (d := d) (m := 19) (xs := [.ref t1, .ref t2, .ref t3, .ref t4, .ref t5, .ref t6, .ref t7, .ref t8, .ref t9, .ref t10, .ref t11, .ref t12, .ref t13, .ref t14, .ref t15, .ref t16, .ref t17, .ref t18, .ref t19]) D3 rfl (by decide)
  exact ⟨_, rfl, _, rfl, .inl ⟨_, rfl, _, _, rfl, rfl, (show (0 : Int) < _ by decide), _, _, _, _, rfl, rfl, SqL.of upd_same, hv, k t l _ hl U3 hvt⟩⟩
end
end Ah
/-! The law's deed, query, fill. -/
namespace Ah
open PySem PySem.Spec PyProof.Rows L2 He SX
def dWords : List V := [.str "mkdir", .str "mkdir", .str "mkdir", .str "create", .str "create", .str "create", .str "append", .str "append", .str "append", .str "append", .str "append"]
def dWords2 : List V := [.str "seal", .str "move", .str "move", .str "move", .str "snapshot", .str "snapshot", .str "limit", .str "limit", .str "odd"]
def DW (v : V) : Prop := v = .str "mkdir" ∨ v = .str "create" ∨ v = .str "append" ∨ v = .str "seal" ∨ v = .str "move" ∨ v = .str "snapshot" ∨ v = .str "limit" ∨ v = .str "odd"
theorem dw_all : ∀ v ∈ dWords ++ dWords2, DW v := by
  have a : DW (.str "mkdir") := .inl rfl
  have b : DW (.str "create") := .inr (.inl rfl)
  have c : DW (.str "append") := .inr (.inr (.inl rfl))
  have d : DW (.str "seal") := .inr (.inr (.inr (.inl rfl)))
  have e : DW (.str "move") := .inr (.inr (.inr (.inr (.inl rfl))))
  have f : DW (.str "snapshot") := .inr (.inr (.inr (.inr (.inr (.inl rfl)))))
  have g : DW (.str "limit") := .inr (.inr (.inr (.inr (.inr (.inr (.inl rfl))))))
  have h : DW (.str "odd") := .inr (.inr (.inr (.inr (.inr (.inr (.inr rfl))))))
  exact alla (allc a (allc a (allc a (allc b (allc b (allc b (allc c (allc c (allc c (allc c (allc c alln))))))))))) (allc d (allc e (allc e (allc e (allc f (allc f (allc g (allc g (allc h alln)))))))))
section
variable {P : Program} {w : World} {K : PySem.W.Frag} {mg : Str → Option Value} {base : Heap}
def P__law_deed (K : PySem.W.Frag) (a b c d : V) (H : Hp) (Q : VK) : Prop := ∃ (l : Lg) (Z : Tr) (e : Nat) (q p : Addr) (ns : List Nm) (ds : List Int) (i : Nat), a = .ref l.a ∧ b = .ref q ∧ c = .ref p ∧ d = .int (i : Int) ∧ LawAt H l Z ∧ WF e Z ∧ H q = some (.lst (nmV ns)) ∧ Good ns ∧ ns.length = 6 ∧ H p = some (.lst (ds.map V.int)) ∧
  ∀ t en H', Ent.Ok en → Same H H' → H' t = some (.tup (en.its.map itmV)) → Q (.ref t) H'
abbrev N__law_deed : List Str := ["_law_nodes", "_law_names_here", "_law_draws", "_law_at", "_law_draw_here", "_law_words", "_law_word", "_law_first", "_law_second", "_law_old", "_law_new"]
theorem sc__law_deed : FnScope N__law_deed ["_law_nodes", "_law_names_here", "_law_draws", "_law_at"] (defScope s_law_deed) := ⟨rfl, rfl, rfl, by decide +kernel, rfl, by decide +kernel, by decide +kernel⟩
theorem ok__law_deed (T : Tx w K mg) : Cal P w K mg base 4 (fAd K ("_law_deed", none)) (Sp4 (P__law_deed K)) := by
  refine mk4 (k := 3) T.fd_law_deed sc__law_deed (fun _ _ _ _ _ _ _ _ _ _  => rfl) fun cdv A outer s H E va vb vc vd Q hr h => ?_
  have hu := hu_of hr
  obtain ⟨l, Z, e, q, p, ns, ds, i, rfl, rfl, rfl, rfl, L, W, hq, gns, h6, hp, k⟩ := h
  refine ⟨_, (pss_cons (ps_set (i := 4) sc__law_deed.nd rfl (Or.inl rfl) (pcall (ok__law_draw T) hr (by decide) rfl T.g__law_draw (pa_cons (pv 2) (pa_cons (pv 3) pa_nil))))
      (pss_cons (ps_set (i := 5) sc__law_deed.nd rfl (Or.inl rfl) (pe_lst (pa_cons pe_str (pa_cons pe_str (pa_cons pe_str (pa_cons pe_str (pa_cons pe_str (pa_cons pe_str (pa_cons pe_str (pa_cons pe_str (pa_cons pe_str (pa_cons pe_str (pa_cons pe_str pa_nil)))))))))))))
      (pss_cons (ps_set (i := 5) sc__law_deed.nd rfl (Or.inl rfl) (pe_op op_cat (pv 5) (pe_lst (pa_cons pe_str (pa_cons pe_str (pa_cons pe_str (pa_cons pe_str (pa_cons pe_str (pa_cons pe_str (pa_cons pe_str (pa_cons pe_str (pa_cons pe_str pa_nil))))))))))))
      (pss_cons (ps_set (i := 6) sc__law_deed.nd rfl (Or.inl rfl) (pe_ix ix_list (pv 5) (pe_op op_mod (pe_callTy call_int1 (by rfl) T.f_int (by decide +kernel) (pa_cons (pv 4) pa_nil)) pe_int) (fun _ _ => rfl)))
      (pss_cons (ps_set (i := 7) sc__law_deed.nd rfl (Or.inl rfl) (pcall (ok__law_draw T) hr (by decide) rfl T.g__law_draw (pa_cons (pv 2) (pa_cons (pe_op op_add (pv 3) pe_int) pa_nil))))
      (pss_cons (ps_set (i := 8) sc__law_deed.nd rfl (Or.inl rfl) (pcall (ok__law_draw T) hr (by decide) rfl T.g__law_draw (pa_cons (pv 2) (pa_cons (pe_op op_add (pv 3) pe_int) pa_nil))))
      (pss_cons (ps_if (PW.pt (pw_or (pt_cmpR op_eq (pv 6) pe_str (nomark _)) (pw_or1 (pt_cmpR op_eq (pv 6) pe_str (nomark _))))) (pss_one (ps_ret (pe_tup (pa_cons (pv 6) (pa_cons (pcall (ok__law_pick T) hr (by decide) rfl T.g__law_pick (pa_cons (pv 0) (pa_cons (pv 1) (pa_cons (pv 7) (pa_cons pe_int pa_nil))))) pa_nil))))) pss_nil)
      (pss_cons (ps_if (pt_cmpR op_eq (pv 6) pe_str (nomark _)) (pss_one (ps_ret (pe_tup (pa_cons (pv 6) (pa_cons (pcall (ok__law_pick T) hr (by decide) rfl T.g__law_pick (pa_cons (pv 0) (pa_cons (pv 1) (pa_cons (pv 7) (pa_cons pe_int pa_nil))))) (pa_cons (pcall (ok__law_text T) hr (by decide) rfl T.g__law_text (pa_cons (pv 8) pa_nil)) pa_nil)))))) pss_nil)
      (pss_cons (ps_if (pt_cmpR op_eq (pv 6) pe_str (nomark _)) (pss_one (ps_ret (pe_tup (pa_cons (pv 6) (pa_cons (pcall (ok__law_pick T) hr (by decide) rfl T.g__law_pick (pa_cons (pv 0) (pa_cons (pv 1) (pa_cons (pv 7) (pa_cons pe_int pa_nil))))) pa_nil))))) pss_nil)
      (pss_cons (ps_if (pt_cmpR op_eq (pv 6) pe_str (nomark _)) (pss_one (ps_ret (pe_tup (pa_cons (pv 6) (pa_cons (pcall (ok__law_pick T) hr (by decide) rfl T.g__law_pick (pa_cons (pv 0) (pa_cons (pv 1) (pa_cons (pv 7) (pa_cons pe_int pa_nil))))) (pa_cons (pcall (ok__law_most T) hr (by decide) rfl T.g__law_most (pa_cons (pv 8) pa_nil)) pa_nil)))))) pss_nil)
      (pss_cons (ps_if (pt_cmpR op_eq (pv 6) pe_str (nomark _)) (pss_one (ps_ret (pcall (ok__law_odd T) hr (by decide) rfl T.g__law_odd (pa_cons (pcall (ok__law_pick T) hr (by decide) rfl T.g__law_pick (pa_cons (pv 0) (pa_cons (pv 1) (pa_cons (pv 7) (pa_cons pe_int pa_nil))))) (pa_cons (pv 8) pa_nil))))) pss_nil)
      (pss_cons (ps_set (i := 9) sc__law_deed.nd rfl (Or.inl rfl) (pcall (ok__law_pick T) hr (by decide) rfl T.g__law_pick (pa_cons (pv 0) (pa_cons (pv 1) (pa_cons (pv 7) (pa_cons (pe_op op_add pe_int (pe_op op_mul pe_int (pe_callTy call_int1 (by rfl) T.f_int (by decide +kernel) (pa_cons (pe_cmpR op_eq (pv 6) pe_str (nomark _)) pa_nil)))) pa_nil))))))
      (pss_cons (ps_set (i := 10) sc__law_deed.nd rfl (Or.inl rfl) (pcall (ok__law_pick T) hr (by decide) rfl T.g__law_pick (pa_cons (pv 0) (pa_cons (pv 1) (pa_cons (pv 8) (pa_cons pe_int pa_nil))))))
      (C8.pss_cut (ps_if (pt_cmpR op_eq (pe_op op_mod (pe_callTy call_int1 (by rfl) T.f_int (by decide +kernel) (pa_cons (pe_op op_fdiv (pv 4) pe_int) pa_nil)) pe_int) pe_int (nomark _)) (pss_one (ps_set (i := 10) sc__law_deed.nd rfl (Or.inl rfl) (pe_op op_add_str (pe_op op_add_str (pv 9) pe_str) (pe_ix ix_list (pv 1) (pe_op op_mod (pe_callTy call_int1 (by rfl) T.f_int (by decide +kernel) (pa_cons (pe_op op_fdiv (pv 4) pe_int) pa_nil)) pe_int) (fun _ _ => rfl))))) pss_nil)
      (C8.pss_cut (ps_if (pt_cmpR op_eq (pe_op op_mod (pe_callTy call_int1 (by rfl) T.f_int (by decide +kernel) (pa_cons (pe_op op_fdiv (pv 4) pe_int) pa_nil)) pe_int) pe_int (nomark _)) (pss_one (ps_set (i := 10) sc__law_deed.nd rfl (Or.inl rfl) (pv 9))) pss_nil)
      (pss_one (ps_ret (pe_tup (pa_cons (pv 6) (pa_cons (pv 9) (pa_cons (pv 10) pa_nil))))))))))))))))))))), ?_⟩
  dsimp only [cxOf, Cx.nox]
  have gx : ∀ v ∈ nmV ns, ∃ x, v = V.str (S x) ∧ isNm x = true := fun v hv => by
    obtain ⟨n, hn, rfl⟩ := List.mem_map.mp hv
    exact ⟨n, rfl, gns n hn⟩
  have nl : (nmV ns).length = 6 := by rw [nmV_len, h6]
  refine ⟨_, rfl, _, rfl, p, ds, i, rfl, rfl, hp, fun d => ?_⟩
  refine ⟨sm64 (by show 11 ≤ 10000; decide), fun p0 hp0 => ?_⟩
  have m0 := same_new (o := .lst dWords) hp0
  refine ⟨_, rfl, sm64 (by show 9 ≤ 10000; decide), fun p1 hp1 => ?_⟩
  have m1 := same_new (o := .lst dWords2) hp1
  refine ⟨p0, p1, _, _, rfl, rfl, m1 _ _ (at_new (o := .lst dWords) hp0), at_new hp1, sm64 (by show 20 ≤ 10000; decide), fun p2 hp2 => ?_⟩
  have m2 := same_new (o := .lst (dWords ++ dWords2)) hp2
  have s2 := m0.trans (m1.trans m2)
  have h2 := at_new (o := .lst (dWords ++ dWords2)) hp2
  obtain ⟨v, hv, hw⟩ := pick_at (d := d) (m := 20) dw_all rfl (by decide)
  refine ⟨_, rfl, _, rfl, .inl ⟨_, rfl, _, _, rfl, rfl, (show (0 : Int) < _ by decide), p2, _, _, v, rfl, rfl, SqL.of h2, hv, ?_⟩⟩
  refine ⟨_, rfl, _, rfl, _, _, rfl, rfl, p, ds, i + 1, rfl, by rw [Int.natCast_add] <;> rfl, s2 _ _ hp, fun d1 => ?_⟩
  refine ⟨_, rfl, _, rfl, _, _, rfl, rfl, p, ds, i + 2, rfl, by rw [Int.natCast_add] <;> rfl, s2 _ _ hp, fun d2 => ?_⟩
  have pk : ∀ (H3 : Hp), Same H H3 → ∀ (dr wa : Int) (Q' : VK), (∀ y H', tSh y → Same H3 H' → Q' (.str (S y)) H') → P__law_pick K (.ref l.a) (.ref q) (.int dr) (.int wa) H3 Q' := fun H3 s3 dr wa Q' kk => ⟨l, Z, e, q, ns, dr, wa, rfl, rfl, rfl, rfl, L.same s3, W, s3 _ _ hq, gns, h6, kk⟩
  rcases hw with rfl | rfl | rfl | rfl | rfl | rfl | rfl | rfl
  · -- mkdir
    refine ⟨_, rfl, rfl, _, rfl, iteD1 (by decide +kernel) ?_⟩
    refine iteT ?_
    refine ⟨_, rfl, _, rfl, _, rfl, _, rfl, l, Z, e, q, ns, d1, _, rfl, rfl, rfl, rfl, L.same (s2), W, (s2) _ _ hq, gns, h6, fun y H3 hy s3 => ⟨sm64 (by show 2 ≤ 10000; decide), fun t ht => ?_⟩⟩
    exact k t (.deed (.mkdir y)) _ hy.ok (s2.trans (s3.trans (same_new ht))) (by rw [upd_same, lw_mkdir] <;> rfl)
  · -- create
    refine ⟨_, rfl, rfl, _, rfl, iteD (by decide +kernel) ?_⟩
    refine ⟨_, rfl, rfl, _, rfl, iteD1 (by decide +kernel) ?_⟩
    refine ⟨_, rfl, _, rfl, _, rfl, _, rfl, l, Z, e, q, ns, d1, _, rfl, rfl, rfl, rfl, L.same (s2), W, (s2) _ _ hq, gns, h6, fun y H3 hy s3 => ⟨sm64 (by show 2 ≤ 10000; decide), fun t ht => ?_⟩⟩
    exact k t (.deed (.create y)) _ hy.ok (s2.trans (s3.trans (same_new ht))) (by rw [upd_same, lw_create] <;> rfl)
  · -- append
    refine ⟨_, rfl, rfl, _, rfl, iteD (by decide +kernel) ?_⟩
    refine ⟨_, rfl, rfl, _, rfl, iteD (by decide +kernel) ?_⟩
    refine ⟨_, rfl, rfl, _, rfl, iteD1 (by decide +kernel) ?_⟩
    refine ⟨_, rfl, _, rfl, _, rfl, _, rfl, l, Z, e, q, ns, d1, _, rfl, rfl, rfl, rfl, L.same (s2), W, (s2) _ _ hq, gns, h6, fun y H3 hy s3 => ⟨_, rfl, d2, rfl, fun x hx => ⟨sm64 (by show 3 ≤ 10000; decide), fun t ht => ?_⟩⟩⟩
    exact k t (.deed (.append y x)) _ ⟨hy.ok, hx⟩ (s2.trans (s3.trans (same_new ht))) (by rw [upd_same, lw_append] <;> rfl)
  · -- seal
    refine ⟨_, rfl, rfl, _, rfl, iteD (by decide +kernel) ?_⟩
    refine ⟨_, rfl, rfl, _, rfl, iteD (by decide +kernel) ?_⟩
    refine ⟨_, rfl, rfl, _, rfl, iteD (by decide +kernel) ?_⟩
    refine ⟨_, rfl, rfl, _, rfl, iteD1 (by decide +kernel) ?_⟩
    refine ⟨_, rfl, _, rfl, _, rfl, _, rfl, l, Z, e, q, ns, d1, _, rfl, rfl, rfl, rfl, L.same (s2), W, (s2) _ _ hq, gns, h6, fun y H3 hy s3 => ⟨sm64 (by show 2 ≤ 10000; decide), fun t ht => ?_⟩⟩
    exact k t (.deed (.shut y)) _ hy.ok (s2.trans (s3.trans (same_new ht))) (by rw [upd_same, lw_seal] <;> rfl)
  · -- move
    refine ⟨_, rfl, rfl, _, rfl, iteD (by decide +kernel) ?_⟩
    refine ⟨_, rfl, rfl, _, rfl, iteD (by decide +kernel) ?_⟩
    refine ⟨_, rfl, rfl, _, rfl, iteD (by decide +kernel) ?_⟩
    refine ⟨_, rfl, rfl, _, rfl, iteD (by decide +kernel) ?_⟩
    refine ⟨_, rfl, rfl, _, rfl, iteD (by decide +kernel) ?_⟩
    refine ⟨_, rfl, rfl, _, rfl, iteD (by decide +kernel) ?_⟩
    refine ⟨_, rfl, _, rfl, _, rfl, _, rfl, rfl, .inr ⟨_, rfl, _, _, rfl, rfl, .inl ⟨by decide, by decide⟩, _, _, rfl, rfl, l, Z, e, q, ns, d1, _, rfl, rfl, rfl, rfl, L.same (s2), W, (s2) _ _ hq, gns, h6, fun y H3 hy s3 => ?_⟩⟩
    refine ⟨_, rfl, _, rfl, _, rfl, l, Z, e, q, ns, d2, _, rfl, rfl, rfl, rfl, L.same ((s2.trans s3)), W, ((s2.trans s3)) _ _ hq, gns, h6, fun y2 H4 hy2 s4 => ?_⟩
    have s24 := s2.trans (s3.trans s4)
    have Mid : L2.St → Hp → Prop := fun _ _ => True
    refine ⟨(fun σ' H' => ∃ z, σ' = [some (V.ref l.a), some (.ref q), some (.ref p), some (.int (i : Int)), some (.int d), some (.ref p2), some (.str "move"), some (.int d1), some (.int d2), some (.str (S y)), some (.str (S z))] ∧ tOk z ∧ H' = H4), ?_, ?_⟩
    · refine ⟨_, rfl, _, _, rfl, rfl, ⟨by decide, by decide⟩, .inl ⟨_, rfl, _, _, rfl, rfl, (show (0 : Int) < _ by decide), rfl, _, rfl, iteB (fun h1 => ?_) (fun h1 => ⟨y2, rfl, hy2.ok, rfl⟩)⟩⟩
      obtain ⟨v3, hv3, x3, rfl, hx3⟩ := pick_at (d := d / 160) (m := 6) gx nl (by decide)
      refine ⟨_, rfl, _, _, rfl, rfl, TSn.fit hy.ts t_sl (by decide), ?_⟩
      refine ⟨_, rfl, _, rfl, _, _, rfl, rfl, ⟨by decide, by decide⟩, .inl ⟨_, rfl, _, _, rfl, rfl, (show (0 : Int) < _ by decide), q, _, _, _, rfl, rfl, SqL.of (s24 _ _ hq), hv3, _, _, rfl, rfl, TSn.fit (TSn.app hy.ts t_sl) (ts_name hx3) (by decide), ?_⟩⟩
      obtain ⟨z, ez, hz1, hz2⟩ := TSn.app (TSn.app hy.ts t_sl) (ts_name hx3)
      refine ⟨z, ?_, ⟨Nat.le_trans hz2 (by decide), hz1⟩, rfl⟩
      rw [ez] <;> rfl
    rintro σ' H' ⟨z, rfl, hz, rfl⟩
    refine ⟨(fun σ' H' => ∃ z, σ' = [some (V.ref l.a), some (.ref q), some (.ref p), some (.int (i : Int)), some (.int d), some (.ref p2), some (.str "move"), some (.int d1), some (.int d2), some (.str (S y)), some (.str (S z))] ∧ tOk z ∧ Same H H'), ?_, ?_⟩
    · exact ⟨_, rfl, _, _, rfl, rfl, ⟨by decide, by decide⟩, .inl ⟨_, rfl, _, _, rfl, rfl, (show (0 : Int) < _ by decide), rfl, _, rfl, iteB (fun h1 => ⟨_, rfl, y, rfl, hy.ok, s24⟩) (fun h1 => ⟨z, rfl, hz, s24⟩)⟩⟩
    rintro σ'' H5 ⟨z2, rfl, hz2, s5⟩
    refine ⟨_, rfl, _, rfl, _, rfl, sm64 (by show 3 ≤ 10000; decide), fun t ht => ?_⟩
    exact k t (.deed (.move y z2)) _ ⟨hy.ok, hz2⟩ (s5.trans (same_new ht)) (by rw [upd_same, lw_move] <;> rfl)
  · -- snapshot
    refine ⟨_, rfl, rfl, _, rfl, iteD (by decide +kernel) ?_⟩
    refine ⟨_, rfl, rfl, _, rfl, iteD (by decide +kernel) ?_⟩
    refine ⟨_, rfl, rfl, _, rfl, iteD (by decide +kernel) ?_⟩
    refine ⟨_, rfl, rfl, _, rfl, iteD (by decide +kernel) ?_⟩
    refine ⟨_, rfl, rfl, _, rfl, iteD (by decide +kernel) ?_⟩
    refine ⟨_, rfl, rfl, _, rfl, iteD (by decide +kernel) ?_⟩
    refine ⟨_, rfl, _, rfl, _, rfl, _, rfl, rfl, .inr ⟨_, rfl, _, _, rfl, rfl, .inl ⟨by decide, by decide⟩, _, _, rfl, rfl, l, Z, e, q, ns, d1, _, rfl, rfl, rfl, rfl, L.same (s2), W, (s2) _ _ hq, gns, h6, fun y H3 hy s3 => ?_⟩⟩
    refine ⟨_, rfl, _, rfl, _, rfl, l, Z, e, q, ns, d2, _, rfl, rfl, rfl, rfl, L.same ((s2.trans s3)), W, ((s2.trans s3)) _ _ hq, gns, h6, fun y2 H4 hy2 s4 => ?_⟩
    have s24 := s2.trans (s3.trans s4)
    have Mid : L2.St → Hp → Prop := fun _ _ => True
    refine ⟨(fun σ' H' => ∃ z, σ' = [some (V.ref l.a), some (.ref q), some (.ref p), some (.int (i : Int)), some (.int d), some (.ref p2), some (.str "snapshot"), some (.int d1), some (.int d2), some (.str (S y)), some (.str (S z))] ∧ tOk z ∧ H' = H4), ?_, ?_⟩
    · refine ⟨_, rfl, _, _, rfl, rfl, ⟨by decide, by decide⟩, .inl ⟨_, rfl, _, _, rfl, rfl, (show (0 : Int) < _ by decide), rfl, _, rfl, iteB (fun h1 => ?_) (fun h1 => ⟨y2, rfl, hy2.ok, rfl⟩)⟩⟩
      obtain ⟨v3, hv3, x3, rfl, hx3⟩ := pick_at (d := d / 160) (m := 6) gx nl (by decide)
      refine ⟨_, rfl, _, _, rfl, rfl, TSn.fit hy.ts t_sl (by decide), ?_⟩
      refine ⟨_, rfl, _, rfl, _, _, rfl, rfl, ⟨by decide, by decide⟩, .inl ⟨_, rfl, _, _, rfl, rfl, (show (0 : Int) < _ by decide), q, _, _, _, rfl, rfl, SqL.of (s24 _ _ hq), hv3, _, _, rfl, rfl, TSn.fit (TSn.app hy.ts t_sl) (ts_name hx3) (by decide), ?_⟩⟩
      obtain ⟨z, ez, hz1, hz2⟩ := TSn.app (TSn.app hy.ts t_sl) (ts_name hx3)
      refine ⟨z, ?_, ⟨Nat.le_trans hz2 (by decide), hz1⟩, rfl⟩
      rw [ez] <;> rfl
    rintro σ' H' ⟨z, rfl, hz, rfl⟩
    refine ⟨(fun σ' H' => ∃ z, σ' = [some (V.ref l.a), some (.ref q), some (.ref p), some (.int (i : Int)), some (.int d), some (.ref p2), some (.str "snapshot"), some (.int d1), some (.int d2), some (.str (S y)), some (.str (S z))] ∧ tOk z ∧ Same H H'), ?_, ?_⟩
    · exact ⟨_, rfl, _, _, rfl, rfl, ⟨by decide, by decide⟩, .inl ⟨_, rfl, _, _, rfl, rfl, (show (0 : Int) < _ by decide), rfl, _, rfl, iteB (fun h1 => ⟨_, rfl, y, rfl, hy.ok, s24⟩) (fun h1 => ⟨z, rfl, hz, s24⟩)⟩⟩
    rintro σ'' H5 ⟨z2, rfl, hz2, s5⟩
    refine ⟨_, rfl, _, rfl, _, rfl, sm64 (by show 3 ≤ 10000; decide), fun t ht => ?_⟩
    exact k t (.deed (.snapshot y z2)) _ ⟨hy.ok, hz2⟩ (s5.trans (same_new ht)) (by rw [upd_same, lw_snapshot] <;> rfl)
  · -- limit
    refine ⟨_, rfl, rfl, _, rfl, iteD (by decide +kernel) ?_⟩
    refine ⟨_, rfl, rfl, _, rfl, iteD (by decide +kernel) ?_⟩
    refine ⟨_, rfl, rfl, _, rfl, iteD (by decide +kernel) ?_⟩
    refine ⟨_, rfl, rfl, _, rfl, iteD (by decide +kernel) ?_⟩
    refine ⟨_, rfl, rfl, _, rfl, iteD1 (by decide +kernel) ?_⟩
    refine ⟨_, rfl, _, rfl, _, rfl, _, rfl, l, Z, e, q, ns, d1, _, rfl, rfl, rfl, rfl, L.same (s2), W, (s2) _ _ hq, gns, h6, fun y H3 hy s3 => ⟨_, rfl, d2, rfl, fun n hn hn0 => ⟨sm64 (by show 3 ≤ 10000; decide), fun t ht => ?_⟩⟩⟩
    exact k t (.deed (.limit y n)) _ ⟨hy.ok, hn, hn0⟩ (s2.trans (s3.trans (same_new ht))) (by rw [upd_same, lw_limit] <;> rfl)
  · -- odd
    refine ⟨_, rfl, rfl, _, rfl, iteD (by decide +kernel) ?_⟩
    refine ⟨_, rfl, rfl, _, rfl, iteD (by decide +kernel) ?_⟩
    refine ⟨_, rfl, rfl, _, rfl, iteD (by decide +kernel) ?_⟩
    refine ⟨_, rfl, rfl, _, rfl, iteD (by decide +kernel) ?_⟩
    refine ⟨_, rfl, rfl, _, rfl, iteD (by decide +kernel) ?_⟩
    refine ⟨_, rfl, rfl, _, rfl, iteD1 (by decide +kernel) ?_⟩
    refine ⟨_, rfl, _, rfl, _, rfl, l, Z, e, q, ns, d1, _, rfl, rfl, rfl, rfl, L.same (s2), W, (s2) _ _ hq, gns, h6, fun y H3 hy s3 => ⟨_, rfl, y, d2, rfl, rfl, hy.ok, fun t l' H4 hl s4 ht => ?_⟩⟩
    exact k t (.odd l') _ hl (s2.trans (s3.trans s4)) ht
def P__law_query (K : PySem.W.Frag) (a b c : V) (H : Hp) (Q : VK) : Prop := ∃ (l : Lg) (Z : Tr) (e : Nat) (q : Addr) (ns : List Nm) (d : Int), a = .ref l.a ∧ b = .ref q ∧ c = .int d ∧ LawAt H l Z ∧ WF e Z ∧ H q = some (.lst (nmV ns)) ∧ Good ns ∧ ns.length = 6 ∧
  ∀ t (qy : Qy) H', qy.Ok → Same H H' → H' t = some (.tup [.str (S qy.w), itmV qy.it]) → Q (.ref t) H'
abbrev N__law_query : List Str := ["_law_nodes", "_law_names_here", "_law_draw_here", "_law_choice"]
theorem sc__law_query : FnScope N__law_query ["_law_nodes", "_law_names_here", "_law_draw_here"] (defScope s_law_query) := ⟨rfl, rfl, rfl, by decide +kernel, rfl, by decide +kernel, by decide +kernel⟩
theorem ok__law_query (T : Tx w K mg) : Cal P w K mg base 4 (fAd K ("_law_query", none)) (Sp3 (P__law_query K)) := by
  refine mk3 (k := 3) T.fd_law_query sc__law_query (fun _ _ _ _ _ _ _ _ _  => rfl) fun cdv A outer s H E va vb vc Q hr h => ?_
  have hu := hu_of hr
  obtain ⟨l, Z, e, q, ns, d, rfl, rfl, rfl, L, W, hq, gns, h6, k⟩ := h
  refine ⟨_, (pss_cons (ps_set (i := 3) sc__law_query.nd rfl (Or.inl rfl) (pe_op op_mod (pe_callTy call_int1 (by rfl) T.f_int (by decide +kernel) (pa_cons (pv 2) pa_nil)) pe_int))
      (pss_cons (ps_if (pt_cmpR op_eq (pv 3) pe_int (nomark _)) (pss_one (ps_ret (pe_tup (pa_cons pe_str (pa_cons (pe_op op_sub (pe_op op_mod (pe_callTy call_int1 (by rfl) T.f_int (by decide +kernel) (pa_cons (pe_op op_fdiv (pv 2) pe_int) pa_nil)) (pe_op op_add (pe_callB call_len_seq (by rfl) T.f_len (by decide +kernel) (pa_cons (pv 0) pa_nil)) pe_int)) pe_int) pa_nil))))) pss_nil)
      (pss_one (ps_ret (pe_tup (pa_cons (pe_ix ix_list (pe_lst (pa_cons pe_str (pa_cons pe_str (pa_cons pe_str pa_nil)))) (pv 3) (fun _ _ => rfl)) (pa_cons (pcall (ok__law_pick T) hr (by decide) rfl T.g__law_pick (pa_cons (pv 0) (pa_cons (pv 1) (pa_cons (pe_op op_fdiv (pv 2) pe_int) (pa_cons pe_int pa_nil))))) pa_nil))))))), ?_⟩
  dsimp only [cxOf, Cx.nox]
  have hZ := W.len
  obtain ⟨j, hj, ej⟩ := mod_lt (d := d) (m := 3) (by decide)
  have ej : d % 3 = (j : Int) := ej
  refine ⟨_, rfl, .inl ⟨_, rfl, _, _, rfl, rfl, (show (0 : Int) < _ by decide), ?_⟩⟩
  refine ⟨_, rfl, rfl, _, rfl, iteB (fun h1 => ?_) (fun h1 => ?_)⟩
  · refine ⟨_, rfl, _, _, rfl, rfl, ⟨by decide, by decide⟩, .inl ⟨_, rfl, _, rfl, l.a, _, rfl, .inl (SqL.of L.top), _, _, rfl, rfl, _, _, rfl, rfl, by show (0 : Int) < ((l.la.map V.ref).length : Int) + 2; omega, _, _, rfl, rfl, sm64 (by show 2 ≤ 10000; decide), fun t ht => ?_⟩⟩
    have ell : ((l.la.map V.ref).length : Int) = (Z.length : Int) := by rw [List.length_map, L.lla]
    have e1 := Int.emod_lt_of_pos (d / 3) (show (0 : Int) < ((l.la.map V.ref).length : Int) + 2 by omega)
    have e2 := Int.emod_nonneg (d / 3) (show ((l.la.map V.ref).length : Int) + 2 ≠ 0 by omega)
    refine k t (.content (d / 3 % (((l.la.map V.ref).length : Int) + 2) - 1)) _ ⟨by omega, by omega⟩ (same_new ht) (by rw [upd_same, lw_content] <;> rfl)
  · have h1 : decide (V.int (d % 3) = V.int 0) = false := h1
    refine ⟨sm64 (by show 3 ≤ 10000; decide), fun p0 hp0 => ?_⟩
    have s0 := same_new (o := .lst [.str "content", .str "find", .str "names"]) hp0
    have hj0 : j ≠ 0 := fun z => by
      rw [ej, z] at h1
      cases h1
    have hjj : j = 1 ∨ j = 2 := by omega
    rcases hjj with rfl | rfl
    · refine ⟨_, rfl, p0, _, _, _, rfl, rfl, SqL.of upd_same, by rw [ej]; exact atI_nat (j := 1) rfl, ?_⟩
      refine ⟨_, rfl, _, rfl, _, rfl, _, _, rfl, rfl, ⟨by decide, by decide⟩, l, Z, e, q, ns, _, _, rfl, rfl, rfl, rfl, L.same s0, W, s0 _ _ hq, gns, h6, fun y H3 hy s3 => ⟨sm64 (by show 2 ≤ 10000; decide), fun t ht => ?_⟩⟩
      exact k t (.find y) _ hy.ok (s0.trans (s3.trans (same_new ht))) (by rw [upd_same, lw_find] <;> rfl)
    · refine ⟨_, rfl, p0, _, _, _, rfl, rfl, SqL.of upd_same, by rw [ej]; exact atI_nat (j := 2) rfl, ?_⟩
      refine ⟨_, rfl, _, rfl, _, rfl, _, _, rfl, rfl, ⟨by decide, by decide⟩, l, Z, e, q, ns, _, _, rfl, rfl, rfl, rfl, L.same s0, W, s0 _ _ hq, gns, h6, fun y H3 hy s3 => ⟨sm64 (by show 2 ≤ 10000; decide), fun t ht => ?_⟩⟩
      exact k t (.names y) _ hy.ok (s0.trans (s3.trans (same_new ht))) (by rw [upd_same, lw_names] <;> rfl)
/-- a filling's deed, laid -/
def FilAt (H : Hp) (v : V) : Prop := ∃ (a : Addr) (en : Ent), v = .ref a ∧ en.Ok ∧ H a = some (.tup (en.its.map itmV))
theorem keepF {H H' : Hp} {vs : List V} (A : ∀ v ∈ vs, FilAt H v) (t : TupK H H') : ∀ v ∈ vs, FilAt H' v := fun v hv => by
  obtain ⟨a, en, e1, h1, h2⟩ := A v hv
  exact ⟨a, en, e1, h1, t _ _ h2⟩
theorem lF : ("/f" : Str) = S [47, 102] := by decide +kernel
theorem tOk_num {k : Nat} (h : k < 100) : tOk ([47, 102] ++ TL.numL k) := by
  have hl := TL.numL_len (n := k) (k := 2) (by decide) (by omega)
  refine ⟨by rw [List.length_append]; show 2 + _ ≤ 200; omega, fun c hc => ?_⟩
  rcases List.mem_append.mp hc with hc | hc
  · have : ∀ c ∈ [47, 102], 32 ≤ c ∧ c ≤ 126 ∧ c ≠ 37 := by decide
    exact this c hc
  · have h1 : 48 ≤ c := Nat.le_of_not_lt fun z => TL.numL_free (n := k) (.inl z) hc
    have h2 : c ≤ 57 := Nat.le_of_not_lt fun z => TL.numL_free (n := k) (.inr z) hc
    omega
def P__law_fill (K : PySem.W.Frag) (a : V) (H : Hp) (Q : VK) : Prop := ∃ d : Int, a = .int d ∧ ∀ p vs H', Same H H' → H p = none → H' p = some (.lst vs) → vs.length ≤ 64 → (∀ v ∈ vs, FilAt H' v) → Q (.ref p) H'
abbrev N__law_fill : List Str := ["_law_draw_here", "_law_rows", "_law_k"]
theorem sc__law_fill : FnScope N__law_fill ["_law_draw_here"] (defScope s_law_fill) := ⟨rfl, rfl, rfl, by decide +kernel, rfl, by decide +kernel, by decide +kernel⟩
theorem ok__law_fill (T : Tx w K mg) : Cal P w K mg base 1 (fAd K ("_law_fill", none)) (Sp1 (P__law_fill K)) := by
  refine mk1 (k := 0) T.fd_law_fill sc__law_fill (fun _ _ _ _ _ _ _  => rfl) fun cdv A outer s H E va Q hr h => ?_
  have hu := hu_of hr
  obtain ⟨d, rfl, k⟩ := h
  refine ⟨_, (pss_cons (ps_set (i := 1) sc__law_fill.nd rfl (Or.inl rfl) (pe_lst pa_nil))
      (pss_cons (ps_if (pt_cmpR op_eq (pe_op op_mod (pe_callTy call_int1 (by rfl) T.f_int (by decide +kernel) (pa_cons (pv 0) pa_nil)) pe_int) pe_int (nomark _)) (pss_one (ps_for PassesOwn.never rfl (pi_range1 (by rfl) T.f_range (pa_cons (pe_op op_add pe_int (pe_op op_mod (pe_callTy call_int1 (by rfl) T.f_int (by decide +kernel) (pa_cons (pe_op op_fdiv (pv 0) pe_int) pa_nil)) pe_int)) pa_nil)) (pg_name (i := 2) sc__law_fill.nd rfl (Or.inl rfl))
      (pss_one (ps_expr (pe_bm PySem.F.plainAttrs_list PySem.F.slot_list_append PySem.F.type_list_append mt_append (pv 1) (pa_cons (pe_tup (pa_cons (pe_ix ix_list (pe_lst (pa_cons pe_str (pa_cons pe_str pa_nil))) (pe_op op_mod (pv 2) pe_int) (fun _ _ => rfl)) (pa_cons (pe_op op_add_str pe_str (pe_callTy call_str_int (by rfl) T.f_str (by decide +kernel) (pa_cons (pv 2) pa_nil))) pa_nil))) pa_nil)))))) pss_nil)
      (pss_one (ps_ret (pv 1))))), ?_⟩
  dsimp only [cxOf, Cx.nox]
  refine ⟨sm64 (by show 0 ≤ 10000; decide), fun D hD => ?_⟩
  have s0 : ∀ o, Same H (upd H D o) := fun o => same_new hD
  refine ⟨_, rfl, .inl ⟨_, rfl, _, _, rfl, rfl, (show (0 : Int) < _ by decide), rfl, _, rfl, iteB (fun h1 => ?_) (fun h1 => ⟨_, rfl, k D [] _ (s0 _) hD upd_same (by decide) (fun v hv => (nomatch hv))⟩)⟩⟩
  have hle : ((55 : Int) + d / 4 % 10).toNat ≤ 64 := by omega
  have hb1 : -(2 ^ 62) ≤ (55 : Int) + d / 4 % 10 := by omega
  have hb2 : (55 : Int) + d / 4 % 10 < 2 ^ 62 := by omega
  refine ⟨_, rfl, _, _, rfl, rfl, ⟨by decide, by decide⟩, .inl ⟨_, rfl, _, _, rfl, rfl, (show (0 : Int) < _ by decide), _, _, rfl, rfl, _, rfl, hb1, hb2, ?_⟩⟩
  refine for_range (lo := 0) (n := ((55 : Int) + d / 4 % 10).toNat) (fun i σ H2 => ∃ (o2 : Option V) (vs : List V), σ = [some (.int d), some (.ref D), o2] ∧ Same H H2 ∧ H2 D = some (.lst vs) ∧ vs.length = i ∧ ∀ v ∈ vs, FilAt H2 v) ⟨_, [], rfl, s0 _, upd_same, rfl, fun v hv => (nomatch hv)⟩ ?_ ?_
  · rintro i σ H2 hi ⟨o2, vs, rfl, s2, hD2, hl, A⟩
    rw [Int.zero_add]
    have hi64 : i < 64 := by omega
    refine ⟨_, rfl, .inl ⟨rfl, _, SqL.of hD2⟩, sm64 (by show 2 ≤ 10000; decide), fun p0 hp0 => ?_⟩
    have s3 := same_new (o := .lst [.str "create", .str "mkdir"]) hp0
    obtain ⟨j, hj, ej⟩ := mod_lt (d := (i : Int)) (m := 2) (by decide)
    have ej : (i : Int) % 2 = (j : Int) := ej
    have hwd : ∃ (wd : Str) (en : Ent), ([V.str "create", .str "mkdir"])[j]? = some (.str wd) ∧ en.Ok ∧ en.its.map itmV = [.str wd, .str (S ([47, 102] ++ TL.numL i))] := by
      match j, hj with
      | 0, _ => exact ⟨"create", .deed (.create ([47, 102] ++ TL.numL i)), rfl, tOk_num (by omega), by rw [lw_create] <;> rfl⟩
      | 1, _ => exact ⟨"mkdir", .deed (.mkdir ([47, 102] ++ TL.numL i)), rfl, tOk_num (by omega), by rw [lw_mkdir] <;> rfl⟩
    obtain ⟨wd, en, hwd1, hen, hits⟩ := hwd
    refine ⟨_, rfl, _, _, rfl, rfl, (show (0 : Int) < _ by decide), p0, _, _, _, rfl, rfl, SqL.of upd_same, by rw [ej]; exact atI_nat (j := j) hwd1, ?_⟩
    have hlg : (i : Int).natAbs.log2 < 1920 := by
      rw [Int.natAbs_natCast]
      exact Nat.lt_of_le_of_lt (Nat.log2_le_self i) (by omega)
    have enum : (Str.ofString (toString (i : Int))) = S (TL.numL i) := num_S i
    have ln := TL.numL_len (n := i) (k := 2) (by decide) (by omega)
    refine ⟨_, rfl, _, rfl, hlg, _, _, rfl, rfl, ?_, ?_⟩
    · show ("/f" : Str).length + (Str.ofString (toString (i : Int))).length ≤ _
      rw [enum, lF, S_len, S_len, sizeLine_eq]
      show 2 + _ ≤ _
      omega
    refine ⟨sm64 (by show 2 ≤ 10000; decide), fun t ht => ?_⟩
    have est : ("/f" : Str) ++ (Str.ofString (toString (i : Int))) = S ([47, 102] ++ TL.numL i) := by rw [enum, lF, S_cat]
    have s4 := same_new (o := .tup [.str wd, .str (("/f" : Str) ++ (Str.ofString (toString (i : Int))))]) ht
    have s34 := s3.trans s4
    refine ⟨D, _, _, rfl, rfl, s34 _ _ hD2, sm63 (by omega), ?_⟩
    have kp : ∀ (H3 : Hp) (o' : HO), H3 D = some (.lst vs) → TupK H3 (upd H3 D o') := fun H3 o' h c xs hc => by
      rw [upd_ne (ne_of hc h (by intro z; cases z))]
      exact hc
    refine ⟨_, vs ++ [.ref t], rfl, fun b o hb => ?_, upd_same, by rw [List.length_append, List.length_singleton, hl], ?_⟩
    · rw [upd_ne (ne_of_none hb hD)]
      exact s34 _ _ (s2 _ _ hb)
    · refine all_snoc (keepF (keepF A (Same.tup s34)) (kp _ _ (s34 _ _ hD2))) ⟨t, en, rfl, hen, ?_⟩
      have ntD : t ≠ D := (ne_of_none (s3 _ _ hD2) ht).symm
      rw [upd_ne ntD, upd_same, hits, est]
  · rintro σ H2 ⟨o2, vs, rfl, s2, hD2, hl, A⟩
    exact ⟨_, rfl, k D vs H2 s2 hD hD2 (by omega) A⟩
end
end Ah
/-! What holds in the law's main loop. -/
namespace Ah
open PySem PySem.Spec PyProof.Rows L2 He SX
structure Mg where
  D : Addr
  N : Addr
  C : Addr
  Se : Addr
  An : Addr
  Ro : Addr
  q : Sg
  l : Lg
  b : Int
  ds : List Int
  ns : List Nm
  ss : List Int
  as : List V
  rows : List V
  y : Sys
def Mg.six (G : Mg) : List Addr := [G.D, G.N, G.C, G.Se, G.An, G.Ro]
/-- a row: who, what -/
def RowAt (H : Hp) (v : V) : Prop := ∃ (a t : Addr) (wn : Nat) (en : Ent), v = .ref a ∧ wn < 3 ∧ H a = some (.tup [.int (wn : Int), .ref t]) ∧ en.Ok ∧ H t = some (.tup (en.its.map itmV))
theorem RowAt.keep {H H' : Hp} {v : V} (h : RowAt H v) (k : TupK H H') : RowAt H' v := by
  obtain ⟨a, t, wn, en, e, h1, h2, h3, h4⟩ := h
  exact ⟨a, t, wn, en, e, h1, k _ _ h2, h3, k _ _ h4⟩
structure MI (K : PySem.W.Frag) (H : Hp) (G : Mg) (ZL : Tr) (clL : Int → Option (Int × D)) : Prop where
  hD : H G.D = some (.lst (G.ds.map V.int))
  hN : H G.N = some (.lst (nmV G.ns))
  hC : H G.C = some (.lst (inV3 G.b))
  hSe : H G.Se = some (.lst (G.ss.map V.int))
  hAn : H G.An = some (.lst G.as)
  hRo : H G.Ro = some (.lst G.rows)
  gns : Good G.ns
  h6 : G.ns.length = 6
  sp : SpAt K H G.q G.y
  la : LawAt H G.l ZL
  bk : BkAt H clL G.b G.ss G.as
  rw : ∀ v ∈ G.rows, RowAt H v
  d1 : G.six.Nodup
  d2 : ∀ a ∈ G.six, a ∉ G.q.fp ∧ a ∉ G.l.fp
  d3 : ∀ a ∈ G.q.fp, a ∉ G.l.fp
section
variable {K : PySem.W.Frag} {H H' : Hp} {G : Mg} {ZL : Tr} {clL : Int → Option (Int × D)}
theorem MI.same (M : MI K H G ZL clL) (s : Same H H') : MI K H' G ZL clL :=
  ⟨s _ _ M.hD, s _ _ M.hN, s _ _ M.hC, s _ _ M.hSe, s _ _ M.hAn, s _ _ M.hRo, M.gns, M.h6, M.sp.same s, M.la.same s, M.bk.keep (Same.tup s), fun v hv => (M.rw v hv).keep (Same.tup s), M.d1, M.d2, M.d3⟩
theorem MI.six_has (M : MI K H G ZL clL) : ∀ a ∈ G.six, ∃ o, H a = some o := by
  intro a ha
  unfold Mg.six at ha
  simp only [List.mem_cons, List.not_mem_nil, or_false] at ha
  rcases ha with rfl | rfl | rfl | rfl | rfl | rfl
  · exact ⟨_, M.hD⟩
  · exact ⟨_, M.hN⟩
  · exact ⟨_, M.hC⟩
  · exact ⟨_, M.hSe⟩
  · exact ⟨_, M.hAn⟩
  · exact ⟨_, M.hRo⟩
theorem SpAt.has {q : Sg} {y : Sys} (S : SpAt K H q y) {a : Addr} (h : a ∈ q.fp) : H a ≠ none := by
  obtain ⟨dx, h1⟩ := S.sp
  obtain ⟨kvs, h2, _⟩ := S.cl
  have h : a ∈ q.sp :: q.cd :: q.g.fp := h
  rcases List.mem_cons.mp h with rfl | h
  · rw [h1]; exact (fun z => nomatch z)
  · rcases List.mem_cons.mp h with rfl | h
    · rw [h2]; exact (fun z => nomatch z)
    · exact S.tree.has h
/-- the rows grow -/
theorem MI.push (M : MI K H G ZL clL) {v : V} (hv : RowAt H v) : MI K (upd H G.Ro (.lst (G.rows ++ [v]))) { G with rows := G.rows ++ [v] } ZL clL := by
  have nd := M.d1
  unfold Mg.six at nd
  simp only [List.nodup_cons, List.mem_cons, List.not_mem_nil, or_false, not_or] at nd
  obtain ⟨⟨_, _, _, _, n1⟩, ⟨_, _, _, n2⟩, ⟨_, _, n3⟩, ⟨_, n4⟩, n5, _⟩ := nd
  have kp : ∀ c o, c ≠ G.Ro → H c = some o → (upd H G.Ro (.lst (G.rows ++ [v]))) c = some o := fun c o hc h => by
    rw [upd_ne hc]
    exact h
  have tk : TupK H (upd H G.Ro (.lst (G.rows ++ [v]))) := fun c xs h => kp c _ (ne_of h M.hRo (by intro z; cases z)) h
  have dRo := M.d2 G.Ro (by unfold Mg.six; simp)
  exact ⟨kp _ _ n1 M.hD, kp _ _ n2 M.hN, kp _ _ n3 M.hC, kp _ _ n4 M.hSe, kp _ _ n5 M.hAn, upd_same, M.gns, M.h6, M.sp.frame (fun b o hb h => kp b o (fun z => dRo.1 (by rw [← z]; exact hb)) h) tk, M.la.frame (fun b o hb h => kp b o (fun z => dRo.2 (by rw [← z]; exact hb)) h) tk, M.bk.keep tk,
    all_snoc (fun u hu => (M.rw u hu).keep tk) (hv.keep tk), M.d1, M.d2, M.d3⟩
/-- the law's list moves -/
theorem MI.law (M : MI K H G ZL clL) {l' : Lg} {Z' : Tr} (R : LawAt H' l' Z') (p : Post G.l.fp l'.fp H H') : MI K H' { G with l := l' } Z' clL := by
  have kp : ∀ a ∈ G.six, ∀ o, H a = some o → H' a = some o := fun a ha o h => p.keep a o h (M.d2 a ha).2
  have six : ∀ a ∈ [G.D, G.N, G.C, G.Se, G.An, G.Ro], a ∈ G.six := fun a h => h
  refine ⟨kp _ (six _ (by simp)) _ M.hD, kp _ (six _ (by simp)) _ M.hN, kp _ (six _ (by simp)) _ M.hC, kp _ (six _ (by simp)) _ M.hSe, kp _ (six _ (by simp)) _ M.hAn, kp _ (six _ (by simp)) _ M.hRo, M.gns, M.h6, M.sp.frame (fun b o hb h => p.keep b o h (M.d3 b hb)) p.tup, R, M.bk.keep p.tup, fun v hv => (M.rw v hv).keep p.tup, M.d1, fun a ha => ⟨(M.d2 a ha).1, fun z => ?_⟩, fun a ha z => ?_⟩
  · rcases p.new a z with h | h
    · exact (M.d2 a ha).2 h
    · obtain ⟨o, ho⟩ := M.six_has a ha
      rw [ho] at h
      cases h
  · rcases p.new a z with h | h
    · exact M.d3 a ha h
    · exact M.sp.has ha h
/-- the space moves -/
theorem MI.space (M : MI K H G ZL clL) {q' : Sg} {y' : Sys} (R : SpAt K H' q' y') (p : Post G.q.fp q'.fp H H') : MI K H' { G with q := q', y := y' } ZL clL := by
  have kp : ∀ a ∈ G.six, ∀ o, H a = some o → H' a = some o := fun a ha o h => p.keep a o h (M.d2 a ha).1
  have six : ∀ a ∈ [G.D, G.N, G.C, G.Se, G.An, G.Ro], a ∈ G.six := fun a h => h
  refine ⟨kp _ (six _ (by simp)) _ M.hD, kp _ (six _ (by simp)) _ M.hN, kp _ (six _ (by simp)) _ M.hC, kp _ (six _ (by simp)) _ M.hSe, kp _ (six _ (by simp)) _ M.hAn, kp _ (six _ (by simp)) _ M.hRo, M.gns, M.h6, R, M.la.frame (fun b o hb h => p.keep b o h fun z => M.d3 b z hb) p.tup, M.bk.keep p.tup, fun v hv => (M.rw v hv).keep p.tup, M.d1, fun a ha => ⟨fun z => ?_, (M.d2 a ha).2⟩, fun a ha z => ?_⟩
  · rcases p.new a z with h | h
    · exact (M.d2 a ha).1 h
    · obtain ⟨o, ho⟩ := M.six_has a ha
      rw [ho] at h
      cases h
  · rcases p.new a ha with h | h
    · exact M.d3 a h z
    · exact M.la.has z h
/-- the books are written: serials, then answers -/
theorem MI.book (M : MI K H G ZL clL) {j : Nat} {ser : Int} {v : V} {cl' : Int → Option (Int × D)} (hB : BkAt H cl' G.b (G.ss.set j ser) (G.as.set j v)) :
    MI K (upd (upd H G.Se (.lst ((G.ss.map V.int).set j (.int ser)))) G.An (.lst (G.as.set j v))) { G with ss := G.ss.set j ser, as := G.as.set j v } ZL cl' := by
  have nd := M.d1
  unfold Mg.six at nd
  simp only [List.nodup_cons, List.mem_cons, List.not_mem_nil, or_false, not_or] at nd
  obtain ⟨⟨_, _, n1, n1', _⟩, ⟨_, n2, n2', _⟩, ⟨n3, n3', _⟩, ⟨n4, n4'⟩, n5, _⟩ := nd
  have kp : ∀ c o o1 o2, c ≠ G.Se → c ≠ G.An → H c = some o → (upd (upd H G.Se o1) G.An o2) c = some o := fun c o o1 o2 hc hc2 h => by
    rw [upd_ne hc2, upd_ne hc]
    exact h
  have tk : ∀ o1 o2, TupK H (upd (upd H G.Se o1) G.An o2) := fun o1 o2 c xs h => kp c _ _ _ (ne_of h M.hSe (by intro z; cases z)) (ne_of h M.hAn (by intro z; cases z)) h
  have dSe := M.d2 G.Se (by unfold Mg.six; simp)
  have dAn := M.d2 G.An (by unfold Mg.six; simp)
  exact ⟨kp _ _ _ _ n1 n1' M.hD, kp _ _ _ _ n2 n2' M.hN, kp _ _ _ _ n3 n3' M.hC, by rw [upd_ne n4, upd_same]; show some (HO.lst ((G.ss.map V.int).set j (.int ser))) = some (HO.lst ((G.ss.set j ser).map V.int)); rw [List.map_set], upd_same, kp _ _ _ _ (Ne.symm n4') (Ne.symm n5) M.hRo, M.gns, M.h6,
    M.sp.frame (fun b o hb h => kp b o _ _ (fun z => dSe.1 (by rw [← z]; exact hb)) (fun z => dAn.1 (by rw [← z]; exact hb)) h) (tk _ _), M.la.frame (fun b o hb h => kp b o _ _ (fun z => dSe.2 (by rw [← z]; exact hb)) (fun z => dAn.2 (by rw [← z]; exact hb)) h) (tk _ _), hB.keep (tk _ _),
    fun u hu => (M.rw u hu).keep (tk _ _), M.d1, M.d2, M.d3⟩
end
/-- the books once a record is accepted -/
theorem BkAt.set {H : Hp} {cl : Int → Option (Int × D)} {b : Int} {ss : List Int} {as : List V} (h : BkAt H cl b ss as) {j : Nat} (hj : j < 3) {ser : Int} {d : D} {v : V} (h0 : 0 < ser) (hv : isV H d v) (hd : Dep 4 d) :
    BkAt H (fun x => if x = b + (j : Int) then some (ser, d) else cl x) b (ss.set j ser) (as.set j v) := by
  refine ⟨by rw [List.length_set]; exact h.1, by rw [List.length_set]; exact h.2.1, fun i hi => ?_⟩
  by_cases e : j = i
  · subst e
    exact ⟨ser, v, List.getElem?_set_self (by rw [h.1]; exact hj), List.getElem?_set_self (by rw [h.2.1]; exact hj), .inr ⟨d, if_pos rfl, h0, hv, hd⟩⟩
  · obtain ⟨s, u, h1, h2, h3⟩ := h.2.2 i hi
    have ne : ¬ b + (i : Int) = b + (j : Int) := by omega
    refine ⟨s, u, by rw [List.getElem?_set_ne e]; exact h1, by rw [List.getElem?_set_ne e]; exact h2, ?_⟩
    rcases h3 with ⟨a, b', c⟩ | ⟨d', a, b', c, f⟩
    · exact .inl ⟨(if_neg ne).trans a, b', c⟩
    · exact .inr ⟨d', (if_neg ne).trans a, b', c, f⟩
theorem BkAt.last {H : Hp} {cl : Int → Option (Int × D)} {b : Int} {ss : List Int} {as : List V} (h : BkAt H cl b ss as) {j : Nat} (hj : j < 3) : ∃ s, ss[j]? = some s ∧ lastS cl (b + (j : Int)) = s ∧ 0 ≤ s := by
  obtain ⟨s, u, h1, h2, h3⟩ := h.2.2 j hj
  refine ⟨s, h1, ?_, ?_⟩
  · unfold lastS
    rcases h3 with ⟨a, b', c⟩ | ⟨d', a, b', c, f⟩
    · rw [a, b']
    · rw [a]
  · rcases h3 with ⟨a, b', c⟩ | ⟨d', a, b', c, f⟩ <;> omega
end Ah
/-! The law. -/
namespace Ah
open PySem PySem.Spec PyProof.Rows L2 He SX
theorem know_new {H : Hp} {p : Addr} {o : HO} {L : List Addr} (kn : ∀ a ∈ L, H a ≠ none) (nd : L.Nodup) (hp : H p = none) : (∀ a ∈ p :: L, (upd H p o) a ≠ none) ∧ (p :: L).Nodup := by
  refine ⟨fun a ha => ?_, List.nodup_cons.mpr ⟨fun z => kn p z hp, nd⟩⟩
  by_cases e : a = p
  · rw [e, upd_same]
    exact fun z => (nomatch z)
  · rw [upd_ne e]
    exact kn a ((List.mem_cons.mp ha).resolve_left e)
theorem know_same {H H' : Hp} {L : List Addr} (kn : ∀ a ∈ L, H a ≠ none) (s : Same H H') : ∀ a ∈ L, H' a ≠ none := fun a ha => by
  cases e : H a with
  | none => exact absurd e (kn a ha)
  | some o =>
    rw [s _ _ e]
    exact fun z => (nomatch z)
theorem not_fp {K : PySem.W.Frag} {H : Hp} {q : Sg} {y : Sys} {a : Addr} (S : SpAt K H q y) (h : H a = none) : a ∉ q.fp := fun z => S.has z h
theorem wf_start : WF 0 [root] := by
  refine ⟨⟨none, rfl⟩, by decide, by decide, ?_, ?_, ?_, ?_, ?_, ?_⟩
  all_goals
    intro n hn
    cases List.mem_singleton.mp hn
  · exact ⟨fun q hq => (nomatch hq), by decide⟩
  · exact fun z => absurd rfl z
  · exact fun _ => ⟨rfl, rfl⟩
  · exact fun m z => (nomatch z)
  · exact Nat.le_refl _
  · exact fun p hp => (nomatch hp)
theorem ixN_n {n j : Nat} (hj : j < n) : ixN n (j : Int) = some j := by
  unfold ixN
  rw [if_pos (by omega), if_pos (by omega)]
  simp
def LInv (K : PySem.W.Frag) (D N C Se An Ro sp la : Addr) (b : Int) (ds : List Int) (ns : List Nm) (i r : Nat) (H : Hp) : Prop :=
  ∃ (q : Sg) (l : Lg) (ss : List Int) (as rows : List V) (y : Sys), q.sp = sp ∧ l.a = la ∧ MI K H ⟨D, N, C, Se, An, Ro, q, l, b, ds, ns, ss, as, rows, y⟩ y.Z y.cl ∧ y.m = i ∧ WF i y.Z ∧ rows.length = r
section
variable {P : Program} {w : World} {K : PySem.W.Frag} {mg : Str → Option Value} {base : Heap}
def P_law (K : PySem.W.Frag) (a : V) (H : Hp) (Q : VK) : Prop := ∃ (p : Addr) (ns : List Int), a = .ref p ∧ SqL K H p (ns.map V.int) ∧ ∀ H', Q (.bl true) H'
abbrev N_law : List Str := ["_law_script", "_law_draws", "_law_names_here", "_law_base", "_law_clients", "_law_serials", "_law_answers", "_law_space", "_law_nodes", "_law_rows", "_law_deed_here", "_law_first", "_law_k", "_law_at", "_law_draw_here", "_law_who", "_law_serial_here", "_law_due", "_law_query_here"]
theorem sc_law : FnScope N_law ["_law_script"] (defScope s_law) := ⟨rfl, rfl, rfl, by decide +kernel, rfl, by decide +kernel, by decide +kernel⟩
theorem mk1F {x qual : Str} {st : Stmt} {f : Addr} {N : List Str} {k : Nat} {S1 : V → Hp → VK → Prop} {a : Str} {fd : FuncData} (F : FunD K x qual (defArgs st) (defBody st) (defScope st) [] [] f fd) (S : FnScope N [a] (defScope st))
    (hbody : ∀ (cdv : Value) (A : Around) (outer : List Env) (s : Shared) (H : Hp) (E : XK) (va : V) (Q : VK), Room k (A.deeper (envOfC qual (defScope st) s.heap.objs.size f cdv)) → S1 va H Q →
      ∃ t, PSs (cxOf CX0 P w K mg base N qual (defScope st) f cdv A outer s H E).nox (defBody st) t ∧ t { nx := fun _ H' => Q .non H', rt := Q } (start N [va]) H) : FnOk P w K mg base CX0 (k + 1) f fd [a] (Sp1 S1) := by
  refine F.ok S (fun vs H Q E h => ?_) fun cdv A outer s H vs Q E hr h => ?_
  · match vs, h with | [_], _ => rfl
  · match vs, h with
    | [va], h =>
      obtain ⟨t, h1, h2⟩ := hbody cdv A outer s H E va Q hr h
      exact ⟨t, h1.nox, h2⟩
theorem fn_law (T : Tx w K mg) {fd : FuncData} (F : FunD K "law" "law" (defArgs s_law) (defBody s_law) (defScope s_law) [] [] (fAd K ("law", none)) fd) : FnOk P w K mg base CX0 27 (fAd K ("law", none)) fd ["_law_script"] (Sp1 (P_law K)) := by
  refine mk1F (k := 26) F sc_law fun cdv A outer s H E va Q hr h => ?_
  have hu := hu_of hr
  obtain ⟨p, nsc, rfl, hscr, k⟩ := h
  refine ⟨_, (pss_cons (ps_set (i := 1) sc_law.nd rfl (Or.inl rfl) (pcall (ok__law_stream T) hr (by decide) rfl T.g__law_stream (pa_cons (pv 0) (pa_cons pe_int pa_nil))))
      (pss_cons (ps_set (i := 2) sc_law.nd rfl (Or.inl rfl) (pcall (ok__law_names T) hr (by decide) rfl T.g__law_names (pa_cons (pv 1) (pa_cons pe_int pa_nil))))
      (pss_cons (ps_set (i := 3) sc_law.nd rfl (Or.inl rfl) (pe_op op_mod (pe_callTy call_int1 (by rfl) T.f_int (by decide +kernel) (pa_cons (pcall (ok__law_draw T) hr (by decide) rfl T.g__law_draw (pa_cons (pv 1) (pa_cons pe_int pa_nil))) pa_nil)) (pe_op op_sub (pe_op op_pow pe_int pe_int) pe_int)))
      (pss_cons (ps_set (i := 4) sc_law.nd rfl (Or.inl rfl) (pe_lst (pa_cons (pv 3) (pa_cons (pe_op op_add (pv 3) pe_int) (pa_cons (pe_op op_add (pv 3) pe_int) pa_nil)))))
      (pss_cons (ps_set (i := 5) sc_law.nd rfl (Or.inl rfl) (pe_lst (pa_cons pe_int (pa_cons pe_int (pa_cons pe_int pa_nil)))))
      (pss_cons (ps_set (i := 6) sc_law.nd rfl (Or.inl rfl) (pe_lst (pa_cons pe_non (pa_cons pe_non (pa_cons pe_non pa_nil)))))
      (pss_cons (ps_set (i := 7) sc_law.nd rfl (Or.inl rfl) (pmake0 T.mk_Space (ok_Space___init__ T) hr (by decide) rfl T.g_Space))
      (pss_cons (ps_set (i := 8) sc_law.nd rfl (Or.inl rfl) (pe_lst (pa_cons (pe_lst (pa_cons pe_int (pa_cons pe_str (pa_cons (pe_lst pa_nil) (pa_cons pe_bl (pa_cons (pe_un un_neg pe_int) (pa_cons pe_int pa_nil))))))) pa_nil)))
      (pss_cons (ps_setLc (i := 9) (own := [("_law_deed_here", 10)]) (g := gName 10) (tt := tYes) rfl sc_law.nd rfl rfl (sw_true rfl rfl rfl (by decide +kernel)) (pi_list (pcall (ok__law_fill T) hr (by decide) rfl T.g__law_fill (pa_cons (pcall (ok__law_draw T) hr (by decide) rfl T.g__law_draw (pa_cons (pv 1) (pa_cons pe_int pa_nil))) pa_nil))) (blkOk_by (own := [("_law_deed_here", 10)]) (N := N_law) (sc := defScope s_law) (by decide +kernel)) (fun _ _ _ _ _ => pg_name (i := 10) sc_law.nd rfl (Or.inl rfl)) (fun _ _ _ _ _ => pts_nil) (fun _ _ _ _ _ => (pe_tup (pa_cons pe_int (pa_cons (pv 10) pa_nil)))))
      (pss_cons (ps_set (i := 11) sc_law.nd rfl (Or.inl rfl) (pe_callB call_len_seq (by rfl) T.f_len (by decide +kernel) (pa_cons (pv 9) pa_nil)))
      (C8.pss_cut (ps_for PassesOwn.never rfl (pi_range1 (by rfl) T.f_range (pa_cons (pe_op op_add (pv 11) (pe_callB (call_min2 rfl) (by rfl) T.f_min (by decide +kernel) (pa_cons pe_int (pa_cons (pe_op op_sub pe_int (pv 11)) pa_nil)))) pa_nil)) (pg_name (i := 12) sc_law.nd rfl (Or.inl rfl))
      (pss_cons (ps_set (i := 13) sc_law.nd rfl (Or.inl rfl) (pe_op op_add pe_int (pe_op op_mul pe_int (pe_op op_sub (pv 12) (pv 11)))))
      (C8.pss_cut (ps_if (PW.pt (pw_and (pt_cmpR op_ge (pv 12) (pv 11) (nomark _)) (pw_and1 (pt_cmpR op_ge (pv 13) (pe_callB call_len_seq (by rfl) T.f_len (by decide +kernel) (pa_cons (pv 1) pa_nil)) (nomark _))))) (pss_one ps_break) pss_nil)
      (pss_cons (ps_set (i := 14) sc_law.nd rfl (Or.inl rfl) pe_int)
      (C8.pss_cut (ps_if (pt_cmpR op_ge (pv 12) (pv 11) (nomark _)) (pss_cons (ps_set (i := 14) sc_law.nd rfl (Or.inl rfl) (pcall (ok__law_draw T) hr (by decide) rfl T.g__law_draw (pa_cons (pv 1) (pa_cons (pe_op op_add (pv 13) pe_int) pa_nil))))
      (pss_one (ps_expr (pe_bm PySem.F.plainAttrs_list PySem.F.slot_list_append PySem.F.type_list_append mt_append (pv 9) (pa_cons (pe_tup (pa_cons (pe_op op_mod (pe_callTy call_int1 (by rfl) T.f_int (by decide +kernel) (pa_cons (pe_op op_fdiv (pv 14) pe_int) pa_nil)) pe_int) (pa_cons (pcall (ok__law_deed T) hr (by decide) rfl T.g__law_deed (pa_cons (pv 8) (pa_cons (pv 2) (pa_cons (pv 1) (pa_cons (pv 13) pa_nil))))) pa_nil))) pa_nil))))) pss_nil)
      (pss_cons (ps_set (i := 15) sc_law.nd rfl (Or.inl rfl) (pe_ix ix_tup (pe_ix ix_list (pv 9) (pv 12) (fun _ _ => rfl)) pe_int (fun _ _ => rfl)))
      (pss_cons (ps_set (i := 16) sc_law.nd rfl (Or.inl rfl) (pcall (ok__law_serial T) hr (by decide) rfl T.g__law_serial (pa_cons (pe_ix ix_list (pv 5) (pv 15) (fun _ _ => rfl)) (pa_cons (pv 14) pa_nil))))
      (pss_cons (ps_set (i := 17) sc_law.nd rfl (Or.inl rfl) (pe_tup (pa_cons pe_str pa_nil)))
      (C8.pss_cut (ps_if (pt_cmpR op_eq (pv 16) (pe_op op_add (pe_ix ix_list (pv 5) (pv 15) (fun _ _ => rfl)) pe_int) (nomark _)) (pss_cons (ps_set (i := 17) sc_law.nd rfl (Or.inl rfl) (pcall (ok__law_apply T) hr (by decide) rfl T.g__law_apply (pa_cons (pv 8) (pa_cons (pe_tup (pa_cons (pe_op op_add (pv 12) pe_int) (pa_cons (pe_ix ix_list (pv 4) (pv 15) (fun _ _ => rfl)) (pa_cons (pv 16) pa_nil)))) (pa_cons (pe_ix ix_tup (pe_ix ix_list (pv 9) (pv 12) (fun _ _ => rfl)) pe_int (fun _ _ => rfl)) pa_nil)))))
      (pss_cons (ps_asg (pv 16) (pg_sub (pv 5) (pv 15) set_list))
      (pss_one (ps_asg (pv 17) (pg_sub (pv 6) (pv 15) set_list))))) pss_nil)
      (pss_cons (ps_if (pt_not (pt_val (pcall (ok__law_same T) hr (by decide) rfl T.g__law_same (pa_cons (pmeth T.c_Space T.m_Space_apply (ok_Space_apply T) hr (by decide) (pv 7) (pa_cons (pe_tup (pa_cons (pe_ix ix_list (pv 4) (pv 15) (fun _ _ => rfl)) (pa_cons (pv 16) (pa_cons (pe_ix ix_tup (pe_ix ix_list (pv 9) (pv 12) (fun _ _ => rfl)) pe_int (fun _ _ => rfl)) pa_nil)))) pa_nil)) (pa_cons (pv 17) pa_nil))))) (pss_one (ps_ret pe_bl)) pss_nil)
      (pss_cons (ps_set (i := 18) sc_law.nd rfl (Or.inl rfl) (pcall (ok__law_query T) hr (by decide) rfl T.g__law_query (pa_cons (pv 8) (pa_cons (pv 2) (pa_cons (pe_op op_fdiv (pv 14) pe_int) pa_nil)))))
      (pss_one (ps_if (pt_not (pt_val (pcall (ok__law_same T) hr (by decide) rfl T.g__law_same (pa_cons (pmeth T.c_Space T.m_Space_query (ok_Space_query T) hr (by decide) (pv 7) (pa_cons (pv 18) pa_nil)) (pa_cons (pcall (ok__law_answer T) hr (by decide) rfl T.g__law_answer (pa_cons (pv 8) (pa_cons (pv 18) pa_nil))) pa_nil))))) (pss_one (ps_ret pe_bl)) pss_nil)))))))))))))
      (pss_cons (ps_if (PW.pt (pw_or (pt_not (pt_val (pcall (ok__law_same T) hr (by decide) rfl T.g__law_same (pa_cons (pprop T.c_Space T.pr_Space_applied.1 (ok_Space_applied T) hr (by decide) (pv 7)) (pa_cons (pe_callB call_len_seq (by rfl) T.f_len (by decide +kernel) (pa_cons (pv 9) pa_nil)) pa_nil))))) (pw_or1 (pt_not (pt_val (pcall (ok__law_clients_are T) hr (by decide) rfl T.g__law_clients_are (pa_cons (pv 7) (pa_cons (pv 4) (pa_cons (pv 5) (pa_cons (pv 6) pa_nil)))))))))) (pss_one (ps_ret pe_bl)) pss_nil)
      (pss_one (ps_ret (pcall (ok__law_space_is T) hr (by decide) rfl T.g__law_space_is (pa_cons (pv 7) (pa_cons (pv 8) pa_nil))))))))))))))))), ?_⟩
  dsimp only [cxOf, Cx.nox]
  have hpow : CPow 10 18 := ⟨by decide, by decide, by decide⟩
  refine ⟨_, rfl, p, nsc, 248, rfl, rfl, by decide, hscr, fun D ds hD => ?_⟩
  obtain ⟨K1, N1⟩ := know_new (o := .lst (ds.map V.int)) (L := []) (fun a ha => (nomatch ha)) List.nodup_nil hD
  have hD1 := at_new (o := .lst (ds.map V.int)) hD
  generalize upd H D (.lst (ds.map V.int)) = H1 at K1 hD1
  refine ⟨_, rfl, D, ds, 1, rfl, rfl, hD1, fun N ns hN gns h6 => ?_⟩
  obtain ⟨K2, N2⟩ := know_new (o := .lst (nmV ns)) K1 N1 hN
  have s2 := same_new (o := .lst (nmV ns)) hN
  have hN2 := at_new (o := .lst (nmV ns)) hN
  generalize upd H1 N (.lst (nmV ns)) = H2 at K2 s2 hN2
  have hD2 := s2 _ _ hD1
  refine ⟨_, rfl, D, ds, 7, rfl, rfl, hD2, fun d7 => .inl ⟨_, rfl, _, _, rfl, rfl, hpow, _, _, rfl, rfl, _, _, rfl, rfl, (show (0 : Int) < _ by decide), ?_⟩⟩
  dsimp -proj only
  generalize d7 % ((10 : Int) ^ (18 : Int).toNat - 1) = b
  refine ⟨_, rfl, ⟨_, rfl, _, _, rfl, rfl, ⟨_, rfl, _, _, rfl, rfl, (by show 3 ≤ sizeLine; decide), fun C hC => ?_⟩⟩⟩
  dsimp -proj only
  obtain ⟨K3, N3⟩ := know_new (o := .lst [.int b, .int (b + 1), .int (b + 2)]) K2 N2 hC
  have s3 := same_new (o := .lst [.int b, .int (b + 1), .int (b + 2)]) hC
  have hC3 := at_new (o := .lst [.int b, .int (b + 1), .int (b + 2)]) hC
  have hD3 := s3 _ _ hD2
  have hN3 := s3 _ _ hN2
  clear s3
  generalize upd H2 C (.lst [.int b, .int (b + 1), .int (b + 2)]) = H3 at K3 hC3 hD3 hN3
  refine ⟨(by show 3 ≤ sizeLine; decide), fun Se hSe => ?_⟩
  obtain ⟨K4, N4⟩ := know_new (o := .lst [.int 0, .int 0, .int 0]) K3 N3 hSe
  have s4 := same_new (o := .lst [.int 0, .int 0, .int 0]) hSe
  have hSe4 := at_new (o := .lst [.int 0, .int 0, .int 0]) hSe
  have hD4 := s4 _ _ hD3
  have hN4 := s4 _ _ hN3
  have hC4 := s4 _ _ hC3
  clear s4
  generalize upd H3 Se (.lst [.int 0, .int 0, .int 0]) = H4 at K4 hSe4 hD4 hN4 hC4
  refine ⟨(by show 3 ≤ sizeLine; decide), fun An hAn => ?_⟩
  obtain ⟨K5, N5⟩ := know_new (o := .lst [.non, .non, .non]) K4 N4 hAn
  have s5 := same_new (o := .lst [.non, .non, .non]) hAn
  have hAn5 := at_new (o := .lst [.non, .non, .non]) hAn
  have hD5 := s5 _ _ hD4
  have hN5 := s5 _ _ hN4
  have hC5 := s5 _ _ hC4
  have hSe5 := s5 _ _ hSe4
  clear s5
  generalize upd H4 An (.lst [.non, .non, .non]) = H5 at K5 hAn5 hD5 hN5 hC5 hSe5
  intro x dx nx ndx ne
  refine ⟨x, dx, rfl, upd_same, fun q H6 hq hR kp tk nw => ⟨rfl, ?_⟩⟩
  subst hq
  have s6 : Same H5 H6 := fun c o h => kp c o (ne_of_none h nx) (by rw [upd_ne (ne_of_none h nx), upd_ne (ne_of_none h ndx)]; exact h)
  have fr : ∀ c ∈ q.fp, H5 c = none := fun c hc => by
    rcases nw c hc with rfl | h
    · exact nx
    · by_cases z : c = q.sp
      · rw [z]; exact nx
      · rw [upd_ne z] at h
        by_cases z2 : c = dx
        · rw [z2]; exact ndx
        · rw [upd_ne z2] at h
          exact h
  have dq : ∀ a ∈ [An, Se, C, N, D], a ∉ q.fp := fun a ha z => K5 a ha (fr a z)
  have K6 := know_same K5 s6
  have hAn6 := s6 _ _ hAn5
  have hD6 := s6 _ _ hD5
  have hN6 := s6 _ _ hN5
  have hC6 := s6 _ _ hC5
  have hSe6 := s6 _ _ hSe5
  have N6 := N5
  have S6 := hR
  clear kp tk nw fr nx ndx ne hR s6
  refine ⟨(by show 0 ≤ sizeLine; decide), fun Y hY => ?_⟩
  obtain ⟨K7, N7⟩ := know_new (o := .lst []) K6 N6 hY
  have s7 := same_new (o := .lst []) hY
  have hY7 := at_new (o := .lst []) hY
  have hAn7 := s7 _ _ hAn6
  have hD7 := s7 _ _ hD6
  have hN7 := s7 _ _ hN6
  have hC7 := s7 _ _ hC6
  have hSe7 := s7 _ _ hSe6
  have S7 := S6.same s7
  have q7 := not_fp S6 hY
  clear s7
  generalize upd H6 Y (.lst []) = H7 at K7 hY7 S7 hAn7 hD7 hN7 hC7 hSe7
  refine ⟨_, rfl, (by show 6 ≤ sizeLine; decide), fun R hR => ?_⟩
  dsimp -proj only
  obtain ⟨K8, N8⟩ := know_new (o := .lst [.int 0, .str "", .ref Y, .bl false, .int (-1), .int 0]) K7 N7 hR
  have s8 := same_new (o := .lst [.int 0, .str "", .ref Y, .bl false, .int (-1), .int 0]) hR
  have hR8 := at_new (o := .lst [.int 0, .str "", .ref Y, .bl false, .int (-1), .int 0]) hR
  have hAn8 := s8 _ _ hAn7
  have hD8 := s8 _ _ hD7
  have hN8 := s8 _ _ hN7
  have hC8 := s8 _ _ hC7
  have hSe8 := s8 _ _ hSe7
  have hY8 := s8 _ _ hY7
  have S8 := S7.same s8
  have q8 := not_fp S7 hR
  clear s8
  generalize upd H7 R (.lst [.int 0, .str "", .ref Y, .bl false, .int (-1), .int 0]) = H8 at K8 hR8 S8 hAn8 hD8 hN8 hC8 hSe8 hY8
  refine ⟨(by show 1 ≤ sizeLine; decide), fun L hL => ?_⟩
  obtain ⟨K9, N9⟩ := know_new (o := .lst [.ref R]) K8 N8 hL
  have s9 := same_new (o := .lst [.ref R]) hL
  have hL9 := at_new (o := .lst [.ref R]) hL
  have hAn9 := s9 _ _ hAn8
  have hD9 := s9 _ _ hD8
  have hN9 := s9 _ _ hN8
  have hC9 := s9 _ _ hC8
  have hSe9 := s9 _ _ hSe8
  have hY9 := s9 _ _ hY8
  have hR9 := s9 _ _ hR8
  have S9 := S8.same s9
  have q9 := not_fp S8 hL
  clear s9
  generalize upd H8 L (.lst [.ref R]) = H9 at K9 hL9 S9 hAn9 hD9 hN9 hC9 hSe9 hY9 hR9
  have L9 : LawAt H9 ⟨L, [R], [Y]⟩ [root] := by
    refine ⟨rfl, rfl, ?_, hL9, ?_⟩
    · have nd := N9
      simp only [List.nodup_cons, List.mem_cons, not_or] at nd
      obtain ⟨⟨n1, n2, _⟩, ⟨n3, _⟩, _⟩ := nd
      show [L, R, Y].Nodup
      simp only [List.nodup_cons, List.mem_cons, List.not_mem_nil, or_false, not_or]
      exact ⟨⟨n1, n2⟩, n3, not_false, List.nodup_nil⟩
    · intro k x y n hx hy hn
      match k with
      | 0 =>
        cases hx
        cases hy
        cases hn
        exact ⟨hR9, [], hY9, isVs.nil⟩
      | k + 1 => cases hn
  refine ⟨_, rfl, D, ds, 0, rfl, rfl, hD9, fun d0 => ⟨d0, rfl, fun p0 vs H10 s10 hp0 hvs hl A => ?_⟩⟩
  have K10 := know_same K9 s10
  have hAn10 := s10 _ _ hAn9
  have hD10 := s10 _ _ hD9
  have hN10 := s10 _ _ hN9
  have hC10 := s10 _ _ hC9
  have hSe10 := s10 _ _ hSe9
  have L10 := L9.same s10
  have S10 := S9.same s10
  clear s10 L9 S6 S7 S8 S9 hY7 hY8 hY9 hR8 hR9 hL9 K1 K2 K3 K4 K5 K6 K7 K8 K9
  refine ⟨p0, rfl, ⟨_, SqL.of hvs⟩, fun Ro hRo => ?_⟩
  have s11 := same_new (o := .lst []) hRo
  refine lc_list (K := K) (a := p0) (xs := vs) (fun i H2 => Same H10 H2 ∧ ∃ rs, H2 Ro = some (.lst rs) ∧ rs.length = i ∧ ∀ v ∈ rs, RowAt H2 v) ⟨s11, [], upd_same, rfl, fun v hv => (nomatch hv)⟩ (fun i H2 _ h => SqL.of (h.1 _ _ hvs)) ?_ ?_
  · rintro i u H2 hu ⟨s2, rs, hrs, hrl, B⟩
    obtain ⟨a, en, rfl, hen, ha⟩ := A u (List.mem_of_getElem? hu)
    have hi : i < vs.length := (List.getElem?_eq_some_iff.mp hu).1
    refine ⟨rfl, ?_⟩
    refine ⟨_, rfl, (by show 2 ≤ sizeLine; decide), fun t ht => ?_⟩
    have st := same_new (o := .tup [.int 0, .ref a]) ht
    refine ⟨rs, st _ _ hrs, sm63 (by omega), fun c o hc => ?_, rs ++ [.ref t], upd_same, by rw [List.length_append, List.length_singleton, hrl], ?_⟩
    · rw [upd_ne (ne_of_none hc hRo)]
      exact st _ _ (s2 _ _ hc)
    · have tk : TupK (upd H2 t (.tup [.int 0, .ref a])) (upd (upd H2 t (.tup [.int 0, .ref a])) Ro (.lst (rs ++ [.ref t]))) := fun c xs h => by
        rw [upd_ne (ne_of h (st _ _ hrs) (by intro z; cases z))]
        exact h
      refine all_snoc (fun v hv => ((B v hv).keep (Same.tup st)).keep tk) ?_
      exact ⟨t, a, 0, en, rfl, by decide, tk _ _ upd_same, hen, tk _ _ (st _ _ (s2 _ _ ha))⟩
  rintro H2 ⟨s2, rs, hrs, hrl, B⟩
  have M0 : MI K H2 ⟨D, N, C, Se, An, Ro, q, ⟨L, [R], [Y]⟩, b, ds, ns, [0, 0, 0], [.non, .non, .non], rs, ⟨[root], 0, fun _ => none⟩⟩ [root] fun _ => none := by
    have nRo : ∀ a ∈ [L, R, Y, An, Se, C, N, D], a ≠ Ro := fun a ha z => K10 a ha (z ▸ hRo)
    have nd := N9
    simp only [List.nodup_cons, List.mem_cons, List.not_mem_nil, or_false, not_or] at nd
    simp only [List.mem_cons, List.not_mem_nil, or_false, forall_eq_or_imp, forall_eq] at nRo dq
    obtain ⟨⟨a1, a2, a3, a4, a5, a6, a7⟩, ⟨b2, b3, b4, b5, b6, b7⟩, ⟨c3, c4, c5, c6, c7⟩, ⟨d4, d5, d6, d7'⟩, ⟨e5, e6, e7⟩, ⟨f6, f7⟩, f8, _⟩ := nd
    obtain ⟨r1, r2, r3, r4, r5, r6, r7, r8⟩ := nRo
    obtain ⟨x1, x2, x3, x4, x5⟩ := dq
    refine ⟨s2 _ _ hD10, s2 _ _ hN10, s2 _ _ hC10, s2 _ _ hSe10, s2 _ _ hAn10, hrs, gns, h6, S10.same s2, L10.same s2, ?_, B, ?_, ?_, ?_⟩
    · refine ⟨rfl, rfl, fun j hj => ⟨0, .non, ?_, ?_, .inl ⟨rfl, rfl, rfl⟩⟩⟩
      · match j, hj with
        | 0, _ => rfl
        | 1, _ => rfl
        | 2, _ => rfl
      · match j, hj with
        | 0, _ => rfl
        | 1, _ => rfl
        | 2, _ => rfl
    · show [D, N, C, Se, An, Ro].Nodup
      simp only [List.nodup_cons, List.mem_cons, List.not_mem_nil, or_false, not_or]
      exact ⟨⟨Ne.symm f8, Ne.symm f7, Ne.symm e7, Ne.symm d7', r8⟩, ⟨Ne.symm f6, Ne.symm e6, Ne.symm d6, r7⟩, ⟨Ne.symm e5, Ne.symm d5, r6⟩, ⟨Ne.symm d4, r5⟩, r4, not_false, List.nodup_nil⟩
    · show ∀ a ∈ [D, N, C, Se, An, Ro], a ∉ q.fp ∧ a ∉ [L, R, Y]
      simp only [List.mem_cons, List.not_mem_nil, or_false, forall_eq_or_imp, forall_eq, not_or]
      exact ⟨⟨x5, Ne.symm a7, Ne.symm b7, Ne.symm c7⟩, ⟨x4, Ne.symm a6, Ne.symm b6, Ne.symm c6⟩, ⟨x3, Ne.symm a5, Ne.symm b5, Ne.symm c5⟩, ⟨x2, Ne.symm a4, Ne.symm b4, Ne.symm c4⟩, ⟨x1, Ne.symm a3, Ne.symm b3, Ne.symm c3⟩, not_fp S10 hRo, Ne.symm r1, Ne.symm r2, Ne.symm r3⟩
    · intro a ha
      show a ∉ [L, R, Y]
      simp only [List.mem_cons, List.not_mem_nil, or_false, not_or]
      exact ⟨fun z => q9 (z ▸ ha), fun z => q8 (z ▸ ha), fun z => q7 (z ▸ ha)⟩
  have hF : rs.length ≤ 64 := by omega
  have I0 : LInv K D N C Se An Ro q.sp L b ds ns 0 rs.length H2 := ⟨q, ⟨L, [R], [Y]⟩, _, _, rs, _, rfl, rfl, M0, rfl, wf_start, rfl⟩
  generalize q.sp = sp at I0
  refine ⟨_, rfl, Ro, rs, rfl, .inl (SqL.of hrs), ?_⟩
  generalize rs.length = F at I0 hF
  clear M0 B hrs hrl s2 S10 L10 hAn10 hC10 hSe10 hD10 hN10 hRo s11 K10 A hl hvs hp0 q7 q8 q9 N9 hAn9 hD9 hN9 hC9 hSe9
  refine ⟨fun σ' H' => ∃ (i : Nat) (o10 o12 o13 o14 o15 o16 o17 o18 : Option V), σ' = [some (.ref p), some (.ref D), some (.ref N), some (.int b), some (.ref C), some (.ref Se), some (.ref An), some (.ref sp), some (.ref L), some (.ref Ro), o10, some (.int (F : Int)), o12, o13, o14, o15, o16, o17, o18] ∧ LInv K D N C Se An Ro sp L b ds ns i i H' ∧ i ≤ 80, ?_, ?_⟩
  · refine ⟨_, rfl, _, rfl, _, _, rfl, rfl, _, _, rfl, _, _, rfl, rfl, ?_⟩
    have hb : F ≤ ((F : Int) + if (80 : Int) - (F : Int) < 60 then (80 : Int) - (F : Int) else 60).toNat ∧ ((F : Int) + if (80 : Int) - (F : Int) < 60 then (80 : Int) - (F : Int) else 60).toNat ≤ 80 ∧ (0 : Int) ≤ ((F : Int) + if (80 : Int) - (F : Int) < 60 then (80 : Int) - (F : Int) else 60) ∧ ((F : Int) + if (80 : Int) - (F : Int) < 60 then (80 : Int) - (F : Int) else 60) ≤ 80 := by
      split <;> omega
    refine ⟨_, rfl, Int.le_trans (by decide) hb.2.2.1, Int.lt_of_le_of_lt hb.2.2.2 (by decide), for_range (lo := 0) (n := ((F : Int) + if (80 : Int) - (F : Int) < 60 then (80 : Int) - (F : Int) else 60).toNat) (fun i σ' H' => ∃ (o12 o13 o14 o15 o16 o17 o18 : Option V), σ' = [some (.ref p), some (.ref D), some (.ref N), some (.int b), some (.ref C), some (.ref Se), some (.ref An), some (.ref sp), some (.ref L), some (.ref Ro), none, some (.int (F : Int)), o12, o13, o14, o15, o16, o17, o18] ∧ LInv K D N C Se An Ro sp L b ds ns i (max i F) H') ⟨_, _, _, _, _, _, _, rfl, by rw [Nat.zero_max]; exact I0⟩ ?_ ?_⟩
    · rintro i σ H3 hi ⟨o12, o13, o14, o15, o16, o17, o18, rfl, I⟩
      rw [Int.zero_add]
      have hi80 : i < 80 := by omega
      clear hi hb I0
      obtain ⟨q1, l1, ss, as, rows, y, rfl, rfl, M, hm, W, hrw⟩ := I
      refine ⟨_, rfl, _, rfl, _, _, rfl, rfl, _, _, rfl, rfl, .inl ⟨by decide, by decide⟩, _, _, rfl, rfl, ?_⟩
      dsimp -proj only [gName, List.set]
      obtain ⟨sl, hsl⟩ : ∃ z, z = (8 : Int) + 4 * ((i : Int) - (F : Int)) := ⟨_, rfl⟩
      rw [← hsl]
      refine ⟨fun σ' H' => σ' = [some (.ref p), some (.ref D), some (.ref N), some (.int b), some (.ref C), some (.ref Se), some (.ref An), some (.ref q1.sp), some (.ref l1.a), some (.ref Ro), none, some (.int (F : Int)), some (.int (i : Int)), some (.int sl), o14, o15, o16, o17, o18] ∧ H' = H3, ?_, ?_⟩
      · refine ⟨_, rfl, _, rfl, _, _, rfl, rfl, _, rfl, iteB (fun h1 => ?_) (fun _ => iteF ⟨rfl, rfl⟩)⟩
        refine ⟨_, rfl, _, rfl, D, _, rfl, .inl (SqL.of M.hD), _, _, rfl, rfl, _, rfl, iteB (fun _ => ?_) (fun _ => ⟨rfl, rfl⟩)⟩
        have h1 : (F : Int) ≤ (i : Int) := of_decide_eq_true h1
        exact ⟨i, _, _, _, _, _, _, _, _, rfl, ⟨q1, l1, ss, as, rows, y, rfl, rfl, M, hm, W, by omega⟩, by omega⟩
      rintro σ' H' ⟨rfl, rfl⟩
      refine ⟨fun σ' H' => ∃ (dh : Int) (rows' : List V), σ' = [some (.ref p), some (.ref D), some (.ref N), some (.int b), some (.ref C), some (.ref Se), some (.ref An), some (.ref q1.sp), some (.ref l1.a), some (.ref Ro), none, some (.int (F : Int)), some (.int (i : Int)), some (.int sl), some (.int dh), o15, o16, o17, o18] ∧ MI K H' ⟨D, N, C, Se, An, Ro, q1, l1, b, ds, ns, ss, as, rows', y⟩ y.Z y.cl ∧ rows'.length = max (i + 1) F, ?_, ?_⟩
      · refine ⟨_, rfl, _, rfl, _, _, rfl, rfl, _, rfl, iteB (fun h1 => ?_) (fun h1 => ⟨1, rows, rfl, M, ?_⟩)⟩
        · have h1 : (F : Int) ≤ (i : Int) := of_decide_eq_true h1
          obtain ⟨a, ha⟩ : ∃ a : Nat, sl = (a : Int) := ⟨sl.toNat, by omega⟩
          subst ha
          refine ⟨_, rfl, _, rfl, _, _, rfl, rfl, D, ds, a + 3, rfl, rfl, M.hD, fun dh => ?_⟩
          obtain ⟨wn, hwn, ewn⟩ := mod_lt (d := dh / 512) (m := 3) (by decide)
          refine ⟨_, rfl, .inl ⟨rfl, _, SqL.of M.hRo⟩, ?_⟩
          refine ⟨_, rfl, _, _, rfl, rfl, ⟨by decide, by decide⟩, .inl ⟨_, rfl, _, _, rfl, rfl, (show (0 : Int) < _ by decide), ?_⟩⟩
          refine ⟨_, rfl, _, rfl, _, rfl, _, rfl, l1, y.Z, i, N, D, ns, ds, a, rfl, rfl, rfl, rfl, M.la, W, M.hN, M.gns, M.h6, M.hD, fun t en H4 hen s4 ht => ⟨sm64 (by show 2 ≤ 10000; decide), fun u hu => ?_⟩⟩
          have s5 := same_new (o := .tup [.int (dh / 512 % 3), .ref t]) hu
          have M5 := M.same (s4.trans s5)
          refine ⟨Ro, _, _, rfl, rfl, M5.hRo, sm63 (by show rows.length ≤ 10000; omega), ?_⟩
          refine ⟨dh, rows ++ [.ref u], rfl, M5.push ⟨u, t, wn, en, rfl, hwn, ?_, hen, s5 _ _ ht⟩, ?_⟩
          · rw [upd_same, ← ewn] <;> rfl
          · rw [List.length_append, List.length_singleton]
            omega
        · have h1 : ¬ (F : Int) ≤ (i : Int) := of_decide_eq_false h1
          omega
      clear M hrw
      rintro σ' H4 ⟨dh, rows', rfl, M, hrl⟩
      obtain ⟨rv, hrv⟩ : ∃ v, rows'[i]? = some v := ⟨_, List.getElem?_eq_getElem (by omega)⟩
      obtain ⟨ra, ta, wn, en, rfl, hwn, hra, hen, hta⟩ := M.rw rv (List.mem_of_getElem? hrv)
      obtain ⟨sr, hsr, hlast, hs0⟩ := M.bk.last hwn
      have hsr' : (ss.map V.int)[wn]? = some (.int sr) := by rw [List.getElem?_map, hsr] <;> rfl
      refine ⟨_, rfl, _, rfl, Ro, _, _, _, rfl, rfl, SqL.of M.hRo, atI_nat (j := i) hrv, ra, _, _, _, rfl, rfl, SqT.of hra, atI_nat (j := 0) rfl, ?_⟩
      refine ⟨_, rfl, _, rfl, Se, _, _, _, rfl, rfl, SqL.of M.hSe, atI_nat (j := wn) hsr', _, rfl, sr, dh, rfl, rfl, fun ser H5 s5 => ?_⟩
      refine ⟨sm64 (by show 1 ≤ 10000; decide), fun sk hsk => ?_⟩
      have s6 := s5.trans (same_new (o := .tup [.str "skipped"]) hsk)
      have hsk6 := at_new (o := .tup [.str "skipped"]) hsk
      have M6 := M.same s6
      have hra6 := s6 _ _ hra
      have hta6 := s6 _ _ hta
      generalize upd H5 sk (.tup [.str "skipped"]) = H6 at M6 hra6 hta6 hsk6
      clear M hra hta s5 s6 hsk
      refine ⟨fun σ' H' => ∃ (v : V) (l2 : Lg) (ss' : List Int) (as' : List V), σ' = [some (.ref p), some (.ref D), some (.ref N), some (.int b), some (.ref C), some (.ref Se), some (.ref An), some (.ref q1.sp), some (.ref l1.a), some (.ref Ro), none, some (.int (F : Int)), some (.int (i : Int)), some (.int sl), some (.int dh), some (.int (wn : Int)), some (.int ser), some v, o18] ∧ l2.a = l1.a ∧ MI K H' ⟨D, N, C, Se, An, Ro, q1, l2, b, ds, ns, ss', as', rows', y⟩ (step y (b + (wn : Int)) ser en).1.Z (step y (b + (wn : Int)) ser en).1.cl ∧ isV H' (step y (b + (wn : Int)) ser en).2 v ∧ TupK H6 H', ?_, ?_⟩
      · refine ⟨_, rfl, _, rfl, _, rfl, Se, _, _, _, rfl, rfl, SqL.of M6.hSe, atI_nat (j := wn) hsr', _, _, rfl, rfl, rfl, _, rfl, ?_⟩
        have edec : decide (V.int ser = V.int (sr + 1)) = decide (ser = lastS y.cl (b + (wn : Int)) + 1) := by
          rw [hlast, Bool.eq_iff_iff, decide_eq_true_eq, decide_eq_true_eq, V.int.injEq]
        refine iteB (fun h1 => ?_) (fun h1 => ?_)
        · have h1 : ser = lastS y.cl (b + (wn : Int)) + 1 := of_decide_eq_true (edec.symm.trans h1)
          have estep : step y (b + (wn : Int)) ser en = (⟨(doE y.Z ⟨((y.m + 1 : Nat) : Int), b + (wn : Int), ser⟩ en).1, y.m + 1, fun x => if x = b + (wn : Int) then some (ser, (doE y.Z ⟨((y.m + 1 : Nat) : Int), b + (wn : Int), ser⟩ en).2) else y.cl x⟩, (doE y.Z ⟨((y.m + 1 : Nat) : Int), b + (wn : Int), ser⟩ en).2) := by
            unfold step
            rw [if_pos h1]
          rw [estep]
          refine ⟨_, rfl, _, rfl, _, _, rfl, rfl, _, rfl, _, rfl, C, _, _, _, rfl, rfl, SqL.of M6.hC, atI_nat (j := wn) (inV3_at hwn), _, rfl, sm64 (by show 3 ≤ 10000; decide), fun sa hsa => ?_⟩
          have s7 := same_new (o := .tup [.int ((i : Int) + 1), .int (b + (wn : Int)), .int ser]) hsa
          have hsa7 := at_new (o := .tup [.int ((i : Int) + 1), .int (b + (wn : Int)), .int ser]) hsa
          have M7 := M6.same s7
          have hra7 := s7 _ _ hra6
          have hta7 := s7 _ _ hta6
          have t7 := Same.tup s7
          generalize upd H6 sa (.tup [.int ((i : Int) + 1), .int (b + (wn : Int)), .int ser]) = H7 at M7 hra7 hta7 hsa7 t7
          refine ⟨_, rfl, _, rfl, Ro, _, _, _, rfl, rfl, SqL.of M7.hRo, atI_nat (j := i) hrv, ra, _, _, _, rfl, rfl, SqT.of hra7, atI_nat (j := 1) rfl, ?_⟩
          refine ⟨l1, y.Z, i, sa, ta, ⟨((y.m + 1 : Nat) : Int), b + (wn : Int), ser⟩, en, rfl, rfl, rfl, M7.la, W, by omega, by rw [hsa7, hm] <;> rfl, hta7, hen, fun l2 H8 v hla L2 P2 hv => ?_⟩
          have M8 := M7.law L2 P2
          have hAn8 := M8.hAn
          have hSe8 := M8.hSe
          have neS : An ≠ Se := by
            have nd := M8.d1
            unfold Mg.six at nd
            simp only [List.nodup_cons, List.mem_cons, List.not_mem_nil, or_false, not_or] at nd
            exact Ne.symm nd.2.2.2.1.1
          refine ⟨_, rfl, _, rfl, _, rfl, Se, _, _, wn, rfl, rfl, M8.hSe, ixN_n (by rw [List.length_map, M8.bk.1]; exact hwn), ?_⟩
          refine ⟨_, rfl, _, rfl, _, rfl, An, as, _, wn, rfl, rfl, ?_, ixN_n (by rw [M8.bk.2.1]; exact hwn), ?_⟩
          · rw [upd_ne neS]
            exact hAn8
          have B := M8.bk.set hwn (ser := ser) (by rw [h1, hlast]; omega) hv (dep_doE _ en)
          have M9 := M8.book B
          have t9 : ∀ o1 o2, TupK H8 (upd (upd H8 Se o1) An o2) := fun o1 o2 c xs h => by
            rw [upd_ne (ne_of h hAn8 (by intro z; cases z)), upd_ne (ne_of h hSe8 (by intro z; cases z))]
            exact h
          exact ⟨v, l2, ss.set wn ser, as.set wn v, rfl, hla, M9, hv.keep (t9 _ _), t7.trans (P2.tup.trans (t9 _ _))⟩
        · have h1 : ¬ ser = lastS y.cl (b + (wn : Int)) + 1 := of_decide_eq_false (edec.symm.trans h1)
          have estep : step y (b + (wn : Int)) ser en = (⟨y.Z, y.m + 1, y.cl⟩, .t [.s "skipped"]) := by
            unfold step
            rw [if_neg h1]
          rw [estep]
          exact ⟨_, l1, ss, as, rfl, rfl, M6, isV.tup hsk6 (isVs.cons isV.str isVs.nil), TupK.refl _⟩
      rintro σ' H7 ⟨v, l2, ss', as', rfl, hla, M7, hv7, t7⟩
      have hra7 := t7 _ _ hra6
      have hta7 := t7 _ _ hta6
      clear M6 hra6 hta6 hsk6 t7 hsr hsr' hlast hs0
      obtain ⟨dx1, hsp⟩ := M7.sp.sp
      have dst : Dep 4 (step y (b + (wn : Int)) ser en).2 := by
        unfold step
        split
        · exact dep_doE _ en
        · exact ⟨by show 1 ≤ 1000; decide, fun d hd => by cases List.mem_singleton.mp hd; exact trivial⟩
      have W2 : WF (i + 1) (step y (b + (wn : Int)) ser en).1.Z := by
        unfold step
        split
        · exact wf_doE W en hen
        · exact W.mono (Nat.le_succ i)
      have m2 : (step y (b + (wn : Int)) ser en).1.m = i + 1 := by
        unfold step
        split
        · show y.m + 1 = i + 1
          rw [hm]
        · show y.m + 1 = i + 1
          rw [hm]
      refine ⟨_, rfl, q1.sp, dx1, _, rfl, hsp, znone (by decide +kernel), ?_⟩
      refine ⟨_, rfl, _, rfl, C, _, _, _, rfl, rfl, SqL.of M7.hC, atI_nat (j := wn) (inV3_at hwn), _, rfl, _, rfl, _, rfl, Ro, _, _, _, rfl, rfl, SqL.of M7.hRo, atI_nat (j := i) hrv, ra, _, _, _, rfl, rfl, SqT.of hra7, atI_nat (j := 1) rfl, sm64 (by show 3 ≤ 10000; decide), fun rt hrt => ?_⟩
      have s8 := same_new (o := .tup [.int (b + (wn : Int)), .int ser, .ref ta]) hrt
      have M8 := M7.same s8
      refine ⟨q1, y, i, rt, ta, b + (wn : Int), ser, en, rfl, rfl, M8.sp, W, by omega, by omega, at_new hrt, s8 _ _ hta7, hen, fun q2 H9 v2 hq2 S2 P2 hv2 => ?_⟩
      have M9 := M8.space S2 P2
      refine ⟨_, rfl, _, dst, hv2, (hv7.keep (Same.tup s8)).keep P2.tup, ?_⟩
      refine ⟨_, rfl, iteF ?_⟩
      rw [← hq2, ← hla]
      clear hv7 hv2 dst M7 M8 S2 P2 hra7 hta7 hrv hsp hrt s8
      generalize step y (b + (wn : Int)) ser en = y2 at M9 W2 m2
      clear hen hwn W
      refine ⟨_, rfl, _, rfl, _, rfl, _, _, rfl, rfl, ⟨by decide, by decide⟩, l2, y2.1.Z, i + 1, N, ns, _, rfl, rfl, rfl, M9.la, W2, M9.hN, M9.gns, M9.h6, fun t qy H10 hqy s10 ht => ?_⟩
      have M10 := M9.same s10
      obtain ⟨dx2, hsp2⟩ := M10.sp.sp
      refine ⟨_, rfl, q2.sp, dx2, _, rfl, hsp2, znone (by decide +kernel), _, rfl, q2, y2.1, i + 1, t, qy, rfl, rfl, M10.sp, W2, ht, hqy, fun H11 v3 s11 hv3 => ?_⟩
      have M11 := M10.same s11
      refine ⟨_, rfl, _, rfl, l2, y2.1.Z, i + 1, t, qy, rfl, rfl, M11.la, W2, s11 _ _ ht, hqy, fun H12 v4 s12 hv4 => ?_⟩
      refine ⟨_, dep_ask W2 (by omega) qy, hv3.keep (Same.tup s12), hv4, ?_⟩
      refine ⟨_, rfl, iteF ?_⟩
      exact ⟨_, _, _, _, _, _, _, rfl, ⟨q2, l2, ss', as', rows', y2.1, rfl, rfl, M11.same s12, m2, W2, hrl⟩⟩
    · rintro σ H3 ⟨o12, o13, o14, o15, o16, o17, o18, rfl, I⟩
      rw [Nat.max_eq_left hb.1] at I
      exact ⟨_, _, _, _, _, _, _, _, _, rfl, I, hb.2.1⟩
  · rintro σ' H' ⟨i, o10, o12, o13, o14, o15, o16, o17, o18, rfl, I, hi⟩
    obtain ⟨q1, l1, ss, as, rows, y, e1, e2, M, hm, W, hr⟩ := I
    subst e1 e2
    obtain ⟨dx1, hsp⟩ := M.sp.sp
    refine ⟨_, rfl, q1.sp, _, _, rfl, hsp, q1, y, rfl, M.sp, ?_⟩
    refine ⟨_, rfl, Ro, rows, rfl, .inl (SqL.of M.hRo), ?_⟩
    refine ⟨.i (i : Int), trivial, by rw [hm]; exact isV.int, by rw [hr]; exact isV.int, ?_⟩
    refine ⟨_, rfl, iteF ?_⟩
    refine ⟨_, rfl, _, rfl, _, rfl, _, rfl, q1, y, C, Se, An, b, ss, as, rfl, rfl, rfl, rfl, M.sp, M.hC, M.hSe, M.hAn, M.bk, ?_⟩
    refine ⟨_, rfl, iteF ?_⟩
    exact ⟨_, rfl, _, rfl, q1, y, l1, i, rfl, rfl, M.sp, M.la, W, by omega, k⟩
end
end Ah
set_option maxHeartbeats 0
/-! The end. -/
namespace Ah
open PySem PySem.Spec PyProof.Rows L2 He
theorem tx_of {w : World} {K : PySem.W.Frag} {h : Heap} {mg : Str → Option Value} (X : K.In h) (G : h.Ns mainGlobals mg) (c : SaysA w K) : Tx w K mg :=
  ⟨c, fun x v e => PySem.W.mg_of X G e, fun x e => PySem.W.mg_none_of X G e⟩
end Ah
open PySem PySem.W PySem.Calls PyProof.Rows
theorem PySem.Challenge.cw_appendhall_k37_whole_records_in_a_space_holds : PySem.Challenge.rw_appendhall_k37_whole_records_in_a_space.Holds := by
  w_on; o_law
  refine HandSHeadRun.head_any (r := OpenLaw.row PySem.Challenge.rw_appendhall_k37_whole_records_in_a_space) (q := view (OpenLaw.row PySem.Challenge.rw_appendhall_k37_whole_records_in_a_space).prog [84]) (H := Ah.hkA) (ob := Ah.ob) (M := 6000) (loose := Ah.nms) (d := HandSHeadRun.topDef (OpenLaw.row PySem.Challenge.rw_appendhall_k37_whole_records_in_a_space).prog 84) (kwd := []) Ah.ob_eq
    (by kernel_rfl) (fun s => by kernel_rfl) Ah.run (by kernel_rfl) (by kernel_rfl) (by kernel_rfl) (by rfl) (by first | assumption | decide +kernel) (by decide +kernel) ⟨rfl, rfl, rfl, rfl, rfl, by decide +kernel⟩ ?hw ?hc
  case hw => w_witness2
  case hc =>
    refine L2.walk_ofE (l := PySem.Challenge.rw_appendhall_k37_whole_records_in_a_space) (n := 63) (k := 27) (x := "_law_script") (CX := L2.CX0) rfl (by decide) (by kernel_rfl) ⟨rfl, by decide, by decide⟩ ?F (fun _ _ _ _ z => z)
    intro w mg fa h Y G hmg0
    obtain ⟨K, KX, c⟩ := Y
    have hmg : mg ("law" : PySem.Str) = some (.ref fa) := by
      have e : (HandSHeadRun.topDef (OpenLaw.row PySem.Challenge.rw_appendhall_k37_whole_records_in_a_space).prog 84).name = ("law" : PySem.Str) := by kernel_rfl
      rw [← e]
      exact hmg0
    have T := Ah.tx_of KX G c
    obtain ⟨fd, F⟩ := T.fd_law
    have e := hmg.symm.trans T.g_law
    cases e
    have b := L2.FunD.bindsA (ps := ["_law_script"]) F fun _ _ _ _ _ _ us hl => match us, hl with | [_], _ => rfl
    exact ⟨K, fd, Ah.Sp1 (Ah.P_law K), KX, fun s v => b s [v] rfl, fun H a ns hl _ hS => ⟨a, ns, rfl, hS, fun _ => rfl⟩, fun base _ _ => Ah.fn_law T F⟩
