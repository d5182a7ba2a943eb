import PyProof.Rows.All
import Wide.All
import OpenK.AllK
import Wide.FinOn
import HandS.ForMost
import HandS.Defaults
import PySem.Challenge.RW_sharedscopes_k59_whole_papers_of_no_valu
import HandS.Head0
import HandS.Head1
import HandS.Head2
import HandS.HeadEnd
import HandS.HeadHook1
import HandS.HeadHook2
import HandS.HeadHook3
import HandS.HeadHook4
import HandS.HeadWalk
import HandS.NestedK
import HandS.IsInst
import HandS.Walk
import KE.KDictKeyed
import KE.KDictDisplayH
import HandS.Iter
import KE.GoesDict
import PyProof.RulesMatch
import HandS.DictComp
import KE.KDictSum
import KE.KDictCopyH
import KE.SortData
import KE.SortKeyHeap
import KE.KDictPairs
import HandS.Star
import HandS.Style
import HandS.TupAny
import HandS.Zip
import HandS.Deep
import HandS.Wide
import HandS.Conv
import HandS.WrittenGet
import KE.GoesMore
import HandS.Lambda
import HandS.SortKw
import HandS.Flow
set_option Elab.async false
set_option linter.all false
set_option maxRecDepth 100000
set_option maxHeartbeats 4000000
namespace Ss
open PySem PySem.Spec PyProof.Rows L2
def top (i : Nat) : Stmt := PySem.Challenge.pw_sharedscopes_k59_whole_papers_of_no_valu.main.body.getD i (.Pass ⟨0, 0, 0, 0⟩)
abbrev s_is_whole : Stmt := top 6
abbrev n_is_whole : List Str := ["value"]
theorem sc_is_whole : FnScope n_is_whole ["value"] (defScope s_is_whole) := ⟨rfl, rfl, rfl, by decide +kernel, rfl, by decide +kernel, by decide +kernel⟩
abbrev s_is_number : Stmt := top 7
abbrev n_is_number : List Str := ["value", "low", "high"]
theorem sc_is_number : FnScope n_is_number ["value", "low", "high"] (defScope s_is_number) := ⟨rfl, rfl, rfl, by decide +kernel, rfl, by decide +kernel, by decide +kernel⟩
abbrev s_is_line : Stmt := top 8
abbrev n_is_line : List Str := ["value"]
theorem sc_is_line : FnScope n_is_line ["value"] (defScope s_is_line) := ⟨rfl, rfl, rfl, by decide +kernel, rfl, by decide +kernel, by decide +kernel⟩
abbrev s_is_tuple_of : Stmt := top 9
abbrev n_is_tuple_of : List Str := ["value", "many"]
theorem sc_is_tuple_of : FnScope n_is_tuple_of ["value", "many"] (defScope s_is_tuple_of) := ⟨rfl, rfl, rfl, by decide +kernel, rfl, by decide +kernel, by decide +kernel⟩
abbrev s_in_stamp_order : Stmt := top 10
abbrev n_in_stamp_order : List Str := ["some", "known", "time", "hand"]
theorem sc_in_stamp_order : FnScope n_in_stamp_order ["some"] (defScope s_in_stamp_order) := ⟨rfl, rfl, rfl, by decide +kernel, rfl, by decide +kernel, by decide +kernel⟩
abbrev s_is_name : Stmt := top 27
abbrev n_is_name : List Str := ["value", "sign"]
theorem sc_is_name : FnScope n_is_name ["value"] (defScope s_is_name) := ⟨rfl, rfl, rfl, by decide +kernel, rfl, by decide +kernel, by decide +kernel⟩
abbrev s_is_stamp : Stmt := top 28
abbrev n_is_stamp : List Str := ["value"]
theorem sc_is_stamp : FnScope n_is_stamp ["value"] (defScope s_is_stamp) := ⟨rfl, rfl, rfl, by decide +kernel, rfl, by decide +kernel, by decide +kernel⟩
abbrev s_is_place_name : Stmt := top 29
abbrev n_is_place_name : List Str := ["value"]
theorem sc_is_place_name : FnScope n_is_place_name ["value"] (defScope s_is_place_name) := ⟨rfl, rfl, rfl, by decide +kernel, rfl, by decide +kernel, by decide +kernel⟩
abbrev s_is_binder : Stmt := top 30
abbrev n_is_binder : List Str := ["value"]
theorem sc_is_binder : FnScope n_is_binder ["value"] (defScope s_is_binder) := ⟨rfl, rfl, rfl, by decide +kernel, rfl, by decide +kernel, by decide +kernel⟩
abbrev s_does_hold : Stmt := top 31
abbrev n_does_hold : List Str := ["kind"]
theorem sc_does_hold : FnScope n_does_hold ["kind"] (defScope s_does_hold) := ⟨rfl, rfl, rfl, by decide +kernel, rfl, by decide +kernel, by decide +kernel⟩
abbrev s_is_content : Stmt := top 32
abbrev n_is_content : List Str := ["kind", "content"]
theorem sc_is_content : FnScope n_is_content ["kind", "content"] (defScope s_is_content) := ⟨rfl, rfl, rfl, by decide +kernel, rfl, by decide +kernel, by decide +kernel⟩
abbrev s_is_make : Stmt := top 33
abbrev n_is_make : List Str := ["body"]
theorem sc_is_make : FnScope n_is_make ["body"] (defScope s_is_make) := ⟨rfl, rfl, rfl, by decide +kernel, rfl, by decide +kernel, by decide +kernel⟩
abbrev s_is_placing_body : Stmt := top 34
abbrev n_is_placing_body : List Str := ["body"]
theorem sc_is_placing_body : FnScope n_is_placing_body ["body"] (defScope s_is_placing_body) := ⟨rfl, rfl, rfl, by decide +kernel, rfl, by decide +kernel, by decide +kernel⟩
abbrev s_is_content_body : Stmt := top 35
abbrev n_is_content_body : List Str := ["body", "kind"]
theorem sc_is_content_body : FnScope n_is_content_body ["body"] (defScope s_is_content_body) := ⟨rfl, rfl, rfl, by decide +kernel, rfl, by decide +kernel, by decide +kernel⟩
abbrev s_is_body : Stmt := top 36
abbrev n_is_body : List Str := ["value"]
theorem sc_is_body : FnScope n_is_body ["value"] (defScope s_is_body) := ⟨rfl, rfl, rfl, by decide +kernel, rfl, by decide +kernel, by decide +kernel⟩
abbrev s_is_seen : Stmt := top 37
abbrev n_is_seen : List Str := ["value", "stamp", "time"]
theorem sc_is_seen : FnScope n_is_seen ["value", "stamp"] (defScope s_is_seen) := ⟨rfl, rfl, rfl, by decide +kernel, rfl, by decide +kernel, by decide +kernel⟩
abbrev s_is_deed : Stmt := top 38
abbrev n_is_deed : List Str := ["value"]
theorem sc_is_deed : FnScope n_is_deed ["value"] (defScope s_is_deed) := ⟨rfl, rfl, rfl, by decide +kernel, rfl, by decide +kernel, by decide +kernel⟩
abbrev s_names_in : Stmt := top 40
abbrev n_names_in : List Str := ["body"]
theorem sc_names_in : FnScope n_names_in ["body"] (defScope s_names_in) := ⟨rfl, rfl, rfl, by decide +kernel, rfl, by decide +kernel, by decide +kernel⟩
abbrev s_is_named_seen : Stmt := top 44
abbrev n_is_named_seen : List Str := ["name", "seen"]
theorem sc_is_named_seen : FnScope n_is_named_seen ["name", "seen"] (defScope s_is_named_seen) := ⟨rfl, rfl, rfl, by decide +kernel, rfl, by decide +kernel, by decide +kernel⟩
abbrev s_ahead_of : Stmt := top 45
abbrev n_ahead_of : List Str := ["known", "stamp", "times", "time", "hand"]
theorem sc_ahead_of : FnScope n_ahead_of ["known", "stamp"] (defScope s_ahead_of) := ⟨rfl, rfl, rfl, by decide +kernel, rfl, by decide +kernel, by decide +kernel⟩
abbrev s_is_closed : Stmt := top 46
abbrev n_is_closed : List Str := ["known", "deed", "stamp", "seen", "body", "hand", "earlier", "other"]
theorem sc_is_closed : FnScope n_is_closed ["known", "deed"] (defScope s_is_closed) := ⟨rfl, rfl, rfl, by decide +kernel, rfl, by decide +kernel, by decide +kernel⟩
abbrev s_are_named_there : Stmt := top 47
abbrev n_are_named_there : List Str := ["known", "deed", "names", "name"]
theorem sc_are_named_there : FnScope n_are_named_there ["known", "deed"] (defScope s_are_named_there) := ⟨rfl, rfl, rfl, by decide +kernel, rfl, by decide +kernel, by decide +kernel⟩
abbrev s_checked_book : Stmt := top 48
abbrev n_checked_book : List Str := ["some", "found", "index", "deed", "known", "stamp"]
theorem sc_checked_book : FnScope n_checked_book ["some"] (defScope s_checked_book) := ⟨rfl, rfl, rfl, by decide +kernel, rfl, by decide +kernel, by decide +kernel⟩
abbrev s_Book_init : Stmt := inClass (top 49) 0
abbrev n_Book_init : List Str := ["self", "deeds"]
theorem sc_Book_init : FnScope n_Book_init ["self", "deeds"] (defScope s_Book_init) := ⟨rfl, rfl, rfl, by decide +kernel, rfl, by decide +kernel, by decide +kernel⟩
abbrev s_Book_getitem : Stmt := inClass (top 49) 4
abbrev n_Book_getitem : List Str := ["self", "stamp"]
theorem sc_Book_getitem : FnScope n_Book_getitem ["self", "stamp"] (defScope s_Book_getitem) := ⟨rfl, rfl, rfl, by decide +kernel, rfl, by decide +kernel, by decide +kernel⟩
abbrev s_Book_deeds : Stmt := inClass (top 49) 7
abbrev n_Book_deeds : List Str := ["self", "stamp"]
theorem sc_Book_deeds : FnScope n_Book_deeds ["self"] (defScope s_Book_deeds) := ⟨rfl, rfl, rfl, by decide +kernel, rfl, by decide +kernel, by decide +kernel⟩
abbrev s_check_book : Stmt := top 50
abbrev n_check_book : List Str := ["book"]
theorem sc_check_book : FnScope n_check_book ["book"] (defScope s_check_book) := ⟨rfl, rfl, rfl, by decide +kernel, rfl, by decide +kernel, by decide +kernel⟩
abbrev s_check_stamps : Stmt := top 51
abbrev n_check_stamps : List Str := ["book", "stamps", "index", "stamp"]
theorem sc_check_stamps : FnScope n_check_stamps ["book", "stamps"] (defScope s_check_stamps) := ⟨rfl, rfl, rfl, by decide +kernel, rfl, by decide +kernel, by decide +kernel⟩
abbrev s_has_mark_word : Stmt := top 53
abbrev n_has_mark_word : List Str := ["deed"]
theorem sc_has_mark_word : FnScope n_has_mark_word ["deed"] (defScope s_has_mark_word) := ⟨rfl, rfl, rfl, by decide +kernel, rfl, by decide +kernel, by decide +kernel⟩
abbrev s_named_deed : Stmt := top 54
abbrev n_named_deed : List Str := ["book", "deed", "other"]
theorem sc_named_deed : FnScope n_named_deed ["book", "deed"] (defScope s_named_deed) := ⟨rfl, rfl, rfl, by decide +kernel, rfl, by decide +kernel, by decide +kernel⟩
abbrev s_mark_rows : Stmt := top 55
abbrev n_mark_rows : List Str := ["book", "left_out", "found", "deed", "other"]
theorem sc_mark_rows : FnScope n_mark_rows ["book", "left_out"] (defScope s_mark_rows) := ⟨rfl, rfl, rfl, by decide +kernel, rfl, by decide +kernel, by decide +kernel⟩
abbrev s_is_up : Stmt := top 56
abbrev n_is_up : List Str := ["marks"]
theorem sc_is_up : FnScope n_is_up ["marks"] (defScope s_is_up) := ⟨rfl, rfl, rfl, by decide +kernel, rfl, by decide +kernel, by decide +kernel⟩
abbrev s_alive_by : Stmt := top 57
abbrev n_alive_by : List Str := ["book", "left_out", "rows", "stamp"]
theorem sc_alive_by : FnScope n_alive_by ["book", "left_out"] (defScope s_alive_by) := ⟨rfl, rfl, rfl, by decide +kernel, rfl, by decide +kernel, by decide +kernel⟩
abbrev s_alive_without : Stmt := top 58
abbrev n_alive_without : List Str := ["book", "stamps"]
theorem sc_alive_without : FnScope n_alive_without ["book", "stamps"] (defScope s_alive_without) := ⟨rfl, rfl, rfl, by decide +kernel, rfl, by decide +kernel, by decide +kernel⟩
abbrev s_Playing_init : Stmt := inClass (top 64) 0
abbrev n_Playing_init : List Str := ["self"]
theorem sc_Playing_init : FnScope n_Playing_init ["self"] (defScope s_Playing_init) := ⟨rfl, rfl, rfl, by decide +kernel, rfl, by decide +kernel, by decide +kernel⟩
abbrev s_Playing_can_hold : Stmt := inClass (top 64) 1
abbrev n_Playing_can_hold : List Str := ["self", "under"]
theorem sc_Playing_can_hold : FnScope n_Playing_can_hold ["self", "under"] (defScope s_Playing_can_hold) := ⟨rfl, rfl, rfl, by decide +kernel, rfl, by decide +kernel, by decide +kernel⟩
abbrev s_Playing_can_leave : Stmt := inClass (top 64) 2
abbrev n_Playing_can_leave : List Str := ["self", "thing"]
theorem sc_Playing_can_leave : FnScope n_Playing_can_leave ["self", "thing"] (defScope s_Playing_can_leave) := ⟨rfl, rfl, rfl, by decide +kernel, rfl, by decide +kernel, by decide +kernel⟩
abbrev s_Playing_chain_up : Stmt := inClass (top 64) 3
abbrev n_Playing_chain_up : List Str := ["self", "thing", "under", "found", "spot", "place"]
theorem sc_Playing_chain_up : FnScope n_Playing_chain_up ["self", "thing", "under"] (defScope s_Playing_chain_up) := ⟨rfl, rfl, rfl, by decide +kernel, rfl, by decide +kernel, by decide +kernel⟩
abbrev s_Playing_make_thing : Stmt := inClass (top 64) 4
abbrev n_Playing_make_thing : List Str := ["self", "stamp", "body"]
theorem sc_Playing_make_thing : FnScope n_Playing_make_thing ["self", "stamp", "body"] (defScope s_Playing_make_thing) := ⟨rfl, rfl, rfl, by decide +kernel, rfl, by decide +kernel, by decide +kernel⟩
abbrev s_Playing_move_thing : Stmt := inClass (top 64) 5
abbrev n_Playing_move_thing : List Str := ["self", "stamp", "body", "thing", "under", "chain"]
theorem sc_Playing_move_thing : FnScope n_Playing_move_thing ["self", "stamp", "body"] (defScope s_Playing_move_thing) := ⟨rfl, rfl, rfl, by decide +kernel, rfl, by decide +kernel, by decide +kernel⟩
abbrev s_Playing_drop_thing : Stmt := inClass (top 64) 6
abbrev n_Playing_drop_thing : List Str := ["self", "stamp", "body"]
theorem sc_Playing_drop_thing : FnScope n_Playing_drop_thing ["self", "stamp", "body"] (defScope s_Playing_drop_thing) := ⟨rfl, rfl, rfl, by decide +kernel, rfl, by decide +kernel, by decide +kernel⟩
abbrev s_Playing_put_content : Stmt := inClass (top 64) 7
abbrev n_Playing_put_content : List Str := ["self", "body"]
theorem sc_Playing_put_content : FnScope n_Playing_put_content ["self", "body"] (defScope s_Playing_put_content) := ⟨rfl, rfl, rfl, by decide +kernel, rfl, by decide +kernel, by decide +kernel⟩
abbrev s_Playing_do_deed : Stmt := inClass (top 64) 8
abbrev n_Playing_do_deed : List Str := ["self", "stamp", "body", "outcome", "chain"]
theorem sc_Playing_do_deed : FnScope n_Playing_do_deed ["self", "stamp", "body"] (defScope s_Playing_do_deed) := ⟨rfl, rfl, rfl, by decide +kernel, rfl, by decide +kernel, by decide +kernel⟩
abbrev s_play_through : Stmt := top 65
abbrev n_play_through : List Str := ["book", "without", "playing", "stamp"]
theorem sc_play_through : FnScope n_play_through ["book", "without"] (defScope s_play_through) := ⟨rfl, rfl, rfl, by decide +kernel, rfl, by decide +kernel, by decide +kernel⟩
abbrev s_State_init : Stmt := inClass (top 67) 0
abbrev n_State_init : List Str := ["self", "book", "without", "playing", "thing", "placed", "place"]
theorem sc_State_init : FnScope n_State_init ["self", "book", "without"] (defScope s_State_init) := ⟨rfl, rfl, rfl, by decide +kernel, rfl, by decide +kernel, by decide +kernel⟩
abbrev s_State_all_below : Stmt := inClass (top 67) 1
abbrev n_State_all_below : List Str := ["self", "thing", "found", "other"]
theorem sc_State_all_below : FnScope n_State_all_below ["self", "thing"] (defScope s_State_all_below) := ⟨rfl, rfl, rfl, by decide +kernel, rfl, by decide +kernel, by decide +kernel⟩
abbrev s_State_look_there : Stmt := inClass (top 67) 2
abbrev n_State_look_there : List Str := ["self", "thing"]
theorem sc_State_look_there : FnScope n_State_look_there ["self", "thing"] (defScope s_State_look_there) := ⟨rfl, rfl, rfl, by decide +kernel, rfl, by decide +kernel, by decide +kernel⟩
abbrev s_State_look_in : Stmt := inClass (top 67) 3
abbrev n_State_look_in : List Str := ["self", "thing"]
theorem sc_State_look_in : FnScope n_State_look_in ["self", "thing"] (defScope s_State_look_in) := ⟨rfl, rfl, rfl, by decide +kernel, rfl, by decide +kernel, by decide +kernel⟩
abbrev s_State_look_in_of : Stmt := inClass (top 67) 4
abbrev n_State_look_in_of : List Str := ["self", "thing", "kind"]
theorem sc_State_look_in_of : FnScope n_State_look_in_of ["self", "thing", "kind"] (defScope s_State_look_in_of) := ⟨rfl, rfl, rfl, by decide +kernel, rfl, by decide +kernel, by decide +kernel⟩
abbrev s_State_is_there : Stmt := inClass (top 67) 6
abbrev n_State_is_there : List Str := ["self", "value"]
theorem sc_State_is_there : FnScope n_State_is_there ["self", "value"] (defScope s_State_is_there) := ⟨rfl, rfl, rfl, by decide +kernel, rfl, by decide +kernel, by decide +kernel⟩
abbrev s_State_is_in : Stmt := inClass (top 67) 7
abbrev n_State_is_in : List Str := ["self", "value"]
theorem sc_State_is_in : FnScope n_State_is_in ["self", "value"] (defScope s_State_is_in) := ⟨rfl, rfl, rfl, by decide +kernel, rfl, by decide +kernel, by decide +kernel⟩
abbrev s_State_kind : Stmt := inClass (top 67) 8
abbrev n_State_kind : List Str := ["self", "thing"]
theorem sc_State_kind : FnScope n_State_kind ["self", "thing"] (defScope s_State_kind) := ⟨rfl, rfl, rfl, by decide +kernel, rfl, by decide +kernel, by decide +kernel⟩
abbrev s_State_content : Stmt := inClass (top 67) 9
abbrev n_State_content : List Str := ["self", "thing"]
theorem sc_State_content : FnScope n_State_content ["self", "thing"] (defScope s_State_content) := ⟨rfl, rfl, rfl, by decide +kernel, rfl, by decide +kernel, by decide +kernel⟩
abbrev s_State_under : Stmt := inClass (top 67) 12
abbrev n_State_under : List Str := ["self", "thing"]
theorem sc_State_under : FnScope n_State_under ["self", "thing"] (defScope s_State_under) := ⟨rfl, rfl, rfl, by decide +kernel, rfl, by decide +kernel, by decide +kernel⟩
abbrev s_State_line : Stmt := inClass (top 67) 14
abbrev n_State_line : List Str := ["self"]
theorem sc_State_line : FnScope n_State_line ["self"] (defScope s_State_line) := ⟨rfl, rfl, rfl, by decide +kernel, rfl, by decide +kernel, by decide +kernel⟩
abbrev s_check_state : Stmt := top 68
abbrev n_check_state : List Str := ["state"]
theorem sc_check_state : FnScope n_check_state ["state"] (defScope s_check_state) := ⟨rfl, rfl, rfl, by decide +kernel, rfl, by decide +kernel, by decide +kernel⟩
abbrev s_ends_below : Stmt := top 69
abbrev n_ends_below : List Str := ["state", "thing", "found", "other"]
theorem sc_ends_below : FnScope n_ends_below ["state", "thing"] (defScope s_ends_below) := ⟨rfl, rfl, rfl, by decide +kernel, rfl, by decide +kernel, by decide +kernel⟩
abbrev s_ends_of : Stmt := top 70
abbrev n_ends_of : List Str := ["state"]
theorem sc_ends_of : FnScope n_ends_of ["state"] (defScope s_ends_of) := ⟨rfl, rfl, rfl, by decide +kernel, rfl, by decide +kernel, by decide +kernel⟩
abbrev s_TreeView_init : Stmt := inClass (top 72) 0
abbrev n_TreeView_init : List Str := ["self", "state", "left_out"]
theorem sc_TreeView_init : FnScope n_TreeView_init ["self", "state", "left_out"] (defScope s_TreeView_init) := ⟨rfl, rfl, rfl, by decide +kernel, rfl, by decide +kernel, by decide +kernel⟩
abbrev s_TreeView_take_in : Stmt := inClass (top 72) 1
abbrev n_TreeView_take_in : List Str := ["self", "thing", "left_out", "kids", "kid", "place"]
theorem sc_TreeView_take_in : FnScope n_TreeView_take_in ["self", "thing", "left_out"] (defScope s_TreeView_take_in) := ⟨rfl, rfl, rfl, by decide +kernel, rfl, by decide +kernel, by decide +kernel⟩
abbrev s_is_let_within : Stmt := top 73
abbrev n_is_let_within : List Str := ["view", "thing"]
theorem sc_is_let_within : FnScope n_is_let_within ["view", "thing"] (defScope s_is_let_within) := ⟨rfl, rfl, rfl, by decide +kernel, rfl, by decide +kernel, by decide +kernel⟩
abbrev s_last_let : Stmt := top 74
abbrev n_last_let : List Str := ["view", "under", "place", "kid"]
theorem sc_last_let : FnScope n_last_let ["view", "under", "place"] (defScope s_last_let) := ⟨rfl, rfl, rfl, by decide +kernel, rfl, by decide +kernel, by decide +kernel⟩
abbrev s_nearest_at : Stmt := top 75
abbrev n_nearest_at : List Str := ["view", "under", "place", "found"]
theorem sc_nearest_at : FnScope n_nearest_at ["view", "under", "place"] (defScope s_nearest_at) := ⟨rfl, rfl, rfl, by decide +kernel, rfl, by decide +kernel, by decide +kernel⟩
abbrev s_nearest_within : Stmt := top 76
abbrev n_nearest_within : List Str := ["view", "thing", "under", "place"]
theorem sc_nearest_within : FnScope n_nearest_within ["view", "thing"] (defScope s_nearest_within) := ⟨rfl, rfl, rfl, by decide +kernel, rfl, by decide +kernel, by decide +kernel⟩
abbrev s_chain_from : Stmt := top 77
abbrev n_chain_from : List Str := ["view", "let", "found"]
theorem sc_chain_from : FnScope n_chain_from ["view", "let"] (defScope s_chain_from) := ⟨rfl, rfl, rfl, by decide +kernel, rfl, by decide +kernel, by decide +kernel⟩
abbrev s_visible_within : Stmt := top 78
abbrev n_visible_within : List Str := ["view", "thing"]
theorem sc_visible_within : FnScope n_visible_within ["view", "thing"] (defScope s_visible_within) := ⟨rfl, rfl, rfl, by decide +kernel, rfl, by decide +kernel, by decide +kernel⟩
abbrev s_told_within : Stmt := top 79
abbrev n_told_within : List Str := ["view", "use", "state", "binder"]
theorem sc_told_within : FnScope n_told_within ["view", "use"] (defScope s_told_within) := ⟨rfl, rfl, rfl, by decide +kernel, rfl, by decide +kernel, by decide +kernel⟩
abbrev s_check_scope_thing : Stmt := top 80
abbrev n_check_scope_thing : List Str := ["state", "thing"]
theorem sc_check_scope_thing : FnScope n_check_scope_thing ["state", "thing"] (defScope s_check_scope_thing) := ⟨rfl, rfl, rfl, by decide +kernel, rfl, by decide +kernel, by decide +kernel⟩
abbrev s_check_scope_kind : Stmt := top 81
abbrev n_check_scope_kind : List Str := ["state", "thing", "kind"]
theorem sc_check_scope_kind : FnScope n_check_scope_kind ["state", "thing", "kind"] (defScope s_check_scope_kind) := ⟨rfl, rfl, rfl, by decide +kernel, rfl, by decide +kernel, by decide +kernel⟩
abbrev s_told_use : Stmt := top 82
abbrev n_told_use : List Str := ["state", "use"]
theorem sc_told_use : FnScope n_told_use ["state", "use"] (defScope s_told_use) := ⟨rfl, rfl, rfl, by decide +kernel, rfl, by decide +kernel, by decide +kernel⟩
abbrev s_is_word : Stmt := top 85
abbrev n_is_word : List Str := ["value", "word"]
theorem sc_is_word : FnScope n_is_word ["value", "word"] (defScope s_is_word) := ⟨rfl, rfl, rfl, by decide +kernel, rfl, by decide +kernel, by decide +kernel⟩
abbrev s_parts_in : Stmt := top 86
abbrev n_parts_in : List Str := ["state", "thing", "kind", "told", "others", "one"]
theorem sc_parts_in : FnScope n_parts_in ["state", "thing"] (defScope s_parts_in) := ⟨rfl, rfl, rfl, by decide +kernel, rfl, by decide +kernel, by decide +kernel⟩
abbrev s_joined_value : Stmt := top 87
abbrev n_joined_value : List Str := ["kind", "values", "value", "found"]
theorem sc_joined_value : FnScope n_joined_value ["kind", "values"] (defScope s_joined_value) := ⟨rfl, rfl, rfl, by decide +kernel, rfl, by decide +kernel, by decide +kernel⟩
abbrev s_Hanging_init : Stmt := inClass (top 88) 0
abbrev n_Hanging_init : List Str := ["self", "state", "thing"]
theorem sc_Hanging_init : FnScope n_Hanging_init ["self", "state"] (defScope s_Hanging_init) := ⟨rfl, rfl, rfl, by decide +kernel, rfl, by decide +kernel, by decide +kernel⟩
abbrev s_Hanging_is_lost : Stmt := inClass (top 88) 2
abbrev n_Hanging_is_lost : List Str := ["self", "thing"]
theorem sc_Hanging_is_lost : FnScope n_Hanging_is_lost ["self", "thing"] (defScope s_Hanging_is_lost) := ⟨rfl, rfl, rfl, by decide +kernel, rfl, by decide +kernel, by decide +kernel⟩
abbrev s_Hanging_reckoned : Stmt := inClass (top 88) 3
abbrev n_Hanging_reckoned : List Str := ["self", "contents", "found", "thing", "kind", "part"]
theorem sc_Hanging_reckoned : FnScope n_Hanging_reckoned ["self", "contents"] (defScope s_Hanging_reckoned) := ⟨rfl, rfl, rfl, by decide +kernel, rfl, by decide +kernel, by decide +kernel⟩
abbrev s_none_paper : Stmt := top 89
abbrev n_none_paper : List Str := ["state", "thing", "hanging", "values", "row", "part"]
theorem sc_none_paper : FnScope n_none_paper ["state", "thing"] (defScope s_none_paper) := ⟨rfl, rfl, rfl, by decide +kernel, rfl, by decide +kernel, by decide +kernel⟩
abbrev s_is_none_row : Stmt := top 90
abbrev n_is_none_row : List Str := ["hanging", "row", "one", "other"]
theorem sc_is_none_row : FnScope n_is_none_row ["hanging", "row"] (defScope s_is_none_row) := ⟨rfl, rfl, rfl, by decide +kernel, rfl, by decide +kernel, by decide +kernel⟩
abbrev s_accepts_none : Stmt := top 91
abbrev n_accepts_none : List Str := ["state", "thing", "value", "row", "one"]
theorem sc_accepts_none : FnScope n_accepts_none ["state", "thing", "value"] (defScope s_accepts_none) := ⟨rfl, rfl, rfl, by decide +kernel, rfl, by decide +kernel, by decide +kernel⟩
abbrev s_l_pool : Stmt := top 93
abbrev n_l_pool : List Str := ["_law_script", "_law_k", "_law_cell", "_law_big", "_law_mixed"]
theorem sc_l_pool : FnScope n_l_pool ["_law_script", "_law_k"] (defScope s_l_pool) := ⟨rfl, rfl, rfl, by decide +kernel, rfl, by decide +kernel, by decide +kernel⟩
abbrev s_l_take : Stmt := top 94
abbrev n_l_take : List Str := ["_law_source", "_law_top", "_law_told"]
theorem sc_l_take : FnScope n_l_take ["_law_source", "_law_top"] (defScope s_l_take) := ⟨rfl, rfl, rfl, by decide +kernel, rfl, by decide +kernel, by decide +kernel⟩
abbrev s_l_one : Stmt := top 95
abbrev n_l_one : List Str := ["_law_source", "_law_things"]
theorem sc_l_one : FnScope n_l_one ["_law_source", "_law_things"] (defScope s_l_one) := ⟨rfl, rfl, rfl, by decide +kernel, rfl, by decide +kernel, by decide +kernel⟩
abbrev s_l_rounds : Stmt := top 96
abbrev n_l_rounds : List Str := ["_law_script"]
theorem sc_l_rounds : FnScope n_l_rounds ["_law_script"] (defScope s_l_rounds) := ⟨rfl, rfl, rfl, by decide +kernel, rfl, by decide +kernel, by decide +kernel⟩
abbrev s_l_world : Stmt := top 97
abbrev n_l_world : List Str := ["_law_many", "_law_hand"]
theorem sc_l_world : FnScope n_l_world ["_law_many"] (defScope s_l_world) := ⟨rfl, rfl, rfl, by decide +kernel, rfl, by decide +kernel, by decide +kernel⟩
abbrev s_l_seen_deeds : Stmt := top 98
abbrev n_l_seen_deeds : List Str := ["_law_world_here", "_law_hand", "_law_seen", "_law_deed"]
theorem sc_l_seen_deeds : FnScope n_l_seen_deeds ["_law_world_here", "_law_hand"] (defScope s_l_seen_deeds) := ⟨rfl, rfl, rfl, by decide +kernel, rfl, by decide +kernel, by decide +kernel⟩
abbrev s_l_learn : Stmt := top 99
abbrev n_l_learn : List Str := ["_law_source", "_law_world_here", "_law_hand", "_law_other", "_law_some", "_law_deed", "_law_seen", "_law_k"]
theorem sc_l_learn : FnScope n_l_learn ["_law_source", "_law_world_here", "_law_hand"] (defScope s_l_learn) := ⟨rfl, rfl, rfl, by decide +kernel, rfl, by decide +kernel, by decide +kernel⟩
abbrev s_l_content : Stmt := top 100
abbrev n_l_content : List Str := ["_law_source", "_law_kind", "_law_some", "_law_lets", "_law_deed", "_law_odd"]
theorem sc_l_content : FnScope n_l_content ["_law_source", "_law_kind", "_law_some"] (defScope s_l_content) := ⟨rfl, rfl, rfl, by decide +kernel, rfl, by decide +kernel, by decide +kernel⟩
abbrev s_l_holders : Stmt := top 101
abbrev n_l_holders : List Str := ["_law_some", "_law_kinds", "_law_deed"]
theorem sc_l_holders : FnScope n_l_holders ["_law_some"] (defScope s_l_holders) := ⟨rfl, rfl, rfl, by decide +kernel, rfl, by decide +kernel, by decide +kernel⟩
abbrev s_l_made_body : Stmt := top 102
abbrev n_l_made_body : List Str := ["_law_source", "_law_some", "_law_kind", "_law_under"]
theorem sc_l_made_body : FnScope n_l_made_body ["_law_source", "_law_some"] (defScope s_l_made_body) := ⟨rfl, rfl, rfl, by decide +kernel, rfl, by decide +kernel, by decide +kernel⟩
abbrev s_l_body : Stmt := top 103
abbrev n_l_body : List Str := ["_law_source", "_law_some", "_law_makes", "_law_deed", "_law_words", "_law_word", "_law_kind", "_law_things", "_law_odd", "_law_thing", "_law_under"]
theorem sc_l_body : FnScope n_l_body ["_law_source", "_law_some"] (defScope s_l_body) := ⟨rfl, rfl, rfl, by decide +kernel, rfl, by decide +kernel, by decide +kernel⟩
abbrev s_l_do : Stmt := top 104
abbrev n_l_do : List Str := ["_law_source", "_law_world_here", "_law_hand", "_law_body_here", "_law_seen", "_law_stamp", "_law_time", "_law_k"]
theorem sc_l_do : FnScope n_l_do ["_law_source", "_law_world_here", "_law_hand", "_law_body_here"] (defScope s_l_do) := ⟨rfl, rfl, rfl, by decide +kernel, rfl, by decide +kernel, by decide +kernel⟩
abbrev s_l_step : Stmt := top 105
abbrev n_l_step : List Str := ["_law_source", "_law_world_here", "_law_hand"]
theorem sc_l_step : FnScope n_l_step ["_law_source", "_law_world_here"] (defScope s_l_step) := ⟨rfl, rfl, rfl, by decide +kernel, rfl, by decide +kernel, by decide +kernel⟩
abbrev s_l_drawn : Stmt := top 106
abbrev n_l_drawn : List Str := ["_law_source", "_law_most", "_law_many", "_law_world_here", "_law_made", "_law_hand", "_law_turn"]
theorem sc_l_drawn : FnScope n_l_drawn ["_law_source", "_law_most", "_law_many"] (defScope s_l_drawn) := ⟨rfl, rfl, rfl, by decide +kernel, rfl, by decide +kernel, by decide +kernel⟩
abbrev s_l_program : Stmt := top 107
abbrev n_l_program : List Str := ["_law_source", "_law_most", "_law_world_here", "_law_turn", "_law_some", "_law_body_here", "_law_lets", "_law_deed"]
theorem sc_l_program : FnScope n_l_program ["_law_source", "_law_most"] (defScope s_l_program) := ⟨rfl, rfl, rfl, by decide +kernel, rfl, by decide +kernel, by decide +kernel⟩
abbrev s_l_case : Stmt := top 108
abbrev n_l_case : List Str := ["_law_source", "_law_most"]
theorem sc_l_case : FnScope n_l_case ["_law_source", "_law_most"] (defScope s_l_case) := ⟨rfl, rfl, rfl, by decide +kernel, rfl, by decide +kernel, by decide +kernel⟩
abbrev s_l_parts : Stmt := top 109
abbrev n_l_parts : List Str := ["_law_state", "_law_thing", "_law_kind", "_law_found", "_law_others", "_law_one_here"]
theorem sc_l_parts : FnScope n_l_parts ["_law_state", "_law_thing"] (defScope s_l_parts) := ⟨rfl, rfl, rfl, by decide +kernel, rfl, by decide +kernel, by decide +kernel⟩
abbrev s_l_worth : Stmt := top 110
abbrev n_l_worth : List Str := ["_law_state", "_law_parts_here", "_law_known", "_law_thing", "_law_kind", "_law_some", "_law_one_here", "_law_worth_here"]
theorem sc_l_worth : FnScope n_l_worth ["_law_state", "_law_parts_here", "_law_known", "_law_thing"] (defScope s_l_worth) := ⟨rfl, rfl, rfl, by decide +kernel, rfl, by decide +kernel, by decide +kernel⟩
abbrev s_l_table : Stmt := top 111
abbrev n_l_table : List Str := ["_law_state", "_law_thing"]
theorem sc_l_table : FnScope n_l_table ["_law_state"] (defScope s_l_table) := ⟨rfl, rfl, rfl, by decide +kernel, rfl, by decide +kernel, by decide +kernel⟩
abbrev s_l_worths : Stmt := top 112
abbrev n_l_worths : List Str := ["_law_state", "_law_parts_here", "_law_known", "_law_thing"]
theorem sc_l_worths : FnScope n_l_worths ["_law_state", "_law_parts_here"] (defScope s_l_worths) := ⟨rfl, rfl, rfl, by decide +kernel, rfl, by decide +kernel, by decide +kernel⟩
abbrev s_l_row : Stmt := top 113
abbrev n_l_row : List Str := ["_law_parts_here", "_law_due", "_law_thing", "_law_row_here", "_law_part"]
theorem sc_l_row : FnScope n_l_row ["_law_parts_here", "_law_due", "_law_thing"] (defScope s_l_row) := ⟨rfl, rfl, rfl, by decide +kernel, rfl, by decide +kernel, by decide +kernel⟩
abbrev s_l_right : Stmt := top 114
abbrev n_l_right : List Str := ["_law_state", "_law_parts_here", "_law_thing", "_law_paper", "_law_row_here", "_law_one_here", "_law_k"]
theorem sc_l_right : FnScope n_l_right ["_law_state", "_law_parts_here", "_law_thing", "_law_paper"] (defScope s_l_right) := ⟨rfl, rfl, rfl, by decide +kernel, rfl, by decide +kernel, by decide +kernel⟩
abbrev s_l_is_in : Stmt := top 115
abbrev n_l_is_in : List Str := ["_law_parts_here", "_law_one_here", "_law_number"]
theorem sc_l_is_in : FnScope n_l_is_in ["_law_parts_here", "_law_one_here"] (defScope s_l_is_in) := ⟨rfl, rfl, rfl, by decide +kernel, rfl, by decide +kernel, by decide +kernel⟩
abbrev s_l_spoilt : Stmt := top 116
abbrev n_l_spoilt : List Str := ["_law_source", "_law_parts_here", "_law_paper", "_law_way", "_law_row_here", "_law_spot", "_law_turn"]
theorem sc_l_spoilt : FnScope n_l_spoilt ["_law_source", "_law_parts_here", "_law_paper"] (defScope s_l_spoilt) := ⟨rfl, rfl, rfl, by decide +kernel, rfl, by decide +kernel, by decide +kernel⟩
abbrev s_law : Stmt := top 117
abbrev n_law : List Str := ["_law_script", "_law_k", "_law_source", "_law_deeds", "_law_state", "_law_parts_here", "_law_due", "_law_thing", "_law_paper", "_law_papers", "_law_turn", "_law_one_here", "_law_found"]
theorem sc_law : FnScope n_law ["_law_script"] (defScope s_law) := ⟨rfl, rfl, rfl, by decide +kernel, rfl, by decide +kernel, by decide +kernel⟩
end Ss
set_option maxHeartbeats 0
/-! The head: printed by gen_head.py. -/
namespace Ss
open PySem PySem.Spec PyProof.Rows L2
abbrev RW : PySem.W.OpenRow := PySem.W.OpenLaw.row PySem.Challenge.rw_sharedscopes_k59_whole_papers_of_no_valu
def loose0 : List PySem.Str := ["_wall", "__name__", "MOST_HAND", "MOST_TIME", "MOST_KEY", "MOST_VALUE", "is_whole", "is_number", "is_line", "is_tuple_of", "in_stamp_order", "ScopeError", "NoBook", "NotClosed", "Unseen", "NoStamp", "NoStamps", "NoHand", "NoState", "NoThing", "TooMany", "ROOT", "HOLDERS", "NAME_LETTERS", "MARK_WORDS", "is_name", "is_stamp", "is_place_name", "is_binder", "does_hold"]
def loose1 : List PySem.Str := ["is_content", "is_make", "is_placing_body", "is_content_body", "is_body", "is_seen", "is_deed", "check_hand", "names_in", "MOST_DEEDS", "ALL_HANDS", "is_named_seen", "ahead_of", "is_closed", "are_named_there", "checked_book", "Book", "check_book", "check_stamps", "has_mark_word", "named_deed", "mark_rows", "is_up", "alive_by", "alive_without", "DONE", "GONE", "RING", "CONTENT_KINDS", "Playing"]
def loose2 : List PySem.Str := ["play_through", "State", "check_state", "ends_below", "ends_of", "TreeView", "is_let_within", "last_let", "nearest_at", "nearest_within", "chain_from", "visible_within", "told_within", "check_scope_thing", "check_scope_kind", "told_use", "PRIME", "is_word", "parts_in", "joined_value", "Hanging", "none_paper", "is_none_row", "accepts_none", "_law_pool", "_law_take", "_law_one", "_law_rounds", "_law_world", "_law_seen_deeds"]
def loose3 : List PySem.Str := ["_law_learn", "_law_content", "_law_holders", "_law_made_body", "_law_body", "_law_do", "_law_step", "_law_drawn", "_law_program", "_law_case", "_law_parts", "_law_worth", "_law_table", "_law_worths", "_law_row", "_law_right", "_law_is_in", "_law_spoilt"]
def looseA : List PySem.Str := loose0 ++ loose1 ++ loose2 ++ loose3
def e0A (K : PySem.W.Frag) : Addr := He.dflAt ("State", some "__init__") 0 K
def dd_is_whole : He.DefD := ⟨("is_whole", none), "is_whole", "is_whole", defArgs s_is_whole, defBody s_is_whole, defScope s_is_whole, [], []⟩
def dd_is_number : He.DefD := ⟨("is_number", none), "is_number", "is_number", defArgs s_is_number, defBody s_is_number, defScope s_is_number, [], []⟩
def dd_is_line : He.DefD := ⟨("is_line", none), "is_line", "is_line", defArgs s_is_line, defBody s_is_line, defScope s_is_line, [], []⟩
def dd_is_tuple_of : He.DefD := ⟨("is_tuple_of", none), "is_tuple_of", "is_tuple_of", defArgs s_is_tuple_of, defBody s_is_tuple_of, defScope s_is_tuple_of, [], []⟩
def dd_in_stamp_order : He.DefD := ⟨("in_stamp_order", none), "in_stamp_order", "in_stamp_order", defArgs s_in_stamp_order, defBody s_in_stamp_order, defScope s_in_stamp_order, [], []⟩
def dd_is_name : He.DefD := ⟨("is_name", none), "is_name", "is_name", defArgs s_is_name, defBody s_is_name, defScope s_is_name, [], []⟩
def dd_is_stamp : He.DefD := ⟨("is_stamp", none), "is_stamp", "is_stamp", defArgs s_is_stamp, defBody s_is_stamp, defScope s_is_stamp, [], []⟩
def dd_is_place_name : He.DefD := ⟨("is_place_name", none), "is_place_name", "is_place_name", defArgs s_is_place_name, defBody s_is_place_name, defScope s_is_place_name, [], []⟩
def dd_is_binder : He.DefD := ⟨("is_binder", none), "is_binder", "is_binder", defArgs s_is_binder, defBody s_is_binder, defScope s_is_binder, [], []⟩
def dd_does_hold : He.DefD := ⟨("does_hold", none), "does_hold", "does_hold", defArgs s_does_hold, defBody s_does_hold, defScope s_does_hold, [], []⟩
def dd_is_content : He.DefD := ⟨("is_content", none), "is_content", "is_content", defArgs s_is_content, defBody s_is_content, defScope s_is_content, [], []⟩
def dd_is_make : He.DefD := ⟨("is_make", none), "is_make", "is_make", defArgs s_is_make, defBody s_is_make, defScope s_is_make, [], []⟩
def dd_is_placing_body : He.DefD := ⟨("is_placing_body", none), "is_placing_body", "is_placing_body", defArgs s_is_placing_body, defBody s_is_placing_body, defScope s_is_placing_body, [], []⟩
def dd_is_content_body : He.DefD := ⟨("is_content_body", none), "is_content_body", "is_content_body", defArgs s_is_content_body, defBody s_is_content_body, defScope s_is_content_body, [], []⟩
def dd_is_body : He.DefD := ⟨("is_body", none), "is_body", "is_body", defArgs s_is_body, defBody s_is_body, defScope s_is_body, [], []⟩
def dd_is_seen : He.DefD := ⟨("is_seen", none), "is_seen", "is_seen", defArgs s_is_seen, defBody s_is_seen, defScope s_is_seen, [], []⟩
def dd_is_deed : He.DefD := ⟨("is_deed", none), "is_deed", "is_deed", defArgs s_is_deed, defBody s_is_deed, defScope s_is_deed, [], []⟩
def dd_names_in : He.DefD := ⟨("names_in", none), "names_in", "names_in", defArgs s_names_in, defBody s_names_in, defScope s_names_in, [], []⟩
def dd_is_named_seen : He.DefD := ⟨("is_named_seen", none), "is_named_seen", "is_named_seen", defArgs s_is_named_seen, defBody s_is_named_seen, defScope s_is_named_seen, [], []⟩
def dd_ahead_of : He.DefD := ⟨("ahead_of", none), "ahead_of", "ahead_of", defArgs s_ahead_of, defBody s_ahead_of, defScope s_ahead_of, [], []⟩
def dd_is_closed : He.DefD := ⟨("is_closed", none), "is_closed", "is_closed", defArgs s_is_closed, defBody s_is_closed, defScope s_is_closed, [], []⟩
def dd_are_named_there : He.DefD := ⟨("are_named_there", none), "are_named_there", "are_named_there", defArgs s_are_named_there, defBody s_are_named_there, defScope s_are_named_there, [], []⟩
def dd_checked_book : He.DefD := ⟨("checked_book", none), "checked_book", "checked_book", defArgs s_checked_book, defBody s_checked_book, defScope s_checked_book, [], []⟩
def dd_Book_init : He.DefD := ⟨("Book", some "__init__"), "__init__", "Book.__init__", defArgs s_Book_init, defBody s_Book_init, defScope s_Book_init, [.adr (He.dflAt ("Book", some "__init__") 0)], []⟩
def dd_Book_getitem : He.DefD := ⟨("Book", some "__getitem__"), "__getitem__", "Book.__getitem__", defArgs s_Book_getitem, defBody s_Book_getitem, defScope s_Book_getitem, [], []⟩
def dd_Book_deeds : He.DefD := ⟨("Book", some "deeds"), "deeds", "Book.deeds", defArgs s_Book_deeds, defBody s_Book_deeds, defScope s_Book_deeds, [], []⟩
def dd_check_book : He.DefD := ⟨("check_book", none), "check_book", "check_book", defArgs s_check_book, defBody s_check_book, defScope s_check_book, [], []⟩
def dd_check_stamps : He.DefD := ⟨("check_stamps", none), "check_stamps", "check_stamps", defArgs s_check_stamps, defBody s_check_stamps, defScope s_check_stamps, [], []⟩
def dd_has_mark_word : He.DefD := ⟨("has_mark_word", none), "has_mark_word", "has_mark_word", defArgs s_has_mark_word, defBody s_has_mark_word, defScope s_has_mark_word, [], []⟩
def dd_named_deed : He.DefD := ⟨("named_deed", none), "named_deed", "named_deed", defArgs s_named_deed, defBody s_named_deed, defScope s_named_deed, [], []⟩
def dd_mark_rows : He.DefD := ⟨("mark_rows", none), "mark_rows", "mark_rows", defArgs s_mark_rows, defBody s_mark_rows, defScope s_mark_rows, [], []⟩
def dd_is_up : He.DefD := ⟨("is_up", none), "is_up", "is_up", defArgs s_is_up, defBody s_is_up, defScope s_is_up, [], []⟩
def dd_alive_by : He.DefD := ⟨("alive_by", none), "alive_by", "alive_by", defArgs s_alive_by, defBody s_alive_by, defScope s_alive_by, [], []⟩
def dd_alive_without : He.DefD := ⟨("alive_without", none), "alive_without", "alive_without", defArgs s_alive_without, defBody s_alive_without, defScope s_alive_without, [], []⟩
def dd_Playing_init : He.DefD := ⟨("Playing", some "__init__"), "__init__", "Playing.__init__", defArgs s_Playing_init, defBody s_Playing_init, defScope s_Playing_init, [], []⟩
def dd_Playing_can_hold : He.DefD := ⟨("Playing", some "can_hold"), "can_hold", "Playing.can_hold", defArgs s_Playing_can_hold, defBody s_Playing_can_hold, defScope s_Playing_can_hold, [], []⟩
def dd_Playing_can_leave : He.DefD := ⟨("Playing", some "can_leave"), "can_leave", "Playing.can_leave", defArgs s_Playing_can_leave, defBody s_Playing_can_leave, defScope s_Playing_can_leave, [], []⟩
def dd_Playing_chain_up : He.DefD := ⟨("Playing", some "chain_up"), "chain_up", "Playing.chain_up", defArgs s_Playing_chain_up, defBody s_Playing_chain_up, defScope s_Playing_chain_up, [], []⟩
def dd_Playing_make_thing : He.DefD := ⟨("Playing", some "make_thing"), "make_thing", "Playing.make_thing", defArgs s_Playing_make_thing, defBody s_Playing_make_thing, defScope s_Playing_make_thing, [], []⟩
def dd_Playing_move_thing : He.DefD := ⟨("Playing", some "move_thing"), "move_thing", "Playing.move_thing", defArgs s_Playing_move_thing, defBody s_Playing_move_thing, defScope s_Playing_move_thing, [], []⟩
def dd_Playing_drop_thing : He.DefD := ⟨("Playing", some "drop_thing"), "drop_thing", "Playing.drop_thing", defArgs s_Playing_drop_thing, defBody s_Playing_drop_thing, defScope s_Playing_drop_thing, [], []⟩
def dd_Playing_put_content : He.DefD := ⟨("Playing", some "put_content"), "put_content", "Playing.put_content", defArgs s_Playing_put_content, defBody s_Playing_put_content, defScope s_Playing_put_content, [], []⟩
def dd_Playing_do_deed : He.DefD := ⟨("Playing", some "do_deed"), "do_deed", "Playing.do_deed", defArgs s_Playing_do_deed, defBody s_Playing_do_deed, defScope s_Playing_do_deed, [], []⟩
def dd_play_through : He.DefD := ⟨("play_through", none), "play_through", "play_through", defArgs s_play_through, defBody s_play_through, defScope s_play_through, [.adr (He.dflAt ("play_through", none) 0)], []⟩
def dd_State_init : He.DefD := ⟨("State", some "__init__"), "__init__", "State.__init__", defArgs s_State_init, defBody s_State_init, defScope s_State_init, [.adr (He.dflAt ("State", some "__init__") 0)], []⟩
def dd_State_all_below : He.DefD := ⟨("State", some "all_below"), "all_below", "State.all_below", defArgs s_State_all_below, defBody s_State_all_below, defScope s_State_all_below, [], []⟩
def dd_State_look_there : He.DefD := ⟨("State", some "look_there"), "look_there", "State.look_there", defArgs s_State_look_there, defBody s_State_look_there, defScope s_State_look_there, [], []⟩
def dd_State_look_in : He.DefD := ⟨("State", some "look_in"), "look_in", "State.look_in", defArgs s_State_look_in, defBody s_State_look_in, defScope s_State_look_in, [], []⟩
def dd_State_look_in_of : He.DefD := ⟨("State", some "look_in_of"), "look_in_of", "State.look_in_of", defArgs s_State_look_in_of, defBody s_State_look_in_of, defScope s_State_look_in_of, [], []⟩
def dd_State_is_there : He.DefD := ⟨("State", some "is_there"), "is_there", "State.is_there", defArgs s_State_is_there, defBody s_State_is_there, defScope s_State_is_there, [], []⟩
def dd_State_is_in : He.DefD := ⟨("State", some "is_in"), "is_in", "State.is_in", defArgs s_State_is_in, defBody s_State_is_in, defScope s_State_is_in, [], []⟩
def dd_State_kind : He.DefD := ⟨("State", some "kind"), "kind", "State.kind", defArgs s_State_kind, defBody s_State_kind, defScope s_State_kind, [], []⟩
def dd_State_content : He.DefD := ⟨("State", some "content"), "content", "State.content", defArgs s_State_content, defBody s_State_content, defScope s_State_content, [], []⟩
def dd_State_under : He.DefD := ⟨("State", some "under"), "under", "State.under", defArgs s_State_under, defBody s_State_under, defScope s_State_under, [], []⟩
def dd_State_line : He.DefD := ⟨("State", some "line"), "line", "State.line", defArgs s_State_line, defBody s_State_line, defScope s_State_line, [], []⟩
def dd_check_state : He.DefD := ⟨("check_state", none), "check_state", "check_state", defArgs s_check_state, defBody s_check_state, defScope s_check_state, [], []⟩
def dd_ends_below : He.DefD := ⟨("ends_below", none), "ends_below", "ends_below", defArgs s_ends_below, defBody s_ends_below, defScope s_ends_below, [], []⟩
def dd_ends_of : He.DefD := ⟨("ends_of", none), "ends_of", "ends_of", defArgs s_ends_of, defBody s_ends_of, defScope s_ends_of, [], []⟩
def dd_TreeView_init : He.DefD := ⟨("TreeView", some "__init__"), "__init__", "TreeView.__init__", defArgs s_TreeView_init, defBody s_TreeView_init, defScope s_TreeView_init, [.non], []⟩
def dd_TreeView_take_in : He.DefD := ⟨("TreeView", some "take_in"), "take_in", "TreeView.take_in", defArgs s_TreeView_take_in, defBody s_TreeView_take_in, defScope s_TreeView_take_in, [], []⟩
def dd_is_let_within : He.DefD := ⟨("is_let_within", none), "is_let_within", "is_let_within", defArgs s_is_let_within, defBody s_is_let_within, defScope s_is_let_within, [], []⟩
def dd_last_let : He.DefD := ⟨("last_let", none), "last_let", "last_let", defArgs s_last_let, defBody s_last_let, defScope s_last_let, [], []⟩
def dd_nearest_at : He.DefD := ⟨("nearest_at", none), "nearest_at", "nearest_at", defArgs s_nearest_at, defBody s_nearest_at, defScope s_nearest_at, [], []⟩
def dd_nearest_within : He.DefD := ⟨("nearest_within", none), "nearest_within", "nearest_within", defArgs s_nearest_within, defBody s_nearest_within, defScope s_nearest_within, [], []⟩
def dd_chain_from : He.DefD := ⟨("chain_from", none), "chain_from", "chain_from", defArgs s_chain_from, defBody s_chain_from, defScope s_chain_from, [], []⟩
def dd_visible_within : He.DefD := ⟨("visible_within", none), "visible_within", "visible_within", defArgs s_visible_within, defBody s_visible_within, defScope s_visible_within, [], []⟩
def dd_told_within : He.DefD := ⟨("told_within", none), "told_within", "told_within", defArgs s_told_within, defBody s_told_within, defScope s_told_within, [], []⟩
def dd_check_scope_thing : He.DefD := ⟨("check_scope_thing", none), "check_scope_thing", "check_scope_thing", defArgs s_check_scope_thing, defBody s_check_scope_thing, defScope s_check_scope_thing, [], []⟩
def dd_check_scope_kind : He.DefD := ⟨("check_scope_kind", none), "check_scope_kind", "check_scope_kind", defArgs s_check_scope_kind, defBody s_check_scope_kind, defScope s_check_scope_kind, [], []⟩
def dd_told_use : He.DefD := ⟨("told_use", none), "told_use", "told_use", defArgs s_told_use, defBody s_told_use, defScope s_told_use, [], []⟩
def dd_is_word : He.DefD := ⟨("is_word", none), "is_word", "is_word", defArgs s_is_word, defBody s_is_word, defScope s_is_word, [], []⟩
def dd_parts_in : He.DefD := ⟨("parts_in", none), "parts_in", "parts_in", defArgs s_parts_in, defBody s_parts_in, defScope s_parts_in, [], []⟩
def dd_joined_value : He.DefD := ⟨("joined_value", none), "joined_value", "joined_value", defArgs s_joined_value, defBody s_joined_value, defScope s_joined_value, [], []⟩
def dd_Hanging_init : He.DefD := ⟨("Hanging", some "__init__"), "__init__", "Hanging.__init__", defArgs s_Hanging_init, defBody s_Hanging_init, defScope s_Hanging_init, [], []⟩
def dd_Hanging_is_lost : He.DefD := ⟨("Hanging", some "is_lost"), "is_lost", "Hanging.is_lost", defArgs s_Hanging_is_lost, defBody s_Hanging_is_lost, defScope s_Hanging_is_lost, [], []⟩
def dd_Hanging_reckoned : He.DefD := ⟨("Hanging", some "reckoned"), "reckoned", "Hanging.reckoned", defArgs s_Hanging_reckoned, defBody s_Hanging_reckoned, defScope s_Hanging_reckoned, [], []⟩
def dd_none_paper : He.DefD := ⟨("none_paper", none), "none_paper", "none_paper", defArgs s_none_paper, defBody s_none_paper, defScope s_none_paper, [], []⟩
def dd_is_none_row : He.DefD := ⟨("is_none_row", none), "is_none_row", "is_none_row", defArgs s_is_none_row, defBody s_is_none_row, defScope s_is_none_row, [], []⟩
def dd_accepts_none : He.DefD := ⟨("accepts_none", none), "accepts_none", "accepts_none", defArgs s_accepts_none, defBody s_accepts_none, defScope s_accepts_none, [], []⟩
def dd_l_pool : He.DefD := ⟨("_law_pool", none), "_law_pool", "_law_pool", defArgs s_l_pool, defBody s_l_pool, defScope s_l_pool, [], []⟩
def dd_l_take : He.DefD := ⟨("_law_take", none), "_law_take", "_law_take", defArgs s_l_take, defBody s_l_take, defScope s_l_take, [], []⟩
def dd_l_one : He.DefD := ⟨("_law_one", none), "_law_one", "_law_one", defArgs s_l_one, defBody s_l_one, defScope s_l_one, [], []⟩
def dd_l_rounds : He.DefD := ⟨("_law_rounds", none), "_law_rounds", "_law_rounds", defArgs s_l_rounds, defBody s_l_rounds, defScope s_l_rounds, [], []⟩
def dd_l_world : He.DefD := ⟨("_law_world", none), "_law_world", "_law_world", defArgs s_l_world, defBody s_l_world, defScope s_l_world, [], []⟩
def dd_l_seen_deeds : He.DefD := ⟨("_law_seen_deeds", none), "_law_seen_deeds", "_law_seen_deeds", defArgs s_l_seen_deeds, defBody s_l_seen_deeds, defScope s_l_seen_deeds, [], []⟩
def dd_l_learn : He.DefD := ⟨("_law_learn", none), "_law_learn", "_law_learn", defArgs s_l_learn, defBody s_l_learn, defScope s_l_learn, [], []⟩
def dd_l_content : He.DefD := ⟨("_law_content", none), "_law_content", "_law_content", defArgs s_l_content, defBody s_l_content, defScope s_l_content, [], []⟩
def dd_l_holders : He.DefD := ⟨("_law_holders", none), "_law_holders", "_law_holders", defArgs s_l_holders, defBody s_l_holders, defScope s_l_holders, [], []⟩
def dd_l_made_body : He.DefD := ⟨("_law_made_body", none), "_law_made_body", "_law_made_body", defArgs s_l_made_body, defBody s_l_made_body, defScope s_l_made_body, [], []⟩
def dd_l_body : He.DefD := ⟨("_law_body", none), "_law_body", "_law_body", defArgs s_l_body, defBody s_l_body, defScope s_l_body, [], []⟩
def dd_l_do : He.DefD := ⟨("_law_do", none), "_law_do", "_law_do", defArgs s_l_do, defBody s_l_do, defScope s_l_do, [], []⟩
def dd_l_step : He.DefD := ⟨("_law_step", none), "_law_step", "_law_step", defArgs s_l_step, defBody s_l_step, defScope s_l_step, [], []⟩
def dd_l_drawn : He.DefD := ⟨("_law_drawn", none), "_law_drawn", "_law_drawn", defArgs s_l_drawn, defBody s_l_drawn, defScope s_l_drawn, [], []⟩
def dd_l_program : He.DefD := ⟨("_law_program", none), "_law_program", "_law_program", defArgs s_l_program, defBody s_l_program, defScope s_l_program, [], []⟩
def dd_l_case : He.DefD := ⟨("_law_case", none), "_law_case", "_law_case", defArgs s_l_case, defBody s_l_case, defScope s_l_case, [], []⟩
def dd_l_parts : He.DefD := ⟨("_law_parts", none), "_law_parts", "_law_parts", defArgs s_l_parts, defBody s_l_parts, defScope s_l_parts, [], []⟩
def dd_l_worth : He.DefD := ⟨("_law_worth", none), "_law_worth", "_law_worth", defArgs s_l_worth, defBody s_l_worth, defScope s_l_worth, [], []⟩
def dd_l_table : He.DefD := ⟨("_law_table", none), "_law_table", "_law_table", defArgs s_l_table, defBody s_l_table, defScope s_l_table, [], []⟩
def dd_l_worths : He.DefD := ⟨("_law_worths", none), "_law_worths", "_law_worths", defArgs s_l_worths, defBody s_l_worths, defScope s_l_worths, [], []⟩
def dd_l_row : He.DefD := ⟨("_law_row", none), "_law_row", "_law_row", defArgs s_l_row, defBody s_l_row, defScope s_l_row, [], []⟩
def dd_l_right : He.DefD := ⟨("_law_right", none), "_law_right", "_law_right", defArgs s_l_right, defBody s_l_right, defScope s_l_right, [], []⟩
def dd_l_is_in : He.DefD := ⟨("_law_is_in", none), "_law_is_in", "_law_is_in", defArgs s_l_is_in, defBody s_l_is_in, defScope s_l_is_in, [], []⟩
def dd_l_spoilt : He.DefD := ⟨("_law_spoilt", none), "_law_spoilt", "_law_spoilt", defArgs s_l_spoilt, defBody s_l_spoilt, defScope s_l_spoilt, [], []⟩
def dd_law : He.DefD := ⟨("law", none), "law", "law", defArgs s_law, defBody s_law, defScope s_law, [], []⟩
def fn0 : List He.DefD := [dd_is_whole, dd_is_number, dd_is_line, dd_is_tuple_of, dd_in_stamp_order, dd_is_name, dd_is_stamp, dd_is_place_name, dd_is_binder, dd_does_hold, dd_is_content, dd_is_make, dd_is_placing_body, dd_is_content_body, dd_is_body, dd_is_seen, dd_is_deed, dd_names_in, dd_is_named_seen, dd_ahead_of, dd_is_closed, dd_are_named_there, dd_checked_book, dd_Book_init, dd_Book_getitem, dd_Book_deeds, dd_check_book, dd_check_stamps, dd_has_mark_word, dd_named_deed]
def fn1 : List He.DefD := [dd_mark_rows, dd_is_up, dd_alive_by, dd_alive_without, dd_Playing_init, dd_Playing_can_hold, dd_Playing_can_leave, dd_Playing_chain_up, dd_Playing_make_thing, dd_Playing_move_thing, dd_Playing_drop_thing, dd_Playing_put_content, dd_Playing_do_deed, dd_play_through, dd_State_init, dd_State_all_below, dd_State_look_there, dd_State_look_in, dd_State_look_in_of, dd_State_is_there, dd_State_is_in, dd_State_kind, dd_State_content, dd_State_under, dd_State_line, dd_check_state, dd_ends_below, dd_ends_of, dd_TreeView_init, dd_TreeView_take_in]
def fn2 : List He.DefD := [dd_is_let_within, dd_last_let, dd_nearest_at, dd_nearest_within, dd_chain_from, dd_visible_within, dd_told_within, dd_check_scope_thing, dd_check_scope_kind, dd_told_use, dd_is_word, dd_parts_in, dd_joined_value, dd_Hanging_init, dd_Hanging_is_lost, dd_Hanging_reckoned, dd_none_paper, dd_is_none_row, dd_accepts_none, dd_l_pool, dd_l_take, dd_l_one, dd_l_rounds, dd_l_world, dd_l_seen_deeds, dd_l_learn, dd_l_content, dd_l_holders, dd_l_made_body, dd_l_body]
def fn3 : List He.DefD := [dd_l_do, dd_l_step, dd_l_drawn, dd_l_program, dd_l_case, dd_l_parts, dd_l_worth, dd_l_table, dd_l_worths, dd_l_row, dd_l_right, dd_l_is_in, dd_l_spoilt, dd_law]
def fnA : List He.DefD := fn0 ++ fn1 ++ fn2 ++ fn3
def fa0 : List He.Fa := [.glo "ALL_HANDS", .glo "Book", .glo "CONTENT_KINDS", .str "DONE" "done", .str "GONE" "gone", .glo "HOLDERS", .glo "Hanging", .glo "MARK_WORDS", .int "MOST_DEEDS" 60, .int "MOST_HAND" 3, .int "MOST_KEY" 999, .int "MOST_TIME" 999, .int "MOST_VALUE" 99, .str "NAME_LETTERS" "abcdefghijklmnopqrstuvwxyz", .int "PRIME" 9973, .glo "Playing", .str "RING" "ring", .glo "ROOT", .glo "State", .glo "TreeView", .glo "_law_body", .glo "_law_case", .glo "_law_content", .glo "_law_do", .glo "_law_drawn", .glo "_law_holders", .glo "_law_is_in", .glo "_law_learn", .glo "_law_made_body", .glo "_law_one"]
def fa1 : List He.Fa := [.glo "_law_parts", .glo "_law_pool", .glo "_law_program", .glo "_law_right", .glo "_law_rounds", .glo "_law_row", .glo "_law_seen_deeds", .glo "_law_spoilt", .glo "_law_step", .glo "_law_table", .glo "_law_take", .glo "_law_world", .glo "_law_worth", .glo "_law_worths", .glo "accepts_none", .glo "ahead_of", .glo "alive_by", .glo "alive_without", .free "all", .free "any", .glo "are_named_there", .free "bool", .glo "chain_from", .glo "check_book", .glo "check_scope_kind", .glo "check_scope_thing", .glo "check_stamps", .glo "check_state", .glo "checked_book", .free "dict"]
def fa2 : List He.Fa := [.glo "does_hold", .glo "ends_below", .glo "ends_of", .free "enumerate", .glo "has_mark_word", .glo "in_stamp_order", .free "int", .glo "is_binder", .glo "is_body", .glo "is_closed", .glo "is_content", .glo "is_content_body", .glo "is_deed", .glo "is_let_within", .glo "is_line", .glo "is_make", .glo "is_name", .glo "is_named_seen", .glo "is_none_row", .glo "is_number", .glo "is_place_name", .glo "is_placing_body", .glo "is_seen", .glo "is_stamp", .glo "is_tuple_of", .glo "is_up", .glo "is_whole", .glo "is_word", .free "isinstance", .glo "joined_value"]
def fa3 : List He.Fa := [.glo "last_let", .free "len", .free "list", .glo "mark_rows", .free "max", .free "min", .glo "named_deed", .glo "names_in", .glo "nearest_at", .glo "nearest_within", .glo "none_paper", .glo "parts_in", .glo "play_through", .free "range", .free "sorted", .free "str", .free "sum", .glo "told_use", .glo "told_within", .free "tuple", .glo "visible_within", .free "zip", .cls "Book", .noat "Book" "by_stamp", .mkr "Book", .cls "Hanging", .noat "Hanging" "state", .noat "Hanging" "order", .noat "Hanging" "parts", .mkr "Hanging"]
def fa4 : List He.Fa := [.cls "Playing", .noat "Playing" "own_kinds", .noat "Playing" "own_contents", .noat "Playing" "own_places", .noat "Playing" "own_rows", .mkr "Playing", .cls "State", .noat "State" "own_kinds", .noat "State" "own_contents", .noat "State" "own_places", .noat "State" "own_unders", .noat "State" "own_line", .noat "State" "own_in", .mkr "State", .cls "TreeView", .noat "TreeView" "own_state", .noat "TreeView" "own_line", .noat "TreeView" "own_kids", .noat "TreeView" "own_spots", .mkr "TreeView", .meth "Book" "__getitem__", .meth "Book" "deeds", .meth "Playing" "can_hold", .meth "Playing" "can_leave", .meth "Playing" "chain_up", .meth "Playing" "make_thing", .meth "Playing" "move_thing", .meth "Playing" "drop_thing", .meth "Playing" "put_content", .meth "Playing" "do_deed"]
def fa5 : List He.Fa := [.meth "State" "all_below", .meth "State" "look_there", .meth "State" "look_in", .meth "State" "look_in_of", .meth "State" "is_there", .meth "State" "is_in", .meth "State" "kind", .meth "State" "content", .meth "State" "under", .meth "State" "line", .meth "TreeView" "take_in", .meth "Hanging" "is_lost", .meth "Hanging" "reckoned", .glo "law"]
def faA : List He.Fa := fa0 ++ fa1 ++ fa2 ++ fa3 ++ fa4 ++ fa5
def isiB (K : PySem.W.Frag) (x : Str) : Bool := He.eqO (PySem.W.findIn K (.ref (He.ga K x)) "__class__") (some (some (.builtin "object.__class__"))) && (He.eqO (PySem.W.specialIn K (.builtin "object.__class__") "__get__") (some (some (.builtin "getset_descriptor.__get__"))) && (decide (PySem.W.takesIn K (.builtin "object.__class__") = some true) && decide (PySem.W.mroIn K (He.ga K x) (.type "object") = some true)))
def emB (K : PySem.W.Frag) (a : Addr) : Bool := match K.lookup a with
  | some ⟨.type c, _, .seq its _, _⟩ => decide (c = "tuple") && decide (its.size = 0)
  | _ => false
def exA (K : PySem.W.Frag) : Bool := He.tupB K "ALL_HANDS" [.int 0, .int 1, .int 2, .int 3] && (He.valsB K (He.ga K "CONTENT_KINDS") [("wish", .str "let"), ("point", .str "use"), ("set", .str "number")] && (He.tupB K "HOLDERS" [.str "block", .str "let", .str "sum", .str "product"] && (He.tupB K "MARK_WORDS" [.str "undo", .str "redo"] && (He.tupB K "ROOT" [.int 0, .int 0] && (isiB K "Book" && (isiB K "State" && (emB K (e0A K))))))))
def tsA : List He.Tab := [((fun K => He.ga K "CONTENT_KINDS"), ["wish", "point", "set"])]
def tfA : List He.Defn := [("State", some "__init__")]
/-! what is looked at -/
def stepA (g : Addr → Option Obj) (a : Addr) : List Addr := match g a with
  | some ⟨_, _, .func fd, _⟩ => He.refV fd.code ++ He.refV fd.defaults
  | some ⟨_, _, .cls cd, _⟩ => [cd.ns]
  | _ => []
def stepB (g : Addr → Option Obj) (a : Addr) : List Addr := match g a with
  | some ⟨_, _, .dict es _, _⟩ => es.toList.flatMap fun e => He.refV e.val
  | some ⟨_, _, .seq its _, _⟩ => its.toList.flatMap He.refV
  | _ => []
def lookA (g : Addr → Option Obj) : List Addr :=
  (fun l0 => (fun l1 => (fun l2 => (fun l3 => mainGlobals :: (l0 ++ (l1 ++ (l2 ++ (l3 ++ l3.flatMap (stepB g)))))) (l2.flatMap (stepA g))) (l1.flatMap (stepB g))) (l0.flatMap (stepA g))) (stepB g mainGlobals)
abbrev fragA (g : Addr → Option Obj) : PySem.W.Frag := He.frT g (lookA g)
def seeA (g : Addr → Option Obj) : He.AlX := (fun K => (He.obsT faA fnA tsA K, exA K && He.tabsB g tfA K)) (fragA g)
theorem tabs_say {g : Addr → Option Obj} {K : PySem.W.Frag} (h : He.tabsB g tfA K = true) {p : He.Defn} (hp : p ∈ tfA) : PySem.W.codeHdIn K (He.cT K p).1 (He.cT K p).2 = true ∧ ∃ o, g (He.cT K p).2 = some o ∧ He.emptyTab o = true := by
  have a := He.ba (List.all_eq_true.mp h p hp)
  cases e : g (He.cT K p).2 with
  | none => rw [e] at a; exact absurd a.2 (by simp)
  | some o => rw [e] at a; exact ⟨a.1, o, rfl, a.2⟩
theorem say_of {w : World} {h : Heap} (e : seeA h.get? = He.valX fnA tsA w) : He.SaysX faA fnA tsA tfA exA w h (fragA h.get?) := by
  have z := Prod.mk.inj (show (He.obsT faA fnA tsA (fragA h.get?), exA (fragA h.get?) && He.tabsB h.get? tfA (fragA h.get?)) = (He.valT fnA tsA w, true) from e)
  have y := He.ba z.2
  refine ⟨z.1, y.1, fun p hp => (tabs_say y.2 hp).1, fun p hp => ?_, fun p hp => ?_⟩
  · obtain ⟨_, o, q, t⟩ := tabs_say y.2 hp
    exact He.frT_none q t
  · obtain ⟨_, o, q, t⟩ := tabs_say y.2 hp
    rw [q, He.emptyTab_eq t]
def hkA : PySem.W.Hook where
  α := He.AlX
  obs := fun s => seeA s.heap.get?
  val := fun w => He.valX fnA tsA w
  says := fun w h => ∃ K : PySem.W.Frag, K.In h ∧ He.SaysX faA fnA tsA tfA exA w h K
  of := fun _ _ e => ⟨_, He.frT_in, say_of e⟩
  keeps := fun _ _ _ d k => by
    obtain ⟨K, hK, c⟩ := d
    exact ⟨K, hK.keeps k, c.t, c.more, c.hd, c.out, fun p hp => k _ _ (c.empty p hp)⟩
def obA (s : PySem.W.SharedT) : He.AlX := seeA (HandSHeadRun.getT s)
theorem obA_eq (s : PySem.W.SharedT) : obA s = hkA.obs s.abs := by
  have e : HandSHeadRun.getT s = s.abs.heap.get? := funext (HandSHeadRun.getT_eq s)
  unfold obA
  rw [e]
  rfl
end Ss
/-! The head: printed by gen_head.py. -/
namespace Ss
open PySem PySem.Spec PyProof.Rows L2
/-- the top's end, by the library's twins -/
noncomputable abbrev endQ (v : World) (os : OsState) : Option PySem.W.SharedT := HandSHeadRun.endF (HandSHeadRun.stepQ (HandSHeadRun.denQ HandSHeadRun.tabQ) RW.prog v) 8000 RW.prog v os
theorem opt2 {σ α β : Type} {X : Option σ} {a : σ → α} {b : σ → β} {x : α} {y : β} (h1 : X.map a = some x) (h2 : X.map b = some y) : X.map (fun s => (a s, b s)) = some (x, y) := by
  cases X with
  | none => cases h1
  | some s =>
    obtain rfl := Option.some.inj h1
    obtain rfl := Option.some.inj h2
    rfl
theorem opt3 {σ α β γ : Type} {X : Option σ} {a : σ → α} {b : σ → β} {c : σ → γ} {x : α} {y : β} {z : γ} (h1 : X.map (fun s => (a s, b s, ())) = some (x, y, ())) (h3 : X.map c = some z) : X.map (fun s => (a s, b s, c s)) = some (x, y, z) := by
  cases X with
  | none => cases h1
  | some s =>
    obtain ⟨rfl, h2⟩ := Prod.mk.inj (Option.some.inj h1)
    obtain ⟨rfl, _⟩ := Prod.mk.inj h2
    obtain rfl := Option.some.inj h3
    rfl
/-! what is looked at, in three parts -/
def see1 (s : PySem.W.SharedT) : List He.FnW := (fun K => fnA.map fun d => He.fnW K d.at_) (fragA (HandSHeadRun.getT s))
def see2 (s : PySem.W.SharedT) : Bool := (fun K => (faA.all fun f => f.ok K) && fnA.all fun d => d.ok K) (fragA (HandSHeadRun.getT s))
def see3 (s : PySem.W.SharedT) : List (Option (List (Option (Str × Int)))) × Bool := (fun K => (tsA.map fun t => He.dicW K (t.1 K), exA K && He.tabsB (HandSHeadRun.getT s) tfA K)) (fragA (HandSHeadRun.getT s))
theorem see_all {X : Option PySem.W.SharedT} {w : World} (h1 : X.map see1 = some (fnA.map He.DefD.val)) (h2 : X.map see2 = some true) (h3 : X.map see3 = some (tsA.map (fun t => some (He.keysIn w.params t.2)), true)) : X.map obA = some (hkA.val w) := by
  cases X with
  | none => cases h1
  | some s =>
    have e1 : see1 s = fnA.map He.DefD.val := Option.some.inj h1
    have e2 : see2 s = true := Option.some.inj h2
    have e3 : see3 s = (tsA.map (fun t => some (He.keysIn w.params t.2)), true) := Option.some.inj h3
    show some (((see2 s, see1 s), (see3 s).1), (see3 s).2) = some (((true, fnA.map He.DefD.val), tsA.map (fun t => some (He.keysIn w.params t.2))), true)
    rw [e1, e2, e3]
theorem run_of {w : World} (h0 : HandSHeadRun.RunEq RW (PySem.W.view RW.prog [117]) PySem.W.Hook.none (fun _ => ()) 8000 looseA w) (h1 : ∀ os, (endQ w os).map see1 = some (fnA.map He.DefD.val)) (h2 : ∀ os, (endQ w os).map see2 = some true)
    (h3 : ∀ os, (endQ w os).map see3 = some (tsA.map (fun t => some (He.keysIn w.params t.2)), true)) : HandSHeadRun.RunEq RW (PySem.W.view RW.prog [117]) hkA obA 8000 looseA w := fun os => opt3 (h0 os) (see_all (h1 os) (h2 os) (h3 os))
theorem run0F (w : World) : HandSHeadRun.RunEq RW (PySem.W.view RW.prog [117]) PySem.W.Hook.none (fun _ => ()) 8000 looseA (w.withFollow "special-get-raises" false) := by
  intro os
  kernel_rfl
theorem run1F (w : World) (os : OsState) : (endQ (w.withFollow "special-get-raises" false) os).map see1 = some (fnA.map He.DefD.val) := by kernel_rfl
theorem run2F (w : World) (os : OsState) : (endQ (w.withFollow "special-get-raises" false) os).map see2 = some true := by kernel_rfl
theorem run3F (w : World) (os : OsState) : (endQ (w.withFollow "special-get-raises" false) os).map see3 = some (tsA.map (fun t => some (He.keysIn w.params t.2)), true) := by kernel_rfl
theorem run0T (w : World) : HandSHeadRun.RunEq RW (PySem.W.view RW.prog [117]) PySem.W.Hook.none (fun _ => ()) 8000 looseA (w.withFollow "special-get-raises" true) := by
  intro os
  kernel_rfl
theorem run1T (w : World) (os : OsState) : (endQ (w.withFollow "special-get-raises" true) os).map see1 = some (fnA.map He.DefD.val) := by kernel_rfl
theorem run2T (w : World) (os : OsState) : (endQ (w.withFollow "special-get-raises" true) os).map see2 = some true := by kernel_rfl
theorem run3T (w : World) (os : OsState) : (endQ (w.withFollow "special-get-raises" true) os).map see3 = some (tsA.map (fun t => some (He.keysIn w.params t.2)), true) := by kernel_rfl
theorem runA (w : World) : HandSHeadRun.RunEq RW (PySem.W.view RW.prog [117]) hkA obA 8000 looseA w := PySem.W.byRow2 "special-get-raises" (P := fun w => HandSHeadRun.RunEq RW (PySem.W.view RW.prog [117]) hkA obA 8000 looseA w) (fun w => run_of (run0F w) (run1F w) (run2F w) (run3F w)) (fun w => run_of (run0T w) (run1T w) (run2T w) (run3T w)) w
end Ss
set_option maxHeartbeats 4000000
namespace Ss
open PySem PySem.Spec PyProof.Rows L2

/-- a def as it stands behind the top, without defaults -/
def Df (K : PySem.W.Frag) (x qual : Str) (st : Stmt) (f : Addr) : Prop := ∃ fd, FunD K x qual (defArgs st) (defBody st) (defScope st) [] [] f fd
/-- a def at f keeps the promise sp -/
structure Kn (P : Program) (w : World) (K : PySem.W.Frag) (mg : Str → Option Value) (base : Heap) (k : Nat) (f : Addr) (ps : List Str) (sp : Sp) : Prop where
  ex : ∃ fd, FnOk P w K mg base CX0 k f fd ps sp ∧ Binds K fd ps []
  kp : PySem.W.keepIn K (.ref f) = true
section
variable {P : Program} {w : World} {K : PySem.W.Frag} {mg : Str → Option Value} {base : Heap}
theorem Df.kn {x qual : Str} {st : Stmt} {f : Addr} {N ps : List Str} {k : Nat} {sp : Sp} (D : Df K x qual st f) (S : FnScope N ps (defScope st))
    (hb : ∀ (kV doc pm : Value) (an : Option Addr) (cdv ct : Value) (us : List Value), us.length = ps.length → bindArgs (PySem.W.fnOf x qual (defArgs st) (defBody st) (defScope st) .none kV doc pm an cdv ct) ⟨us, []⟩ = pure (ps.zip us))
    (len : ∀ vs H Q E, sp vs H Q E → vs.length = ps.length)
    (hbody : ∀ (cdv : Value) (A : Around) (outer : List Env) (s : Shared) (H : Hp) (vs : List V) (Q : VK) (E : XK), Room k (A.deeper (envOfC qual (defScope st) s.heap.objs.size f cdv)) → sp vs H Q E →
      ∃ t, PSs (cxOf CX0 P w K mg base N qual (defScope st) f cdv A outer s H E).nox (defBody st) t ∧ t { nx := fun _ H' => Q .non H', rt := Q } (start N vs) H) :
    Kn P w K mg base (k + 1) f ps sp := by
  obtain ⟨fd, F⟩ := D
  refine ⟨⟨fd, F.ok S len fun cdv A outer s H vs Q E hr hsp => ?_, F.bindsN hb⟩, F.kp⟩
  obtain ⟨t, h, q⟩ := hbody cdv A outer s H vs Q E hr hsp
  exact ⟨t, h.nox, q⟩
theorem Kn.mono {j k : Nat} {f : Addr} {ps : List Str} {sp : Sp} (G : Kn P w K mg base j f ps sp) (h : j ≤ k) : Kn P w K mg base k f ps sp := by
  obtain ⟨⟨fd, F, b⟩, kp⟩ := G
  exact ⟨⟨fd, F.mono h, b⟩, kp⟩
end
section
variable {X : Cx} {k : Nat} {f C : Addr} {ps : List Str} {sp : Sp} {x m : Str} {p pos apos : Pos} {e o : Expr} {es : List Expr} {ta : TE} {t : TA}
theorem pe_fn (G : Kn X.prog X.w X.K X.mg X.base k f ps sp) (hr : Room k X.A) (hm : X.mg x = some (.ref f)) (ha : PA X (e :: es) t) (hg : Gl X x := by rfl)
    (hdb : (x == ("__debug__" : Str)) = false := by decide) (he : starEach (e :: es) X.env = (false, eval e X.env) :: starEach es X.env := by rfl) (hpl : (backTo pos (starEach es X.env)).any (·.1) = false := by rfl) :
    PE X (.Call (.Name x p) (e :: es) [] pos) (tCall sp [] E0 t) := by
  obtain ⟨⟨fd, F, b⟩, kp⟩ := G
  exact pe_call F hr hg hm kp b .nil pass0 ha hdb he hpl
end
end Ss
/-! Dicts whose keys are pairs of ints, the keys' tuples standing anywhere (tracked or written). -/
namespace Ss
open PySem PySem.Spec PyProof.Rows L2

abbrev St2 := Int × Int
/-- a stamp, where its tuple stands, the value -/
abbrev Ent := St2 × Addr × V
def skey (k : St2) : List Key := [.inl k.1, .inl k.2]
def sval (k : St2) : List V := [.int k.1, .int k.2]
theorem skey_inj {a b : St2} (h : skey a = skey b) : a = b := by
  unfold skey at h
  injection h with h1 h2
  injection h2 with h2 _
  injection h1 with h1
  injection h2 with h2
  exact Prod.ext h1 h2
theorem skey_iff {a b : St2} : skey a = skey b ↔ a = b := ⟨skey_inj, fun h => by rw [h]⟩
def lookE (es : List Ent) (k : St2) : Option V := (es.find? fun e => decide (e.1 = k)).map (·.2.2)
def putE (es : List Ent) (k : St2) (b : Addr) (v : V) : List Ent := if (lookE es k).isSome then es.map (fun e => if e.1 = k then (e.1, e.2.1, v) else e) else es ++ [(k, b, v)]
theorem lookE_nil {k : St2} : lookE [] k = none := rfl
theorem lookE_cons {e : Ent} {es : List Ent} {k : St2} : lookE (e :: es) k = if e.1 = k then some e.2.2 else lookE es k := by
  unfold lookE
  by_cases h : e.1 = k
  · rw [if_pos h, List.find?_cons_of_pos (by simpa using h)]
    rfl
  · rw [if_neg h, List.find?_cons_of_neg (by simpa using h)]
theorem lookE_append {es fs : List Ent} {k : St2} : lookE (es ++ fs) k = (lookE es k).or (lookE fs k) := by
  induction es with
  | nil => rfl
  | cons e r ih =>
    rw [List.cons_append, lookE_cons, lookE_cons]
    split
    · rfl
    · exact ih
theorem lookE_mem {es : List Ent} {k : St2} {v : V} (h : lookE es k = some v) : ∃ b, (k, b, v) ∈ es := by
  induction es with
  | nil => cases h
  | cons e r ih =>
    rw [lookE_cons] at h
    split at h
    · rename_i hk
      obtain ⟨a, b, c⟩ := e
      cases h
      cases hk
      exact ⟨b, List.mem_cons_self ..⟩
    · obtain ⟨b, hb⟩ := ih h
      exact ⟨b, List.mem_cons_of_mem _ hb⟩
theorem lookE_none {es : List Ent} {k : St2} : lookE es k = none ↔ k ∉ es.map (·.1) := by
  induction es with
  | nil => simp [lookE_nil]
  | cons e r ih =>
    rw [lookE_cons]
    by_cases h : e.1 = k
    · rw [if_pos h]
      simp [h]
    · rw [if_neg h, ih]
      simp [Ne.symm h]
theorem lookE_map {es : List Ent} {k j : St2} {v : V} : lookE (es.map fun e => if e.1 = k then (e.1, e.2.1, v) else e) j = (lookE es j).map fun x => if j = k then v else x := by
  induction es with
  | nil => rfl
  | cons e r ih =>
    rw [List.map_cons, lookE_cons, lookE_cons, ih]
    by_cases h1 : e.1 = k
    · rw [if_pos h1]
      by_cases h2 : e.1 = j
      · rw [if_pos (show ((e.1, e.2.1, v) : Ent).1 = j from h2), if_pos h2]
        simp [h2.symm.trans h1]
      · rw [if_neg (show ¬ ((e.1, e.2.1, v) : Ent).1 = j from h2), if_neg h2]
    · rw [if_neg h1]
      by_cases h2 : e.1 = j
      · rw [if_pos h2, if_pos h2]
        have h3 : ¬ j = k := fun q => h1 (h2.trans q)
        simp [h3]
      · rw [if_neg h2, if_neg h2]
theorem lookE_put {es : List Ent} {k j : St2} {b : Addr} {v : V} : lookE (putE es k b v) j = if j = k then some v else lookE es j := by
  unfold putE
  split
  · rename_i h
    rw [lookE_map]
    by_cases e : j = k
    · subst e
      obtain ⟨x, hx⟩ := Option.isSome_iff_exists.mp h
      simp [hx]
    · rw [if_neg e]
      cases lookE es j with
      | none => rfl
      | some x => simp [e]
  · rename_i h
    have hn : lookE es k = none := by
      cases q : lookE es k with
      | none => rfl
      | some x => rw [q] at h; exact absurd rfl h
    rw [lookE_append, lookE_cons]
    by_cases e : j = k
    · subst e
      rw [hn, if_pos rfl, if_pos rfl]
      rfl
    · rw [if_neg (Ne.symm e), if_neg e, lookE_nil]
      cases lookE es j <;> rfl
theorem putE_new {es : List Ent} {k : St2} {b : Addr} {v : V} (h : lookE es k = none) : putE es k b v = es ++ [(k, b, v)] := by
  unfold putE
  rw [h]
  rfl
theorem putE_len {es : List Ent} {k : St2} {b : Addr} {v : V} : (putE es k b v).length ≤ es.length + 1 := by
  unfold putE
  split <;> simp
theorem putE_old {es : List Ent} {k : St2} {b : Addr} {v : V} (h : (lookE es k).isSome = true) : (putE es k b v).map (·.1) = es.map (·.1) := by
  unfold putE
  rw [if_pos h, List.map_map]
  refine List.map_congr_left fun e _ => ?_
  show (if e.1 = k then (e.1, e.2.1, v) else e : Ent).1 = e.1
  split <;> rfl

/-- an entry as the model has it -/
def ER (e : Ent) (x : List Key × Addr × Value) : Prop := x.1 = skey e.1 ∧ x.2.1 = e.2.1 ∧ RelV e.2.2 x.2.2
theorem ER.look {es : List Ent} {xs : List (List Key × Addr × Value)} (r : Paired ER es xs) (k : St2) : RelO (lookE es k) ((atKey xs (skey k)).map (·.2)) := by
  induction r with
  | nil => exact True.intro
  | @cons e x es xs h t ih =>
    obtain ⟨h1, h2, h3⟩ := h
    rw [lookE_cons]
    unfold atKey
    by_cases q : e.1 = k
    · rw [if_pos q, List.find?_cons_of_pos (by simp [h1, q])]
      exact h3
    · rw [if_neg q, List.find?_cons_of_neg (by simp [h1, skey_iff, q])]
      exact ih
theorem RelO.same {o : Option V} {u : Option Value} (r : RelO o u) : o.isSome = u.isSome := by
  cases o <;> cases u <;> first | rfl | exact r.elim
theorem ER.put {es : List Ent} {xs : List (List Key × Addr × Value)} (r : Paired ER es xs) (k : St2) (b : Addr) {v : V} {u : Value} (rv : RelV v u) : Paired ER (putE es k b v) (storedH xs (skey k) b u) := by
  have q := RelO.same (ER.look r k)
  rw [Option.isSome_map] at q
  unfold putE storedH
  rw [q]
  split
  · rename_i hsome
    clear q hsome
    induction r with
    | nil => exact .nil
    | @cons e x es xs h t ih =>
      obtain ⟨h1, h2, h3⟩ := h
      refine .cons ?_ ih
      · unfold putAt
        by_cases z : e.1 = k
        · have z2 : x.1 = skey k := by rw [h1, z]
          simp only [if_pos z, if_pos z2]
          exact ⟨h1, h2, rv⟩
        · have z2 : ¬ x.1 = skey k := by rw [h1, skey_iff]; exact z
          simp only [if_neg z, if_neg z2]
          exact ⟨h1, h2, h3⟩
  · have app : ∀ {es : List Ent} {xs : List (List Key × Addr × Value)}, Paired ER es xs → Paired ER (es ++ [(k, b, v)]) (xs ++ [(skey k, b, u)]) := by
      intro es xs r
      induction r with
      | nil => exact .cons ⟨rfl, rfl, rv⟩ .nil
      | cons h t ih => exact .cons h ih
    exact app r

/-- what is true of the one object of such a dict -/
def DPhi (P : Program) (w : World) (a : Addr) (es : List Ent) (h : Heap) : Prop :=
  es.length ≤ sizeLine ∧ (a == sysModules) = false ∧ ∃ xs : List (List Key × Addr × Value), Paired ER es xs ∧
    ∃ o ds ep, h.get? a = some o ∧ o.ExactDict ∧ o.data = .dict ds ep ∧ ds.toList = xs.map (entryOfKey (tupleKind (mixKind P w))) ∧ (xs.map (·.1)).Nodup
def DO (P : Program) (w : World) (a : Addr) (es : List Ent) : HO := .ext (DPhi P w a es)
/-- at a stands such a dict -/
structure DtAt (P : Program) (w : World) (K : PySem.W.Frag) (H : Hp) (a : Addr) (es : List Ent) : Prop where
  at_ : H a = some (DO P w a es)
  ks : ∀ e ∈ es, SqT K H e.2.1 (sval e.1)
/-- the same, locked -/
structure DtLk (P : Program) (w : World) (K : PySem.W.Frag) (H : Hp) (a : Addr) (o : Obj) (es : List Ent) : Prop where
  at_ : H a = some (.frz o (DO P w a es))
  ks : ∀ e ∈ es, SqT K H e.2.1 (sval e.1)
theorem do_obj {P : Program} {w : World} {H : Hp} {h : Heap} {a : Addr} {es : List Ent} (d : DPhi P w a es h) : ObjOk P w H h a (DO P w a es) := by
  refine ⟨d, ?_, ?_⟩
  · obtain ⟨_, _, _, _, o, _, _, e, _⟩ := d
    exact ⟨o, e⟩
  · rintro h1 h2 ⟨z, y, xs, r, o, ds, ep, e, c⟩ k
    exact ⟨z, y, xs, r, o, ds, ep, k o e, c⟩
section
variable {X : Cx} {pins : List (Addr × Obj)} {σ : L2.St} {H : Hp} {s : Shared} {a b : Addr} {A : Around} {E : Value → Shared → Prop}
/-- a stamp's tuple is a key -/
theorem key_at {k : St2} (I : Inv X pins σ H s) (h : SqT X.K H b (sval k)) : (tupleKind (mixKind X.prog X.w)).is s.heap (skey k) b := by
  obtain ⟨its, r, ⟨o, ho, hc, n, hd⟩, _⟩ := I.tuple h
  exact ⟨o, its.toArray, n, ho, hc, hd, by simpa using items_are (ks := skey k) r⟩
theorem dphi_of {es : List Ent} (I : Inv X pins σ H s) (h : Rd H a (DO X.prog X.w a es)) : DPhi X.prog X.w a es s.heap := (show ObjOk X.prog X.w H s.heap a (.ext (DPhi X.prog X.w a es)) from h.ok I.hok).1
theorem dict_at {es : List Ent} (I : Inv X pins σ H s) (h : Rd H a (DO X.prog X.w a es)) (ks : ∀ e ∈ es, SqT X.K H e.2.1 (sval e.1)) :
    es.length ≤ sizeLine ∧ (a == sysModules) = false ∧ ∃ xs, Paired ER es xs ∧ s.heap.DictOfH (tupleKind (mixKind X.prog X.w)) a xs := by
  obtain ⟨z, y, xs, r, o, ds, ep, h1, h2, h3, h4, h5⟩ := dphi_of I h
  refine ⟨z, y, xs, r, o, ds, ep, h1, h2, h3, h4, ?_, h5⟩
  clear h4 h5 z h
  induction r with
  | nil => intro x hx; cases hx
  | @cons e x es xs q t ih =>
    intro y hy
    rcases List.mem_cons.mp hy with rfl | hy
    · rw [q.1, q.2.1]
      exact key_at I (ks e (List.mem_cons_self ..))
    · exact ih (fun e he => ks e (List.mem_cons_of_mem _ he)) y hy
end
/-- what may be read as such a dict -/
def DtRd (P : Program) (w : World) (K : PySem.W.Frag) (H : Hp) (a : Addr) (es : List Ent) : Prop := Rd H a (DO P w a es) ∧ ∀ e ∈ es, SqT K H e.2.1 (sval e.1)
theorem DtAt.rd {P : Program} {w : World} {K : PySem.W.Frag} {H : Hp} {a : Addr} {es : List Ent} (d : DtAt P w K H a es) : DtRd P w K H a es := ⟨.inl d.at_, d.ks⟩
theorem DtLk.rd {P : Program} {w : World} {K : PySem.W.Frag} {H : Hp} {a : Addr} {o : Obj} {es : List Ent} (d : DtLk P w K H a o es) : DtRd P w K H a es := ⟨.inr ⟨o, d.at_⟩, d.ks⟩

/-! ### d[k], k in d, k not in d, d.get(k), d.get(k, x), d[k] = v, len(d) -/
def rDGet (P : Program) (w : World) (K : PySem.W.Frag) : R2 := fun x y H Q => ∃ a es b k v, x = .ref a ∧ y = .ref b ∧ DtRd P w K H a es ∧ SqT K H b (sval k) ∧ lookE es k = some v ∧ Q v H
def rDIn (P : Program) (w : World) (K : PySem.W.Frag) (neg : Bool) : R2 := fun y x H Q => ∃ a es b k, x = .ref a ∧ y = .ref b ∧ DtRd P w K H a es ∧ SqT K H b (sval k) ∧ Q (.bl (if neg then !(lookE es k).isSome else (lookE es k).isSome)) H
section
variable {X : Cx}
theorem ix_dt (hu : X.A.units + 1 < cLine) : IxR X (rDGet X.prog X.w X.K) := by
  intro value slice pins s σ H x y v u Q I rx ry h hs
  obtain ⟨a, es, b, k, z, rfl, rfl, ⟨h1, h2⟩, hk, hl, q⟩ := h
  cases rx
  cases ry
  obtain ⟨_, hd, xs, r, dd⟩ := dict_at I h1 h2
  obtain ⟨w', hw, rw'⟩ := RelO.some_of (v := z) (o := (atKey xs (skey k)).map (·.2)) (by rw [← hl]; exact ER.look r k)
  obtain ⟨p, hp, rfl⟩ := Option.map_eq_some_iff.mp hw
  exact subscriptTail_builtinR (x := p.2) dd.typeIs PySem.F.slot_dict_getitem.lookup (wpAny_getItem_heap (tupleKind_room_in1 hu) (key_at I hk) dd hp ⟨rfl, z, H, I.tok _, rw', q⟩) hs
theorem op_dt_in (hu : X.A.units + 1 < cLine) : OpR X (compareOp .In) (rDIn X.prog X.w X.K false) := by
  intro pins s σ H y x u v Q I ry rx h
  obtain ⟨a, es, b, k, rfl, rfl, ⟨h1, h2⟩, hk, q⟩ := h
  cases rx
  cases ry
  obtain ⟨_, hd, xs, r, dd⟩ := dict_at I h1 h2
  refine wpAny_in_heap (tupleKind_room_in1 hu) (key_at I hk) hd dd ⟨.bl _, H, I.tok _, rfl, ?_⟩
  have z := RelO.same (ER.look r k)
  rw [Option.isSome_map] at z
  rw [← z]
  exact q
theorem op_dt_notin (hu : X.A.units + 1 < cLine) : OpR X (compareOp .NotIn) (rDIn X.prog X.w X.K true) := by
  intro pins s σ H y x u v Q I ry rx h
  obtain ⟨a, es, b, k, rfl, rfl, ⟨h1, h2⟩, hk, q⟩ := h
  cases rx
  cases ry
  obtain ⟨_, hd, xs, r, dd⟩ := dict_at I h1 h2
  refine wpAny_notIn_heap (tupleKind_room_in1 hu) (key_at I hk) hd dd ⟨.bl _, H, I.tok _, rfl, ?_⟩
  have z := RelO.same (ER.look r k)
  rw [Option.isSome_map] at z
  rw [← z]
  exact q
end
theorem dphi_put {P : Program} {w : World} {a b : Addr} {es : List Ent} {k : St2} {v : V} {u : Value} {h h' : Heap} (z : es.length < sizeLine) {xs : List (List Key × Addr × Value)} (hd : (a == sysModules) = false) (r : Paired ER es xs) (rv : RelV v u)
    (dd : h'.DictOfH (tupleKind (mixKind P w)) a (storedH xs (skey k) b u)) : DPhi P w a (putE es k b v) h' := by
  obtain ⟨o, ds, ep, h1, h2, h3, h4, _, h5⟩ := dd
  exact ⟨Nat.le_trans putE_len z, hd, _, ER.put r k b rv, o, ds, ep, h1, h2, h3, h4, h5⟩
/-- the store, as a setter of values -/
def sDt (P : Program) (w : World) (K : PySem.W.Frag) : TSet := fun x y v H N => ∃ a es b k, x = .ref a ∧ y = .ref b ∧ DtAt P w K H a es ∧ SqT K H b (sval k) ∧ es.length < sizeLine ∧ N (upd H a (DO P w a (putE es k b v)))
theorem set_dt {X : Cx} (hu : X.A.units + 1 < cLine) : PSet X (sDt X.prog X.w X.K) := by
  intro pins s σ H x y v ux uy uv N I rx ry rv h
  obtain ⟨a, es, b, k, rfl, rfl, ⟨h1, h2⟩, hk, z, q⟩ := h
  cases rx
  cases ry
  obtain ⟨_, hd, xs, r, dd⟩ := dict_at I (.inl h1) h2
  have hz : xs.length ≤ sizeLine := by rw [← Paired.length r]; exact Nat.le_of_lt z
  refine wpAny_setItem_heap (hsz := hz) (tupleKind_room_in1 hu) (key_at I hk) dd fun h' dd' hs => ?_
  obtain ⟨o, _, _, ho, _⟩ := id dd'
  exact ⟨_, d_write I (by rw [h1]; exact True.intro) hs ⟨o, ho⟩ (do_obj (dphi_put (h := s.heap) z hd r rv dd')), q⟩
end Ss
namespace Ss
open PySem PySem.Spec PyProof.Rows L2
theorem do_empty {P : Program} {w : World} {H : Hp} (h : Heap) (hb : sysModules < h.objs.size) : ObjOk P w H (h.push { cls := .type "dict", data := .dict #[] }) h.objs.size (DO P w h.objs.size []) :=
  do_obj ⟨Nat.zero_le _, beq_eq_false_iff_ne.mpr (Ne.symm (Nat.ne_of_lt hb)), [], .nil, _, #[], 0, Heap.get?_push_size _ rfl, ⟨rfl, rfl, rfl⟩, rfl, rfl, List.nodup_nil⟩
/-- {} -/
def tDNew (P : Program) (w : World) : TE := fun _ H Q => ∀ p, H p = none → Q (.ref p) (upd H p (DO P w p []))
/-- {k: v} -/
def tDOne (P : Program) (w : World) (K : PySem.W.Frag) (tk tv : TE) : TE := fun σ H Q => ∀ p, H p = none → tPairs [(tk, tv)] σ (upd H p (DO P w p [])) fun ps H2 => H2 p = some (DO P w p []) ∧ ∃ b k v, ps = [(.ref b, v)] ∧ SqT K H2 b (sval k) ∧ Q (.ref p) (upd H2 p (DO P w p [(k, b, v)]))
section
variable {X : Cx} {pos apos cpos : Pos} {k v o e f : Expr} {tk tv td ty tx : TE}
theorem pe_dnew : PE X (.Dict [] [] pos) (tDNew X.prog X.w) := ⟨fun pins s σ H Q I h =>
  wpAny_Dict_empty ⟨.ref s.heap.objs.size, _, I.laid (a := s.heap.objs.size) (o := DO X.prog X.w s.heap.objs.size []) (t' := s.toks) (fun _ _ q => Heap.get?_push_of_some _ q) (Nat.le_refl _) (do_empty s.heap I.big), rfl, h _ (I.hok.fresh (Nat.le_refl _))⟩⟩
theorem vv_one {x y : V} {vs : List (Value × Value)} (r : VV [(x, y)] vs) : ∃ u w, vs = [(u, w)] ∧ RelV x u ∧ RelV y w := by
  cases r with
  | cons r1 r2 =>
    cases r2
    exact ⟨_, _, rfl, r1.1, r1.2⟩
theorem pe_done (hu : X.A.units + 1 < cLine) (hk : PE X k tk) (hv : PE X v tv) : PE X (.Dict [some k] [v] pos) (tDOne X.prog X.w X.K tk tv) := by
  refine ⟨fun pins s σ H Q I h => ?_⟩
  have hn := I.hok.fresh (Nat.le_refl s.heap.objs.size)
  have I1 := I.laid (a := s.heap.objs.size) (o := DO X.prog X.w s.heap.objs.size []) (h' := s.heap.push { cls := .type "dict", data := .dict #[] }) (t' := s.toks) (fun _ _ q => Heap.get?_push_of_some _ q) (Nat.le_refl _) (do_empty s.heap I.big)
  have pp : PPs X pos [some k] [v] [(tk, tv)] := pps_cons hk hv pps_nil
  have room : (tupleKind (mixKind X.prog X.w)).room X.A := show X.A.units < cLine from Nat.lt_of_le_of_lt (Nat.le_succ _) hu
  have shape : (evalEachOpt [some k] X.env).zip ((evalEach [v] X.env).map fun v => do let x ← v; standAt pos; pure x) = (pairTrees [some k] [v] X.env pos).map fun p => (some p.1, p.2) := by rfl
  rw [arm_eval_Dict, shape, dictDisplay_pairs _ (by intro z; cases z) (by show 1 < 17; decide)]
  refine wpAny_bind (wpAny_standAt (wpAny_bind (wpAny_subDictH (knd := tupleKind (mixKind X.prog X.w)) room (by show 1 ≤ 15; decide) ?_)))
  refine thn (pp.run pins _ σ _ _ I1 (h _ hn)) fun vs s2 ⟨ps, H2, I2, rel, hD, b, kk, vv, eps, hs, q⟩ => ?_
  subst eps
  obtain ⟨u1, u2, rfl, rk, rv⟩ := vv_one rel
  cases (show u1 = Value.ref b from rk)
  obtain ⟨_, hd, xs, r0, dd⟩ := dict_at I2 (.inl hD) (fun _ hz => by cases hz)
  cases r0
  refine ⟨[(skey kk, b, u2)], ⟨rfl, rfl, key_at I2 hs, True.intro⟩, dd, fun h' tk dd' hs' => wpAny_pure ⟨.ref s.heap.objs.size, _, ?_, rfl, q⟩⟩
  obtain ⟨ob, _, _, ho, _⟩ := id dd'
  exact d_write I2 (by rw [hD]; exact True.intro) hs' ⟨ob, ho⟩ (do_obj (dphi_put (es := []) (b := b) (k := kk) (v := vv) (u := u2) (xs := []) (h := s.heap) (by show 0 < sizeLine; decide) hd .nil rv dd'))
/-- d.get(k), d.get(k, x) -/
def tDG1 (P : Program) (w : World) (K : PySem.W.Frag) (td ty : TE) : TE := fun σ H Q => td σ H fun x H1 => ∃ a es, x = .ref a ∧ DtRd P w K H1 a es ∧ ty σ H1 fun y H2 => ∃ b k es, y = .ref b ∧ DtRd P w K H2 a es ∧ SqT K H2 b (sval k) ∧ Q ((lookE es k).getD .non) H2
def tDG2 (P : Program) (w : World) (K : PySem.W.Frag) (td ty tx : TE) : TE := fun σ H Q => td σ H fun x H1 => ∃ a es, x = .ref a ∧ DtRd P w K H1 a es ∧ ty σ H1 fun y H2 => tx σ H2 fun z H3 => ∃ b k es, y = .ref b ∧ DtRd P w K H3 a es ∧ SqT K H3 b (sval k) ∧ Q ((lookE es k).getD z) H3
theorem relO_getD {o : Option V} {u : Option Value} {d : V} {d' : Value} (r : RelO o u) (rd : RelV d d') : RelV (o.getD d) (u.getD d') := by
  cases o <;> cases u <;> first | exact rd | exact r | exact r.elim
theorem pe_dg1 (hu : X.A.units + 1 < cLine) (ho : PE X o td) (he : PE X e ty) (m : M1 X o "get" apos e cpos) : PE X (.Call (.Attribute o "get" apos) [e] [] cpos) (tDG1 X.prog X.w X.K td ty) := by
  refine ⟨fun pins s σ H Q I h => ?_⟩
  refine wpAny_Call_method m.base m.few m.line PySem.F.plainAttrs_dict PySem.F.slot_dict_get PySem.F.type_dict_get (thn (ho.run pins s σ H _ I h) fun u s1 ⟨x, H1, I1, rx, a, es, ex, d, q1⟩ => ?_)
  subst ex
  obtain rfl : u = Value.ref a := rx
  obtain ⟨_, hd, xs, r, dd⟩ := dict_at I1 d.1 d.2
  obtain ⟨ob, _, _, hob, hex, _⟩ := id dd
  refine ⟨dd.typeIs, fun c q => ?_, ?_⟩
  · cases q
    exact ⟨ob, hob, hex.2.1⟩
  rw [m.trees]
  refine Calls.callWith_builtin rfl (Calls.evalArgs_plain (Calls.spliced_cons (thn (he.run pins s1 σ H1 _ I1 q1) fun iv s2 ⟨y, H2, I2, ry, b, k, es2, ey, d2, hk, q2⟩ => Calls.spliced_nil ?_)))
  subst ey
  cases (show iv = Value.ref b from ry)
  obtain ⟨_, hd2, xs2, r2, dd2⟩ := dict_at I2 d2.1 d2.2
  refine get_keyed (knd := tupleKind (mixKind X.prog X.w)) (tupleKind_room_in1 hu) (key_at I2 hk) hd2 ⟨xs2, dd2, rfl⟩ ⟨_, H2, I2.tok _, ?_, q2⟩
  rw [valueAt_pairsH]
  exact relO_getD (ER.look r2 k) rfl
theorem pe_dg2 (hu : X.A.units + 1 < cLine) (ho : PE X o td) (he : PE X e ty) (hf : PE X f tx) (m : M2 X o "get" apos e f cpos) : PE X (.Call (.Attribute o "get" apos) [e, f] [] cpos) (tDG2 X.prog X.w X.K td ty tx) := by
  refine ⟨fun pins s σ H Q I h => ?_⟩
  refine wpAny_Call_method m.base m.few m.line PySem.F.plainAttrs_dict PySem.F.slot_dict_get PySem.F.type_dict_get (thn (ho.run pins s σ H _ I h) fun u s1 ⟨x, H1, I1, rx, a, es, ex, d, q1⟩ => ?_)
  subst ex
  obtain rfl : u = Value.ref a := rx
  obtain ⟨_, hd, xs, r, dd⟩ := dict_at I1 d.1 d.2
  obtain ⟨ob, _, _, hob, hex, _⟩ := id dd
  refine ⟨dd.typeIs, fun c q => ?_, ?_⟩
  · cases q
    exact ⟨ob, hob, hex.2.1⟩
  rw [m.trees]
  refine Calls.callWith_builtin rfl (Calls.evalArgs_plain (Calls.spliced_cons (thn (he.run pins s1 σ H1 _ I1 q1) fun iv s2 ⟨y, H2, I2, ry, q2⟩ =>
    Calls.spliced_cons (thn (hf.run pins s2 σ H2 _ I2 q2) fun fv s3 ⟨z, H3, I3, rz, b, k, es2, ey, d2, hk, q3⟩ => Calls.spliced_nil ?_))))
  subst ey
  cases (show iv = Value.ref b from ry)
  obtain ⟨_, hd2, xs2, r2, dd2⟩ := dict_at I3 d2.1 d2.2
  refine getOr_keyed (knd := tupleKind (mixKind X.prog X.w)) (tupleKind_room_in1 hu) (key_at I3 hk) hd2 ⟨xs2, dd2, rfl⟩ ⟨_, H3, I3.tok _, ?_, q3⟩
  rw [valueAt_pairsH]
  exact relO_getD (ER.look r2 k) rz
end
/-- len(d) -/
def rDLen (P : Program) (w : World) (K : PySem.W.Frag) : List V → Hp → VK → Prop := fun xs H Q => ∃ a es, xs = [.ref a] ∧ DtRd P w K H a es ∧ Q (.int es.length) H
theorem call_dt_len {X : Cx} : CallR X (.builtin "len") (rDLen X.prog X.w X.K) := by
  intro pins s σ H xs us Q I r h
  obtain ⟨a, es, rfl, d, q⟩ := h
  cases r with
  | cons r1 r2 =>
    cases r2
    cases r1
    obtain ⟨z, hd, xs, r, dd⟩ := dict_at I d.1 d.2
    have hl : es.length = xs.length := Paired.length r
    have hm : s.heap.DictKeyed (tupleKind (mixKind X.prog X.w)) a (pairsH xs) := ⟨xs, dd, rfl⟩
    refine PyProof.Rows.call_len_slot (n := (pairsH xs).length) hm.typeIs PySem.F.slot_dict_len (fun Q' hq => len_keyed hd hm hq) (by omega) (by rw [pairsH_length, ← hl]; have := z; rw [sizeLine_eq] at this; omega) ⟨.int ((pairsH xs).length : Nat), H, I.tok _, ⟨_, rfl⟩, ?_⟩
    rw [pairsH_length, ← hl]
    exact q
end Ss
/-! Walks of such dicts: keys, items. -/
namespace Ss
open PySem PySem.Spec PyProof.Rows L2
theorem paired_at {α β : Type} {F : α → β → Prop} : ∀ {l : List α} {m : List β}, Paired F l m → ∀ {i : Nat} {a : α}, l[i]? = some a → ∃ b, m[i]? = some b ∧ F a b
  | _, _, .nil, _, _, e => by simp at e
  | _, _, .cons r t, 0, a, e => by
    simp at e
    subst e
    exact ⟨_, rfl, r⟩
  | _, _, .cons r t, i + 1, a, e => by
    obtain ⟨b, h1, h2⟩ := paired_at t (i := i) (a := a) (by simpa using e)
    exact ⟨b, by simpa using h1, h2⟩
section
variable {X : Cx} {pins : List (Addr × Obj)} {σ : L2.St} {H : Hp} {s : Shared} {d : Addr} {o : Obj}
theorem frz_dt {es : List Ent} (I : Inv X pins σ H s) (h : H d = some (.frz o (DO X.prog X.w d es))) :
    (d == sysModules) = false ∧ s.heap.get? d = some o ∧ o.ExactDict ∧ ∃ (ds : Array DictEntry) (ep : Nat), o.data = .dict ds ep ∧ ds.size = es.length ∧
      ∀ (i : Nat) (e : Ent), es[i]? = some e → ∃ en : DictEntry, ds[i]? = some en ∧ en.key = .ref e.2.1 ∧ RelV e.2.2 en.val := by
  obtain ⟨ho, ⟨z, y, xs, r, o', ds, ep, h1, h2, h3, h4, h5⟩, _⟩ := (show ObjOk X.prog X.w H s.heap d (.frz o (.ext (DPhi X.prog X.w d es))) from I.hok d _ h)
  rw [ho] at h1
  cases h1
  refine ⟨y, ho, h2, ds, ep, h3, ?_, fun i e he => ?_⟩
  · rw [size_of_entries h4, ← Paired.length r]
  · obtain ⟨x, hx, q1, q2, q3⟩ := paired_at r he
    have q := entry_at h4 i
    rw [hx] at q
    exact ⟨_, q, by rw [← q2] <;> rfl, q3⟩
end
/-- the keys' own tuples, in their order -/
def ItKd (P : Program) (w : World) (d : Addr) (o : Obj) (es : List Ent) : It :=
  ⟨fun i H => H d = some (.frz o (DO P w d es)) ∧ i < es.length, fun i H x H' => H' = H ∧ ∃ e, es[i]? = some e ∧ x = .ref e.2.1, fun i H => H d = some (.frz o (DO P w d es)) ∧ es.length ≤ i⟩
/-- the pairs of a key's tuple and a value, each a new tuple -/
def ItId (P : Program) (w : World) (d : Addr) (o : Obj) (es : List Ent) : It :=
  ⟨fun i H => H d = some (.frz o (DO P w d es)) ∧ i < es.length, fun i H x H' => ∃ T e, es[i]? = some e ∧ x = .ref T ∧ H T = none ∧ H' = upd H T (.tup [.ref e.2.1, e.2.2]), fun i H => H d = some (.frz o (DO P w d es)) ∧ es.length ≤ i⟩
theorem walk_kd {P : Program} {w : World} {d : Addr} {o : Obj} {es : List Ent} : Walk (ItKd P w d o es) es.length (fun H => H d = some (.frz o (DO P w d es))) (fun i H x H' => H' = H ∧ ∃ e, es[i]? = some e ∧ x = .ref e.2.1) :=
  ⟨fun _ _ hi q => ⟨q, hi⟩, fun _ q => ⟨q, Nat.le_refl _⟩, fun _ _ _ _ _ _ y => y⟩
theorem walk_id {P : Program} {w : World} {d : Addr} {o : Obj} {es : List Ent} : Walk (ItId P w d o es) es.length (fun H => H d = some (.frz o (DO P w d es))) (fun i H x H' => ∃ T e, es[i]? = some e ∧ x = .ref T ∧ H T = none ∧ H' = upd H T (.tup [.ref e.2.1, e.2.2])) :=
  ⟨fun _ _ hi q => ⟨q, hi⟩, fun _ q => ⟨q, Nat.le_refl _⟩, fun _ _ _ _ _ _ y => y⟩
section
variable {P : Program} {w : World} {K : PySem.W.Frag} {tg : Expr} {d : Addr} {o : Obj} {ds : Array DictEntry} {ep : Nat} {es : List Ent}
theorem turn_kd (it : Addr) (hod : o.data = .dict ds ep) : Turn P w K tg (ItKd P w d o es) [it] it (fun i h => h.IsKeyIter it d i es.length ep) where
  mem := by simp
  obj := fun i h st b hb => by
    have e : b = it := by simpa using hb
    subst e
    obtain ⟨oi, e, c, dd⟩ := st
    exact ⟨oi, e, fun v z => by rw [dd] at z; cases z⟩
  keep := fun i h h' st k => st.at fun oi e => k it (by simp) oi e
  item := by
    rintro X rfl rfl rfl hc i pins s σ H E I hf st ⟨hd, hi⟩
    obtain ⟨f0, f1, f2, f3, f4, f5⟩ := hf it (by simp)
    obtain ⟨hs, hgd, hx, ds', ep', hdt, hsz, ent⟩ := frz_dt I hd
    obtain ⟨rfl, rfl⟩ := dict_ep hod hdt
    have he : es[i]? = some es[i] := List.getElem?_eq_getElem hi
    obtain ⟨en, hen, hkey, _⟩ := ent i _ he
    refine next_key_item st hgd hdt hsz hen fun h' st' sb => ?_
    have I1 : Inv X pins σ H { s with heap := h' } := I.turned (t' := s.toks) (fun b ob hb e => (sb.2 b hb).trans e) f0 f1 f3 f4 f5
    obtain ⟨oi, e, c, dd⟩ := id st'
    exact ⟨en.key, rfl, go_of (s := { s with heap := h' }) e c dd (by decide) ⟨.ref es[i].2.1, H, I1, hkey, ⟨rfl, _, he, rfl⟩, st', fun b hb => (hf b hb).1⟩⟩
  done := by
    rintro X rfl rfl rfl hc i pins s σ H E I hf st ⟨hd, hi⟩
    obtain ⟨f0, f1, f2, f3, f4, f5⟩ := hf it (by simp)
    obtain ⟨hs, hgd, hx, ds', ep', hdt, hsz, ent⟩ := frz_dt I hd
    obtain ⟨rfl, rfl⟩ := dict_ep hod hdt
    exact next_key_end (I.ok.hd hc) st hgd hdt hsz hi fun h' eb => ⟨rfl, I.turned (t' := s.toks) (fun b ob hb e => eb b ob hb e) f0 f1 f3 f4 f5⟩
  self := fun A i s Q E st h => by
    refine wpAny_pyIter_slot st.typeIs F.slot_dict_keyiterator_iter (wpAny_call_entry F.slot_dict_keyiterator_iter st.typeIs F.entry_dict_keyiterator_iter ?_ (F.args_dict_keyiterator_iter_1 _))
    exact wpAny_pure ⟨_, rfl, "dict_keyiterator", _, st.typeIs, F.slot_dict_keyiterator_next.lookup, h⟩
theorem turn_id {elts : List Expr} {kk : Nat} {tpos : Pos} (it : Addr) (hod : o.data = .dict ds ep) :
    Turn P w K (.Tuple elts kk tpos) (ItId P w d o es) [it] it (fun i h => ∃ ok ov, IsItemIter h it d i es.length ep ok ov) where
  mem := by simp
  obj := fun i h st b hb => by
    have e : b = it := by simpa using hb
    subst e
    obtain ⟨ok, ov, e⟩ := st
    exact ⟨_, e, fun v z => nomatch z⟩
  keep := fun i h h' st k => let ⟨ok, ov, e⟩ := st; ⟨ok, ov, k it (by simp) _ e⟩
  item := by
    rintro X rfl rfl rfl hc i pins s σ H E I hf st ⟨hd, hi⟩
    obtain ⟨hs, hgd, hx, ds', ep', hdt, hsz, ent⟩ := frz_dt I hd
    obtain ⟨rfl, rfl⟩ := dict_ep hod hdt
    have he : es[i]? = some es[i] := List.getElem?_eq_getElem hi
    obtain ⟨en, hen, hkey, hval⟩ := ent i _ he
    obtain ⟨hlt, hen2⟩ := Array.getElem?_eq_some_iff.mp hen
    obtain ⟨ok, ov, hit⟩ := st
    rw [← hsz] at hit
    have hlt' : it < s.heap.objs.size := Heap.lt_size hit
    refine wpAny_pyNext_items_item_raw hit ⟨o, hgd, hx, hdt⟩ hlt fun h' ho hT hz hk => ?_
    refine ⟨_, rfl, wpAny_letOwnedTupleGo_items (s := { s with heap := h' }) ho fun h'' he' sb => ?_⟩
    have hT2 := (sb.2 _ (Nat.ne_of_gt hlt')).trans hT
    rw [hen2] at hT2
    have new : ObjOk X.prog X.w (upd H s.heap.objs.size (.tup [.ref es[i].2.1, es[i].2.2])) h'' s.heap.objs.size (.tup [.ref es[i].2.1, es[i].2.2]) :=
      ⟨by show 2 ≤ sizeLine; decide, [en.key, en.val], .cons hkey (.cons hval .nil), ⟨_, hT2, rfl, _, rfl⟩⟩
    have I1 := I.turnedNew (t' := s.toks) (ch := [it]) (fun b ob hb e => (sb.2 b (by simpa using hb)).trans (hk b ob (by simpa using hb) e)) hf (Nat.le_refl _) new
    refine ⟨.ref s.heap.objs.size, _, I1, rfl, ⟨_, _, he, rfl, I.hok.fresh (Nat.le_refl _), rfl⟩, ⟨_, _, by rw [← hsz]; exact he'⟩, fun b hb => ?_⟩
    have e : b = it := by simpa using hb
    rw [e, upd_ne (Nat.ne_of_lt hlt')]
    exact (hf it (by simp)).1
  done := by
    rintro X rfl rfl rfl hc i pins s σ H E I hf st ⟨hd, hi⟩
    obtain ⟨f0, f1, f2, f3, f4, f5⟩ := hf it (by simp)
    obtain ⟨hs, hgd, hx, ds', ep', hdt, hsz, ent⟩ := frz_dt I hd
    obtain ⟨rfl, rfl⟩ := dict_ep hod hdt
    obtain ⟨ok, ov, hit⟩ := st
    rw [← hsz] at hit hi
    exact wpAny_pyNext_items_end_raw (I.ok.hd hc) hit ⟨o, hgd, hx, hdt⟩ hi fun h' eb => ⟨rfl, I.turned (t' := s.toks) (fun b ob hb e => eb b ob hb e) f0 f1 f3 f4 f5⟩
  self := fun A i s Q E st h => let ⟨_, _, e⟩ := st; PySem.W.kcp_self e h
end
/-- for k in d; for k, v in d.items() (d locked) -/
def iKd (P : Program) (w : World) (td : TE) : TI := fun σ H R => td σ H fun x H1 => ∃ d o es, x = .ref d ∧ H1 d = some (.frz o (DO P w d es)) ∧ R (ItKd P w d o es) H1
def iId (P : Program) (w : World) (td : TE) : TI := fun σ H R => td σ H fun x H1 => ∃ d o es, x = .ref d ∧ H1 d = some (.frz o (DO P w d es)) ∧ R (ItId P w d o es) H1
section
variable {X : Cx} {tg e : Expr} {td : TE} {apos cpos : Pos}
theorem pi_kd (he : PE X e td) : PI X tg e (iKd X.prog X.w td) := by
  refine ⟨fun pins s σ H R I h => ?_⟩
  refine thn (he.run pins s σ H _ I h) fun u s1 ⟨x, H1, I1, rx, d, o, es, ex, hd, q⟩ => ?_
  subst ex
  obtain rfl : u = Value.ref d := rx
  obtain ⟨hs, hgd, hx, ds, ep, hdt, hsz, ent⟩ := frz_dt I1 hd
  refine iter_keys hs hgd hx hdt (pi_one (tk := s1.toks) I1 _ (turn_kd _ hdt) ⟨_, Heap.get?_push_size _ rfl, rfl, ?_⟩ q)
  rw [hsz] <;> rfl
theorem pi_id {elts : List Expr} {kk : Nat} {tpos : Pos} (he : PE X e td) (hbase : attributeBase e "items" X.env (eval e X.env) = eval e X.env := by rfl) (hline : (apos.endLine == cpos.line) = true := by rfl) :
    PI X (.Tuple elts kk tpos) (.Call (.Attribute e "items" apos) [] [] cpos) (iId X.prog X.w td) := by
  refine ⟨fun pins s σ H R I h => ?_⟩
  refine wpAny_Call_method (T := "dict") (id := "dict.items") hbase rfl hline F.plainAttrs_dict F.slot_dict_items F.type_dict_items (thn (he.run pins s σ H _ I h) fun u s1 ⟨x, H1, I1, rx, d, o, es, ex, hd, q⟩ => ?_)
  subst ex
  obtain rfl : u = Value.ref d := rx
  obtain ⟨hs, hgd, hx, ds, ep, hdt, hsz, ent⟩ := frz_dt I1 hd
  have ht : s1.TypeIs (.ref d) "dict" := ⟨o, hgd, hx.1⟩
  refine ⟨ht, fun c z => ?_, ?_⟩
  · cases z
    exact ⟨o, hgd, hx.2.1⟩
  have I2 : Inv X pins σ H1 { s1 with heap := s1.heap.push { cls := .type "dict_items", data := .fields #[.ref d] } } := I1.kept (t' := s1.toks) fun b ob q => Heap.get?_push_of_some _ q
  have fin : wpAny (model X.prog X.w) X.A (pyIter (.ref s1.heap.objs.size)) (PIE X pins σ (.Tuple elts kk tpos) R) X.xe { s1 with heap := s1.heap.push { cls := .type "dict_items", data := .fields #[.ref d] } } := by
    refine wpAny_pyIter_items_raw (d := d) (es := ds) (ep := ep) ⟨_, Heap.get?_push_size _ rfl, rfl, rfl⟩ ⟨o, Heap.get?_push_of_some _ hgd, hx, hdt⟩ (pi_one (tk := s1.toks) I2 _ (turn_id _ hdt) ⟨.none, .none, by rw [← hsz]; exact Heap.get?_push_size _ rfl⟩ q)
  show wpAny _ _ (callWith cpos (.builtin "dict.items") [.ref d] [] []) _ X.xe s1
  exact method_meetsIn F.slot_dict_items F.entry_dict_items rfl (PySem.evalArgs_none ⟨rfl, ht, F.args_dict_items_1 _, _, meets_dict_items_raw d hs, ⟨⟨ds, ep, o, hgd, hx, hdt⟩, fin⟩⟩)
end
end Ss
/-! match over a text, its cases texts, the last one anything. -/
namespace Ss
open PySem PySem.Spec PyProof.Rows L2
/-- the cases, by the value looked at -/
structure PM (X : Cx) (cs : List MatchCase) (t : V → TS) : Prop where
  run : ∀ (first : Bool) (v : V) (u : Value) (pins : List (Addr × Obj)) (s : Shared) (σ : L2.St) (H : Hp) (D : Ends), Inv X pins σ H s → RelV v u → t v D σ H →
    wpAny (model X.prog X.w) X.A (matchCases cs X.env u first) (SP X pins D) X.xe s
def mText (z : Str) (t : TS) (r : V → TS) : V → TS := fun v D σ H => ∃ y, v = .str y ∧ if y = z then t D σ H else r v D σ H
section
variable {X : Cx} {b : List Stmt} {r : List MatchCase} {t : TS} {tr : V → TS} {z : Str} {p1 p2 p3 : Pos} {sub : Expr} {te : TE}
theorem pm_text {j : Nat} (hb : PSs X b t) (hr : PM X r tr) : PM X (⟨.MatchValue (.Constant (.str z) j p1) p2, none, b⟩ :: r) (mText z t tr) := by
  refine ⟨fun first v u pins s σ H D I rv h => ?_⟩
  obtain ⟨y, rfl, h⟩ := h
  refine wpAny_matchCases_cons (wpAny_matchPattern_Value ?_)
  refine thn ((pe_str (X := X) (x := z) (j := j) (pos := p1)).run pins s σ H _ I (show tC (.str z) σ H (fun x H' => x = .str z ∧ H' = H) from ⟨rfl, rfl⟩)) fun x s1 ⟨vx, H1, I1, rx, ex, eH⟩ => ?_
  subst ex eH
  refine thn (op_eq (X := X) pins s1 σ _ _ _ u x (fun c H' => c = .bl (decide ((V.str y) = V.str z)) ∧ H' = H1) I1 rv rx ⟨rfl, rfl, rfl⟩) fun c s2 ⟨vc, H2, I2, rc, ec, eH⟩ => ?_
  subst ec eH
  cases (show c = Value.bool _ from rc)
  refine wpAny_truthy_bool ?_
  by_cases q : y = z
  · rw [if_pos q] at h
    have e : decide (V.str y = V.str z) = true := decide_eq_true (by rw [q])
    rw [e]
    exact wpAny_assignInOrder_none (hb.run pins s2 σ _ D I2 h)
  · rw [if_neg q] at h
    have e : decide (V.str y = V.str z) = false := decide_eq_false (fun e => q (V.str.inj e))
    rw [e]
    exact hr.run false _ _ pins s2 σ _ D I2 rv h
theorem pm_any (hb : PSs X b t) : PM X (⟨.MatchAs none none p1, none, b⟩ :: r) (fun _ => t) := by
  refine ⟨fun first v u pins s σ H D I rv h => ?_⟩
  exact wpAny_matchCases_cons (wpAny_matchPattern_Capture (wpAny_assignInOrder_none (hb.run pins s σ H D I h)))
theorem ps_match (he : PE X sub te) (hc : PM X r tr) : PS X (.Match sub r p1) (fun D σ H => te σ H fun v H1 => tr v D σ H1) := by
  refine ⟨fun pins s σ H D I h => ?_⟩
  exact wpAny_Match (thn (he.run pins s σ H _ I h) fun u s1 ⟨v, H1, I1, rv, q⟩ => hc.run true v u pins s1 σ H1 D I1 rv q)
end
end Ss
/-! o[i] by an own __getitem__. -/
namespace Ss
open PySem PySem.Spec PyProof.Rows L2
theorem Df.fnIn {K : PySem.W.Frag} {x q : Str} {st : Stmt} {f : Addr} (D : Df K x q st f) : PySem.W.fnIn K f = true := by
  obtain ⟨fd, F⟩ := D
  obtain ⟨oc, od, dV, kV, doc, pm, an, cdv, ct, osl, rfl, lk, _⟩ := F.ex
  unfold PySem.W.fnIn
  rw [lk]
/-- o[i] -/
def rOwnIx (C : Addr) (sp : Sp) : R2 := fun x y H Q => ∃ a dx fs, x = .ref a ∧ H a = some (.ins C dx fs) ∧ sp [.ref a, y] H Q E0
section
variable {X : Cx} {o i : Expr} {pos : Pos} {to ti : TE} {k : Nat} {f C : Addr} {ps : List Str} {sp : Sp}
theorem pe_own_ix (ho : PE X o to) (hi : PE X i ti) (G : Kn X.prog X.w X.K X.mg X.base k f ps sp) (hr : Room (k + 1) X.A) (hs : PySem.W.findIn X.K (.ref C) "__getitem__" = some (some (.ref f))) (hf : PySem.W.fnIn X.K f = true) (hfn : PySem.W.isFn X.K (.ref f) = true)
    (hsl : ∀ ov iv, subscripted i true ov iv = runValue (.builtin "lifetime.subscript" ⟨[ov, iv], []⟩) := by intro _ _; with_unfolding_all rfl) :
    PE X (.Subscript o i pos) (tOp (rOwnIx C sp) to ti) := by
  refine ⟨fun pins s σ H Q I h => ?_⟩
  refine Subscript_ (thn (ho.run pins s σ H _ I h) fun ov s1 ⟨x, H1, I1, rx, q1⟩ => thn (hi.run pins s1 σ H1 _ I1 q1) fun iv s2 ⟨y, H2, I2, ry, a, dx, fs, ex, ea, q2⟩ => ?_)
  subst ex
  obtain rfl : ov = Value.ref a := rx
  obtain ⟨mA, O, _⟩ := ins_get I2.hok ea
  obtain ⟨od, J, _⟩ := O.look
  obtain ⟨m, F⟩ := I2.fr
  refine PySem.W.sub_K F I2.ok.mod.kin J hs hf hfn ?_ (hsl _ _)
  obtain ⟨⟨fd, FF, b⟩, kp⟩ := G
  have r2 : Vals [V.ref a, y] [Value.ref a, iv] := .cons rfl (.cons ry .nil)
  have hl : ([Value.ref a, iv] ++ []).length = ps.length := by
    rw [List.append_nil, ← r2.length]
    exact FF.len _ _ _ _ q2
  have bb := b s2 [Value.ref a, iv] I2.kIn hl
  rw [List.append_nil] at bb
  refine wpAny_call (codeAny_mono (FF.run X.A.in1 X.stack s2 H2 ⟨[Value.ref a, iv], []⟩ [Value.ref a, iv] [V.ref a, y] Q E0 hr.in1 I2.env0.in1 bb r2 q2) fun r s' hq => ?_)
  cases r with
  | error e => exact hq.elim
  | ok fl =>
    cases fl with
    | ret u => exact I2.after hq
    | next => exact False.elim hq
    | brk => exact False.elim hq
    | cont => exact False.elim hq
end
end Ss
/-! Dict comprehensions whose dict is of a kind of one's own: how it begins and how it takes a pair are handed in. -/
namespace Ss
open PySem PySem.Spec PyProof.Rows L2
/-- a kind of dict: what a new one is, what a store asks -/
structure DKind where
  o0 : Addr → HO
  put : Addr → V → V → Hp → (Hp → Prop) → Prop
structure DKind.Ok (k : DKind) (P : Program) (w : World) (K : PySem.W.Frag) (A : Around) : Prop where
  new : ∀ (H : Hp) (h : Heap), sysModules < h.objs.size → ObjOk P w H (h.push { cls := .type "dict", data := .dict #[] }) h.objs.size (k.o0 h.objs.size)
  put : ∀ (Y : Cx) (pins : List (Addr × Obj)) (σ : L2.St) (H : Hp) (s : Shared) (D : Addr) (y z : V) (u r : Value) (N : Hp → Prop) (E : Value → Shared → Prop), Y.prog = P → Y.w = w → Y.K = K → Y.A = A → Inv Y pins σ H s → RelV y u → RelV z r →
    k.put D y z H N → wpAny (model P w) A (dictSet D u r) (fun _ s' => ∃ H', Inv Y pins σ H' s' ∧ N H') E s
def tDk (k : DKind) (wi : TI) (g : TG) (tt : TT) (tk tv : TE) (vs : List Nat) : TE := fun σ H Q => wi σ H fun J H1 => ∀ D, H1 D = none → ∃ W : Nat → Nat → Hp → Prop, (∃ m, W 0 m (upd H1 D (k.o0 D))) ∧ ∀ i m H, W i m H →
  (J.stop i H ∧ Q (.ref D) H) ∨ (J.go i H ∧ ∃ Nx : Hp → Prop, (∀ H', Nx H' → ∃ m', m' < m ∧ W (i + 1) m' H') ∧ ∀ x H', J.yld i H x H' → g x (wipe σ vs) H' fun σ2 H2 => wipe σ2 vs = wipe σ vs ∧ tt σ2 H2 fun b H3 =>
    if b = true then tk σ2 H3 fun y H4 => tv σ2 H4 fun z H5 => k.put D y z H5 Nx else Nx H3)
section
variable {X : Cx} {k : DKind}
theorem dk_core {pins : List (Addr × Obj)} {s : Shared} {σ : L2.St} {H : Hp} {Q : VK} {kx vx tg iter : Expr} {ifs : List Expr} {scope : Scope} {own : List (Str × Nat)} {pos pos' : Pos} {wi : TI} {g : TG} {tt : TT} {tk tv : TE} {use : Option (Value → Sem Unit)} {Qf : Value → Shared → Prop}
    (kok : k.Ok X.prog X.w X.K X.A) (hc : X.calm = true) (hN : X.N.Nodup) (I : Inv X pins σ H s) (hi : PI X tg iter wi) (ok : BlkOk X.N X.env.scope scope own)
    (hg : ∀ s H C cl fp, PG (X.blk s H scope (compEnvC scope cl C X.env) fp) tg g) (ht : ∀ s H C cl fp, PTs (X.blk s H scope (compEnvC scope cl C X.env) fp) ifs tt)
    (hk : ∀ s H C cl fp, PE (X.blk s H scope (compEnvC scope cl C X.env) fp) kx tk) (he : ∀ s H C cl fp, PE (X.blk s H scope (compEnvC scope cl C X.env) fp) vx tv) (hs : ∀ x, foldedSetIterable iter X.env x = pure x)
    (h : tDk k wi g tt tk tv (own.map (·.2)) σ H Q)
    (back : ∀ D C s' m H', Inv X pins σ H' s' → Q (.ref D) H' → s'.heap.Ns C m → FpOk X pins H' C → compPost (model X.prog X.w) X.A X.xe use Qf (.ref D) C (.ok .next) s') :
    wpAny (model X.prog X.w) X.A (comprehension (.DictComp kx vx [⟨tg, iter, ifs, 0⟩] scope pos) scope X.env pos' newDict false (eval iter X.env) use) Qf X.xe s := by
  have clo := closure_ok (env := X.env) (scope := scope) fun y hy e => (ok.free y hy e).elim (fun q => I.ok.has _ (.inl q)) fun q => I.ok.has _ (.inr q)
  refine wpAny_comprehension_free (use := use) rfl hs clo ok.kind (fun y hy e => (ok.uniq y hy).trans (congrArg some e))
    (thn (hi.run pins s σ H _ I h) fun xv s1 hx => thn hx fun itv s2 ⟨it, fp, tn, J, H2, e, I2, T, st2, f2, q⟩ => wpAny_newObj_type (newEnv_comp ?_))
  subst e
  obtain ⟨D, hD⟩ : ∃ D, D = s2.heap.objs.size := ⟨_, rfl⟩
  obtain ⟨W, ⟨m0, w0⟩, turn⟩ := q D (I2.hok.fresh (Nat.le_of_eq hD.symm))
  -- the new dict is laid
  have lay : Inv X pins σ (upd H2 D (k.o0 D)) { s2 with heap := s2.heap.push { cls := .type "dict", data := .dict #[] } } :=
    I2.laid (t' := s2.toks) (fun b o e => Heap.get?_push_of_some _ e) (Nat.le_of_eq hD.symm) (by rw [hD]; exact kok.new _ s2.heap I2.big)
  rw [← hD]
  generalize hs3 : ({ s2 with heap := s2.heap.push { cls := .type "dict", data := .dict #[] } } : Shared) = s3 at lay ⊢
  have h3 : s3.heap = s2.heap.push { cls := .type "dict", data := .dict #[] } := by rw [← hs3]
  have room : ∀ b ∈ fp, b < s2.heap.objs.size := fun b hb => let ⟨o, e, _⟩ := T.obj _ _ st2 b hb; Heap.lt_size e
  have f3 : ∀ b ∈ fp, FpOk X pins (upd H2 D (k.o0 D)) b ∧ b < s3.heap.objs.size := fun b hb => by
    have lt := room b hb
    refine ⟨⟨(upd_ne (by rw [hD]; exact Nat.ne_of_lt lt)).trans (f2 b hb).1, (f2 b hb).2⟩, ?_⟩
    rw [h3, Heap.size_push]
    exact Nat.lt_succ_of_lt lt
  have st3 : tn 0 s3.heap := T.keep _ _ _ st2 fun b _ o e => by rw [h3]; exact Heap.get?_push_of_some _ e
  have blk := block_start lay ok hN f3
  -- the block's context, once and for all
  obtain ⟨ce, hce⟩ : ∃ ce, ce = compEnvC scope (cellsFrom (s3.heap.objs.size + 1) scope.names (cloFrom X.env.cells scope.names [])) s3.heap.objs.size X.env := ⟨_, rfl⟩
  obtain ⟨H3, hH3⟩ : ∃ H3, H3 = upd H2 D (k.o0 D) := ⟨_, rfl⟩
  rw [← hH3] at lay blk w0 f3
  obtain ⟨Y, hY⟩ : ∃ Y, Y = X.blk s3 H3 scope ce fp := ⟨_, rfl⟩
  have yg : PG Y tg g := by rw [hY, hce]; exact hg ..
  have yt : PTs Y ifs tt := by rw [hY, hce]; exact ht ..
  have yk : PE Y kx tk := by rw [hY, hce]; exact hk ..
  have yv : PE Y vx tv := by rw [hY, hce]; exact he ..
  have yp : Y.prog = X.prog := by rw [hY] <;> rfl
  have yw : Y.w = X.w := by rw [hY] <;> rfl
  have yK : Y.K = X.K := by rw [hY] <;> rfl
  have yA : Y.A = X.A := by rw [hY] <;> rfl
  have yc : Y.calm = true := by rw [hY]; exact hc
  have ye : Y.env = ce := by rw [hY] <;> rfl
  have yx : Y.xe = fun _ _ => False := by rw [hY] <;> rfl
  have yex : ∀ b, b ∈ fp → b ∈ Y.ex := fun b hb => by rw [hY]; exact hb
  have yL : ce.locals = s3.heap.objs.size := by rw [hce] <;> rfl
  rw [← hce, ← hY] at blk
  show codeAny _ _ (.compStart (.DictComp kx vx [⟨tg, iter, ifs, 0⟩] scope pos) 0 (.ref it) (.ref D) (compEnvC scope (cellsFrom (s3.heap.objs.size + 1) scope.names (cloFrom X.env.cells scope.names [])) s3.heap.objs.size X.env))
    (compPost (model X.prog X.w) X.A X.xe use Qf (.ref D) s3.heap.objs.size) { s3 with heap := pushCells (s3.heap.push { cls := .type "dict", data := .dict #[] }) scope.names }
  rw [← hce]
  -- what stands of the iterator's records between two turns
  have calm : ∀ {σ' : L2.St} {H' : Hp} {s' : Shared}, Inv Y [] σ' H' s' → (∀ b ∈ fp, H' b = none) → ∀ b ∈ fp, FpOk Y [] H' b := fun {σ' H' s'} I' hn b hb =>
    ⟨hn b hb, (I'.ok.exf b (yex b hb)).1, I'.ok.exfs b (yex b hb), .inl (yex b hb), fun x c e => (I'.ok.exf b (yex b hb)).2 x c e, fun p hp => by rw [hY] at hp; cases hp⟩
  generalize hs4 : ({ s3 with heap := pushCells (s3.heap.push { cls := .type "dict", data := .dict #[] }) scope.names } : Shared) = s4 at blk
  have st4 : tn 0 s4.heap := T.keep _ _ _ st3 fun b _ o e => by rw [← hs4]; exact pushCells_keeps _ _ _ _ (Heap.get?_push_of_some _ e)
  have loop : codeAny (model X.prog X.w) X.A (.compLoop (.DictComp kx vx [⟨tg, iter, ifs, 0⟩] scope pos) 0 (.ref it) (.ref D) ce) (compPost (model X.prog X.w) X.A X.xe use Qf (.ref D) s3.heap.objs.size) s4 := by
    refine compLoop_anyD (fun n s' => ∃ i H', Inv Y [] (wipe σ (own.map (·.2))) H' s' ∧ tn i s'.heap ∧ (∀ b ∈ fp, H' b = none) ∧ W i n H') ?_ m0 ⟨0, H3, blk, st4, fun b hb => (f3 b hb).1.1, w0⟩
    rintro n s5 ⟨i, H5, I5, st5, n5, w5⟩
    rcases turn i n H5 w5 with ⟨stop, qq⟩ | ⟨go, Nx, hNx, step⟩
    · have td := T.done Y yp yw yK yc i [] s5 _ H5 (fun _ _ => False) I5 (calm I5 n5) st5 stop
      rw [yA] at td
      refine thnF td fun r s6 ⟨hr, I6⟩ => ?_
      subst hr
      have nC : H5 s3.heap.objs.size = none := by
        have z := I6.free
        rw [ye, yL] at z
        exact z
      obtain ⟨m, hn, _⟩ := id I6.loc
      rw [ye, yL] at hn
      rw [hY] at I6
      exact back D s3.heap.objs.size s6 m H5 (lay.call' (ch := fp) I6.os I6.base I6.hok I6.bare fun b hb => ⟨(f3 b hb).1.2.2.2.1, (f3 b hb).1.2.1, (f3 b hb).1.2.2.2.2.1, (f3 b hb).1.2.2.2.2.2⟩) qq hn (lay.fpOk (Nat.le_refl _) nC)
    · have ti := T.item Y yp yw yK yc i [] s5 _ H5 (fun _ _ => False) I5 (calm I5 n5) st5 go
      rw [yA] at ti
      refine thnF ti fun r s6 ⟨u, hr, h6⟩ => ?_
      subst hr
      refine thnF h6 fun _ s7 ⟨x, H7, I7, r7, y7, st7, n7⟩ => ?_
      have J7 := I7.pinned (calm I7 n7) (T.obj _ _ st7)
      have g1 := yg.run _ s7 _ H7 x u _ J7 r7 (step x H7 y7)
      rw [yp, yw, yA, ye, yx] at g1
      refine thnF g1 fun _ s8 ⟨σ8, H8, I8, hw8, q8⟩ => ?_
      have g2 := yt.run _ s8 σ8 H8 _ I8 q8
      rw [yp, yw, yA, ye, yx] at g2
      refine thnF g2 fun b s9 ⟨H9, I9, q9⟩ => ?_
      have fin : ∀ {s' : Shared} {H' : Hp}, Inv Y ([] ++ pinsAt fp s7.heap) σ8 H' s' → Nx H' → ∃ m, m < n ∧ ∃ i H', Inv Y [] (wipe σ (own.map (·.2))) H' s' ∧ tn i s'.heap ∧ (∀ b ∈ fp, H' b = none) ∧ W i m H' := fun {s' H'} I' nx => by
        obtain ⟨m', hm, w'⟩ := hNx H' nx
        have pinned : ∀ b ∈ fp, ∀ o, s7.heap.get? b = some o → s'.heap.get? b = some o ∧ H' b = none := fun b hb o e => by
          have z := I'.pin (b, o) (List.mem_append_right _ (List.mem_append_right _ (mem_pinsAt hb e)))
          exact ⟨z.1, z.2.1⟩
        refine ⟨m', hm, i + 1, H', (I'.unpinned (pins := [])).weak (by rw [← hw8, wipe_length]) (fun j v e => ?_), T.keep _ _ _ st7 fun b hb o e => (pinned b hb o e).1, fun b hb => ?_, w'⟩
        · rw [← hw8] at e
          exact (wipe_some e).1
        · obtain ⟨o, e, _⟩ := T.obj _ _ st7 b hb
          exact (pinned b hb o e).2
      cases b with
      | false => exact fin I9 q9
      | true =>
        have q9 := show tk σ8 H9 _ from q9
        have g3 := yk.run _ s9 σ8 H9 _ I9 q9
        rw [yp, yw, yA, ye, yx] at g3
        show wpAny _ _ (eval kx ce) _ _ s9
        refine thnF g3 fun z s10 ⟨yv1, H10, I10, r10, q10⟩ => ?_
        have g4 := yv.run _ s10 σ8 H10 _ I10 q10
        rw [yp, yw, yA, ye, yx] at g4
        refine thnF g4 fun z2 s11 ⟨yv2, H11, I11, r11, nx⟩ => ?_
        exact thn (kok.put Y _ σ8 H11 s11 D yv1 yv2 z z2 Nx _ yp yw yK yA I11 r10 r11 nx) fun _ s12 ⟨H12, I12, n12⟩ => fin I12 n12
  exact codeAny_compStart_dict loop (T.self X.A 0 _ _ _ st4 loop)
theorem pe_dk {kx vx tg iter : Expr} {ifs : List Expr} {scope : Scope} {own : List (Str × Nat)} {pos : Pos} {wi : TI} {g : TG} {tt : TT} {tk tv : TE} (kok : k.Ok X.prog X.w X.K X.A) (hc : X.calm = true) (hN : X.N.Nodup) (hi : PI X tg iter wi) (ok : BlkOk X.N X.env.scope scope own)
    (hg : ∀ s H C cl fp, PG (X.blk s H scope (compEnvC scope cl C X.env) fp) tg g) (ht : ∀ s H C cl fp, PTs (X.blk s H scope (compEnvC scope cl C X.env) fp) ifs tt)
    (hk : ∀ s H C cl fp, PE (X.blk s H scope (compEnvC scope cl C X.env) fp) kx tk) (he : ∀ s H C cl fp, PE (X.blk s H scope (compEnvC scope cl C X.env) fp) vx tv) (hs : ∀ x, foldedSetIterable iter X.env x = pure x := by intro _; rfl) :
    PE X (.DictComp kx vx [⟨tg, iter, ifs, 0⟩] scope pos) (tDk k wi g tt tk tv (own.map (·.2))) := by
  refine ⟨fun pins s σ H Q I h => ?_⟩
  rw [arm_eval_DictComp]
  refine dk_core kok hc hN I hi ok hg ht hk he hs h fun D C s' m H' I' q hn f => ⟨m, hn, fun h'' sb => ?_⟩
  exact ⟨.ref D, H', I'.turned (t' := s'.toks) (fun b o hb e => (sb.2 b hb).trans e) f.1 f.2.1 f.2.2.2.1 f.2.2.2.2.1 f.2.2.2.2.2, rfl, q⟩
theorem ps_setDk {i : Nat} {y : Str} {py : Pos} {kx vx tg iter : Expr} {ifs : List Expr} {scope : Scope} {own : List (Str × Nat)} {pos spos : Pos} {wi : TI} {g : TG} {tt : TT} {tk tv : TE} (kok : k.Ok X.prog X.w X.K X.A) (hc : X.calm = true) (hN : X.N.Nodup) (hy : X.N[i]? = some y) (hyl : X.env.scope.names.lookup y = some .local)
    (hsw : swapsWith (.DictComp kx vx [⟨tg, iter, ifs, 0⟩] scope pos) (some (.Name y py)) spos.line X.env = pure true) (hi : PI X tg iter wi) (ok : BlkOk X.N X.env.scope scope own)
    (hg : ∀ s H C cl fp, PG (X.blk s H scope (compEnvC scope cl C X.env) fp) tg g) (ht : ∀ s H C cl fp, PTs (X.blk s H scope (compEnvC scope cl C X.env) fp) ifs tt)
    (hk : ∀ s H C cl fp, PE (X.blk s H scope (compEnvC scope cl C X.env) fp) kx tk) (he : ∀ s H C cl fp, PE (X.blk s H scope (compEnvC scope cl C X.env) fp) vx tv) (hs : ∀ x, foldedSetIterable iter X.env x = pure x := by intro _; rfl) :
    PS X (.Assign [.Name y py] (.DictComp kx vx [⟨tg, iter, ifs, 0⟩] scope pos) spos) (tAsg (tDk k wi g tt tk tv (own.map (·.2))) (gName i)) := by
  refine ⟨fun pins s σ H D I h => ?_⟩
  rw [exec_Assign_Name_used _ _ _ _ hsw]
  refine wpAny_bind (wpAny_standAt (wpAny_bind ?_))
  have h : tDk k wi g tt tk tv (own.map (·.2)) σ H (fun x H1 => gName i x σ H1 D.nx) := h
  show wpAny _ X.A (do let _ ← comprehension (.DictComp kx vx [⟨tg, iter, ifs, 0⟩] scope pos) scope X.env (firstIterPos [⟨tg, iter, ifs, 0⟩] pos) newDict false (eval iter X.env) (some (assign (.Name y py) X.env))) _ _ s
  refine wpAny_bind (thn (dk_core (Qf := fun _ s' => SP X pins D .next s') kok hc hN I hi ok hg ht hk he hs h fun L C s' m H' I' q hn f => ?_) fun _ s' hq => wpAny_pure (wpAny_pure hq))
  show wpAny _ _ (assign (.Name y py) X.env (.ref L)) _ _ _
  refine wpAny_assign_Name (store_ok2 (v := V.ref L) I' hN hy (.inl hyl) rfl (fun s2 I2 ⟨a, sb, ha⟩ => ?_) (.inr hyl))
  have far : C ≠ a := by
    rcases ha with z | z
    · rw [z]
      exact f.2.1
    · exact fun e => f.2.2.2.2.1 y a z e.symm
  exact ⟨m, hn.sameBut sb far, fun h3 sb3 => ⟨_, H', I2.turned (t' := s2.toks) (fun b o hb e => (sb3.2 b hb).trans e) f.1 f.2.1 f.2.2.2.1 f.2.2.2.2.1 f.2.2.2.2.2, q⟩⟩
end
end Ss
/-! list(d), sorted(d) of dicts with stamps as keys. -/
namespace Ss
open PySem PySem.Spec PyProof.Rows L2 PySem.Calls PyProof.V
/-- dicts of stamps, as comprehensions make them -/
def dkT (P : Program) (w : World) (K : PySem.W.Frag) : DKind where
  o0 a := DO P w a []
  put D y z H N := ∃ es b k, y = .ref b ∧ DtAt P w K H D es ∧ SqT K H b (sval k) ∧ es.length < sizeLine ∧ N (upd H D (DO P w D (putE es k b z)))
theorem dkT_ok {P : Program} {w : World} {K : PySem.W.Frag} {A : Around} (hu : A.units + 1 < cLine) : (dkT P w K).Ok P w K A where
  new H h hb := do_empty h hb
  put := by
    rintro Y pins σ H s D y z u r N E rfl rfl rfl rfl I ry rz ⟨es, b, k, rfl, d, hk, hz, n⟩
    cases (show u = Value.ref b from ry)
    obtain ⟨_, hd, xs, rel, dd⟩ := dict_at I (.inl d.at_) d.ks
    have hzx : xs.length ≤ sizeLine := by rw [← Paired.length rel]; exact Nat.le_of_lt hz
    have room : (tupleKind (mixKind Y.prog Y.w)).room Y.A := show Y.A.units < cLine from Nat.lt_of_le_of_lt (Nat.le_succ _) hu
    refine wpAny_dictSet_heap (hsz := hzx) room (key_at I hk) dd fun h' dd' hs => ?_
    obtain ⟨o, _, _, ho, _⟩ := id dd'
    exact ⟨_, d_write I (by rw [d.at_]; exact True.intro) hs ⟨o, ho⟩ (do_obj (dphi_put (h := s.heap) hz hd rel rz dd')), n⟩
/-- what a list made of the dict's keys holds -/
theorem keys_of {X : Cx} {pins : List (Addr × Obj)} {σ : L2.St} {H : Hp} {s : Shared} {a : Addr} {es : List Ent} (I : Inv X pins σ H s) (h : DtRd X.prog X.w X.K H a es) :
    es.length ≤ sizeLine ∧ (a == sysModules) = false ∧ ∃ ds ep, s.heap.DictRaw a ds ep ∧ ds.size = es.length ∧ ∀ (j : Nat) (e : Ent) (hj : j < ds.size), es[j]? = some e → ds[j].key = .ref e.2.1 := by
  obtain ⟨z, y, xs, r, o, ds, ep, h1, h2, h3, h4, h5⟩ := dphi_of I h.1
  refine ⟨z, y, ds, ep, ⟨o, h1, h2, h3⟩, by rw [size_of_entries h4, ← Paired.length r], fun j e hj he => ?_⟩
  obtain ⟨x, hx, q1, q2, q3⟩ := paired_at r he
  have q := entry_at h4 j
  rw [hx, Array.getElem?_eq_getElem hj] at q
  have q' := Option.some.inj q
  rw [q', ← q2] <;> rfl
theorem vals_refs {as : List Addr} {us : List Value} (hl : us.length = as.length) (h : ∀ (j : Nat) (a : Addr) (u : Value), as[j]? = some a → us[j]? = some u → u = .ref a) : Vals (as.map V.ref) us := by
  induction as generalizing us with
  | nil =>
    cases us with
    | nil => exact .nil
    | cons u r => cases hl
  | cons a r ih =>
    cases us with
    | nil => cases hl
    | cons u us =>
      refine .cons (h 0 a u rfl rfl) (ih (by simpa using hl) fun j b v h1 h2 => h (j + 1) b v (by simpa using h1) (by simpa using h2))
def rDList (P : Program) (w : World) (K : PySem.W.Frag) : List V → Hp → VK → Prop := fun xs H Q => ∃ a es, xs = [.ref a] ∧ DtRd P w K H a es ∧ ∀ p, H p = none → Q (.ref p) (upd H p (.lst (es.map fun e => .ref e.2.1)))
theorem call_dt_list {X : Cx} (hc : X.calm = true) : CallR X (.type "list") (rDList X.prog X.w X.K) := by
  intro pins s σ H xs us Q I r h
  obtain ⟨a, es, rfl, d, q⟩ := h
  cases r with
  | cons r1 r2 =>
    cases r2
    cases r1
    obtain ⟨z, hd, ds, ep, raw, hsz, hkey⟩ := keys_of I d
    refine PySem.W.kdl_call (KdlSrc.rawDict hd) (I.ok.hd hc) raw (by rw [hsz]; exact z) fun h' tk acc c hk hD hacc => ?_
    have hl : acc.toList.length = (es.map fun e => e.2.1).length := by rw [Array.length_toList, hacc.1, hsz, List.length_map]
    have rv : Vals ((es.map fun e => e.2.1).map V.ref) acc.toList := vals_refs hl fun j b u h1 h2 => by
      rw [List.getElem?_map] at h1
      obtain ⟨e, he, rfl⟩ := Option.map_eq_some_iff.mp h1
      obtain ⟨hi, rfl⟩ := hacc.2 j u (by rw [← Array.getElem?_toList]; exact h2)
      exact hkey j e hi he
    rw [List.map_map] at rv
    have rv2 : Vals (es.map fun e => V.ref e.2.1) acc.toList := rv
    refine ⟨.ref s.heap.objs.size, _, I.laid (t' := tk) (o := .lst (es.map fun e => .ref e.2.1)) hk (Nat.le_refl _) ⟨by rw [List.length_map]; exact z, acc.toList, c, rv2, by simpa using hD⟩, rfl, q _ (I.hok.fresh (Nat.le_refl _))⟩
/-- what stands in the abstract heap stands in the heap -/
theorem obj_there {P : Program} {w : World} {H : Hp} {h : Heap} {a : Addr} {o : HO} (x : ObjOk P w H h a o) : ∃ ob, h.get? a = some ob := by
  cases o with
  | lst xs => obtain ⟨_, _, _, _, e⟩ := x; exact ⟨_, e⟩
  | tup xs => obtain ⟨_, _, _, o, e, _⟩ := x; exact ⟨_, e⟩
  | dK kvs => obtain ⟨_, _, _, _, o, _, _, e, _⟩ := x; exact ⟨_, e⟩
  | dT kvs => obtain ⟨_, _, _, _, o, _, _, e, _⟩ := x; exact ⟨_, e⟩
  | set S n => obtain ⟨o, _, _, _, e, _⟩ := x; exact ⟨_, e⟩
  | ins C dx fs => obtain ⟨_, _, _, e, _⟩ := x; exact ⟨_, e⟩
  | own y => exact x
  | xd fs => obtain ⟨_, ⟨o, _, _, e, _⟩, _⟩ := x; exact ⟨_, e⟩
  | rng lo hi => obtain ⟨_, _, _, e⟩ := x; exact ⟨_, e⟩
  | frz ob u => exact ⟨_, x.1⟩
  | tbl ps => exact ⟨_, x⟩
  | met f y => exact ⟨_, x⟩
  | ext φ => exact x.2.1
/-- a new object, where the place is known to be free -/
theorem inv_laid {X : Cx} {pins : List (Addr × Obj)} {σ : L2.St} {H : Hp} {s : Shared} {h' : Heap} {a : Addr} {o : HO} {t' : Nat} (I : Inv X pins σ H s) (k : ∀ b u, s.heap.get? b = some u → h'.get? b = some u) (hn : s.heap.get? a = none)
    (new : ObjOk X.prog X.w (upd H a o) h' a o) : H a = none ∧ Inv X pins σ (upd H a o) { s with heap := h', toks := t' } := by
  have fr : H a = none := by
    cases q : H a with
    | none => rfl
    | some u =>
      obtain ⟨ob, e⟩ := obj_there (I.hok a u q)
      rw [hn] at e
      cases e
  have ne : ∀ b u, s.heap.get? b = some u → b ≠ a := fun b u e z => by
    rw [z, hn] at e
    cases e
  refine ⟨fr, I.un ⟨fun b u q _ _ _ => k b u q, fun b u q _ _ _ => ⟨u.slots, k b u q⟩, fun b u q n _ => by rw [upd_ne (ne b u q)]; exact n, fun b u q _ => ⟨u, k b u q⟩,
    fun b xs q => by rw [upd_ne (ne_of_none q fr)]; exact q, fun b u xs q => by rw [upd_ne (ne_of_none q fr)]; exact q, fun b ps q => ⟨#[], by rw [upd_ne (ne_of_none q fr), q]; simp⟩⟩ fun b u e => ?_⟩
  by_cases hb : b = a
  · subst hb
    rw [upd_same] at e
    cases e
    exact new
  · rw [upd_ne hb] at e
    exact (I.hok b u e).stay (fun c v _ q => k c v q) (fun c q => by rw [upd_ne (ne_of_none q fr)]; exact q) fun c xs q => by rw [upd_ne (ne_of_none q fr)]; exact q
def eD (e : Ent) : PyData := .tuple [.int e.1.1, .int e.1.2]
theorem eachIs_refs : ∀ {out : List Value} {es : List Ent}, PySem.W.EachIs (fun v e => v = Value.ref e.2.1) out es → Vals (es.map fun e => V.ref e.2.1) out
  | _, _, .nil => .nil
  | _, _, .cons h t => .cons h (eachIs_refs t)
theorem refs_each : ∀ {out : List Value} {es : List Ent}, Vals (es.map fun e => V.ref e.2.1) out → PySem.W.EachIs (fun v e => v = Value.ref e.2.1) out es
  | [], [], _ => .nil
  | _ :: _, _ :: _, .cons h t => .cons h (refs_each t)
theorem each_and {F G : Value → Ent → Prop} : ∀ {out : List Value} {es : List Ent}, PySem.W.EachIs F out es → (∀ v e, e ∈ es → F v e → G v e) → PySem.W.EachIs G out es
  | _, _, .nil, _ => .nil
  | _, _, .cons h t, f => .cons (f _ _ (List.mem_cons_self ..) h) (each_and t fun v e he => f v e (List.mem_cons_of_mem _ he))
/-- sorted(d): the keys' tuples in some order -/
def rDSorted (P : Program) (w : World) (K : PySem.W.Frag) : List V → Hp → VK → Prop := fun xs H Q => ∃ a es, xs = [.ref a] ∧ DtRd P w K H a es ∧ ∀ (es' : List Ent) (p : Addr), es'.Perm es → H p = none → Q (.ref p) (upd H p (.lst (es'.map fun e => .ref e.2.1)))
theorem call_dt_sorted {X : Cx} (hc : X.calm = true) (hu : X.A.units + 64 < cLine) : CallR X (.builtin "sorted") (rDSorted X.prog X.w X.K) := by
  intro pins s σ H xs us Q I r h
  obtain ⟨a, es, rfl, d, q⟩ := h
  cases r with
  | cons r1 r2 =>
    cases r2
    cases r1
    obtain ⟨z, hd, ds, ep, raw, hsz, hkey⟩ := keys_of I d
    refine call_function_entry kind_sorted plain_sorted entry_sorted (args_sorted1 _) ?_
    unfold Builtin.«sorted»
    refine wpAny_bind (m := checkCount "sorted" 1 1 _) (wpAny_pure ?_)
    refine wpAny_bind (PySem.W.kdu_collect (A := X.A.in1) (KdlSrc.rawDict hd) (I.ok.hd hc) raw (by rw [hsz]; exact z) fun h' tk acc hk hacc => ?_)
    have hl : acc.toList.length = (es.map fun e => e.2.1).length := by rw [Array.length_toList, hacc.1, hsz, List.length_map]
    have rv : Vals ((es.map fun e => e.2.1).map V.ref) acc.toList := vals_refs hl fun j b u h1 h2 => by
      rw [List.getElem?_map] at h1
      obtain ⟨e, he, rfl⟩ := Option.map_eq_some_iff.mp h1
      obtain ⟨hi, rfl⟩ := hacc.2 j u (by rw [← Array.getElem?_toList]; exact h2)
      exact hkey j e hi he
    rw [List.map_map] at rv
    rw [List.length_map] at hl
    refine wpAny_bind (wpAny_newList ?_ (by rw [hl]; exact z))
    have hp : (h'.push { cls := .type "list", data := .seq acc.toList.toArray }).get? h'.objs.size = some (seqObj "list" acc.toList.toArray 0) := Heap.get?_push_size _ rfl
    have kp : ∀ b o, s.heap.get? b = some o → (h'.push { cls := .type "list", data := .seq acc.toList.toArray }).get? b = some o := fun b o e => Heap.get?_push_of_some _ (hk b o e)
    have eR := refs_each (es := es) rv
    refine wpAny_bind (wpAny_holding (thn (PySem.W.list_sort_data (A := X.A.in1) (s := { s with heap := h'.push { cls := .type "list", data := .seq acc.toList.toArray }, toks := tk }) (enc := eD) (R := fun v e => v = Value.ref e.2.1)
      (Q := fun _ s' => ∃ (out : List Value) (es' : List Ent), es'.Perm es ∧ Vals (es'.map fun e => V.ref e.2.1) out ∧ s' = { s with heap := sortedHeap (h'.push { cls := .type "list", data := .seq acc.toList.toArray }) h'.objs.size acc.toList out.toArray, toks := tk }) hp eR ?_ ?_ ?_ ?_ ?_ ?_) ?_))
    · refine each_and eR fun v e he hv => ?_
      subst hv
      obtain ⟨its, r1, ⟨o, ho, hcl, n, hdt⟩, _⟩ := I.tuple (d.2 e he)
      cases r1 with
      | cons q1 r1 =>
        cases r1 with
        | cons q2 r1 =>
          cases r1
          obtain ⟨t1, rfl⟩ := q1
          obtain ⟨t2, rfl⟩ := q2
          exact ⟨[], Reads.tuple (kp _ _ ho) hcl hdt (ReadsAll.cons (Reads.int _ _) (ReadsAll.cons (Reads.int _ _) ReadsAll.nil)), by simp⟩
    · exact PySem.W.AllAlike.of fun b b' => by simp [eD, PySem.W.alike, PySem.W.alikeAll]
    · exact PySem.W.Sortable.tuples fun b => ⟨_, _, rfl⟩
    · exact z
    · intro b _
      have : (eD b).depth ≤ 2 := by simp [eD, PyData.depth, PyData.depthAll]
      show X.A.units + 1 + 1 + (eD b).depth < cLine
      omega
    · intro out ho eo
      exact ⟨out, _, List.mergeSort_perm _ _, eachIs_refs eo, rfl⟩
    · rintro _ s' ⟨out, es', hperm, rv', rfl⟩
      have hno : s.heap.get? h'.objs.size = none := by
        cases q : s.heap.get? h'.objs.size with
        | none => rfl
        | some u => exact absurd (Heap.lt_size (hk _ _ q)) (Nat.lt_irrefl _)
      obtain ⟨c, hat⟩ := sortedHeap_at (out := out.toArray) hp
      have kk : ∀ b o, s.heap.get? b = some o → (sortedHeap (h'.push { cls := .type "list", data := .seq acc.toList.toArray }) h'.objs.size acc.toList out.toArray).get? b = some o := fun b o e => by
        have e2 := kp b o e
        have lt : b < h'.objs.size := Heap.lt_size (hk b o e)
        rw [sortedHeap_old (Nat.ne_of_lt lt) (Heap.lt_size e2)]
        exact e2
      obtain ⟨fr, I2⟩ := inv_laid (t' := tk) (a := h'.objs.size) (o := .lst (es'.map fun e => .ref e.2.1)) I kk hno ⟨by rw [List.length_map, hperm.length_eq]; exact z, out, c, rv', hat⟩
      exact wpAny_pure ⟨_, rfl, .ref h'.objs.size, _, I2, rfl, q es' _ hperm fr⟩
end Ss
/-! dict([(k, v), ..]), the keys stamps. -/
namespace Ss
open PySem PySem.Spec PyProof.Rows L2 PySem.Calls
def putAll (es fs : List Ent) : List Ent := fs.foldl (fun acc e => putE acc e.1 e.2.1 e.2.2) es
theorem putAll_len : ∀ (fs es : List Ent), (putAll es fs).length ≤ es.length + fs.length
  | [], es => Nat.le_refl _
  | f :: fs, es => by
    have h1 := putAll_len fs (putE es f.1 f.2.1 f.2.2)
    have h2 := putE_len (es := es) (k := f.1) (b := f.2.1) (v := f.2.2)
    show (putAll (putE es f.1 f.2.1 f.2.2) fs).length ≤ _
    rw [List.length_cons]
    omega
theorem ER.all : ∀ {fs : List Ent} {ys : List (List Key × Addr × Value)} {es : List Ent} {xs : List (List Key × Addr × Value)}, Paired ER es xs → Paired ER fs ys → Paired ER (putAll es fs) (storedAllH xs ys)
  | _, _, _, _, r, .nil => r
  | _, _, _, _, r, .cons (a := f) (b := y) h t => by
    have q := ER.put r f.1 f.2.1 (v := f.2.2) (u := y.2.2) h.2.2
    rw [← h.1, ← h.2.1] at q
    show Paired ER (putAll (putE _ f.1 f.2.1 f.2.2) _) (storedAllH (storedH _ y.1 y.2.1 y.2.2) _)
    rw [← h.2.1]
    exact ER.all q t
/-- the list's items are the pairs of these entries -/
structure PairsAt (K : PySem.W.Frag) (H : Hp) (ts : List Addr) (fs : List Ent) : Prop where
  len : ts.length = fs.length
  pr : ∀ (j : Nat) (t : Addr) (f : Ent), ts[j]? = some t → fs[j]? = some f → SqT K H t [.ref f.2.1, f.2.2] ∧ SqT K H f.2.1 (sval f.1)
def rDDict (P : Program) (w : World) (K : PySem.W.Frag) : List V → Hp → VK → Prop := fun xs H Q => ∃ l ts fs, xs = [.ref l] ∧ SqL K H l (ts.map V.ref) ∧ PairsAt K H ts fs ∧ ∀ p, H p = none → Q (.ref p) (upd H p (DO P w p (putAll [] fs)))
theorem list_pick {α β : Type} {R : Nat → α → β → Prop} : ∀ (n : Nat) (l : List α), l.length = n → (∀ (j : Nat) (a : α), l[j]? = some a → ∃ b, R j a b) → ∃ m : List β, m.length = n ∧ ∀ (j : Nat) (a : α) (b : β), l[j]? = some a → m[j]? = some b → R j a b
  | 0, [], _, _ => ⟨[], rfl, fun j a b h _ => by simp at h⟩
  | n + 1, a :: l, hl, h => by
    obtain ⟨b, hb⟩ := h 0 a rfl
    obtain ⟨m, hm, hr⟩ := list_pick (R := fun j => R (j + 1)) n l (by simpa using hl) fun j c hc => h (j + 1) c (by simpa using hc)
    refine ⟨b :: m, by simp [hm], fun j c d h1 h2 => ?_⟩
    cases j with
    | zero =>
      simp at h1 h2
      subst h1 h2
      exact hb
    | succ j => exact hr j c d (by simpa using h1) (by simpa using h2)
theorem call_dt_dict {X : Cx} (hc : X.calm = true) (hu : X.A.units + 64 < cLine) : CallR X (.type "dict") (rDDict X.prog X.w X.K) := by
  intro pins s σ H xs us Q I r h
  obtain ⟨l, ts, fs, rfl, hl, hp, q⟩ := h
  cases r with
  | cons r1 r2 =>
    cases r2
    cases r1
    obtain ⟨its, rv, ⟨ol, nl, hol, hcl, hdl, hdat⟩, hz⟩ := I.list hl
    have big : sysModules < s.heap.objs.size := I.big
    have lts : its.length = ts.length := by rw [← rv.length, List.length_map]
    -- the model's entries
    obtain ⟨ys, hys, hR⟩ := list_pick (R := fun j (f : Ent) (y : List Key × Addr × Value) => ER f y ∧ ∃ t, ts[j]? = some t ∧ PairAt s.heap t (.ref y.2.1) y.2.2 ∧ (tupleKind (mixKind X.prog X.w)).is s.heap y.1 y.2.1) fs.length fs rfl fun j f hf => by
      obtain ⟨t, ht⟩ : ∃ t, ts[j]? = some t := ⟨_, List.getElem?_eq_getElem (by rw [hp.len]; exact (List.getElem?_eq_some_iff.mp hf).1)⟩
      obtain ⟨h1, h2⟩ := hp.pr j t f ht hf
      obtain ⟨its2, rv2, ⟨o, ho, hcc, n, hd⟩, _⟩ := I.tuple h1
      cases rv2 with
      | cons q1 rv2 =>
        cases rv2 with
        | cons q2 rv2 =>
          cases rv2
          cases q1
          rename_i u
          exact ⟨(skey f.1, f.2.1, u), ⟨rfl, rfl, q2⟩, t, ht, .inl ⟨o, ho, hcc, n, hd⟩, key_at I h2⟩
    have pER : Paired ER fs ys := by
      have gen : ∀ (fs : List Ent) (ys : List (List Key × Addr × Value)), ys.length = fs.length → (∀ (j : Nat) (f : Ent) (y : List Key × Addr × Value), fs[j]? = some f → ys[j]? = some y → ER f y) → Paired ER fs ys := by
        intro fs
        induction fs with
        | nil =>
          intro ys hl _
          cases ys with
          | nil => exact .nil
          | cons y r => cases hl
        | cons f fs ih =>
          intro ys hl h
          cases ys with
          | nil => cases hl
          | cons y ys => exact .cons (h 0 f y rfl rfl) (ih ys (by simpa using hl) fun j a b h1 h2 => h (j + 1) a b (by simpa using h1) (by simpa using h2))
      exact gen fs ys hys fun j f y h1 h2 => (hR j f y h1 h2).1
    have at_y : ∀ (j : Nat) (y : List Key × Addr × Value), ys[j]? = some y → ∃ f t, fs[j]? = some f ∧ ts[j]? = some t ∧ PairAt s.heap t (.ref y.2.1) y.2.2 ∧ (tupleKind (mixKind X.prog X.w)).is s.heap y.1 y.2.1 := fun j y hy => by
      obtain ⟨f, hf⟩ : ∃ f, fs[j]? = some f := ⟨_, List.getElem?_eq_getElem (by rw [← hys]; exact (List.getElem?_eq_some_iff.mp hy).1)⟩
      obtain ⟨_, t, a, b, c⟩ := hR j f y hf hy
      exact ⟨f, t, hf, a, b, c⟩
    have hu2 : (tupleKind (mixKind X.prog X.w)).room X.A.in1.in1 := show X.A.units + 1 + 1 < cLine by omega
    have hlen : (ys.map fun y => ((Value.ref y.2.1, y.2.2) : Value × Value)).length = fs.length := by rw [List.length_map, hys]
    have hz2 : fs.length ≤ sizeLine := by rw [← hp.len]; rw [List.length_map] at hz; exact hz
    refine call_dict_pairsH (knd := tupleKind (mixKind X.prog X.w)) (ps := ys) (PairArg.list l its.toArray (fun j => ts.getD j 0) (ys.map fun y => (.ref y.2.1, y.2.2))) (I.ok.hd hc) hu2 ⟨⟨ol, nl, hol, hcl, hdl, hdat⟩, ?_, fun j k v hj => ?_⟩ ⟨by rw [List.length_map], fun j key v hj => ?_⟩ ?_ (by rw [hlen]; exact hz2) fun h' tk dd hk => ?_
    · rw [hlen, List.size_toArray, lts, hp.len]
    · rw [List.getElem?_map] at hj
      obtain ⟨y, hy, e⟩ := Option.map_eq_some_iff.mp hj
      cases e
      obtain ⟨f, t, hf, ht, hpa, _⟩ := at_y j y hy
      have e2 : ts.getD j 0 = t := by rw [List.getD_eq_getElem?_getD, ht] <;> rfl
      dsimp only
      rw [e2]
      refine ⟨?_, hpa⟩
      obtain ⟨u, hu1, hu2⟩ := rv.get (i := j) (x := V.ref t) (by rw [List.getElem?_map, ht] <;> rfl)
      cases (show u = Value.ref t from hu2)
      simpa using hu1
    · replace hj : (ys.map fun y => ((Value.ref y.2.1, y.2.2) : Value × Value))[j]? = some (key, v) := hj
      rw [List.getElem?_map] at hj
      obtain ⟨y, hy, e⟩ := Option.map_eq_some_iff.mp hj
      cases e
      exact ⟨y.1, y.2.1, hy, rfl⟩
    · intro h' hk y hy
      obtain ⟨j, hj⟩ := List.getElem?_of_mem hy
      obtain ⟨f, t, _, _, _, his⟩ := at_y j y hj
      obtain ⟨o, items, n, ho, hc2, hd2, hi⟩ := his
      exact ⟨o, items, n, hk _ o (Nat.ne_of_lt (Heap.lt_size ho)) (by simp) ho, hc2, hd2, hi⟩
    · obtain ⟨o, ds, ep, h1, h2, h3, h4, _, h5⟩ := dd
      refine ⟨.ref s.heap.objs.size, _, I.laid (t' := tk) (o := DO X.prog X.w s.heap.objs.size (putAll [] fs)) (fun b o e => hk b o (by simp) e) (Nat.le_refl _) (do_obj ⟨?_, beq_eq_false_iff_ne.mpr (Ne.symm (Nat.ne_of_lt big)), _, ER.all .nil pER, o, ds, ep, h1, h2, h3, h4, h5⟩), rfl, q _ (I.hok.fresh (Nat.le_refl _))⟩
      have := putAll_len fs []
      rw [List.length_nil] at this
      omega
end Ss
/-! The rules that gen_body.py names: several of the layer's rules under one roof. -/
namespace Ss
open PySem PySem.Spec PyProof.Rows L2
/-- a def at f, with what its defaults fill up -/
structure KnD (P : Program) (w : World) (K : PySem.W.Frag) (mg : Str → Option Value) (base : Heap) (k : Nat) (f : Addr) (ps : List Str) (dvs : List V) (sp : Sp) : Prop where
  ex : ∃ fd ds, FnOk P w K mg base CX0 k f fd ps sp ∧ Vals dvs ds ∧ Binds K fd ps ds
  kp : PySem.W.keepIn K (.ref f) = true
theorem Kn.d {P : Program} {w : World} {K : PySem.W.Frag} {mg : Str → Option Value} {base : Heap} {k : Nat} {f : Addr} {ps : List Str} {sp : Sp} (G : Kn P w K mg base k f ps sp) : KnD P w K mg base k f ps [] sp := by
  obtain ⟨⟨fd, F, b⟩, kp⟩ := G
  exact ⟨⟨fd, [], F, .nil, b⟩, kp⟩
section
variable {X : Cx} {k : Nat} {f C : Addr} {ps : List Str} {sp : Sp} {dvs : List V} {x m : Str} {p pos apos p1 p2 p3 : Pos} {e o : Expr} {es : List Expr} {ta te : TE} {t : TA}
theorem pe_fn0 (G : Kn X.prog X.w X.K X.mg X.base k f ps sp) (hr : Room k X.A) (hm : X.mg x = some (.ref f)) (hg : Gl X x := by rfl) (hdb : (x == ("__debug__" : Str)) = false := by decide) : PE X (.Call (.Name x p) [] [] pos) (tCall sp [] E0 tNil) := by
  obtain ⟨⟨fd, F, b⟩, kp⟩ := G
  exact pe_call0 F hr hg hm kp b .nil pass0 hdb
theorem pe_fnD (G : KnD X.prog X.w X.K X.mg X.base k f ps dvs sp) (hr : Room k X.A) (hm : X.mg x = some (.ref f)) (ha : PA X (e :: es) t) (hg : Gl X x := by rfl)
    (hdb : (x == ("__debug__" : Str)) = false := by decide) (he : starEach (e :: es) X.env = (false, eval e X.env) :: starEach es X.env := by rfl) (hpl : (backTo pos (starEach es X.env)).any (·.1) = false := by rfl) :
    PE X (.Call (.Name x p) (e :: es) [] pos) (tCall sp dvs E0 t) := by
  obtain ⟨⟨fd, ds, F, v, b⟩, kp⟩ := G
  exact pe_call F hr hg hm kp b v pass0 ha hdb he hpl
theorem pe_mt {pl : Sem Bool} (ho : PE X o ta) (c : Cls X.K C) (hm : Meth X.K C m f) (G : Kn X.prog X.w X.K X.mg X.base k f ps sp) (hr : Room k X.A) (ha : PA X (e :: es) t)
    (hst : starEach (e :: es) X.env = (false, eval e X.env) :: starEach es X.env := by rfl) (hpl : (backTo pos (starEach es X.env)).any (·.1) = false := by rfl)
    (ht : eval (.Call (.Attribute o m apos) (e :: es) [] pos) X.env = (do
      let ov ← eval o X.env
      standAt apos.atName
      let (f, first) ← holding [ov] (getMethod ov m pl)
      callWith pos f first (backTo pos (starEach (e :: es) X.env)) (backToKw pos (keywordEach [] X.env))) := by rfl) :
    PE X (.Call (.Attribute o m apos) (e :: es) [] pos) (tMeth C m sp [] E0 ta t) := by
  obtain ⟨⟨fd, F, b⟩, kp⟩ := G
  exact pe_meth ho c hm F hr b .nil pass0 ha hst hpl ht
theorem pe_mt0 {pl : Sem Bool} (ho : PE X o ta) (c : Cls X.K C) (hm : Meth X.K C m f) (G : Kn X.prog X.w X.K X.mg X.base k f ps sp) (hr : Room k X.A)
    (ht : eval (.Call (.Attribute o m apos) [] [] pos) X.env = (do
      let ov ← eval o X.env
      standAt apos.atName
      let (f, first) ← holding [ov] (getMethod ov m pl)
      callWith pos f first (backTo pos (starEach [] X.env)) (backToKw pos (keywordEach [] X.env))) := by rfl) :
    PE X (.Call (.Attribute o m apos) [] [] pos) (tMeth C m sp [] E0 ta tNil) := by
  obtain ⟨⟨fd, F, b⟩, kp⟩ := G
  exact pe_meth0 ho c hm F hr b .nil pass0 ht
theorem pe_mk (M : Mk X.K C f) (G : KnD X.prog X.w X.K X.mg X.base k f ps dvs sp) (hr : Room (k + 1) X.A) (hm : X.mg x = some (.ref C)) (ha : PA X (e :: es) t) (hg : Gl X x := by rfl) (hdb : (x == ("__debug__" : Str)) = false := by decide)
    (he : starEach (e :: es) X.env = (false, eval e X.env) :: starEach es X.env := by rfl) (hpl : (backTo pos (starEach es X.env)).any (·.1) = false := by rfl) : PE X (.Call (.Name x p) (e :: es) [] pos) (tMake C sp dvs E0 t) := by
  obtain ⟨⟨fd, ds, F, v, b⟩, kp⟩ := G
  exact pe_make M F hr hg hm b v pass0 ha hdb he hpl
theorem pe_mk0 (M : Mk X.K C f) (G : KnD X.prog X.w X.K X.mg X.base k f ps dvs sp) (hr : Room (k + 1) X.A) (hm : X.mg x = some (.ref C)) (hg : Gl X x := by rfl) (hdb : (x == ("__debug__" : Str)) = false := by decide) : PE X (.Call (.Name x p) [] [] pos) (tMake C sp dvs E0 tNil) := by
  obtain ⟨⟨fd, ds, F, v, b⟩, kp⟩ := G
  exact pe_make0 M F hr hg hm b v pass0 hdb
theorem pe_globI {i : Int} (hg : Gl X x) (hm : ∃ t, X.mg x = some (.int i t)) (hd : (x == ("__debug__" : Str)) = false := by decide) : PE X (.Name x p) (tC (.int i)) := by
  obtain ⟨t, h⟩ := hm
  exact pe_glob hg h ⟨t, rfl⟩ hd
theorem pe_globS {z : Str} (hg : Gl X x) (hm : ∃ t, X.mg x = some (.str z t)) (hd : (x == ("__debug__" : Str)) = false := by decide) : PE X (.Name x p) (tC (.str z)) := by
  obtain ⟨t, h⟩ := hm
  exact pe_glob hg h ⟨t, rfl⟩ hd
theorem pe_globR {a : Addr} (hg : Gl X x) (hm : X.mg x = some (.ref a)) (hd : (x == ("__debug__" : Str)) = false := by decide) : PE X (.Name x p) (tC (.ref a)) := pe_glob hg hm rfl hd
theorem pe_rev {j : Nat} (he : PE X e te) : PE X (.Subscript e (.Slice none none (some (.UnaryOp .USub (.Constant (.int 1) j p1) p2)) p3) pos) (tRevL X.K te) := pe_revL he
end
/-! ### operators -/
abbrev rIxA (P : Program) (w : World) (K : PySem.W.Frag) : R2 := fun x y H Q => rIxL K x y H Q ∨ (rIxT K x y H Q ∨ rDGet P w K x y H Q)
abbrev rEqA (K : PySem.W.Frag) : R2 := fun x y H Q => rEq x y H Q ∨ rEqD K x y H Q
abbrev rNeA (K : PySem.W.Frag) : R2 := fun x y H Q => rNe x y H Q ∨ rNeD K x y H Q
def rInX (K : PySem.W.Frag) (neg : Bool) : R2 := fun x y H Q => ∃ d ds, Dp K H x d ∧ (Dp K H y (.list ds) ∨ Dp K H y (.tuple ds)) ∧ SeqAt.shaped d = true ∧ PyData.canLayAll0 ds = true ∧ Q (.bl (if neg then !ds.any fun z => PyData.eqv z d else ds.any fun z => PyData.eqv z d)) H
abbrev rInA (P : Program) (w : World) (K : PySem.W.Frag) (neg : Bool) : R2 := fun x y H Q => rIn K neg x y H Q ∨ (rInX K neg x y H Q ∨ rDIn P w K neg x y H Q)
abbrev rAddA (K : PySem.W.Frag) : R2 := fun x y H Q => rI0 (fun i j => V.int (i + j)) x y H Q ∨ (rCatA K x y H Q ∨ rCat x y H Q)
section
variable {X : Cx}
theorem room_in {A : Around} {d : PyData} {ds : List PyData} (h : SeqAt.shaped d = true) (hu : A.units + 65 < cLine) : A.units + 1 + min (PyData.depthAll ds) d.depth < cLine := by
  have h1 := SeqAt.depth_of_shaped h
  have h2 : min (PyData.depthAll ds) d.depth ≤ d.depth := Nat.min_le_right _ _
  omega
theorem op_inX (hu : X.A.units + 65 < cLine) : OpR X (compareOp .In) (rInX X.K false) := by
  intro pins s σ H x y v u Q I rx ry h
  obtain ⟨d, ds, hd, he, sd, se, q⟩ := h
  obtain ⟨as, r1⟩ := Dp.reads I d x v hd rx
  rcases he with he | he
  · obtain ⟨bs, r2⟩ := Dp.reads I (.list ds) y u he ry
    exact SeqAt.in_list_reads r2 r1 se (SeqAt.canLay_of_shaped sd) (room_in sd hu) ⟨.bl _, H, I, rfl, q⟩
  · obtain ⟨bs, r2⟩ := Dp.reads I (.tuple ds) y u he ry
    exact SeqAt.in_tuple_reads r2 r1 se (SeqAt.canLay_of_shaped sd) (room_in sd hu) ⟨.bl _, H, I, rfl, q⟩
theorem op_ninX (hu : X.A.units + 65 < cLine) : OpR X (compareOp .NotIn) (rInX X.K true) := by
  intro pins s σ H x y v u Q I rx ry h
  obtain ⟨d, ds, hd, he, sd, se, q⟩ := h
  obtain ⟨as, r1⟩ := Dp.reads I d x v hd rx
  rcases he with he | he
  · obtain ⟨bs, r2⟩ := Dp.reads I (.list ds) y u he ry
    exact SeqAt.notIn_list_reads r2 r1 se (SeqAt.canLay_of_shaped sd) (room_in sd hu) ⟨.bl _, H, I, rfl, q⟩
  · obtain ⟨bs, r2⟩ := Dp.reads I (.tuple ds) y u he ry
    exact SeqAt.notIn_tuple_reads r2 r1 se (SeqAt.canLay_of_shaped sd) (room_in sd hu) ⟨.bl _, H, I, rfl, q⟩
theorem ix_any (hu : X.A.units + 65 < cLine) : IxR X (rIxA X.prog X.w X.K) := ix_list.or (ix_tup.or (ix_dt (Nat.lt_of_le_of_lt (by omega) hu)))
theorem op_eqA (hu : X.A.units + 65 < cLine) : OpR X (compareOp .Eq) (rEqA X.K) := op_eq.or (op_eqD (by omega))
theorem op_neA (hu : X.A.units + 65 < cLine) : OpR X (compareOp .NotEq) (rNeA X.K) := op_ne.or (op_neD (by omega))
theorem op_inA (hu : X.A.units + 65 < cLine) : OpR X (compareOp .In) (rInA X.prog X.w X.K false) := op_in_seq.or ((op_inX hu).or (op_dt_in (by omega)))
theorem op_ninA (hu : X.A.units + 65 < cLine) : OpR X (compareOp .NotIn) (rInA X.prog X.w X.K true) := op_notIn_seq.or ((op_ninX hu).or (op_dt_notin (by omega)))
theorem op_addA : OpR X (binaryOp .Add) (rAddA X.K) := op_add.or (op_catA.or op_cat)
abbrev rSlX (K : PySem.W.Frag) : V → Option Int → Option Int → Hp → VK → Prop := fun x lo hi H Q => rSlL K x lo hi H Q ∨ rSlA K x lo hi H Q
theorem sl_any : SlR X (rSlX X.K) := sl_list.or sl_tupA
/-- o[i] = v: a list, or a dict of stamps -/
abbrev sAny (P : Program) (w : World) (K : PySem.W.Frag) : TSet := fun o i v H N => rSetL o i v H N ∨ sDt P w K o i v H N
theorem set_any (hu : X.A.units + 65 < cLine) : PSet X (sAny X.prog X.w X.K) := by
  intro pins s σ H o i v ov iv u N I ro ri rv h
  rcases h with h | h
  · exact set_list pins s σ H o i v ov iv u N I ro ri rv h
  · exact set_dt (Nat.lt_of_le_of_lt (by omega) hu) pins s σ H o i v ov iv u N I ro ri rv h
theorem op_inS : OpR X (compareOp .In) (fun x y H Q => ∃ (c : Nat) (z : Str), x = .str ⟨#[c]⟩ ∧ y = .str z ∧ Q (.bl (decide (c ∈ z.cps.toList))) H) := op_in_sign
theorem hu65 {k : Nat} {A : Around} (hr : Room k A) : A.units + 65 < cLine := by
  have := hr.un
  omega
/-! ### built-ins by their names -/
def rLen1 (K : PySem.W.Frag) : List V → Hp → VK → Prop := fun xs H Q => ∃ x n, xs = [x] ∧ LenV K x H n ∧ Q (.int n) H
abbrev rLenA (P : Program) (w : World) (K : PySem.W.Frag) : List V → Hp → VK → Prop := fun xs H Q => rLen1 K xs H Q ∨ rDLen P w K xs H Q
abbrev rIsiA (K : PySem.W.Frag) : List V → Hp → VK → Prop := fun xs H Q => rIsi K xs H Q ∨ rIsiT K xs H Q
def rList1 (K : PySem.W.Frag) : List V → Hp → VK → Prop := fun xs H Q => ∃ p ys, xs = [.ref p] ∧ (SqL K H p ys ∨ SqT K H p ys) ∧ ∀ l, H l = none → Q (.ref l) (upd H l (.lst ys))
abbrev rListA (P : Program) (w : World) (K : PySem.W.Frag) : List V → Hp → VK → Prop := fun xs H Q => rList1 K xs H Q ∨ rDList P w K xs H Q
def rTup1 (K : PySem.W.Frag) : List V → Hp → VK → Prop := fun xs H Q => ∃ p ys, xs = [.ref p] ∧ SqL K H p ys ∧ ∀ l, H l = none → Q (.ref l) (upd H l (.tup ys))
def rTup2 (K : PySem.W.Frag) : List V → Hp → VK → Prop := fun xs H Q => ∃ p ys, xs = [.ref p] ∧ SqT K H p ys ∧ Q (.ref p) H
abbrev rTupA (K : PySem.W.Frag) : List V → Hp → VK → Prop := fun xs H Q => rTup1 K xs H Q ∨ rTup2 K xs H Q
theorem call_tupA {X : Cx} : CallR X (.type "tuple") (rTupA X.K) := by
  intro pins s σ H xs us Q I r h
  refine call_tuple_of pins s σ H xs us Q I r ?_
  rcases h with ⟨p, ys, e, h, q⟩ | ⟨p, ys, e, h, q⟩
  · exact ⟨p, ys, e, .inl ⟨h, q⟩⟩
  · exact ⟨p, ys, e, .inr ⟨h, q⟩⟩
def rInt1 : List V → Hp → VK → Prop := fun xs H Q => ∃ i, xs = [.int i] ∧ Q (.int i) H
def rInt2 : List V → Hp → VK → Prop := fun xs H Q => ∃ k, xs = [.bl k] ∧ Q (.int (if k then 1 else 0)) H
abbrev rIntA : List V → Hp → VK → Prop := fun xs H Q => rInt1 xs H Q ∨ rInt2 xs H Q
def rMaxT : List V → Hp → VK → Prop := fun xs H Q => ∃ i j, xs = [.int i, .int j] ∧ Q (.int (if j > i then j else i)) H
abbrev rMaxA (K : PySem.W.Frag) : List V → Hp → VK → Prop := fun xs H Q => rMaxT xs H Q ∨ rMax K xs H Q
def rMinT : List V → Hp → VK → Prop := fun xs H Q => ∃ i j, xs = [.int i, .int j] ∧ Q (.int (if j < i then j else i)) H
abbrev rMinA : List V → Hp → VK → Prop := fun xs H Q => rMinT xs H Q ∨ False
theorem callr_orF {X : Cx} {f : Value} {R : List V → Hp → VK → Prop} (h : CallR X f R) : CallR X f (fun xs H Q => R xs H Q ∨ False) := by
  intro pins s σ H xs us Q I r q
  rcases q with q | q
  · exact h pins s σ H xs us Q I r q
  · exact q.elim
theorem cb_isinstance (hu : X.A.units + 65 < cLine) : CallR X (.builtin "isinstance") (rIsiA X.K) := call_isi.or call_isiT
theorem cb_len (hu : X.A.units + 65 < cLine) : CallR X (.builtin "len") (rLenA X.prog X.w X.K) := call_len.or call_dt_len
theorem cb_max (hu : X.A.units + 65 < cLine) (hc : X.calm = true := by rfl) : CallR X (.builtin "max") (rMaxA X.K) := (call_max2 hc).or (cr_max hc)
theorem cb_min (hu : X.A.units + 65 < cLine) (hc : X.calm = true := by rfl) : CallR X (.builtin "min") rMinA := callr_orF (call_min2 hc)
theorem cb_sum (hu : X.A.units + 65 < cLine) (hc : X.calm = true := by rfl) : CallR X (.builtin "sum") (rSum X.K) := cr_sum hc
theorem cb_all (hu : X.A.units + 65 < cLine) (hc : X.calm = true := by rfl) : CallR X (.builtin "all") (rAll X.K) := cr_all hc
theorem cb_any (hu : X.A.units + 65 < cLine) (hc : X.calm = true := by rfl) : CallR X (.builtin "any") (rAny X.K) := cr_any hc
theorem cb_sorted (hu : X.A.units + 65 < cLine) (hc : X.calm = true := by rfl) : CallR X (.builtin "sorted") (rDSorted X.prog X.w X.K) := call_dt_sorted hc (by omega)
theorem cb_int (hu : X.A.units + 65 < cLine) : CallR X (.type "int") rIntA := call_int1
theorem cb_list (hu : X.A.units + 65 < cLine) (hc : X.calm = true := by rfl) : CallR X (.type "list") (rListA X.prog X.w X.K) := call_list_of.or (call_dt_list hc)
theorem cb_tuple (hu : X.A.units + 65 < cLine) : CallR X (.type "tuple") (rTupA X.K) := call_tupA
theorem cb_dict (hu : X.A.units + 65 < cLine) (hc : X.calm = true := by rfl) : CallR X (.type "dict") (rDDict X.prog X.w X.K) := call_dt_dict hc (by omega)
end
theorem swD_true {kx vx : Expr} {gs : List Comprehension} {scope : Scope} {pos py : Pos} {y : Str} {l : Nat} {env : Env} (hk : env.scope.kind = .function) (hy : env.scope.names.lookup y = some .local) (hl : (py.line == pos.line) = true)
    (ha : (scope.names.any fun (n, k) => n == y && (k == .local || k == .cell)) = false) : swapsWith (.DictComp kx vx gs scope pos) (some (.Name y py)) l env = pure true := by
  have hb : env.blockKind = .function := by
    unfold Env.blockKind
    rw [hk]
    rfl
  have ky : env.kindOf y = some .local := hy
  unfold swapsWith
  simp only [hb, ky, ha, Expr.pos, hl]
  rfl
end Ss
/-! What the top has written: printed by gen_tx.py. -/
namespace Ss
open PySem PySem.Spec PyProof.Rows L2
/-- a def with defaults dvs -/
def DfD (K : PySem.W.Frag) (e0 : Addr) (x qual : Str) (st : Stmt) (f : Addr) (dvs : List V) : Prop := ∃ fd, FunD K x qual (defArgs st) (defBody st) (defScope st) dvs [] f fd
/-- what isinstance asks of an own class -/
structure IsiC (K : PySem.W.Frag) (C : Addr) : Prop where
  ha : PySem.W.findIn K (.ref C) "__class__" = some (some (.builtin "object.__class__"))
  hn : PySem.W.specialIn K (.builtin "object.__class__") "__get__" = some (some (.builtin "getset_descriptor.__get__"))
  ht : PySem.W.takesIn K (.builtin "object.__class__") = some true
  hm : PySem.W.mroIn K C (.type "object") = some true
structure Tx (w : World) (K : PySem.W.Frag) (mg : Str → Option Value) (e0 : Addr) : Prop where
  empty : ∀ H : Hp, SqT K H e0 []
  g_ALL_HANDS : mg "ALL_HANDS" = some (.ref (He.ga K "ALL_HANDS"))
  tu_ALL_HANDS : ∀ H : Hp, SqT K H (He.ga K "ALL_HANDS") [.int 0, .int 1, .int 2, .int 3]
  g_Book : mg "Book" = some (.ref (He.ga K "Book"))
  g_CONTENT_KINDS : mg "CONTENT_KINDS" = some (.ref (He.ga K "CONTENT_KINDS"))
  kd_CONTENT_KINDS : ∀ (z v : Str), (z, v) ∈ ([("wish", "let"), ("point", "use"), ("set", "number")] : List (Str × Str)) → KDct K w (He.ga K "CONTENT_KINDS") z (.str v)
  s_DONE : ∃ t, mg "DONE" = some (.str "done" t)
  s_GONE : ∃ t, mg "GONE" = some (.str "gone" t)
  g_HOLDERS : mg "HOLDERS" = some (.ref (He.ga K "HOLDERS"))
  tu_HOLDERS : ∀ H : Hp, SqT K H (He.ga K "HOLDERS") [.str "block", .str "let", .str "sum", .str "product"]
  g_Hanging : mg "Hanging" = some (.ref (He.ga K "Hanging"))
  g_MARK_WORDS : mg "MARK_WORDS" = some (.ref (He.ga K "MARK_WORDS"))
  tu_MARK_WORDS : ∀ H : Hp, SqT K H (He.ga K "MARK_WORDS") [.str "undo", .str "redo"]
  i_MOST_DEEDS : ∃ t, mg "MOST_DEEDS" = some (.int 60 t)
  i_MOST_HAND : ∃ t, mg "MOST_HAND" = some (.int 3 t)
  i_MOST_KEY : ∃ t, mg "MOST_KEY" = some (.int 999 t)
  i_MOST_TIME : ∃ t, mg "MOST_TIME" = some (.int 999 t)
  i_MOST_VALUE : ∃ t, mg "MOST_VALUE" = some (.int 99 t)
  s_NAME_LETTERS : ∃ t, mg "NAME_LETTERS" = some (.str "abcdefghijklmnopqrstuvwxyz" t)
  i_PRIME : ∃ t, mg "PRIME" = some (.int 9973 t)
  g_Playing : mg "Playing" = some (.ref (He.ga K "Playing"))
  s_RING : ∃ t, mg "RING" = some (.str "ring" t)
  g_ROOT : mg "ROOT" = some (.ref (He.ga K "ROOT"))
  tu_ROOT : ∀ H : Hp, SqT K H (He.ga K "ROOT") [.int 0, .int 0]
  g_State : mg "State" = some (.ref (He.ga K "State"))
  g_TreeView : mg "TreeView" = some (.ref (He.ga K "TreeView"))
  g__law_body : mg "_law_body" = some (.ref (He.ga K "_law_body"))
  g__law_case : mg "_law_case" = some (.ref (He.ga K "_law_case"))
  g__law_content : mg "_law_content" = some (.ref (He.ga K "_law_content"))
  g__law_do : mg "_law_do" = some (.ref (He.ga K "_law_do"))
  g__law_drawn : mg "_law_drawn" = some (.ref (He.ga K "_law_drawn"))
  g__law_holders : mg "_law_holders" = some (.ref (He.ga K "_law_holders"))
  g__law_is_in : mg "_law_is_in" = some (.ref (He.ga K "_law_is_in"))
  g__law_learn : mg "_law_learn" = some (.ref (He.ga K "_law_learn"))
  g__law_made_body : mg "_law_made_body" = some (.ref (He.ga K "_law_made_body"))
  g__law_one : mg "_law_one" = some (.ref (He.ga K "_law_one"))
  g__law_parts : mg "_law_parts" = some (.ref (He.ga K "_law_parts"))
  g__law_pool : mg "_law_pool" = some (.ref (He.ga K "_law_pool"))
  g__law_program : mg "_law_program" = some (.ref (He.ga K "_law_program"))
  g__law_right : mg "_law_right" = some (.ref (He.ga K "_law_right"))
  g__law_rounds : mg "_law_rounds" = some (.ref (He.ga K "_law_rounds"))
  g__law_row : mg "_law_row" = some (.ref (He.ga K "_law_row"))
  g__law_seen_deeds : mg "_law_seen_deeds" = some (.ref (He.ga K "_law_seen_deeds"))
  g__law_spoilt : mg "_law_spoilt" = some (.ref (He.ga K "_law_spoilt"))
  g__law_step : mg "_law_step" = some (.ref (He.ga K "_law_step"))
  g__law_table : mg "_law_table" = some (.ref (He.ga K "_law_table"))
  g__law_take : mg "_law_take" = some (.ref (He.ga K "_law_take"))
  g__law_world : mg "_law_world" = some (.ref (He.ga K "_law_world"))
  g__law_worth : mg "_law_worth" = some (.ref (He.ga K "_law_worth"))
  g__law_worths : mg "_law_worths" = some (.ref (He.ga K "_law_worths"))
  g_accepts_none : mg "accepts_none" = some (.ref (He.ga K "accepts_none"))
  g_ahead_of : mg "ahead_of" = some (.ref (He.ga K "ahead_of"))
  g_alive_by : mg "alive_by" = some (.ref (He.ga K "alive_by"))
  g_alive_without : mg "alive_without" = some (.ref (He.ga K "alive_without"))
  b_all : mg "all" = none
  b_any : mg "any" = none
  g_are_named_there : mg "are_named_there" = some (.ref (He.ga K "are_named_there"))
  b_bool : mg "bool" = none
  g_chain_from : mg "chain_from" = some (.ref (He.ga K "chain_from"))
  g_check_book : mg "check_book" = some (.ref (He.ga K "check_book"))
  g_check_scope_kind : mg "check_scope_kind" = some (.ref (He.ga K "check_scope_kind"))
  g_check_scope_thing : mg "check_scope_thing" = some (.ref (He.ga K "check_scope_thing"))
  g_check_stamps : mg "check_stamps" = some (.ref (He.ga K "check_stamps"))
  g_check_state : mg "check_state" = some (.ref (He.ga K "check_state"))
  g_checked_book : mg "checked_book" = some (.ref (He.ga K "checked_book"))
  b_dict : mg "dict" = none
  g_does_hold : mg "does_hold" = some (.ref (He.ga K "does_hold"))
  g_ends_below : mg "ends_below" = some (.ref (He.ga K "ends_below"))
  g_ends_of : mg "ends_of" = some (.ref (He.ga K "ends_of"))
  b_enumerate : mg "enumerate" = none
  g_has_mark_word : mg "has_mark_word" = some (.ref (He.ga K "has_mark_word"))
  g_in_stamp_order : mg "in_stamp_order" = some (.ref (He.ga K "in_stamp_order"))
  b_int : mg "int" = none
  g_is_binder : mg "is_binder" = some (.ref (He.ga K "is_binder"))
  g_is_body : mg "is_body" = some (.ref (He.ga K "is_body"))
  g_is_closed : mg "is_closed" = some (.ref (He.ga K "is_closed"))
  g_is_content : mg "is_content" = some (.ref (He.ga K "is_content"))
  g_is_content_body : mg "is_content_body" = some (.ref (He.ga K "is_content_body"))
  g_is_deed : mg "is_deed" = some (.ref (He.ga K "is_deed"))
  g_is_let_within : mg "is_let_within" = some (.ref (He.ga K "is_let_within"))
  g_is_line : mg "is_line" = some (.ref (He.ga K "is_line"))
  g_is_make : mg "is_make" = some (.ref (He.ga K "is_make"))
  g_is_name : mg "is_name" = some (.ref (He.ga K "is_name"))
  g_is_named_seen : mg "is_named_seen" = some (.ref (He.ga K "is_named_seen"))
  g_is_none_row : mg "is_none_row" = some (.ref (He.ga K "is_none_row"))
  g_is_number : mg "is_number" = some (.ref (He.ga K "is_number"))
  g_is_place_name : mg "is_place_name" = some (.ref (He.ga K "is_place_name"))
  g_is_placing_body : mg "is_placing_body" = some (.ref (He.ga K "is_placing_body"))
  g_is_seen : mg "is_seen" = some (.ref (He.ga K "is_seen"))
  g_is_stamp : mg "is_stamp" = some (.ref (He.ga K "is_stamp"))
  g_is_tuple_of : mg "is_tuple_of" = some (.ref (He.ga K "is_tuple_of"))
  g_is_up : mg "is_up" = some (.ref (He.ga K "is_up"))
  g_is_whole : mg "is_whole" = some (.ref (He.ga K "is_whole"))
  g_is_word : mg "is_word" = some (.ref (He.ga K "is_word"))
  b_isinstance : mg "isinstance" = none
  g_joined_value : mg "joined_value" = some (.ref (He.ga K "joined_value"))
  g_last_let : mg "last_let" = some (.ref (He.ga K "last_let"))
  b_len : mg "len" = none
  b_list : mg "list" = none
  g_mark_rows : mg "mark_rows" = some (.ref (He.ga K "mark_rows"))
  b_max : mg "max" = none
  b_min : mg "min" = none
  g_named_deed : mg "named_deed" = some (.ref (He.ga K "named_deed"))
  g_names_in : mg "names_in" = some (.ref (He.ga K "names_in"))
  g_nearest_at : mg "nearest_at" = some (.ref (He.ga K "nearest_at"))
  g_nearest_within : mg "nearest_within" = some (.ref (He.ga K "nearest_within"))
  g_none_paper : mg "none_paper" = some (.ref (He.ga K "none_paper"))
  g_parts_in : mg "parts_in" = some (.ref (He.ga K "parts_in"))
  g_play_through : mg "play_through" = some (.ref (He.ga K "play_through"))
  b_range : mg "range" = none
  b_sorted : mg "sorted" = none
  b_str : mg "str" = none
  b_sum : mg "sum" = none
  g_told_use : mg "told_use" = some (.ref (He.ga K "told_use"))
  g_told_within : mg "told_within" = some (.ref (He.ga K "told_within"))
  b_tuple : mg "tuple" = none
  g_visible_within : mg "visible_within" = some (.ref (He.ga K "visible_within"))
  b_zip : mg "zip" = none
  cls_Book : Cls K (He.ga K "Book")
  na_Book_by_stamp : NoAttr K (He.ga K "Book") "by_stamp"
  mk_Book : Mk K (He.ga K "Book") (He.ma K (He.ga K "Book") "__init__")
  is_Book : IsiC K (He.ga K "Book")
  cls_Hanging : Cls K (He.ga K "Hanging")
  na_Hanging_state : NoAttr K (He.ga K "Hanging") "state"
  na_Hanging_order : NoAttr K (He.ga K "Hanging") "order"
  na_Hanging_parts : NoAttr K (He.ga K "Hanging") "parts"
  mk_Hanging : Mk K (He.ga K "Hanging") (He.ma K (He.ga K "Hanging") "__init__")
  cls_Playing : Cls K (He.ga K "Playing")
  na_Playing_own_kinds : NoAttr K (He.ga K "Playing") "own_kinds"
  na_Playing_own_contents : NoAttr K (He.ga K "Playing") "own_contents"
  na_Playing_own_places : NoAttr K (He.ga K "Playing") "own_places"
  na_Playing_own_rows : NoAttr K (He.ga K "Playing") "own_rows"
  mk_Playing : Mk K (He.ga K "Playing") (He.ma K (He.ga K "Playing") "__init__")
  cls_State : Cls K (He.ga K "State")
  na_State_own_kinds : NoAttr K (He.ga K "State") "own_kinds"
  na_State_own_contents : NoAttr K (He.ga K "State") "own_contents"
  na_State_own_places : NoAttr K (He.ga K "State") "own_places"
  na_State_own_unders : NoAttr K (He.ga K "State") "own_unders"
  na_State_own_line : NoAttr K (He.ga K "State") "own_line"
  na_State_own_in : NoAttr K (He.ga K "State") "own_in"
  mk_State : Mk K (He.ga K "State") (He.ma K (He.ga K "State") "__init__")
  is_State : IsiC K (He.ga K "State")
  cls_TreeView : Cls K (He.ga K "TreeView")
  na_TreeView_own_state : NoAttr K (He.ga K "TreeView") "own_state"
  na_TreeView_own_line : NoAttr K (He.ga K "TreeView") "own_line"
  na_TreeView_own_kids : NoAttr K (He.ga K "TreeView") "own_kids"
  na_TreeView_own_spots : NoAttr K (He.ga K "TreeView") "own_spots"
  mk_TreeView : Mk K (He.ga K "TreeView") (He.ma K (He.ga K "TreeView") "__init__")
  d_is_whole : Df K "is_whole" "is_whole" s_is_whole (He.ga K "is_whole")
  d_is_number : Df K "is_number" "is_number" s_is_number (He.ga K "is_number")
  d_is_line : Df K "is_line" "is_line" s_is_line (He.ga K "is_line")
  d_is_tuple_of : Df K "is_tuple_of" "is_tuple_of" s_is_tuple_of (He.ga K "is_tuple_of")
  d_in_stamp_order : Df K "in_stamp_order" "in_stamp_order" s_in_stamp_order (He.ga K "in_stamp_order")
  d_is_name : Df K "is_name" "is_name" s_is_name (He.ga K "is_name")
  d_is_stamp : Df K "is_stamp" "is_stamp" s_is_stamp (He.ga K "is_stamp")
  d_is_place_name : Df K "is_place_name" "is_place_name" s_is_place_name (He.ga K "is_place_name")
  d_is_binder : Df K "is_binder" "is_binder" s_is_binder (He.ga K "is_binder")
  d_does_hold : Df K "does_hold" "does_hold" s_does_hold (He.ga K "does_hold")
  d_is_content : Df K "is_content" "is_content" s_is_content (He.ga K "is_content")
  d_is_make : Df K "is_make" "is_make" s_is_make (He.ga K "is_make")
  d_is_placing_body : Df K "is_placing_body" "is_placing_body" s_is_placing_body (He.ga K "is_placing_body")
  d_is_content_body : Df K "is_content_body" "is_content_body" s_is_content_body (He.ga K "is_content_body")
  d_is_body : Df K "is_body" "is_body" s_is_body (He.ga K "is_body")
  d_is_seen : Df K "is_seen" "is_seen" s_is_seen (He.ga K "is_seen")
  d_is_deed : Df K "is_deed" "is_deed" s_is_deed (He.ga K "is_deed")
  d_names_in : Df K "names_in" "names_in" s_names_in (He.ga K "names_in")
  d_is_named_seen : Df K "is_named_seen" "is_named_seen" s_is_named_seen (He.ga K "is_named_seen")
  d_ahead_of : Df K "ahead_of" "ahead_of" s_ahead_of (He.ga K "ahead_of")
  d_is_closed : Df K "is_closed" "is_closed" s_is_closed (He.ga K "is_closed")
  d_are_named_there : Df K "are_named_there" "are_named_there" s_are_named_there (He.ga K "are_named_there")
  d_checked_book : Df K "checked_book" "checked_book" s_checked_book (He.ga K "checked_book")
  d_Book_init : DfD K e0 "__init__" "Book.__init__" s_Book_init (He.ma K (He.ga K "Book") "__init__") [.ref (He.dflAt ("Book", some "__init__") 0 K)]
  d_Book_getitem : Df K "__getitem__" "Book.__getitem__" s_Book_getitem (He.ma K (He.ga K "Book") "__getitem__")
  me_Book_getitem : Meth K (He.ga K "Book") "__getitem__" (He.ma K (He.ga K "Book") "__getitem__")
  d_Book_deeds : Df K "deeds" "Book.deeds" s_Book_deeds (He.ma K (He.ga K "Book") "deeds")
  me_Book_deeds : Meth K (He.ga K "Book") "deeds" (He.ma K (He.ga K "Book") "deeds")
  d_check_book : Df K "check_book" "check_book" s_check_book (He.ga K "check_book")
  d_check_stamps : Df K "check_stamps" "check_stamps" s_check_stamps (He.ga K "check_stamps")
  d_has_mark_word : Df K "has_mark_word" "has_mark_word" s_has_mark_word (He.ga K "has_mark_word")
  d_named_deed : Df K "named_deed" "named_deed" s_named_deed (He.ga K "named_deed")
  d_mark_rows : Df K "mark_rows" "mark_rows" s_mark_rows (He.ga K "mark_rows")
  d_is_up : Df K "is_up" "is_up" s_is_up (He.ga K "is_up")
  d_alive_by : Df K "alive_by" "alive_by" s_alive_by (He.ga K "alive_by")
  d_alive_without : Df K "alive_without" "alive_without" s_alive_without (He.ga K "alive_without")
  d_Playing_init : Df K "__init__" "Playing.__init__" s_Playing_init (He.ma K (He.ga K "Playing") "__init__")
  d_Playing_can_hold : Df K "can_hold" "Playing.can_hold" s_Playing_can_hold (He.ma K (He.ga K "Playing") "can_hold")
  me_Playing_can_hold : Meth K (He.ga K "Playing") "can_hold" (He.ma K (He.ga K "Playing") "can_hold")
  d_Playing_can_leave : Df K "can_leave" "Playing.can_leave" s_Playing_can_leave (He.ma K (He.ga K "Playing") "can_leave")
  me_Playing_can_leave : Meth K (He.ga K "Playing") "can_leave" (He.ma K (He.ga K "Playing") "can_leave")
  d_Playing_chain_up : Df K "chain_up" "Playing.chain_up" s_Playing_chain_up (He.ma K (He.ga K "Playing") "chain_up")
  me_Playing_chain_up : Meth K (He.ga K "Playing") "chain_up" (He.ma K (He.ga K "Playing") "chain_up")
  d_Playing_make_thing : Df K "make_thing" "Playing.make_thing" s_Playing_make_thing (He.ma K (He.ga K "Playing") "make_thing")
  me_Playing_make_thing : Meth K (He.ga K "Playing") "make_thing" (He.ma K (He.ga K "Playing") "make_thing")
  d_Playing_move_thing : Df K "move_thing" "Playing.move_thing" s_Playing_move_thing (He.ma K (He.ga K "Playing") "move_thing")
  me_Playing_move_thing : Meth K (He.ga K "Playing") "move_thing" (He.ma K (He.ga K "Playing") "move_thing")
  d_Playing_drop_thing : Df K "drop_thing" "Playing.drop_thing" s_Playing_drop_thing (He.ma K (He.ga K "Playing") "drop_thing")
  me_Playing_drop_thing : Meth K (He.ga K "Playing") "drop_thing" (He.ma K (He.ga K "Playing") "drop_thing")
  d_Playing_put_content : Df K "put_content" "Playing.put_content" s_Playing_put_content (He.ma K (He.ga K "Playing") "put_content")
  me_Playing_put_content : Meth K (He.ga K "Playing") "put_content" (He.ma K (He.ga K "Playing") "put_content")
  d_Playing_do_deed : Df K "do_deed" "Playing.do_deed" s_Playing_do_deed (He.ma K (He.ga K "Playing") "do_deed")
  me_Playing_do_deed : Meth K (He.ga K "Playing") "do_deed" (He.ma K (He.ga K "Playing") "do_deed")
  d_play_through : DfD K e0 "play_through" "play_through" s_play_through (He.ga K "play_through") [.ref (He.dflAt ("play_through", none) 0 K)]
  d_State_init : DfD K e0 "__init__" "State.__init__" s_State_init (He.ma K (He.ga K "State") "__init__") [.ref e0]
  d_State_all_below : Df K "all_below" "State.all_below" s_State_all_below (He.ma K (He.ga K "State") "all_below")
  me_State_all_below : Meth K (He.ga K "State") "all_below" (He.ma K (He.ga K "State") "all_below")
  d_State_look_there : Df K "look_there" "State.look_there" s_State_look_there (He.ma K (He.ga K "State") "look_there")
  me_State_look_there : Meth K (He.ga K "State") "look_there" (He.ma K (He.ga K "State") "look_there")
  d_State_look_in : Df K "look_in" "State.look_in" s_State_look_in (He.ma K (He.ga K "State") "look_in")
  me_State_look_in : Meth K (He.ga K "State") "look_in" (He.ma K (He.ga K "State") "look_in")
  d_State_look_in_of : Df K "look_in_of" "State.look_in_of" s_State_look_in_of (He.ma K (He.ga K "State") "look_in_of")
  me_State_look_in_of : Meth K (He.ga K "State") "look_in_of" (He.ma K (He.ga K "State") "look_in_of")
  d_State_is_there : Df K "is_there" "State.is_there" s_State_is_there (He.ma K (He.ga K "State") "is_there")
  me_State_is_there : Meth K (He.ga K "State") "is_there" (He.ma K (He.ga K "State") "is_there")
  d_State_is_in : Df K "is_in" "State.is_in" s_State_is_in (He.ma K (He.ga K "State") "is_in")
  me_State_is_in : Meth K (He.ga K "State") "is_in" (He.ma K (He.ga K "State") "is_in")
  d_State_kind : Df K "kind" "State.kind" s_State_kind (He.ma K (He.ga K "State") "kind")
  me_State_kind : Meth K (He.ga K "State") "kind" (He.ma K (He.ga K "State") "kind")
  d_State_content : Df K "content" "State.content" s_State_content (He.ma K (He.ga K "State") "content")
  me_State_content : Meth K (He.ga K "State") "content" (He.ma K (He.ga K "State") "content")
  d_State_under : Df K "under" "State.under" s_State_under (He.ma K (He.ga K "State") "under")
  me_State_under : Meth K (He.ga K "State") "under" (He.ma K (He.ga K "State") "under")
  d_State_line : Df K "line" "State.line" s_State_line (He.ma K (He.ga K "State") "line")
  me_State_line : Meth K (He.ga K "State") "line" (He.ma K (He.ga K "State") "line")
  d_check_state : Df K "check_state" "check_state" s_check_state (He.ga K "check_state")
  d_ends_below : Df K "ends_below" "ends_below" s_ends_below (He.ga K "ends_below")
  d_ends_of : Df K "ends_of" "ends_of" s_ends_of (He.ga K "ends_of")
  d_TreeView_init : DfD K e0 "__init__" "TreeView.__init__" s_TreeView_init (He.ma K (He.ga K "TreeView") "__init__") [.non]
  d_TreeView_take_in : Df K "take_in" "TreeView.take_in" s_TreeView_take_in (He.ma K (He.ga K "TreeView") "take_in")
  me_TreeView_take_in : Meth K (He.ga K "TreeView") "take_in" (He.ma K (He.ga K "TreeView") "take_in")
  d_is_let_within : Df K "is_let_within" "is_let_within" s_is_let_within (He.ga K "is_let_within")
  d_last_let : Df K "last_let" "last_let" s_last_let (He.ga K "last_let")
  d_nearest_at : Df K "nearest_at" "nearest_at" s_nearest_at (He.ga K "nearest_at")
  d_nearest_within : Df K "nearest_within" "nearest_within" s_nearest_within (He.ga K "nearest_within")
  d_chain_from : Df K "chain_from" "chain_from" s_chain_from (He.ga K "chain_from")
  d_visible_within : Df K "visible_within" "visible_within" s_visible_within (He.ga K "visible_within")
  d_told_within : Df K "told_within" "told_within" s_told_within (He.ga K "told_within")
  d_check_scope_thing : Df K "check_scope_thing" "check_scope_thing" s_check_scope_thing (He.ga K "check_scope_thing")
  d_check_scope_kind : Df K "check_scope_kind" "check_scope_kind" s_check_scope_kind (He.ga K "check_scope_kind")
  d_told_use : Df K "told_use" "told_use" s_told_use (He.ga K "told_use")
  d_is_word : Df K "is_word" "is_word" s_is_word (He.ga K "is_word")
  d_parts_in : Df K "parts_in" "parts_in" s_parts_in (He.ga K "parts_in")
  d_joined_value : Df K "joined_value" "joined_value" s_joined_value (He.ga K "joined_value")
  d_Hanging_init : Df K "__init__" "Hanging.__init__" s_Hanging_init (He.ma K (He.ga K "Hanging") "__init__")
  d_Hanging_is_lost : Df K "is_lost" "Hanging.is_lost" s_Hanging_is_lost (He.ma K (He.ga K "Hanging") "is_lost")
  me_Hanging_is_lost : Meth K (He.ga K "Hanging") "is_lost" (He.ma K (He.ga K "Hanging") "is_lost")
  d_Hanging_reckoned : Df K "reckoned" "Hanging.reckoned" s_Hanging_reckoned (He.ma K (He.ga K "Hanging") "reckoned")
  me_Hanging_reckoned : Meth K (He.ga K "Hanging") "reckoned" (He.ma K (He.ga K "Hanging") "reckoned")
  d_none_paper : Df K "none_paper" "none_paper" s_none_paper (He.ga K "none_paper")
  d_is_none_row : Df K "is_none_row" "is_none_row" s_is_none_row (He.ga K "is_none_row")
  d_accepts_none : Df K "accepts_none" "accepts_none" s_accepts_none (He.ga K "accepts_none")
  d_l_pool : Df K "_law_pool" "_law_pool" s_l_pool (He.ga K "_law_pool")
  d_l_take : Df K "_law_take" "_law_take" s_l_take (He.ga K "_law_take")
  d_l_one : Df K "_law_one" "_law_one" s_l_one (He.ga K "_law_one")
  d_l_rounds : Df K "_law_rounds" "_law_rounds" s_l_rounds (He.ga K "_law_rounds")
  d_l_world : Df K "_law_world" "_law_world" s_l_world (He.ga K "_law_world")
  d_l_seen_deeds : Df K "_law_seen_deeds" "_law_seen_deeds" s_l_seen_deeds (He.ga K "_law_seen_deeds")
  d_l_learn : Df K "_law_learn" "_law_learn" s_l_learn (He.ga K "_law_learn")
  d_l_content : Df K "_law_content" "_law_content" s_l_content (He.ga K "_law_content")
  d_l_holders : Df K "_law_holders" "_law_holders" s_l_holders (He.ga K "_law_holders")
  d_l_made_body : Df K "_law_made_body" "_law_made_body" s_l_made_body (He.ga K "_law_made_body")
  d_l_body : Df K "_law_body" "_law_body" s_l_body (He.ga K "_law_body")
  d_l_do : Df K "_law_do" "_law_do" s_l_do (He.ga K "_law_do")
  d_l_step : Df K "_law_step" "_law_step" s_l_step (He.ga K "_law_step")
  d_l_drawn : Df K "_law_drawn" "_law_drawn" s_l_drawn (He.ga K "_law_drawn")
  d_l_program : Df K "_law_program" "_law_program" s_l_program (He.ga K "_law_program")
  d_l_case : Df K "_law_case" "_law_case" s_l_case (He.ga K "_law_case")
  d_l_parts : Df K "_law_parts" "_law_parts" s_l_parts (He.ga K "_law_parts")
  d_l_worth : Df K "_law_worth" "_law_worth" s_l_worth (He.ga K "_law_worth")
  d_l_table : Df K "_law_table" "_law_table" s_l_table (He.ga K "_law_table")
  d_l_worths : Df K "_law_worths" "_law_worths" s_l_worths (He.ga K "_law_worths")
  d_l_row : Df K "_law_row" "_law_row" s_l_row (He.ga K "_law_row")
  d_l_right : Df K "_law_right" "_law_right" s_l_right (He.ga K "_law_right")
  d_l_is_in : Df K "_law_is_in" "_law_is_in" s_l_is_in (He.ga K "_law_is_in")
  d_l_spoilt : Df K "_law_spoilt" "_law_spoilt" s_l_spoilt (He.ga K "_law_spoilt")
  d_law : Df K "law" "law" s_law (He.ga K "law")
end Ss
/-! Defs with defaults. -/
namespace Ss
open PySem PySem.Spec PyProof.Rows L2
variable {P : Program} {w : World} {K : PySem.W.Frag} {mg : Str → Option Value} {base : Heap} {e0 : Addr}
theorem DfD.kn {x qual : Str} {st : Stmt} {f : Addr} {dv : V} {N ps : List Str} {k : Nat} {sp : Sp} (D : DfD K e0 x qual st f [dv]) (S : FnScope N ps (defScope st)) (n j : Nat) (hj : j ≤ 1) (hn : n + (1 - j) = ps.length)
    (h : ∀ (T : Addr) (kV doc pm : Value) (an : Option Addr) (cdv ct : Value) (us its : List Value), us.length = n → its.length = 1 →
      ∃ k, bindArgs (PySem.W.fnOf x qual (defArgs st) (defBody st) (defScope st) (.ref T) kV doc pm an cdv ct) ⟨us, []⟩ = seqItems? (.ref T) >>= k ∧ k (some its.toArray) = pure (ps.zip (us ++ its.drop j)))
    (len : ∀ vs H Q E, sp vs H Q E → vs.length = ps.length)
    (hbody : ∀ (cdv : Value) (A : Around) (outer : List Env) (s : Shared) (H : Hp) (vs : List V) (Q : VK) (E : XK), Room k (A.deeper (envOfC qual (defScope st) s.heap.objs.size f cdv)) → sp vs H Q E →
      ∃ t, PSs (cxOf CX0 P w K mg base N qual (defScope st) f cdv A outer s H E).nox (defBody st) t ∧ t { nx := fun _ H' => Q .non H', rt := Q } (start N vs) H) :
    KnD P w K mg base (k + 1) f ps ([dv].drop j) sp := by
  obtain ⟨fd, F⟩ := D
  obtain ⟨ds, hv, hb⟩ := F.binds1 n j (by simp) hn h
  refine ⟨⟨fd, ds, F.ok S len fun cdv A outer s H vs Q E hr hsp => ?_, hv, hb⟩, F.kp⟩
  obtain ⟨t, h, q⟩ := hbody cdv A outer s H vs Q E hr hsp
  exact ⟨t, h.nox, q⟩
end Ss
/-! enumerate of an empty tuple. -/
namespace Ss
open PySem PySem.Spec PyProof.Rows L2
open Sem (wp)
open AutoSeq1 (wpAny_loadPart')
theorem meets_enumT (l : Addr) (items : Array Value) (n : Nat) (dct : Option Addr) (sl : Array (Option Value)) :
    Meets (Builtin.«enumerate.__new__» ⟨[.type "enumerate", .ref l], []⟩) (fun _ R s => s.heap.get? l = some { cls := .type "tuple", dict := dct, data := .seq items n, slots := sl } ∧
      R (.ok (.ret (.ref (s.heap.push { cls := .type "tuple_iterator", data := .fields #[.ref l, .int 0 0] }).objs.size)))
        { s with heap := (s.heap.push { cls := .type "tuple_iterator", data := .fields #[.ref l, .int 0 0] }).push { cls := .type "enumerate", data := .fields #[.none, .bool false, .ref s.heap.objs.size, rawInt 0, .none, .none] } }) :=
  .of_wp fun prog w A R s h => by
    obtain ⟨hp, g, d, tk, os⟩ := s
    obtain ⟨hl, h⟩ := h
    have hsub := sub_enumerate
    have hL : Heap.IsTuple (Shared.heap ⟨hp, g, d, tk, os⟩) l items := ⟨_, hl, rfl, n, rfl⟩
    wp_walk using wpAny_loadPart' hl
    refine wpAny_stack_any fun st => wpAny_pure ?_
    split
    · rename_i c _ _ _ _ _
      cases (c == Value.type "enumerate")
      · wp_walk using wpAny_loadPart' hl, wpAny_pyIter_tuple hL
        exact ⟨_, rfl, h⟩
      · wp_walk using wpAny_loadPart' hl, wpAny_pyIter_tuple hL
        exact ⟨_, rfl, h⟩
    · wp_walk using wpAny_loadPart' hl, wpAny_pyIter_tuple hL
      exact ⟨_, rfl, h⟩
section
variable {prog : Program} {w : World} {A : Around} {E : Value → Shared → Prop} {s : Shared}
theorem call_enumT {l : Addr} {items : Array Value} {Q : Value → Shared → Prop} (hL : s.heap.IsTuple l items)
    (h : ∀ h', IsEnum h' (s.heap.objs.size + 1) s.heap.objs.size 0 .none → h'.IsTupleIter s.heap.objs.size l 0 → h'.objs.size = s.heap.objs.size + 2 →
      (∀ b o, s.heap.get? b = some o → h'.get? b = some o) → Q (.ref (s.heap.objs.size + 1)) { s with heap := h' }) :
    wpAny (model prog w) A (call (.type "enumerate") [.ref l]) Q E s := by
  obtain ⟨⟨c, dct, dt, sl⟩, hl, hc, n, hd⟩ := hL
  replace hc : c = .type "tuple" := hc
  replace hd : dt = .seq items n := hd
  subst hc hd
  refine callType_new F.called_enumerate (by decide) (F.typeCall_enumerate_1 _) (F.newCall_enumerate_1 _) (fun obj => F.args_object_init_2 obj _) F.entry_enumerate_new
    (meets_enumT l items n dct sl) ⟨hl, ?_⟩
  have hz : (s.heap.push { cls := .type "tuple_iterator", data := .fields #[.ref l, .int 0 0] }).objs.size = s.heap.objs.size + 1 := Heap.size_push ..
  show _ ∧ _
  rw [hz]
  have he : IsEnum ((s.heap.push { cls := .type "tuple_iterator", data := .fields #[.ref l, .int 0 0] }).push
      { cls := .type "enumerate", data := .fields #[.none, .bool false, .ref s.heap.objs.size, rawInt 0, .none, .none] }) (s.heap.objs.size + 1) s.heap.objs.size 0 .none := by
    have := Heap.get?_push_size (s.heap.push { cls := .type "tuple_iterator", data := .fields #[.ref l, .int 0 0] })
      (o := { cls := .type "enumerate", data := .fields #[.none, .bool false, .ref s.heap.objs.size, rawInt 0, .none, .none] }) rfl
    rw [hz] at this
    exact this
  refine ⟨⟨_, he, rfl⟩, h _ he ⟨_, Heap.get?_push_of_some _ (Heap.get?_push_size _ rfl), rfl, rfl⟩ (by rw [Heap.size_push, hz]) fun b o x => Heap.get?_push_of_some _ (Heap.get?_push_of_some _ x)⟩
theorem enumT_end {e it l : Addr} {i : Nat} {items : Array Value} {old : Value} {Q : Option Value → Shared → Prop} (hh : A.handled = none)
    (he : IsEnum s.heap e it i old) (hit : s.heap.IsTupleIter it l i) (hl : s.heap.IsTuple l items) (hx : items[i]? = none)
    (hQ : ∀ h', Heap.ExtBut it s.heap h' → Q none { s with heap := h' }) : wpAny (model prog w) A (pyNext (.ref e)) Q E s := by
  have hT : s.TypeIs (.ref e) "enumerate" := ⟨_, he, rfl⟩
  unfold pyNext
  refine wpAny_bind (wpAny_attempt (wpAny_callSpecial?_slot (name := Str.ofString "__next__") hT F.slot_enumerate_next
    (wpAny_call_entry F.slot_enumerate_next hT F.entry_enumerate_next ?_ (F.args_enumerate_next_1 _))))
  show wpAny _ _ (field (.ref e) 2 >>= _) _ _ _
  refine wpAny_bind (wpAny_field he rfl (x := .ref it) rfl ?_)
  refine wpAny_bind (PySem.wpAny_nextOf_tuple_end hh hit hl hx fun h' x he' hx' => ?_)
  obtain ⟨o, ho, hc⟩ := hx'
  refine wpAny_bind (wpAny_isInstance (T := "StopIteration") (b := true) ⟨o, ho, hc⟩ isSubtype_stop ?_)
  exact wpAny_pure (hQ _ he')
end
/-- no turn -/
def It0 (K : PySem.W.Frag) (a : Addr) : It := ⟨fun _ _ => False, fun _ _ _ _ => False, fun i H => i = 0 ∧ SqT K H a []⟩
theorem turn_enum0 {P : Program} {w : World} {K : PySem.W.Frag} {elts : List Expr} {kk : Nat} {tpos : Pos} (a e it : Addr) :
    Turn P w K (.Tuple elts kk tpos) (It0 K a) [e, it] e (fun i h => (∃ old, IsEnum h e it ((i : Nat) : Int) old) ∧ h.IsTupleIter it a i ∧ e ≠ it) where
  mem := by simp
  obj := fun i h st b hb => by
    obtain ⟨⟨old, he⟩, ⟨o, ho, hc, hd⟩, _⟩ := st
    have e' : b = e ∨ b = it := by simpa using hb
    rcases e' with z | z
    · rw [z]; exact ⟨_, he, fun v q => nomatch q⟩
    · rw [z]; exact ⟨o, ho, fun v q => by rw [hd] at q; cases q⟩
  keep := fun i h h' st k => let ⟨⟨old, he⟩, hi, hne⟩ := st; ⟨⟨old, k e (by simp) _ he⟩, hi.at fun o q => k it (by simp) o q, hne⟩
  item := by
    intro X hP hw hK hc i pins s σ H E I hf st hg
    exact hg.elim
  done := by
    intro X hP hw hK hc i pins s σ H E I hf st hg
    subst hP hw hK
    obtain ⟨⟨old, he⟩, hit, hne⟩ := st
    obtain ⟨rfl, hq⟩ := hg
    obtain ⟨its, rv, p, hz⟩ := I.tuple hq
    obtain ⟨f0, f1, f2, f3, f4, f5⟩ := hf it (by simp)
    have hl := rv.length
    exact enumT_end (I.ok.hd hc) he hit p (by simp at hl; simp [hl]) fun h' eb => ⟨rfl, I.turned (t' := s.toks) (fun b o hb q => eb b o hb q) f0 f1 f3 f4 f5⟩
  self := fun A i s Q E st h => let ⟨⟨_, he⟩, _⟩ := st; wpAny_pyIter_enum he h
def iEnum0 (K : PySem.W.Frag) (ta : TA) : TI := fun σ H R => ta σ H fun vs H1 => ∃ a, vs = [.ref a] ∧ SqT K H1 a [] ∧ R (It0 K a) H1
theorem pi_enum0 {X : Cx} {e : Expr} {ta : TA} {p pos tpos : Pos} {elts : List Expr} {kk : Nat} (hg : Gl X "enumerate") (hm : X.mg "enumerate" = none) (ha : PA X [e] ta) (hs : starEach [e] X.env = [(false, eval e X.env)] := by rfl) :
    PI X (.Tuple elts kk tpos) (.Call (.Name "enumerate" p) [e] [] pos) (iEnum0 X.K ta) := by
  refine ⟨fun pins s σ H R I h => ?_⟩
  refine Call_ (ld_blt I hg hm boot_enumerate (PyProof.Rows.callWith_type1 (thn (ha.run pos pins s σ H _ I h) fun us s1 ⟨vs, H1, I1, r1, q1⟩ => ?_) hs rfl))
  obtain ⟨a, ex, hq, q⟩ := q1
  subst ex
  cases r1 with
  | cons r rr =>
    cases rr
    cases r
    obtain ⟨its, rv, p', hz⟩ := I1.tuple hq
    refine call_enumT p' fun h' he hit hsz hk => wpAny_pyIter_enum he ?_
    have I2 : Inv X pins σ H1 { s1 with heap := h' } := I1.kept (t' := s1.toks) hk
    refine ⟨s1.heap.objs.size + 1, [s1.heap.objs.size + 1, s1.heap.objs.size], _, _, H1, rfl, I2, turn_enum0 a (s1.heap.objs.size + 1) s1.heap.objs.size, ⟨⟨.none, he⟩, hit, Nat.succ_ne_self _⟩, fun b hb => ?_, q⟩
    have e' : b = s1.heap.objs.size + 1 ∨ b = s1.heap.objs.size := by simpa using hb
    have hle : s1.heap.objs.size ≤ b := by
      rcases e' with z | z
      · rw [z]; exact Nat.le_add_right _ _
      · rw [z]; exact Nat.le_refl _
    exact I1.fpOk hle (I1.hok.fresh hle)
theorem walk_0 {K : PySem.W.Frag} {a : Addr} : Walk (It0 K a) 0 (fun H => SqT K H a []) (fun _ _ _ _ => False) := ⟨fun _ _ h _ => (by omega), fun _ q => ⟨rfl, q⟩, fun _ _ _ _ h _ _ => (by omega)⟩
end Ss
/-! Data without addresses, what heaps keep of it, what isinstance says of it. -/
namespace Ss
open PySem PySem.Spec PyProof.Rows L2
theorem same_sqt {K : PySem.W.Frag} {H H' : Hp} {a : Addr} {xs : List V} (e : Same H H') (h : SqT K H a xs) : SqT K H' a xs := by
  rcases h with (h | ⟨o, h⟩) | h
  · exact .inl (.inl (e _ _ h))
  · exact .inl (.inr ⟨o, e _ _ h⟩)
  · exact .inr h
theorem same_new {H : Hp} {p : Addr} {o : HO} (h : H p = none) : Same H (upd H p o) := fun b u q => by
  rw [upd_ne (ne_of_none q h)]
  exact q
/-- an object that the anchor does not know may change -/
theorem same_mut {H H' : Hp} {p : Addr} {o : HO} (e : Same H H') (h : H p = none) : Same H (upd H' p o) := fun a u ha => by
  rw [upd_ne (ne_of_none ha h)]
  exact e a u ha
theorem same_snew {H H' : Hp} {p : Addr} {o : HO} (e : Same H H') (h : H' p = none) : Same H (upd H' p o) := e.trans (same_new h)
/-- what may be read as a tuple stays so -/
def TupLe (H H' : Hp) : Prop := ∀ (K : PySem.W.Frag) (a : Addr) (xs : List V), SqT K H a xs → SqT K H' a xs
theorem TupLe.refl (H : Hp) : TupLe H H := fun _ _ _ h => h
theorem TupLe.trans {H H1 H2 : Hp} (a : TupLe H H1) (b : TupLe H1 H2) : TupLe H H2 := fun K c xs h => b K c xs (a K c xs h)
theorem Same.tup {H H' : Hp} (e : Same H H') : TupLe H H' := fun _ _ _ h => same_sqt e h
/-- a store at what is no tuple -/
theorem tup_upd {H : Hp} {a : Addr} {o u : HO} (h : H a = some u) (nt : ∀ xs, u ≠ .tup xs) (nf : ∀ ob xs, u ≠ .frz ob (.tup xs)) : TupLe H (upd H a o) := fun K b xs q => by
  rcases q with (q | ⟨ob, q⟩) | q
  · refine .inl (.inl ?_)
    rw [upd_ne (fun z => nt xs (by rw [z, h] at q; exact Option.some.inj q))]
    exact q
  · refine .inl (.inr ⟨ob, ?_⟩)
    rw [upd_ne (fun z => nf ob xs (by rw [z, h] at q; exact Option.some.inj q))]
    exact q
  · exact .inr q
theorem tup_lst {H : Hp} {a : Addr} {o : HO} {ys : List V} (h : H a = some (.lst ys)) : TupLe H (upd H a o) := tup_upd h (fun _ z => nomatch z) (fun _ _ z => nomatch z)
theorem tup_ins {H : Hp} {a C dx : Addr} {fs : List (Str × V)} {o : HO} (h : H a = some (.ins C dx fs)) : TupLe H (upd H a o) := tup_upd h (fun _ z => nomatch z) (fun _ _ z => nomatch z)
theorem tup_do {P : Program} {w : World} {H : Hp} {a : Addr} {o : HO} {es : List Ent} (h : H a = some (DO P w a es)) : TupLe H (upd H a o) := tup_upd h (fun _ z => nomatch z) (fun _ _ z => nomatch z)
theorem tup_fdo {P : Program} {w : World} {H : Hp} {a : Addr} {o : HO} {ob : Obj} {es : List Ent} (h : H a = some (.frz ob (DO P w a es))) : TupLe H (upd H a o) := tup_upd h (fun _ z => nomatch z) (fun _ _ z => by injection z with _ z; cases z)
theorem tup_new {H : Hp} {p : Addr} {o : HO} (h : H p = none) : TupLe H (upd H p o) := Same.tup (same_new h)

/-! ### data -/
mutual
theorem dp_same {K : PySem.W.Frag} {H H' : Hp} (e : Same H H') : ∀ {d : PyData} {v : V}, Dp K H v d → Dp K H' v d
  | _, _, .non => .non
  | _, _, .bl b => .bl b
  | _, _, .int i => .int i
  | _, _, .str x => .str x
  | _, _, .lst h t => .lst (e.seq h) (dpa_same e t)
  | _, _, .tup h t => .tup (same_sqt e h) (dpa_same e t)
theorem dpa_same {K : PySem.W.Frag} {H H' : Hp} (e : Same H H') : ∀ {ds : List PyData} {vs : List V}, DpAll K H vs ds → DpAll K H' vs ds
  | _, _, .nil => .nil
  | _, _, .cons h t => .cons (dp_same e h) (dpa_same e t)
end
mutual
/-- data without lists -/
def imm : PyData → Bool
  | .list _ => false
  | .dict _ => false
  | .tuple ds => immAll ds
  | _ => true
def immAll : List PyData → Bool
  | [] => true
  | d :: ds => imm d && immAll ds
end
mutual
theorem dp_tup {K : PySem.W.Frag} {H H' : Hp} (e : TupLe H H') : ∀ {d : PyData} {v : V}, imm d = true → Dp K H v d → Dp K H' v d
  | _, _, _, .non => .non
  | _, _, _, .bl b => .bl b
  | _, _, _, .int i => .int i
  | _, _, _, .str x => .str x
  | _, _, z, .lst h t => by cases z
  | _, _, z, .tup h t => .tup (e _ _ _ h) (dpa_tup e z t)
theorem dpa_tup {K : PySem.W.Frag} {H H' : Hp} (e : TupLe H H') : ∀ {ds : List PyData} {vs : List V}, immAll ds = true → DpAll K H vs ds → DpAll K H' vs ds
  | _, _, _, .nil => .nil
  | _, _, z, .cons h t => by
    have z2 := Bool.and_eq_true_iff.mp (show (imm _ && immAll _) = true from z)
    exact .cons (dp_tup e z2.1 h) (dpa_tup e z2.2 t)
end
theorem dpa_len {K : PySem.W.Frag} {H : Hp} : ∀ {ds : List PyData} {vs : List V}, DpAll K H vs ds → vs.length = ds.length
  | _, _, .nil => rfl
  | _, _, .cons _ t => congrArg Nat.succ (dpa_len t)
theorem dpa_get {K : PySem.W.Frag} {H : Hp} : ∀ {ds : List PyData} {vs : List V} {i : Nat} {d : PyData}, DpAll K H vs ds → ds[i]? = some d → ∃ v, vs[i]? = some v ∧ Dp K H v d
  | _, _, _, _, .nil, e => by simp at e
  | _, _, 0, _, .cons h t, e => by
    simp at e
    subst e
    exact ⟨_, rfl, h⟩
  | _, _, i + 1, d, .cons h t, e => by
    obtain ⟨v, h1, h2⟩ := dpa_get (i := i) (d := d) t (by simpa using e)
    exact ⟨v, by simpa using h1, h2⟩
theorem dpa_getV {K : PySem.W.Frag} {H : Hp} : ∀ {ds : List PyData} {vs : List V} {i : Nat} {v : V}, DpAll K H vs ds → vs[i]? = some v → ∃ d, ds[i]? = some d ∧ Dp K H v d
  | _, _, _, _, .nil, e => by simp at e
  | _, _, 0, _, .cons h t, e => by
    simp at e
    subst e
    exact ⟨_, rfl, h⟩
  | _, _, i + 1, d, .cons h t, e => by
    obtain ⟨v, h1, h2⟩ := dpa_getV (i := i) (v := d) t (by simpa using e)
    exact ⟨v, by simpa using h1, h2⟩
def sD (k : St2) : PyData := .tuple [.int k.1, .int k.2]
theorem dp_stamp {K : PySem.W.Frag} {H : Hp} {b : Addr} {k : St2} (h : SqT K H b (sval k)) : Dp K H (.ref b) (sD k) := .tup h (.cons (.int _) (.cons (.int _) .nil))
theorem stamp_dp {K : PySem.W.Frag} {H : Hp} {v : V} {k : St2} (h : Dp K H v (sD k)) : ∃ b, v = .ref b ∧ SqT K H b (sval k) := by
  cases h with
  | tup h t =>
    cases t with
    | cons h1 t =>
      cases t with
      | cons h2 t =>
        cases t
        cases h1
        cases h2
        exact ⟨_, rfl, h⟩
theorem imm_sD (k : St2) : imm (sD k) = true := by simp [sD, imm, immAll]
theorem shaped_sD (k : St2) : SeqAt.shaped (sD k) = true := by simp [sD, SeqAt.shaped, PyData.canLay0, PyData.canLayAll0, PyData.depth, PyData.depthAll]
theorem eqv_sD (a b : St2) : PyData.eqv (sD a) (sD b) = decide (a = b) := by
  obtain ⟨a1, a2⟩ := a
  obtain ⟨b1, b2⟩ := b
  simp [sD, PyData.eqv, PyData.eqvAll, Prod.ext_iff]
  by_cases h1 : a1 = b1 <;> by_cases h2 : a2 = b2 <;> simp [h1, h2]
theorem sD_inj {a b : St2} (h : sD a = sD b) : a = b := by
  obtain ⟨a1, a2⟩ := a
  obtain ⟨b1, b2⟩ := b
  simp [sD] at h
  exact Prod.ext h.1 h.2

/-! ### isinstance -/
def tyD : PyData → String
  | .none => "NoneType"
  | .bool _ => "bool"
  | .int _ => "int"
  | .str _ => "str"
  | .list _ => "list"
  | .tuple _ => "tuple"
  | .dict _ => "dict"
theorem tyx_lst {K : PySem.W.Frag} {H : Hp} {a : Addr} {xs : List V} (h : SqL K H a xs) : TyX K H (.ref a) (.type "list") := by
  rcases h with (h | ⟨o, h⟩) | ⟨o, its, n, h, hc, _⟩
  · exact .base (.lst h)
  · exact .base (.frz h)
  · exact .kList h hc
theorem tyx_tup {K : PySem.W.Frag} {H : Hp} {a : Addr} {xs : List V} (h : SqT K H a xs) : TyX K H (.ref a) (.type "tuple") := by
  rcases h with (h | ⟨o, h⟩) | ⟨o, its, n, h, hc, _⟩
  · exact .base (.tup h)
  · exact .fTuple h
  · exact .kTuple h hc
theorem dp_ty {K : PySem.W.Frag} {H : Hp} {v : V} {d : PyData} (h : Dp K H v d) : TyX K H v (.type (tyD d)) := by
  cases h with
  | non => exact .base .non
  | bl b => exact .base (.bl b)
  | int i => exact .base (.int i)
  | str x => exact .base (.str x)
  | lst h _ => exact tyx_lst h
  | tup h _ => exact tyx_tup h
/-- isinstance(v, T) by the data's kind -/
theorem isi_d {K : PySem.W.Frag} {H : Hp} {v : V} {d : PyData} {T : String} {b : Bool} {Q : VK} (h : Dp K H v d) (hk : kitB (tyD d) T = some b) (q : Q (.bl b) H) : rIsiA K [v, .ty T] H Q :=
  .inl ⟨v, .ty T, _, _, b, rfl, .ty T, dp_ty h, kit_ty hk, q⟩
theorem ty_mem (d : PyData) : tyD d ∈ (["NoneType", "bool", "int", "str", "list", "tuple", "dict"] : List String) := by cases d <;> simp [tyD]
theorem kit_all : ∀ t ∈ (["NoneType", "bool", "int", "str", "list", "tuple", "dict"] : List String), kitB t "int" = some (t == "int" || t == "bool") ∧ kitB t "bool" = some (t == "bool") ∧ kitB t "str" = some (t == "str") ∧ kitB t "tuple" = some (t == "tuple") := by decide +kernel
def isIntD : PyData → Bool
  | .int _ => true
  | .bool _ => true
  | _ => false
def isBoolD : PyData → Bool
  | .bool _ => true
  | _ => false
def isStrD : PyData → Bool
  | .str _ => true
  | _ => false
def isTupD : PyData → Bool
  | .tuple _ => true
  | _ => false
theorem kit_int (d : PyData) : kitB (tyD d) "int" = some (isIntD d) := (kit_all _ (ty_mem d)).1.trans (by cases d <;> rfl)
theorem kit_bool (d : PyData) : kitB (tyD d) "bool" = some (isBoolD d) := (kit_all _ (ty_mem d)).2.1.trans (by cases d <;> rfl)
theorem kit_str (d : PyData) : kitB (tyD d) "str" = some (isStrD d) := (kit_all _ (ty_mem d)).2.2.1.trans (by cases d <;> rfl)
theorem kit_tuple (d : PyData) : kitB (tyD d) "tuple" = some (isTupD d) := (kit_all _ (ty_mem d)).2.2.2.trans (by cases d <;> rfl)
/-- an own instance -/
theorem isi_own {K : PySem.W.Frag} {H : Hp} {a C dx : Addr} {fs : List (Str × V)} {Q : VK} (h : H a = some (.ins C dx fs)) (c : Cls K C) (i : IsiC K C) (q : Q (.bl true) H) : rIsiA K [.ref a, .ref C] H Q :=
  .inl ⟨.ref a, .ref C, .ref C, .ref C, true, rfl, .own C, .base (.ins h c i.ha i.hn i.ht i.hm), by unfold PySem.W.kitOne; rw [if_pos (by simp)], q⟩
end Ss
/-! Comprehensions by what they make. -/
namespace Ss
open PySem PySem.Spec PyProof.Rows L2
theorem range_fm {f : Nat → Option V} (i : Nat) : (List.range (i + 1)).filterMap f = (List.range i).filterMap f ++ (match f i with | some v => [v] | none => []) := by
  rw [List.range_succ, List.filterMap_append]
  congr 1
  cases h : f i <;> simp [List.filterMap_cons, h]
theorem fm_len {f : Nat → Option V} (i : Nat) : ((List.range i).filterMap f).length ≤ i := by
  have := List.length_filterMap_le f (List.range i)
  rwa [List.length_range] at this
theorem range_map_get {α : Type} {xs : List V} {F : V → Option V} : ∀ {n : Nat}, n ≤ xs.length → (List.range n).filterMap (fun i => (xs[i]?).bind F) = (xs.take n).filterMap F := by
  intro n
  induction n with
  | zero => intro _; simp
  | succ n ih =>
    intro h
    rw [List.range_succ, List.filterMap_append, ih (by omega), List.take_add_one, List.filterMap_append]
    have e : xs[n]? = some xs[n] := List.getElem?_eq_getElem (by omega)
    congr 1
    rw [e]
    cases q : F xs[n] <;> simp [List.filterMap_cons, e, q]
section
variable {J : It} {n : Nat} {G : Hp → Prop} {Y : Nat → Hp → V → Hp → Prop} {g : TG} {tt : TT} {te tk tv : TE} {vs : List Nat} {σ : L2.St} {H1 : Hp} {D : Addr} {Qd : Hp → Prop}
/-- a list: turn i gives f i, or nothing; the heap only grows -/
theorem lc_fm (w : Walk J n G Y) (hD : H1 D = none) (f : Nat → Option V) (hz : n < sizeLine) (hG : ∀ H, Same H1 H → G H)
    (hs : ∀ (i : Nat) (x : V) (H H' : Hp) (Q : VK) (R : Hp → Prop), i < n → Same H1 H → Y i H x H' → (∀ v H4, f i = some v → Same H H4 → Q v H4) → (∀ H4, f i = none → Same H H4 → R H4) →
      g x (wipe σ vs) H' fun σ2 H2 => wipe σ2 vs = wipe σ vs ∧ tt σ2 H2 fun b H3 => if b = true then te σ2 H3 Q else R H3)
    (hd : ∀ H, Same H1 H → H D = some (.lst ((List.range n).filterMap f)) → Qd H) :
    ∃ W : Nat → Nat → Hp → Prop, (∃ m, W 0 m (upd H1 D (.lst []))) ∧ ∀ i m H, W i m H →
      (J.stop i H ∧ Qd H) ∨ (J.go i H ∧ ∃ Nx : Hp → Prop, (∀ H', Nx H' → ∃ m', m' < m ∧ W (i + 1) m' H') ∧ ∀ x H', J.yld i H x H' → g x (wipe σ vs) H' fun σ2 H2 => wipe σ2 vs = wipe σ vs ∧ tt σ2 H2 fun b H3 =>
        if b = true then te σ2 H3 fun y H4 => ∃ acc, H4 D = some (.lst acc) ∧ acc.length < sizeLine ∧ Nx (upd H4 D (.lst (acc ++ [y]))) else Nx H3) := by
  refine lc_it w (fun i H => i ≤ n ∧ Same H1 H ∧ H D = some (.lst ((List.range i).filterMap f))) ⟨Nat.zero_le _, same_new hD, upd_same⟩ (fun i H _ p => hG H p.2.1) ?_ (fun H p => hd H p.2.1 p.2.2)
  rintro i x H H' hi ⟨hin, a, b⟩ y
  refine hs i x H H' _ _ hi a y (fun v H4 hf s4 => ⟨_, s4 _ _ b, Nat.lt_of_le_of_lt (Nat.le_trans (fm_len i) hin) hz, hi, same_mut (a.trans s4) hD, ?_⟩) (fun H4 hf s4 => ⟨hi, a.trans s4, ?_⟩)
  · rw [upd_same, range_fm, hf]
  · rw [range_fm, hf, List.append_nil]
    exact s4 _ _ b
/-- a dict of stamps: turn i puts key k i, its tuple where it stands, with value f i -/
theorem dk_it {P : Program} {w : World} {K : PySem.W.Frag} (wk : Walk J n G Y) (Pv : Nat → Hp → Prop) (h0 : Pv 0 (upd H1 D (DO P w D []))) (hG : ∀ i H, i ≤ n → Pv i H → G H)
    (hs : ∀ i x H H', i < n → Pv i H → Y i H x H' → g x (wipe σ vs) H' fun σ2 H2 => wipe σ2 vs = wipe σ vs ∧ tt σ2 H2 fun b H3 =>
      if b = true then tk σ2 H3 fun y H4 => tv σ2 H4 fun z H5 => (dkT P w K).put D y z H5 (Pv (i + 1)) else Pv (i + 1) H3) (hd : ∀ H, Pv n H → Qd H) :
    ∃ W : Nat → Nat → Hp → Prop, (∃ m, W 0 m (upd H1 D ((dkT P w K).o0 D))) ∧ ∀ i m H, W i m H →
      (J.stop i H ∧ Qd H) ∨ (J.go i H ∧ ∃ Nx : Hp → Prop, (∀ H', Nx H' → ∃ m', m' < m ∧ W (i + 1) m' H') ∧ ∀ x H', J.yld i H x H' → g x (wipe σ vs) H' fun σ2 H2 => wipe σ2 vs = wipe σ vs ∧ tt σ2 H2 fun b H3 =>
        if b = true then tk σ2 H3 fun y H4 => tv σ2 H4 fun z H5 => (dkT P w K).put D y z H5 Nx else Nx H3) := by
  refine ⟨fun i m H => m = n - i ∧ i ≤ n ∧ Pv i H, ⟨n, rfl, Nat.zero_le _, h0⟩, ?_⟩
  rintro i m H ⟨rfl, hi, p⟩
  have q := hG i H hi p
  by_cases hlt : i < n
  · exact .inr ⟨wk.goes i H hlt q, Pv (i + 1), fun H' p' => ⟨n - (i + 1), by omega, rfl, hlt, p'⟩, fun x H' y => hs i x H H' hlt p (wk.yields i H x H' hlt q y)⟩
  · have e : i = n := by omega
    subst e
    exact .inl ⟨wk.stops H q, hd H p⟩
end
end Ss
/-! The predicates on data. -/
namespace Ss
open PySem PySem.Spec PyProof.Rows L2
variable {P : Program} {w : World} {K : PySem.W.Frag} {mg : Str → Option Value} {base : Heap} {e0 : Addr}
def wholeB : PyData → Bool
  | .int _ => true
  | _ => false
def sp_is_whole (K : PySem.W.Frag) : Sp := fun vs H Q _ => ∃ v d, vs = [v] ∧ Dp K H v d ∧ Q (.bl (wholeB d)) H
theorem ok_is_whole (T : Tx w K mg e0) : Kn P w K mg base 1 (He.ga K "is_whole") ["value"] (sp_is_whole K) := by
  refine T.d_is_whole.kn sc_is_whole (fun _ _ _ _ _ _ us hl => match us, hl with | [_], _ => rfl) (fun vs H Q E h => ?_) (fun cdv A outer s H vs Q E hr h => ?_)
  · obtain ⟨v, d, rfl, _⟩ := h
    rfl
  have hu := hu65 hr
  obtain ⟨v, d, rfl, hd, q⟩ := h
  refine ⟨_, (pss_one (ps_ret (pe_and (pe_callB (cb_isinstance hu) (by rfl) T.b_isinstance (by decide +kernel) (pa_cons (pv 0) (pa_cons (pe_bltn (v := .ty "int") (by rfl) T.b_int PyProof.Rows.boot_int rfl) pa_nil))) (pe_one (pe_not (pe_callB (cb_isinstance hu) (by rfl) T.b_isinstance (by decide +kernel) (pa_cons (pv 0) (pa_cons (pe_bltn (v := .ty "bool") (by rfl) T.b_bool PyProof.Rows.boot_bool rfl) pa_nil)))))))), ?_⟩
  refine ⟨_, rfl, isi_d hd (kit_int d) ⟨_, rfl, ?_⟩⟩
  cases d with
  | int i => exact iteT ⟨_, rfl, isi_d hd (kit_bool _) ⟨_, rfl, q⟩⟩
  | bool b => exact iteT ⟨_, rfl, isi_d hd (kit_bool _) ⟨_, rfl, q⟩⟩
  | _ => exact iteF q
def numB (d : PyData) (i j : Int) : Bool := match d with
  | .int n => decide (i ≤ n) && decide (n ≤ j)
  | _ => false
def sp_is_number (K : PySem.W.Frag) : Sp := fun vs H Q _ => ∃ v d i j, vs = [v, .int i, .int j] ∧ Dp K H v d ∧ Q (.bl (numB d i j)) H
theorem ok_is_number (T : Tx w K mg e0) : Kn P w K mg base 2 (He.ga K "is_number") ["value", "low", "high"] (sp_is_number K) := by
  have G_is_whole : Kn P w K mg base 1 _ _ _ := ok_is_whole T
  refine T.d_is_number.kn sc_is_number (fun _ _ _ _ _ _ us hl => match us, hl with | [_, _, _], _ => rfl) (fun vs H Q E h => ?_) (fun cdv A outer s H vs Q E hr h => ?_)
  · obtain ⟨v, d, i, j, rfl, _⟩ := h
    rfl
  have hu := hu65 hr
  obtain ⟨v, d, i, j, rfl, hd, q⟩ := h
  refine ⟨_, (pss_one (ps_ret (pe_and (pe_fn G_is_whole (hr.mono (by first | decide | exact Nat.le_refl _ | exact Nat.le_add_right_of_le (by decide) | omega)) T.g_is_whole (pa_cons (pv 0) pa_nil)) (pe_one (pe_chain op_le op_le (pv 1) (pv 0) (pv 2)))))), ?_⟩
  refine ⟨_, rfl, _, d, rfl, hd, _, rfl, ?_⟩
  cases d with
  | int n =>
    cases hd
    refine iteT ⟨_, rfl, _, rfl, _, _, rfl, rfl, _, rfl, ite2 (fun c => ?_) (fun c => ?_)⟩
    · refine ⟨_, rfl, _, _, rfl, rfl, ?_⟩
      have e : numB (.int n) i j = decide (n ≤ j) := by simp [numB, of_decide_eq_true c]
      rw [e] at q
      exact q
    · have e : numB (.int n) i j = false := by simp [numB, Bool.eq_false_iff.mpr c]
      rw [e] at q
      exact q
  | _ => exact iteF q
def sp_is_line (K : PySem.W.Frag) : Sp := fun vs H Q _ => ∃ a xs, vs = [.ref a] ∧ (SqL K H a xs ∨ SqT K H a xs) ∧ ∀ H', Same H H' → Q (.bl true) H'
theorem ok_is_line (T : Tx w K mg e0) : Kn P w K mg base 1 (He.ga K "is_line") ["value"] (sp_is_line K) := by
  refine T.d_is_line.kn sc_is_line (fun _ _ _ _ _ _ us hl => match us, hl with | [_], _ => rfl) (fun vs H Q E h => ?_) (fun cdv A outer s H vs Q E hr h => ?_)
  · obtain ⟨a, xs, rfl, _⟩ := h
    rfl
  have hu := hu65 hr
  obtain ⟨a, xs, rfl, hs, q⟩ := h
  refine ⟨_, (pss_one (ps_ret (pe_callB (cb_isinstance hu) (by rfl) T.b_isinstance (by decide +kernel) (pa_cons (pv 0) (pa_cons (pe_tup (pa_cons (pe_bltn (v := .ty "list") (by rfl) T.b_list PyProof.Rows.boot_list rfl) (pa_cons (pe_bltn (v := .ty "tuple") (by rfl) T.b_tuple PyProof.Rows.boot_tuple rfl) pa_nil))) pa_nil))))), ?_⟩
  refine ⟨_, rfl, (by show 2 ≤ sizeLine; decide), fun p hp => ?_⟩
  rcases hs with hs | hs
  · exact .inr ⟨_, p, _, _, _, true, rfl, upd_same, .cons (.ty "list") (.cons (.ty "tuple") .nil), tyx_lst (Same.seq (same_new hp) hs), by first | rfl | decide +kernel, q _ (same_new hp)⟩
  · exact .inr ⟨_, p, _, _, _, true, rfl, upd_same, .cons (.ty "list") (.cons (.ty "tuple") .nil), tyx_tup (same_sqt (same_new hp) hs), by first | rfl | decide +kernel, q _ (same_new hp)⟩
def tupB (d : PyData) (n : Int) : Bool := match d with
  | .tuple ds => decide ((ds.length : Int) = n)
  | _ => false
def sp_is_tuple_of (K : PySem.W.Frag) : Sp := fun vs H Q _ => ∃ v d n, vs = [v, .int n] ∧ Dp K H v d ∧ Q (.bl (tupB d n)) H
theorem ok_is_tuple_of (T : Tx w K mg e0) : Kn P w K mg base 1 (He.ga K "is_tuple_of") ["value", "many"] (sp_is_tuple_of K) := by
  refine T.d_is_tuple_of.kn sc_is_tuple_of (fun _ _ _ _ _ _ us hl => match us, hl with | [_, _], _ => rfl) (fun vs H Q E h => ?_) (fun cdv A outer s H vs Q E hr h => ?_)
  · obtain ⟨v, d, n, rfl, _⟩ := h
    rfl
  have hu := hu65 hr
  obtain ⟨v, d, n, rfl, hd, q⟩ := h
  refine ⟨_, (pss_one (ps_ret (pe_and (pe_callB (cb_isinstance hu) (by rfl) T.b_isinstance (by decide +kernel) (pa_cons (pv 0) (pa_cons (pe_bltn (v := .ty "tuple") (by rfl) T.b_tuple PyProof.Rows.boot_tuple rfl) pa_nil))) (pe_one (pe_cmpR (op_eqA hu) (pe_callB (cb_len hu) (by rfl) T.b_len (by decide +kernel) (pa_cons (pv 0) pa_nil)) (pv 1) (nomark _)))))), ?_⟩
  refine ⟨_, rfl, isi_d hd (kit_tuple d) ⟨_, rfl, ?_⟩⟩
  cases d with
  | tuple ds =>
    cases hd with
    | @tup a xs _ hs ha =>
      refine iteT ⟨_, rfl, .inl ⟨_, _, rfl, .inr ⟨xs, hs, rfl⟩, _, rfl, .inl ⟨rfl, ?_⟩⟩⟩
      rw [dpa_len ha]
      have e : decide (V.int (ds.length : Int) = V.int n) = tupB (.tuple ds) n := by simp [tupB]
      rw [e]
      exact q
  | _ => exact iteF q
def stampB (d : PyData) : Bool := match d with
  | .tuple [a, b] => numB a 1 999 && numB b 0 3
  | _ => false
def sp_is_stamp (K : PySem.W.Frag) : Sp := fun vs H Q _ => ∃ v d, vs = [v] ∧ Dp K H v d ∧ Q (.bl (stampB d)) H
theorem two_of {ds : List PyData} (h : tupB (.tuple ds) 2 = true) : ∃ a b, ds = [a, b] := by
  have h : (ds.length : Int) = 2 := of_decide_eq_true h
  match ds, h with
  | [a, b], _ => exact ⟨a, b, rfl⟩
  | [], h => simp at h
  | [_], h => simp at h
  | _ :: _ :: _ :: _, h => simp at h; omega
theorem ok_is_stamp (T : Tx w K mg e0) : Kn P w K mg base 3 (He.ga K "is_stamp") ["value"] (sp_is_stamp K) := by
  have G_is_tuple_of : Kn P w K mg base 1 _ _ _ := ok_is_tuple_of T
  have G_is_number : Kn P w K mg base 2 _ _ _ := ok_is_number T
  refine T.d_is_stamp.kn sc_is_stamp (fun _ _ _ _ _ _ us hl => match us, hl with | [_], _ => rfl) (fun vs H Q E h => ?_) (fun cdv A outer s H vs Q E hr h => ?_)
  · obtain ⟨v, d, rfl, _⟩ := h
    rfl
  have hu := hu65 hr
  obtain ⟨v, d, rfl, hd, q⟩ := h
  refine ⟨_, (pss_one (ps_ret (pe_and (pe_fn G_is_tuple_of (hr.mono (by first | decide | exact Nat.le_refl _ | exact Nat.le_add_right_of_le (by decide) | omega)) T.g_is_tuple_of (pa_cons (pv 0) (pa_cons pe_int pa_nil))) (pe_and (pe_fn G_is_number (hr.mono (by first | decide | exact Nat.le_refl _ | exact Nat.le_add_right_of_le (by decide) | omega)) T.g_is_number (pa_cons (pe_ix (ix_any hu) (pv 0) pe_int (fun _ _ => rfl)) (pa_cons pe_int (pa_cons (pe_globI rfl T.i_MOST_TIME) pa_nil)))) (pe_one (pe_fn G_is_number (hr.mono (by first | decide | exact Nat.le_refl _ | exact Nat.le_add_right_of_le (by decide) | omega)) T.g_is_number (pa_cons (pe_ix (ix_any hu) (pv 0) pe_int (fun _ _ => rfl)) (pa_cons pe_int (pa_cons (pe_globI rfl T.i_MOST_HAND) pa_nil))))))))), ?_⟩
  refine ⟨_, rfl, _, d, 2, rfl, hd, _, rfl, ?_⟩
  cases d with
  | tuple ds =>
    refine ite2 (fun c => ?_) (fun c => ?_)
    · obtain ⟨a, b, rfl⟩ := two_of c
      cases hd with
      | tup hs ha =>
        cases ha with
        | @cons va _ _ _ h1 ha =>
          cases ha with
          | @cons vb _ _ _ h2 ha =>
            cases ha
            refine ⟨_, rfl, .inr (.inl ⟨_, _, 0, va, rfl, rfl, hs, rfl, ?_⟩)⟩
            refine ⟨_, a, 1, 999, rfl, h1, _, rfl, ite2 (fun c => ?_) (fun c => ?_)⟩
            · refine ⟨_, rfl, .inr (.inl ⟨_, _, 1, vb, rfl, rfl, hs, rfl, ?_⟩)⟩
              refine ⟨_, b, 0, 3, rfl, h2, ?_⟩
              have e : stampB (.tuple [a, b]) = numB b 0 3 := by simp [stampB, c]
              rw [e] at q
              exact q
            · have e : stampB (.tuple [a, b]) = false := by simp [stampB, Bool.eq_false_iff.mpr c]
              rw [e] at q
              exact q
    · have e : stampB (.tuple ds) = false := by
        match ds with
        | [a, b] => simp [tupB] at c
        | [] => rfl
        | [_] => rfl
        | _ :: _ :: _ :: _ => rfl
      rw [e] at q
      exact q
  | _ => exact iteF q
def zeroB (d : PyData) : Bool := match d with
  | .tuple [a, b] => numB a 0 0 && numB b 0 0
  | _ => false
def placeB (d : PyData) : Bool := stampB d || zeroB d
def sp_is_place_name (K : PySem.W.Frag) : Sp := fun vs H Q _ => ∃ v d, vs = [v] ∧ Dp K H v d ∧ Q (.bl (placeB d)) H
theorem ok_is_place_name (T : Tx w K mg e0) : Kn P w K mg base 4 (He.ga K "is_place_name") ["value"] (sp_is_place_name K) := by
  have G_is_tuple_of : Kn P w K mg base 1 _ _ _ := ok_is_tuple_of T
  have G_is_number : Kn P w K mg base 2 _ _ _ := ok_is_number T
  have G_is_stamp : Kn P w K mg base 3 _ _ _ := ok_is_stamp T
  refine T.d_is_place_name.kn sc_is_place_name (fun _ _ _ _ _ _ us hl => match us, hl with | [_], _ => rfl) (fun vs H Q E h => ?_) (fun cdv A outer s H vs Q E hr h => ?_)
  · obtain ⟨v, d, rfl, _⟩ := h
    rfl
  have hu := hu65 hr
  obtain ⟨v, d, rfl, hd, q⟩ := h
  refine ⟨_, (pss_cons (ps_if (pt_val (pe_fn G_is_stamp (hr.mono (by first | decide | exact Nat.le_refl _ | exact Nat.le_add_right_of_le (by decide) | omega)) T.g_is_stamp (pa_cons (pv 0) pa_nil))) (pss_one (ps_ret pe_bl)) pss_nil)
    (pss_one (ps_ret (pe_and (pe_fn G_is_tuple_of (hr.mono (by first | decide | exact Nat.le_refl _ | exact Nat.le_add_right_of_le (by decide) | omega)) T.g_is_tuple_of (pa_cons (pv 0) (pa_cons pe_int pa_nil))) (pe_and (pe_fn G_is_number (hr.mono (by first | decide | exact Nat.le_refl _ | exact Nat.le_add_right_of_le (by decide) | omega)) T.g_is_number (pa_cons (pe_ix (ix_any hu) (pv 0) pe_int (fun _ _ => rfl)) (pa_cons pe_int (pa_cons pe_int pa_nil)))) (pe_one (pe_fn G_is_number (hr.mono (by first | decide | exact Nat.le_refl _ | exact Nat.le_add_right_of_le (by decide) | omega)) T.g_is_number (pa_cons (pe_ix (ix_any hu) (pv 0) pe_int (fun _ _ => rfl)) (pa_cons pe_int (pa_cons pe_int pa_nil)))))))))), ?_⟩
  refine ⟨_, rfl, _, d, rfl, hd, _, rfl, ite2 (fun c => ?_) (fun c => ?_)⟩
  · have e : placeB d = true := by simp [placeB, c]
    rw [e] at q
    exact q
  have e0 : placeB d = zeroB d := by simp [placeB, Bool.eq_false_iff.mpr c]
  rw [e0] at q
  refine ⟨_, rfl, _, d, 2, rfl, hd, _, rfl, ?_⟩
  cases d with
  | tuple ds =>
    refine ite2 (fun c => ?_) (fun c => ?_)
    · obtain ⟨a, b, rfl⟩ := two_of c
      cases hd with
      | tup hs ha =>
        cases ha with
        | @cons va _ _ _ h1 ha =>
          cases ha with
          | @cons vb _ _ _ h2 ha =>
            cases ha
            refine ⟨_, rfl, .inr (.inl ⟨_, _, 0, va, rfl, rfl, hs, rfl, ?_⟩)⟩
            refine ⟨_, a, 0, 0, rfl, h1, _, rfl, ite2 (fun c => ?_) (fun c => ?_)⟩
            · refine ⟨_, rfl, .inr (.inl ⟨_, _, 1, vb, rfl, rfl, hs, rfl, ?_⟩)⟩
              refine ⟨_, b, 0, 0, rfl, h2, ?_⟩
              have e : zeroB (.tuple [a, b]) = numB b 0 0 := by simp [zeroB, c]
              rw [e] at q
              exact q
            · have e : zeroB (.tuple [a, b]) = false := by simp [zeroB, Bool.eq_false_iff.mpr c]
              rw [e] at q
              exact q
    · have e : zeroB (.tuple ds) = false := by
        match ds with
        | [a, b] => simp [tupB] at c
        | [] => rfl
        | [_] => rfl
        | _ :: _ :: _ :: _ => rfl
      rw [e] at q
      exact q
  | _ => exact iteF q
end Ss
/-! Kinds, bodies, deeds. -/
namespace Ss
open PySem PySem.Spec PyProof.Rows L2
inductive Kd where
  | block | lt | sum | product | use | number
  deriving DecidableEq
def Kd.s : Kd → Str
  | .block => "block"
  | .lt => "let"
  | .sum => "sum"
  | .product => "product"
  | .use => "use"
  | .number => "number"
def Kd.all : List Kd := [.block, .lt, .sum, .product, .use, .number]
theorem Kd.mem (k : Kd) : k ∈ Kd.all := by cases k <;> simp [Kd.all]
theorem Kd.inj2 : ∀ a ∈ Kd.all, ∀ b ∈ Kd.all, decide (a.s = b.s) = decide (a = b) := by decide +kernel
theorem Kd.s_eq (a b : Kd) : decide (a.s = b.s) = decide (a = b) := Kd.inj2 a a.mem b b.mem
theorem Kd.s_inj {a b : Kd} (h : a.s = b.s) : a = b := by
  have := Kd.s_eq a b
  rw [decide_eq_true h] at this
  exact of_decide_eq_true this.symm
def Kd.holds : Kd → Bool
  | .use => false
  | .number => false
  | _ => true
/-- the content of a use -/
def bD : Option St2 → PyData
  | none => .none
  | some b => sD b
def letters : Str := "abcdefghijklmnopqrstuvwxyz"
def okName (z : Str) : Prop := 1 ≤ z.length ∧ z.length ≤ 4 ∧ ∀ c ∈ z.cps.toList, c ∈ letters.cps.toList
def okSt (k : St2) : Prop := 1 ≤ k.1 ∧ k.1 ≤ 999 ∧ 0 ≤ k.2 ∧ k.2 ≤ 3
def okPl (k : St2) : Prop := okSt k ∨ k = (0, 0)
/-- contents by kinds -/
def okC : Kd → PyData → Prop
  | .lt, d => ∃ z, d = .str z ∧ okName z
  | .use, d => ∃ b, d = bD b ∧ ∀ k, b = some k → okPl k
  | .number, d => ∃ n, d = .int n ∧ 0 ≤ n ∧ n ≤ 99
  | _, d => d = .none
/-- what a content put behind asks -/
inductive Pw where
  | wish | point | set
  deriving DecidableEq
def Pw.s : Pw → Str
  | .wish => "wish"
  | .point => "point"
  | .set => "set"
def Pw.k : Pw → Kd
  | .wish => .lt
  | .point => .use
  | .set => .number
inductive Bd where
  | make (k : Kd) (u : St2) (key : Int) (c : PyData)
  | move (t u : St2) (key : Int)
  | drop (t : St2)
  | put (p : Pw) (t : St2) (c : PyData)
  | mark (redo : Bool) (t : St2)
def markS : Bool → Str
  | true => "redo"
  | false => "undo"
def Bd.d : Bd → PyData
  | .make k u key c => .tuple [.str "make", .str k.s, sD u, .int key, c]
  | .move t u key => .tuple [.str "move", sD t, sD u, .int key]
  | .drop t => .tuple [.str "drop", sD t]
  | .put p t c => .tuple [.str p.s, sD t, c]
  | .mark r t => .tuple [.str (markS r), sD t]
def okKey (i : Int) : Prop := 0 ≤ i ∧ i ≤ 999
def Bd.ok : Bd → Prop
  | .make k u key c => okPl u ∧ okKey key ∧ okC k c
  | .move t u key => okPl t ∧ okPl u ∧ okKey key
  | .drop t => okPl t
  | .put p t c => okPl t ∧ okC p.k c
  | .mark _ t => okSt t
structure Dd where
  st : St2
  seen : List Int
  bd : Bd
def Dd.d (x : Dd) : PyData := .tuple [sD x.st, .tuple (x.seen.map .int), x.bd.d]
structure Dd.ok (x : Dd) : Prop where
  st : okSt x.st
  len : x.seen.length = 4
  seen : ∀ t ∈ x.seen, 0 ≤ t ∧ t ≤ x.st.1 - 1
  bd : x.bd.ok
theorem imm_c {k : Kd} {d : PyData} (h : okC k d) : imm d = true := by
  cases k with
  | lt => obtain ⟨z, rfl, _⟩ := h; rfl
  | use =>
    obtain ⟨b, rfl, _⟩ := h
    cases b with
    | none => rfl
    | some b => exact imm_sD b
  | number => obtain ⟨n, rfl, _⟩ := h; rfl
  | _ => cases h; rfl
theorem imm_ints : ∀ l : List Int, immAll (l.map .int) = true
  | [] => by simp [immAll]
  | _ :: r => by simp [immAll, imm, imm_ints r]
theorem imm_bd {b : Bd} (h : b.ok) : imm b.d = true := by
  cases b with
  | make k u key c => simp [Bd.d, imm, immAll, imm_sD, imm_c h.2.2]
  | move t u key => simp [Bd.d, imm, immAll, imm_sD]
  | drop t => simp [Bd.d, imm, immAll, imm_sD]
  | put p t c => simp [Bd.d, imm, immAll, imm_sD, imm_c h.2]
  | mark r t => simp [Bd.d, imm, immAll, imm_sD]
theorem imm_dd {x : Dd} (h : x.ok) : imm x.d = true := by simp [Dd.d, imm, immAll, imm_sD, imm_ints, imm_bd h.bd]
theorem numB_iff {n i j : Int} (h1 : i ≤ n) (h2 : n ≤ j) : numB (.int n) i j = true := by simp [numB, h1, h2]
theorem stampB_ok {k : St2} (h : okSt k) : stampB (sD k) = true := by simp [stampB, sD, numB_iff h.1 h.2.1, numB_iff h.2.2.1 h.2.2.2]
theorem placeB_ok {k : St2} (h : okPl k) : placeB (sD k) = true := by
  rcases h with h | rfl
  · simp [placeB, stampB_ok h]
  · rfl
end Ss
/-! The predicates on bodies and deeds. -/
namespace Ss
open PySem PySem.Spec PyProof.Rows L2
variable {P : Program} {w : World} {K : PySem.W.Frag} {mg : Str → Option Value} {base : Heap} {e0 : Addr}
/-- the promise of a predicate that holds -/
def spYes (len : Nat) (R : List V → Hp → Prop) : Sp := fun vs H Q _ => vs.length = len ∧ R vs H ∧ ∀ H', Same H H' → Q (.bl true) H'
theorem pick_nat {c : List Nat} {i : Nat} {x : Nat} (h : c.toArray[i]? = some x) : x ∈ c := by
  rw [List.getElem?_toArray] at h
  exact List.mem_of_getElem? h
def sp_is_name : Sp := spYes 1 fun vs _ => ∃ z, vs = [.str z] ∧ okName z
theorem ok_is_name (T : Tx w K mg e0) : Kn P w K mg base 1 (He.ga K "is_name") ["value"] sp_is_name := by
  refine T.d_is_name.kn sc_is_name (fun _ _ _ _ _ _ us hl => match us, hl with | [_], _ => rfl) (fun vs H Q E h => h.1) (fun cdv A outer s H vs Q E hr h => ?_)
  have hu := hu65 hr
  obtain ⟨_, ⟨z, rfl, h1, h2, h3⟩, q⟩ := h
  refine ⟨_, (pss_one (ps_ret (pe_and (pe_callB (cb_isinstance hu) (by rfl) T.b_isinstance (by decide +kernel) (pa_cons (pv 0) (pa_cons (pe_bltn (v := .ty "str") (by rfl) T.b_str PyProof.Rows.boot_str rfl) pa_nil))) (pe_and (pe_chain op_le op_le pe_int (pe_callB (cb_len hu) (by rfl) T.b_len (by decide +kernel) (pa_cons (pv 0) pa_nil)) pe_int) (pe_one (pe_callB (cb_all hu) (by rfl) T.b_all (by decide +kernel) (pa_cons (pe_lc (own := [("sign", 1)]) (by rfl) sc_is_name.nd (pi_str (pv 0)) (blkOk_by (N := n_is_name) (sc := defScope s_is_name) (by decide +kernel)) (fun _ _ _ _ _ => (pg_name (i := 1) sc_is_name.nd rfl (Or.inl rfl))) (fun _ _ _ _ _ => pts_nil) (fun _ _ _ _ _ => (pe_cmpR (op_inS) (pv 1) (pe_globS rfl T.s_NAME_LETTERS) (by rfl)))) pa_nil))))))), ?_⟩
  refine ⟨_, rfl, isi_d (.str z) (kit_str _) ⟨_, rfl, iteT ?_⟩⟩
  have hz : z.length ≤ sizeLine := Nat.le_trans h2 (by decide)
  refine ⟨_, rfl, .inl ⟨_, _, rfl, ⟨hz, rfl⟩, _, _, rfl, rfl, _, rfl, ?_⟩⟩
  rw [decide_eq_true (show (1 : Int) ≤ (z.length : Int) by omega)]
  refine iteT ⟨_, _, rfl, rfl, _, rfl, ?_⟩
  rw [decide_eq_true (show (z.length : Int) ≤ 4 by omega)]
  refine iteT ⟨_, rfl, z, rfl, fun D hD => ?_⟩
  refine lc_fm walk_str hD (fun _ => some (.bl true)) (Nat.lt_of_le_of_lt h2 (by decide)) (fun _ _ => True.intro) (fun i x H1 H2 Q2 R hi s1 y q1 q2 => ?_) (fun H1 s1 hl => ?_)
  · obtain ⟨rfl, c, hc, rfl⟩ := y
    refine ⟨rfl, ?_⟩
    refine iteT (B := R H2) ?_
    refine ⟨_, rfl, c, letters, rfl, rfl, ?_⟩
    have hm : c ∈ z.cps.toList := List.mem_of_getElem? (i := i) (by rw [Array.getElem?_toList]; exact hc)
    rw [decide_eq_true (h3 c hm)]
    exact q1 _ _ rfl (Same.refl _)
  · refine ⟨_, (List.range z.cps.size).map fun _ => true, rfl, SqL.of (by rw [hl, List.map_map]; congr 2; simp), ?_⟩
    have e : ((List.range z.cps.size).map fun _ => true).all id = true := by simp
    rw [e]
    exact q _ s1
def sp_does_hold : Sp := fun vs H Q _ => ∃ k : Kd, vs = [.str k.s] ∧ Q (.bl k.holds) H
theorem holds_in (k : Kd) : inV (.str k.s) [V.str "block", .str "let", .str "sum", .str "product"] = k.holds := by cases k <;> decide +kernel
theorem ok_does_hold (T : Tx w K mg e0) : Kn P w K mg base 1 (He.ga K "does_hold") ["kind"] sp_does_hold := by
  refine T.d_does_hold.kn sc_does_hold (fun _ _ _ _ _ _ us hl => match us, hl with | [_], _ => rfl) (fun vs H Q E h => ?_) (fun cdv A outer s H vs Q E hr h => ?_)
  · obtain ⟨k, rfl, _⟩ := h
    rfl
  have hu := hu65 hr
  obtain ⟨k, rfl, q⟩ := h
  refine ⟨_, (pss_one (ps_ret (pe_and (pe_callB (cb_isinstance hu) (by rfl) T.b_isinstance (by decide +kernel) (pa_cons (pv 0) (pa_cons (pe_bltn (v := .ty "str") (by rfl) T.b_str PyProof.Rows.boot_str rfl) pa_nil))) (pe_one (pe_cmpR (op_inA hu) (pv 0) (pe_globR rfl T.g_HOLDERS) (by rfl)))))), ?_⟩
  refine ⟨_, rfl, isi_d (.str _) (kit_str _) ⟨_, rfl, iteT ?_⟩⟩
  refine ⟨_, rfl, .inl ⟨_, _, rfl, .inr (T.tu_HOLDERS _), rfl, rfl, ?_⟩⟩
  show Q (.bl (inV (.str k.s) [V.str "block", .str "let", .str "sum", .str "product"])) H
  rw [holds_in]
  exact q
def sp_is_binder (K : PySem.W.Frag) : Sp := spYes 1 fun vs H => ∃ v b, vs = [v] ∧ Dp K H v (bD b) ∧ ∀ k, b = some k → okPl k
theorem ok_is_binder (T : Tx w K mg e0) : Kn P w K mg base 5 (He.ga K "is_binder") ["value"] (sp_is_binder K) := by
  have G_is_place_name : Kn P w K mg base 4 _ _ _ := ok_is_place_name T
  refine T.d_is_binder.kn sc_is_binder (fun _ _ _ _ _ _ us hl => match us, hl with | [_], _ => rfl) (fun vs H Q E h => h.1) (fun cdv A outer s H vs Q E hr h => ?_)
  have hu := hu65 hr
  obtain ⟨_, ⟨v, b, rfl, hd, hb⟩, q⟩ := h
  refine ⟨_, (pss_one (ps_ret (pe_or (pe_cmpR op_isN (pv 0) pe_non (nomark _)) (pe_one (pe_fn G_is_place_name (hr.mono (by first | decide | exact Nat.le_refl _ | exact Nat.le_add_right_of_le (by decide) | omega)) T.g_is_place_name (pa_cons (pv 0) pa_nil)))))), ?_⟩
  refine ⟨_, rfl, rfl, _, rfl, ?_⟩
  cases b with
  | none =>
    cases hd
    exact iteT (q _ (Same.refl _))
  | some k =>
    obtain ⟨a, rfl, hs⟩ := stamp_dp hd
    refine iteF ⟨_, rfl, _, sD k, rfl, hd, ?_⟩
    rw [placeB_ok (hb k rfl)]
    exact q _ (Same.refl _)
theorem eqS {K : PySem.W.Frag} {H : Hp} {x y : Str} {Q : VK} (q : Q (.bl (decide (x = y))) H) : rEqA K (.str x) (.str y) H Q := by
  refine .inl ⟨rfl, ?_⟩
  have e : decide (V.str x = V.str y) = decide (x = y) := by
    by_cases h : x = y
    · subst h
      simp
    · rw [decide_eq_false h]
      exact decide_eq_false fun e => h (V.str.inj e)
  rw [e]
  exact q
def sp_is_content (K : PySem.W.Frag) : Sp := spYes 2 fun vs H => ∃ (k : Kd) (v : V) (d : PyData), vs = [.str k.s, v] ∧ Dp K H v d ∧ okC k d
theorem ok_is_content (T : Tx w K mg e0) : Kn P w K mg base 6 (He.ga K "is_content") ["kind", "content"] (sp_is_content K) := by
  have G_is_name : Kn P w K mg base 1 _ _ _ := ok_is_name T
  have G_is_binder : Kn P w K mg base 5 _ _ _ := ok_is_binder T
  have G_is_number : Kn P w K mg base 2 _ _ _ := ok_is_number T
  refine T.d_is_content.kn sc_is_content (fun _ _ _ _ _ _ us hl => match us, hl with | [_, _], _ => rfl) (fun vs H Q E h => h.1) (fun cdv A outer s H vs Q E hr h => ?_)
  have hu := hu65 hr
  obtain ⟨_, ⟨k, v, d, rfl, hd, hc⟩, q⟩ := h
  refine ⟨_, (pss_cons (ps_if (pt_not (pt_val (pe_callB (cb_isinstance hu) (by rfl) T.b_isinstance (by decide +kernel) (pa_cons (pv 0) (pa_cons (pe_bltn (v := .ty "str") (by rfl) T.b_str PyProof.Rows.boot_str rfl) pa_nil))))) (pss_one (ps_ret pe_bl)) pss_nil)
    (pss_cons (ps_if (pt_cmpR (op_eqA hu) (pv 0) pe_str (nomark _)) (pss_one (ps_ret (pe_fn G_is_name (hr.mono (by first | decide | exact Nat.le_refl _ | exact Nat.le_add_right_of_le (by decide) | omega)) T.g_is_name (pa_cons (pv 1) pa_nil)))) pss_nil)
    (pss_cons (ps_if (pt_cmpR (op_eqA hu) (pv 0) pe_str (nomark _)) (pss_one (ps_ret (pe_fn G_is_binder (hr.mono (by first | decide | exact Nat.le_refl _ | exact Nat.le_add_right_of_le (by decide) | omega)) T.g_is_binder (pa_cons (pv 1) pa_nil)))) pss_nil)
    (pss_cons (ps_if (pt_cmpR (op_eqA hu) (pv 0) pe_str (nomark _)) (pss_one (ps_ret (pe_fn G_is_number (hr.mono (by first | decide | exact Nat.le_refl _ | exact Nat.le_add_right_of_le (by decide) | omega)) T.g_is_number (pa_cons (pv 1) (pa_cons pe_int (pa_cons (pe_globI rfl T.i_MOST_VALUE) pa_nil)))))) pss_nil)
    (pss_one (ps_ret (pe_and (pe_cmpR (op_inA hu) (pv 0) (pe_globR rfl T.g_HOLDERS) (by rfl)) (pe_one (pe_cmpR op_isN (pv 1) pe_non (nomark _)))))))))), ?_⟩
  refine ⟨_, rfl, isi_d (.str _) (kit_str _) ⟨_, rfl, iteF ?_⟩⟩
  refine ⟨_, rfl, eqS ⟨_, rfl, ?_⟩⟩
  rw [show decide (k.s = "let") = decide (k = .lt) from Kd.s_eq k .lt]
  refine ite2 (fun c => ?_) (fun c => ?_)
  · obtain rfl := of_decide_eq_true c
    obtain ⟨z, rfl, hz⟩ := hc
    cases hd
    exact ⟨_, rfl, rfl, ⟨z, rfl, hz⟩, q⟩
  refine ⟨_, rfl, eqS ⟨_, rfl, ?_⟩⟩
  rw [show decide (k.s = "use") = decide (k = .use) from Kd.s_eq k .use]
  refine ite2 (fun c => ?_) (fun c => ?_)
  · obtain rfl := of_decide_eq_true c
    obtain ⟨b, rfl, hb⟩ := hc
    exact ⟨_, rfl, rfl, ⟨_, b, rfl, hd, hb⟩, q⟩
  refine ⟨_, rfl, eqS ⟨_, rfl, ?_⟩⟩
  rw [show decide (k.s = "number") = decide (k = .number) from Kd.s_eq k .number]
  refine ite2 (fun c => ?_) (fun c => ?_)
  · obtain rfl := of_decide_eq_true c
    obtain ⟨n, rfl, h1, h2⟩ := hc
    refine ⟨_, rfl, _, _, 0, 99, rfl, hd, ?_⟩
    rw [numB_iff h1 h2]
    exact q _ (Same.refl _)
  have hk : k.holds = true := by cases k <;> simp_all [Kd.holds]
  have e : d = .none := by cases k <;> first | exact hc | simp_all
  subst e
  cases hd
  refine ⟨_, rfl, .inl ⟨_, _, rfl, .inr (T.tu_HOLDERS _), rfl, rfl, ?_⟩⟩
  show ∃ c, V.bl (inV (.str k.s) [V.str "block", .str "let", .str "sum", .str "product"]) = .bl c ∧ _
  rw [holds_in, hk]
  exact ⟨_, rfl, iteT ⟨_, rfl, rfl, q _ (Same.refl _)⟩⟩
end Ss
/-! Helpers for readings. -/
namespace Ss
open PySem PySem.Spec PyProof.Rows L2
variable {P : Program} {w : World} {K : PySem.W.Frag} {H : Hp} {Q : VK} {v u : V} {a b : Addr} {xs : List V} {d e : PyData} {ds : List PyData} {n m : Int}
theorem atI_nat {α : Type} {xs : List α} {i : Nat} {x : α} (h : xs[i]? = some x) : atI xs (i : Int) = some x := by
  obtain ⟨hi, _⟩ := List.getElem?_eq_some_iff.mp h
  unfold atI ixN
  rw [if_pos (by omega), if_pos (by omega)]
  simpa using h
theorem atI_last {α : Type} {xs : List α} {x : α} (h : xs.getLast? = some x) : atI xs (-1) = some x := by
  have hl : xs.length ≠ 0 := fun e => by
    rw [List.length_eq_zero_iff.mp e] at h
    simp at h
  unfold atI ixN
  rw [if_neg (by omega), if_pos (by omega)]
  rw [List.getLast?_eq_getElem?] at h
  show xs[(-1 + (xs.length : Int)).toNat]? = some x
  rw [← h]
  congr 1
  omega
theorem ixL (i : Nat) (h : SqL K H a xs) (e : xs[i]? = some v) (q : Q v H) (hn : n = i := by rfl) : rIxA P w K (.ref a) (.int n) H Q := by
  subst hn
  exact .inl ⟨a, xs, _, v, rfl, rfl, h, atI_nat e, q⟩
theorem ixLl (h : SqL K H a xs) (e : xs.getLast? = some v) (q : Q v H) : rIxA P w K (.ref a) (.int (-1)) H Q := .inl ⟨a, xs, _, v, rfl, rfl, h, atI_last e, q⟩
theorem ixT (i : Nat) (h : SqT K H a xs) (e : xs[i]? = some v) (q : Q v H) (hn : n = i := by rfl) : rIxA P w K (.ref a) (.int n) H Q := by
  subst hn
  exact .inr (.inl ⟨a, xs, _, v, rfl, rfl, h, atI_nat e, q⟩)
theorem ixTl (h : SqT K H a xs) (e : xs.getLast? = some v) (q : Q v H) : rIxA P w K (.ref a) (.int (-1)) H Q := .inr (.inl ⟨a, xs, _, v, rfl, rfl, h, atI_last e, q⟩)
theorem ixD (i : Nat) (h : Dp K H v (.tuple ds)) (q : ∀ u, Dp K H u d → Q u H) (e : ds[i]? = some d := by rfl) (hn : n = i := by rfl) : rIxA P w K v (.int n) H Q := by
  cases h with
  | tup hs ha =>
    obtain ⟨u, h1, h2⟩ := dpa_get ha e
    exact ixT i hs h1 (q u h2) hn
theorem lenT (h : SqT K H a xs) (q : Q (.int xs.length) H) : rLenA P w K [V.ref a] H Q := .inl ⟨_, _, rfl, .inr ⟨xs, h, rfl⟩, q⟩
theorem lenL (h : SqL K H a xs) (q : Q (.int xs.length) H) : rLenA P w K [V.ref a] H Q := .inl ⟨_, _, rfl, .inl ⟨xs, h, rfl⟩, q⟩
theorem lenD (h : Dp K H v (.tuple ds)) (q : Q (.int ds.length) H) : rLenA P w K [v] H Q := by
  cases h with
  | tup hs ha =>
    refine lenT hs ?_
    rw [dpa_len ha]
    exact q
theorem dec_int {i j : Int} : decide (V.int i = V.int j) = decide (i = j) := by
  by_cases h : i = j
  · subst h
    simp
  · rw [decide_eq_false h]
    exact decide_eq_false fun e => h (V.int.inj e)
theorem dec_str {i j : Str} : decide (V.str i = V.str j) = decide (i = j) := by
  by_cases h : i = j
  · subst h
    simp
  · rw [decide_eq_false h]
    exact decide_eq_false fun e => h (V.str.inj e)
theorem eqI {i j : Int} (q : Q (.bl (decide (i = j))) H) : rEqA K (.int i) (.int j) H Q := .inl ⟨rfl, by rw [dec_int]; exact q⟩
theorem neI {i j : Int} (q : Q (.bl (!decide (i = j))) H) : rNeA K (.int i) (.int j) H Q := .inl ⟨rfl, by rw [dec_int]; exact q⟩
theorem neS {i j : Str} (q : Q (.bl (!decide (i = j))) H) : rNeA K (.str i) (.str j) H Q := .inl ⟨rfl, by rw [dec_str]; exact q⟩
theorem eqD (h1 : Dp K H v d) (h2 : Dp K H u e) (q : Q (.bl (PyData.eqv d e)) H) (s1 : SeqAt.shaped d = true := by rfl) (s2 : SeqAt.shaped e = true := by rfl) : rEqA K v u H Q := .inr ⟨d, e, h1, h2, s1, s2, q⟩
theorem neD (h1 : Dp K H v d) (h2 : Dp K H u e) (q : Q (.bl (!PyData.eqv d e)) H) (s1 : SeqAt.shaped d = true := by rfl) (s2 : SeqAt.shaped e = true := by rfl) : rNeA K v u H Q := .inr ⟨d, e, h1, h2, s1, s2, q⟩
theorem eqK {i j : St2} (h1 : Dp K H v (sD i)) (h2 : Dp K H u (sD j)) (q : Q (.bl (decide (i = j))) H) : rEqA K v u H Q := .inr ⟨_, _, h1, h2, shaped_sD _, shaped_sD _, by rw [eqv_sD]; exact q⟩
theorem neK {i j : St2} (h1 : Dp K H v (sD i)) (h2 : Dp K H u (sD j)) (q : Q (.bl (!decide (i = j))) H) : rNeA K v u H Q := .inr ⟨_, _, h1, h2, shaped_sD _, shaped_sD _, by rw [eqv_sD]; exact q⟩
/-- a new tuple of texts -/
theorem inNewT {x : V} {b : Bool} (h : SqT K H a xs) (f : flatV x = true) (fs : xs.all flatV = true) (e : inV x xs = b) (q : Q (.bl b) H) : rInA P w K false x (.ref a) H Q := .inl ⟨a, xs, rfl, .inr h, f, fs, by subst e; exact q⟩
theorem inNewL {x : V} {b : Bool} (h : SqL K H a xs) (f : flatV x = true) (fs : xs.all flatV = true) (e : inV x xs = b) (q : Q (.bl b) H) : rInA P w K false x (.ref a) H Q := .inl ⟨a, xs, rfl, .inl h, f, fs, by subst e; exact q⟩
theorem szL {n : Nat} (h : Nat.ble n 64 = true := by rfl) : n ≤ sizeLine := Nat.le_trans (Nat.le_of_ble_eq_true h) (by decide)
theorem addI {i j : Int} (q : Q (.int (i + j)) H) : rAddA K (.int i) (.int j) H Q := .inl ⟨i, j, rfl, rfl, q⟩
theorem tup2 {d1 d2 : PyData} (h : Dp K H v (.tuple [d1, d2])) : ∃ a x y, v = .ref a ∧ SqT K H a [x, y] ∧ Dp K H x d1 ∧ Dp K H y d2 := by
  cases h with
  | tup hs ha => cases ha with | cons h1 ha => cases ha with | cons h2 ha => cases ha; exact ⟨_, _, _, rfl, hs, h1, h2⟩
theorem tup3 {d1 d2 d3 : PyData} (h : Dp K H v (.tuple [d1, d2, d3])) : ∃ a x y z, v = .ref a ∧ SqT K H a [x, y, z] ∧ Dp K H x d1 ∧ Dp K H y d2 ∧ Dp K H z d3 := by
  cases h with
  | tup hs ha => cases ha with | cons h1 ha => cases ha with | cons h2 ha => cases ha with | cons h3 ha => cases ha; exact ⟨_, _, _, _, rfl, hs, h1, h2, h3⟩
/-- data that has no address -/
def lit : PyData → Option V
  | .none => some .non
  | .bool b => some (.bl b)
  | .int i => some (.int i)
  | .str x => some (.str x)
  | _ => none
theorem dp_lit (h : Dp K H v d) (e : lit d = some u) : v = u := by
  cases h <;> simp [lit] at e <;> exact e
theorem dp_str {x : Str} (h : Dp K H v (.str x)) : v = .str x := by cases h; rfl
theorem dp_int {i : Int} (h : Dp K H v (.int i)) : v = .int i := by cases h; rfl
theorem dp_non (h : Dp K H v .none) : v = .non := by cases h; rfl
end Ss
/-! The predicates on bodies and deeds. -/
namespace Ss
open PySem PySem.Spec PyProof.Rows L2
variable {P : Program} {w : World} {K : PySem.W.Frag} {mg : Str → Option Value} {base : Heap} {e0 : Addr}
def sp_is_make (K : PySem.W.Frag) : Sp := spYes 1 fun vs H => ∃ v k u key c, vs = [v] ∧ Dp K H v (Bd.make k u key c).d ∧ (Bd.make k u key c).ok
theorem ok_is_make (T : Tx w K mg e0) : Kn P w K mg base 7 (He.ga K "is_make") ["body"] (sp_is_make K) := by
  have G_is_place_name : Kn P w K mg base 4 _ _ _ := ok_is_place_name T
  have G_is_content : Kn P w K mg base 6 _ _ _ := ok_is_content T
  have G_is_number : Kn P w K mg base 2 _ _ _ := ok_is_number T
  refine T.d_is_make.kn sc_is_make (fun _ _ _ _ _ _ us hl => match us, hl with | [_], _ => rfl) (fun vs H Q E h => h.1) (fun cdv A outer s H vs Q E hr h => ?_)
  have hu := hu65 hr
  obtain ⟨_, ⟨v, k, u, key, c, rfl, hd, hu1, hk1, hc⟩, q⟩ := h
  refine ⟨_, (pss_cons (ps_if (PW.pt (pw_or (pt_cmpR (op_neA hu) (pe_callB (cb_len hu) (by rfl) T.b_len (by decide +kernel) (pa_cons (pv 0) pa_nil)) pe_int (nomark _)) (pw_or (pt_not (pt_val (pe_fn G_is_place_name (hr.mono (by first | decide | exact Nat.le_refl _ | exact Nat.le_add_right_of_le (by decide) | omega)) T.g_is_place_name (pa_cons (pe_ix (ix_any hu) (pv 0) pe_int (fun _ _ => rfl)) pa_nil)))) (pw_or1 (pt_not (pt_val (pe_fn G_is_number (hr.mono (by first | decide | exact Nat.le_refl _ | exact Nat.le_add_right_of_le (by decide) | omega)) T.g_is_number (pa_cons (pe_ix (ix_any hu) (pv 0) pe_int (fun _ _ => rfl)) (pa_cons pe_int (pa_cons (pe_globI rfl T.i_MOST_KEY) pa_nil)))))))))) (pss_one (ps_ret pe_bl)) pss_nil)
    (pss_one (ps_ret (pe_fn G_is_content (hr.mono (by first | decide | exact Nat.le_refl _ | exact Nat.le_add_right_of_le (by decide) | omega)) T.g_is_content (pa_cons (pe_ix (ix_any hu) (pv 0) pe_int (fun _ _ => rfl)) (pa_cons (pe_ix (ix_any hu) (pv 0) pe_int (fun _ _ => rfl)) pa_nil)))))), ?_⟩
  refine ⟨_, rfl, lenD hd (neI ⟨_, rfl, iteF ?_⟩)⟩
  refine ⟨_, rfl, ixD 2 hd fun _ h2 => ⟨_, _, rfl, h2, ?_⟩⟩
  rw [placeB_ok hu1]
  refine ⟨_, rfl, iteF ?_⟩
  refine ⟨_, rfl, ixD 3 hd fun _ h3 => ⟨_, _, 0, 999, rfl, h3, ?_⟩⟩
  rw [numB_iff hk1.1 hk1.2]
  refine ⟨_, rfl, iteF ?_⟩
  refine ⟨_, rfl, ixD 1 hd fun _ h1 => ⟨_, rfl, ixD 4 hd fun _ h4 => ⟨rfl, ⟨k, _, c, by obtain rfl := dp_str h1; rfl, h4, hc⟩, q⟩⟩⟩

def isPlacing : Bd → Prop
  | .move .. => True
  | .drop .. => True
  | _ => False
def sp_is_placing (K : PySem.W.Frag) : Sp := spYes 1 fun vs H => ∃ v b, vs = [v] ∧ Dp K H v b.d ∧ b.ok ∧ isPlacing b
theorem ok_is_placing_body (T : Tx w K mg e0) : Kn P w K mg base 7 (He.ga K "is_placing_body") ["body"] (sp_is_placing K) := by
  have G_is_place_name : Kn P w K mg base 4 _ _ _ := ok_is_place_name T
  have G_is_number : Kn P w K mg base 2 _ _ _ := ok_is_number T
  refine T.d_is_placing_body.kn sc_is_placing_body (fun _ _ _ _ _ _ us hl => match us, hl with | [_], _ => rfl) (fun vs H Q E h => h.1) (fun cdv A outer s H vs Q E hr h => ?_)
  have hu := hu65 hr
  obtain ⟨_, ⟨v, b, rfl, hd, hb, hp⟩, q⟩ := h
  refine ⟨_, (pss_cons (ps_if (pt_cmpR (op_eqA hu) (pe_ix (ix_any hu) (pv 0) pe_int (fun _ _ => rfl)) pe_str (nomark _)) (pss_one (ps_ret (pe_and (pe_cmpR (op_eqA hu) (pe_callB (cb_len hu) (by rfl) T.b_len (by decide +kernel) (pa_cons (pv 0) pa_nil)) pe_int (nomark _)) (pe_one (pe_fn G_is_place_name (hr.mono (by first | decide | exact Nat.le_refl _ | exact Nat.le_add_right_of_le (by decide) | omega)) T.g_is_place_name (pa_cons (pe_ix (ix_any hu) (pv 0) pe_int (fun _ _ => rfl)) pa_nil)))))) pss_nil)
    (pss_one (ps_ret (pe_and (pe_cmpR (op_eqA hu) (pe_callB (cb_len hu) (by rfl) T.b_len (by decide +kernel) (pa_cons (pv 0) pa_nil)) pe_int (nomark _)) (pe_and (pe_fn G_is_place_name (hr.mono (by first | decide | exact Nat.le_refl _ | exact Nat.le_add_right_of_le (by decide) | omega)) T.g_is_place_name (pa_cons (pe_ix (ix_any hu) (pv 0) pe_int (fun _ _ => rfl)) pa_nil)) (pe_and (pe_fn G_is_place_name (hr.mono (by first | decide | exact Nat.le_refl _ | exact Nat.le_add_right_of_le (by decide) | omega)) T.g_is_place_name (pa_cons (pe_ix (ix_any hu) (pv 0) pe_int (fun _ _ => rfl)) pa_nil)) (pe_one (pe_fn G_is_number (hr.mono (by first | decide | exact Nat.le_refl _ | exact Nat.le_add_right_of_le (by decide) | omega)) T.g_is_number (pa_cons (pe_ix (ix_any hu) (pv 0) pe_int (fun _ _ => rfl)) (pa_cons pe_int (pa_cons (pe_globI rfl T.i_MOST_KEY) pa_nil))))))))))), ?_⟩
  cases b with
  | move t u key =>
    obtain ⟨h1, h2, h3⟩ := hb
    refine ⟨_, rfl, ixD 0 hd fun _ h0 => ?_⟩
    obtain rfl := dp_str h0
    refine eqS ⟨_, rfl, iteF ?_⟩
    refine ⟨_, rfl, lenD hd (eqI ⟨_, rfl, iteT ?_⟩)⟩
    refine ⟨_, rfl, ixD 1 hd fun _ d1 => ⟨_, _, rfl, d1, ?_⟩⟩
    rw [placeB_ok h1]
    refine ⟨_, rfl, iteT ?_⟩
    refine ⟨_, rfl, ixD 2 hd fun _ d2 => ⟨_, _, rfl, d2, ?_⟩⟩
    rw [placeB_ok h2]
    refine ⟨_, rfl, iteT ?_⟩
    refine ⟨_, rfl, ixD 3 hd fun _ d3 => ⟨_, _, 0, 999, rfl, d3, ?_⟩⟩
    rw [numB_iff h3.1 h3.2]
    exact q _ (Same.refl _)
  | drop t =>
    refine ⟨_, rfl, ixD 0 hd fun _ h0 => ?_⟩
    obtain rfl := dp_str h0
    refine eqS ⟨_, rfl, iteT ?_⟩
    refine ⟨_, rfl, lenD hd (eqI ⟨_, rfl, iteT ?_⟩)⟩
    refine ⟨_, rfl, ixD 1 hd fun _ d1 => ⟨_, _, rfl, d1, ?_⟩⟩
    rw [placeB_ok hb]
    exact q _ (Same.refl _)
  | _ => exact hp.elim
def putTab : List (Key × V) := mergeK [] [(.inr "wish", .str "let"), (.inr "point", .str "use"), (.inr "set", .str "number")]
theorem putTab_at (p : Pw) : valV putTab (.inr p.s) = some (.str p.k.s) := by cases p <;> decide +kernel
def isPut : Bd → Prop
  | .put .. => True
  | _ => False
def sp_is_put (K : PySem.W.Frag) : Sp := spYes 1 fun vs H => ∃ v b, vs = [v] ∧ Dp K H v b.d ∧ b.ok ∧ isPut b
theorem ok_is_content_body (T : Tx w K mg e0) : Kn P w K mg base 7 (He.ga K "is_content_body") ["body"] (sp_is_put K) := by
  have G_is_place_name : Kn P w K mg base 4 _ _ _ := ok_is_place_name T
  have G_is_content : Kn P w K mg base 6 _ _ _ := ok_is_content T
  refine T.d_is_content_body.kn sc_is_content_body (fun _ _ _ _ _ _ us hl => match us, hl with | [_], _ => rfl) (fun vs H Q E h => h.1) (fun cdv A outer s H vs Q E hr h => ?_)
  have hu := hu65 hr
  have hu1 := hu_of hr
  obtain ⟨_, ⟨v, b, rfl, hd, hb, hp⟩, q⟩ := h
  refine ⟨_, (pss_cons (ps_if (PW.pt (pw_or (pt_cmpR (op_neA hu) (pe_callB (cb_len hu) (by rfl) T.b_len (by decide +kernel) (pa_cons (pv 0) pa_nil)) pe_int (nomark _)) (pw_or1 (pt_not (pt_val (pe_fn G_is_place_name (hr.mono (by first | decide | exact Nat.le_refl _ | exact Nat.le_add_right_of_le (by decide) | omega)) T.g_is_place_name (pa_cons (pe_ix (ix_any hu) (pv 0) pe_int (fun _ _ => rfl)) pa_nil))))))) (pss_one (ps_ret pe_bl)) pss_nil)
    (pss_cons (ps_set (i := 1) sc_is_content_body.nd rfl (Or.inl rfl) (pe_dget hu1 (pe_disp (pps_cons pe_str pe_str (pps_cons pe_str pe_str (pps_cons pe_str pe_str pps_nil))) (by rfl) (by rfl) (fun z => by cases z) (by decide)) (pe_ix (ix_any hu) (pv 0) pe_int (fun _ _ => rfl)) (fun _ _ => rfl)))
    (pss_one (ps_ret (pe_fn G_is_content (hr.mono (by first | decide | exact Nat.le_refl _ | exact Nat.le_add_right_of_le (by decide) | omega)) T.g_is_content (pa_cons (pv 1) (pa_cons (pe_ix (ix_any hu) (pv 0) pe_int (fun _ _ => rfl)) pa_nil))))))), ?_⟩
  cases b with
  | put p t c =>
    obtain ⟨h1, h2⟩ := hb
    refine ⟨_, rfl, lenD hd (neI ⟨_, rfl, iteF ?_⟩)⟩
    refine ⟨_, rfl, ixD 1 hd fun _ d1 => ⟨_, _, rfl, d1, ?_⟩⟩
    rw [placeB_ok h1]
    refine ⟨_, rfl, iteF fun z hz => ⟨upd_same, [(.inr "wish", .str "let"), (.inr "point", .str "use"), (.inr "set", .str "number")], rfl, by decide, ?_⟩⟩
    have s1 : Same H (upd (upd H z (.dK [])) z (.dK putTab)) := by
      rw [upd_upd]
      exact same_new hz
    have hd' := dp_same s1 hd
    refine ⟨_, rfl, ixD 0 hd' fun _ d0 => ?_⟩
    obtain rfl := dp_str d0
    refine ⟨_, _, rfl, .inl ⟨putTab, .inr p.s, .inl upd_same, rfl, (putTab_at p).symm⟩, ?_⟩
    refine ⟨_, rfl, _, rfl, ixD 2 hd' fun _ d2 => ⟨rfl, ⟨p.k, _, c, rfl, d2, h2⟩, fun H' s' => q _ (s1.trans s')⟩⟩
  | _ => exact hp.elim
end Ss
/-! The predicates on bodies and deeds. -/
namespace Ss
open PySem PySem.Spec PyProof.Rows L2
variable {P : Program} {w : World} {K : PySem.W.Frag} {mg : Str → Option Value} {base : Heap} {e0 : Addr}
def Bd.word : Bd → Str
  | .make .. => "make"
  | .move .. => "move"
  | .drop .. => "drop"
  | .put p .. => p.s
  | .mark r _ => markS r
theorem bd_word {b : Bd} {H : Hp} {v : V} {Q : VK} (hd : Dp K H v b.d) (q : Q (.str b.word) H) : rIxA P w K v (.int 0) H Q := by
  cases b <;> exact ixD 0 hd fun _ h => by obtain rfl := dp_str h; exact q
theorem bd_len {b : Bd} : ∃ ds, b.d = .tuple ds ∧ 2 ≤ ds.length := by
  cases b <;> exact ⟨_, rfl, by simp⟩
def sp_is_body (K : PySem.W.Frag) : Sp := spYes 1 fun vs H => ∃ (v : V) (b : Bd), vs = [v] ∧ Dp K H v b.d ∧ b.ok
theorem in_texts {x : Str} {xs : List Str} : inV (.str x) (xs.map .str) = decide (x ∈ xs) := by
  unfold inV
  induction xs with
  | nil => simp
  | cons y ys ih =>
    rw [List.map_cons, List.any_cons, ih]
    have e : eqV (.str y) (.str x) = decide (x = y) := by
      show decide (y = x) = _
      exact decide_eq_decide.mpr ⟨Eq.symm, Eq.symm⟩
    rw [e]
    by_cases h : x = y <;> simp [h]
def Bd.isMake : Bd → Bool
  | .make .. => true
  | _ => false
def Bd.isPlace : Bd → Bool
  | .move .. => true
  | .drop .. => true
  | _ => false
def Bd.isPut : Bd → Bool
  | .put .. => true
  | _ => false
def Bd.isMark : Bd → Bool
  | .mark .. => true
  | _ => false
def Bd.wn : Bd → Nat
  | .make .. => 0
  | .move .. => 1
  | .drop .. => 2
  | .put .wish .. => 3
  | .put .point .. => 4
  | .put .set .. => 5
  | .mark false _ => 6
  | .mark true _ => 7
def wordN : Nat → Str
  | 0 => "make"
  | 1 => "move"
  | 2 => "drop"
  | 3 => "wish"
  | 4 => "point"
  | 5 => "set"
  | 6 => "undo"
  | _ => "redo"
theorem word_n (b : Bd) : b.word = wordN b.wn ∧ b.wn ∈ List.range 8 ∧ b.isMake = (b.wn == 0) ∧ b.isPlace = (b.wn == 1 || b.wn == 2) ∧ b.isPut = (b.wn == 3 || b.wn == 4 || b.wn == 5) ∧ b.isMark = (b.wn == 6 || b.wn == 7) := by
  cases b with
  | put p => cases p <;> exact ⟨rfl, by simp [Bd.wn], rfl, rfl, rfl, rfl⟩
  | mark r => cases r <;> exact ⟨rfl, by simp [Bd.wn], rfl, rfl, rfl, rfl⟩
  | _ => exact ⟨rfl, by simp [Bd.wn], rfl, rfl, rfl, rfl⟩
theorem word_tab : ∀ i ∈ List.range 8, decide (wordN i = "make") = (i == 0) ∧ inV (.str (wordN i)) [V.str "move", .str "drop"] = (i == 1 || i == 2) ∧ inV (.str (wordN i)) [V.str "wish", .str "point", .str "set"] = (i == 3 || i == 4 || i == 5) ∧
    inV (.str (wordN i)) [V.str "undo", .str "redo"] = (i == 6 || i == 7) := by decide +kernel
theorem word_make (b : Bd) : decide (b.word = "make") = b.isMake := by
  obtain ⟨h, hm, e, _⟩ := word_n b
  rw [h, e]
  exact (word_tab _ hm).1
theorem word_place (b : Bd) : inV (.str b.word) [V.str "move", .str "drop"] = b.isPlace := by
  obtain ⟨h, hm, _, e, _⟩ := word_n b
  rw [h, e]
  exact (word_tab _ hm).2.1
theorem word_put (b : Bd) : inV (.str b.word) [V.str "wish", .str "point", .str "set"] = b.isPut := by
  obtain ⟨h, hm, _, _, e, _⟩ := word_n b
  rw [h, e]
  exact (word_tab _ hm).2.2.1
theorem word_mark (b : Bd) : inV (.str b.word) [V.str "undo", .str "redo"] = b.isMark := by
  obtain ⟨h, hm, _, _, _, e⟩ := word_n b
  rw [h, e]
  exact (word_tab _ hm).2.2.2
theorem ok_is_body (T : Tx w K mg e0) : Kn P w K mg base 8 (He.ga K "is_body") ["value"] (sp_is_body K) := by
  have G_is_stamp : Kn P w K mg base 3 _ _ _ := ok_is_stamp T
  have G_is_make : Kn P w K mg base 7 _ _ _ := ok_is_make T
  have G_is_placing_body : Kn P w K mg base 7 _ _ _ := ok_is_placing_body T
  have G_is_content_body : Kn P w K mg base 7 _ _ _ := ok_is_content_body T
  refine T.d_is_body.kn sc_is_body (fun _ _ _ _ _ _ us hl => match us, hl with | [_], _ => rfl) (fun vs H Q E h => h.1) (fun cdv A outer s H vs Q E hr h => ?_)
  have hu := hu65 hr
  obtain ⟨_, ⟨v, b, rfl, hd, hb⟩, q⟩ := h
  refine ⟨_, (pss_cons (ps_if (PW.pt (pw_or (pt_not (pt_val (pe_callB (cb_isinstance hu) (by rfl) T.b_isinstance (by decide +kernel) (pa_cons (pv 0) (pa_cons (pe_bltn (v := .ty "tuple") (by rfl) T.b_tuple PyProof.Rows.boot_tuple rfl) pa_nil))))) (pw_or (pt_cmpR op_lt (pe_callB (cb_len hu) (by rfl) T.b_len (by decide +kernel) (pa_cons (pv 0) pa_nil)) pe_int (nomark _)) (pw_or1 (pt_not (pt_val (pe_callB (cb_isinstance hu) (by rfl) T.b_isinstance (by decide +kernel) (pa_cons (pe_ix (ix_any hu) (pv 0) pe_int (fun _ _ => rfl)) (pa_cons (pe_bltn (v := .ty "str") (by rfl) T.b_str PyProof.Rows.boot_str rfl) pa_nil))))))))) (pss_one (ps_ret pe_bl)) pss_nil)
    (pss_cons (ps_if (pt_cmpR (op_eqA hu) (pe_ix (ix_any hu) (pv 0) pe_int (fun _ _ => rfl)) pe_str (nomark _)) (pss_one (ps_ret (pe_fn G_is_make (hr.mono (by first | decide | exact Nat.le_refl _ | exact Nat.le_add_right_of_le (by decide) | omega)) T.g_is_make (pa_cons (pv 0) pa_nil)))) pss_nil)
    (pss_cons (ps_if (pt_cmpR (op_inA hu) (pe_ix (ix_any hu) (pv 0) pe_int (fun _ _ => rfl)) (pe_tup (pa_cons pe_str (pa_cons pe_str pa_nil))) (by rfl)) (pss_one (ps_ret (pe_fn G_is_placing_body (hr.mono (by first | decide | exact Nat.le_refl _ | exact Nat.le_add_right_of_le (by decide) | omega)) T.g_is_placing_body (pa_cons (pv 0) pa_nil)))) pss_nil)
    (pss_cons (ps_if (pt_cmpR (op_inA hu) (pe_ix (ix_any hu) (pv 0) pe_int (fun _ _ => rfl)) (pe_tup (pa_cons pe_str (pa_cons pe_str (pa_cons pe_str pa_nil)))) (by rfl)) (pss_one (ps_ret (pe_fn G_is_content_body (hr.mono (by first | decide | exact Nat.le_refl _ | exact Nat.le_add_right_of_le (by decide) | omega)) T.g_is_content_body (pa_cons (pv 0) pa_nil)))) pss_nil)
    (pss_one (ps_ret (pe_and (pe_cmpR (op_inA hu) (pe_ix (ix_any hu) (pv 0) pe_int (fun _ _ => rfl)) (pe_globR rfl T.g_MARK_WORDS) (by rfl)) (pe_and (pe_cmpR (op_eqA hu) (pe_callB (cb_len hu) (by rfl) T.b_len (by decide +kernel) (pa_cons (pv 0) pa_nil)) pe_int (nomark _)) (pe_one (pe_fn G_is_stamp (hr.mono (by first | decide | exact Nat.le_refl _ | exact Nat.le_add_right_of_le (by decide) | omega)) T.g_is_stamp (pa_cons (pe_ix (ix_any hu) (pv 0) pe_int (fun _ _ => rfl)) pa_nil))))))))))), ?_⟩
  obtain ⟨ds, e, hl⟩ := bd_len (b := b)
  refine ⟨_, rfl, isi_d (d := b.d) hd (kit_tuple _) ⟨_, rfl, ?_⟩⟩
  rw [show isTupD b.d = true by rw [e]; rfl]
  refine iteF ?_
  refine ⟨_, rfl, lenD (e ▸ hd) ?_⟩
  refine ⟨_, _, rfl, rfl, _, rfl, ?_⟩
  rw [decide_eq_false (show ¬ ((ds.length : Int) < 2) by omega)]
  refine iteF ⟨_, rfl, bd_word hd ?_⟩
  refine isi_d (.str _) (kit_str _) ⟨_, rfl, iteF ?_⟩
  refine ⟨_, rfl, bd_word hd (eqS ⟨_, rfl, ?_⟩)⟩
  rw [word_make]
  refine ite2 (fun c => ?_) (fun c => ?_)
  · cases b with
    | make k u key x => exact ⟨_, rfl, rfl, ⟨_, k, u, key, x, rfl, hd, hb⟩, q⟩
    | _ => cases c
  refine ⟨_, rfl, bd_word hd ⟨szL, fun p hp => ?_⟩⟩
  refine inNewT (SqT.of upd_same) rfl rfl (word_place b) ⟨_, rfl, ite2 (fun c => ?_) (fun c => ?_)⟩
  · have s1 := same_new (o := .tup [V.str "move", .str "drop"]) hp
    refine ⟨_, rfl, rfl, ⟨_, b, rfl, dp_same s1 hd, hb, ?_⟩, fun H' s' => q _ (s1.trans s')⟩
    cases b with
    | move => trivial
    | drop => trivial
    | _ => cases c
  have s1 := same_new (o := .tup [V.str "move", .str "drop"]) hp
  have hd1 := dp_same s1 hd
  refine ⟨_, rfl, bd_word hd1 ⟨szL, fun p hp => ?_⟩⟩
  refine inNewT (SqT.of upd_same) rfl rfl (word_put b) ⟨_, rfl, ite2 (fun c => ?_) (fun c => ?_)⟩
  · have s2 := s1.trans (same_new (o := .tup [V.str "wish", .str "point", .str "set"]) hp)
    refine ⟨_, rfl, rfl, ⟨_, b, rfl, dp_same s2 hd, hb, ?_⟩, fun H' s' => q _ (s2.trans s')⟩
    cases b with
    | put => trivial
    | _ => cases c
  have s2 := s1.trans (same_new (o := .tup [V.str "wish", .str "point", .str "set"]) hp)
  have hd2 := dp_same s2 hd
  refine ⟨_, rfl, bd_word hd2 (inNewT (T.tu_MARK_WORDS _) rfl rfl (word_mark b) ⟨_, rfl, ?_⟩)⟩
  cases b with
  | mark r t =>
    refine iteT ⟨_, rfl, lenD hd2 (eqI ⟨_, rfl, iteT ?_⟩)⟩
    refine ⟨_, rfl, ixD 1 hd2 fun _ h1 => ⟨_, _, rfl, h1, ?_⟩⟩
    rw [stampB_ok hb]
    exact q _ s2
  | _ => simp_all [Bd.isMake, Bd.isPlace, Bd.isPut]
def sp_is_seen (K : PySem.W.Frag) : Sp := spYes 2 fun vs H => ∃ (v u : V) (seen : List Int) (k : St2), vs = [v, u] ∧ Dp K H v (.tuple (seen.map .int)) ∧ Dp K H u (sD k) ∧ seen.length = 4 ∧ ∀ t ∈ seen, 0 ≤ t ∧ t ≤ k.1 - 1
theorem ok_is_seen (T : Tx w K mg e0) : Kn P w K mg base 8 (He.ga K "is_seen") ["value", "stamp"] (sp_is_seen K) := by
  have G_is_tuple_of : Kn P w K mg base 1 _ _ _ := ok_is_tuple_of T
  have G_is_number : Kn P w K mg base 2 _ _ _ := ok_is_number T
  refine T.d_is_seen.kn sc_is_seen (fun _ _ _ _ _ _ us hl => match us, hl with | [_, _], _ => rfl) (fun vs H Q E h => h.1) (fun cdv A outer s H vs Q E hr h => ?_)
  have hu := hu65 hr
  obtain ⟨_, ⟨v, u, seen, k, rfl, hd, hk, hl, hs⟩, q⟩ := h
  refine ⟨_, (pss_one (ps_ret (pe_and (pe_fn G_is_tuple_of (hr.mono (by first | decide | exact Nat.le_refl _ | exact Nat.le_add_right_of_le (by decide) | omega)) T.g_is_tuple_of (pa_cons (pv 0) (pa_cons (pe_op op_addA (pe_globI rfl T.i_MOST_HAND) pe_int) pa_nil))) (pe_one (pe_callB (cb_all hu) (by rfl) T.b_all (by decide +kernel) (pa_cons (pe_lc (own := [("time", 2)]) (by rfl) sc_is_seen.nd (pi_tup (pv 0)) (blkOk_by (N := n_is_seen) (sc := defScope s_is_seen) (by decide +kernel)) (fun _ _ _ _ _ => (pg_name (i := 2) sc_is_seen.nd rfl (Or.inl rfl))) (fun _ _ _ _ _ => pts_nil) (fun _ _ _ _ _ => (pe_fn G_is_number (hr.mono (by first | decide | exact Nat.le_refl _ | exact Nat.le_add_right_of_le (by decide) | omega)) T.g_is_number (pa_cons (pv 2) (pa_cons pe_int (pa_cons (pe_op op_sub (pe_ix (show IxR _ (rIxA P w K) from (ix_any hu)) (pv 1) pe_int (fun _ _ => rfl)) pe_int) pa_nil)))))) pa_nil)))))), ?_⟩
  refine ⟨_, rfl, addI ⟨_, _, 4, rfl, hd, ?_⟩⟩
  rw [show tupB (.tuple (seen.map .int)) 4 = true by simp [tupB, hl]]
  cases hd with
  | @tup a xs _ h0 ha =>
  have hxl : xs.length = 4 := by rw [dpa_len ha, List.length_map, hl]
  refine ⟨_, rfl, iteT ⟨_, rfl, a, rfl, ⟨xs, h0⟩, fun D hD => ?_⟩⟩
  refine lc_fm walk_tup hD (fun _ => some (.bl true)) (by rw [hxl]; decide) (fun _ s => same_sqt s h0) (fun i x H1 H2 Q2 R hi s1 y q1 q2 => ?_) (fun H1 s1 hl1 => ?_)
  · obtain ⟨rfl, hx⟩ := y
    refine ⟨rfl, ?_⟩
    refine iteT (B := R H2) ?_
    obtain ⟨d, hd, hdp⟩ := dpa_getV ha hx
    obtain ⟨t, ht, rfl⟩ : ∃ t, t ∈ seen ∧ d = .int t := by
      rw [List.getElem?_map] at hd
      cases e : seen[i]? with
      | none => rw [e] at hd; cases hd
      | some t =>
        rw [e] at hd
        exact ⟨t, List.mem_of_getElem? e, (Option.some.inj hd).symm⟩
    refine ⟨_, rfl, _, rfl, ixD 0 (dp_same s1 hk) fun _ h0 => ?_⟩
    obtain rfl := dp_int h0
    refine ⟨_, _, rfl, rfl, _, _, 0, k.1 - 1, rfl, dp_same s1 hdp, ?_⟩
    rw [numB_iff (hs t ht).1 (hs t ht).2]
    exact q1 _ _ rfl (Same.refl _)
  · refine ⟨_, (List.range xs.length).map fun _ => true, rfl, SqL.of (by rw [hl1, List.map_map]; congr 2; simp), ?_⟩
    have e : ((List.range xs.length).map fun _ => true).all id = true := by simp
    rw [e]
    exact q _ s1
def sp_is_deed (K : PySem.W.Frag) : Sp := spYes 1 fun vs H => ∃ (v : V) (x : Dd), vs = [v] ∧ Dp K H v x.d ∧ x.ok
theorem ok_is_deed (T : Tx w K mg e0) : Kn P w K mg base 9 (He.ga K "is_deed") ["value"] (sp_is_deed K) := by
  have G_is_tuple_of : Kn P w K mg base 1 _ _ _ := ok_is_tuple_of T
  have G_is_stamp : Kn P w K mg base 3 _ _ _ := ok_is_stamp T
  have G_is_seen : Kn P w K mg base 8 _ _ _ := ok_is_seen T
  have G_is_body : Kn P w K mg base 8 _ _ _ := ok_is_body T
  refine T.d_is_deed.kn sc_is_deed (fun _ _ _ _ _ _ us hl => match us, hl with | [_], _ => rfl) (fun vs H Q E h => h.1) (fun cdv A outer s H vs Q E hr h => ?_)
  have hu := hu65 hr
  obtain ⟨_, ⟨v, x, rfl, hd, hx⟩, q⟩ := h
  refine ⟨_, (pss_cons (ps_if (PW.pt (pw_or (pt_not (pt_val (pe_fn G_is_tuple_of (hr.mono (by first | decide | exact Nat.le_refl _ | exact Nat.le_add_right_of_le (by decide) | omega)) T.g_is_tuple_of (pa_cons (pv 0) (pa_cons pe_int pa_nil))))) (pw_or1 (pt_not (pt_val (pe_fn G_is_stamp (hr.mono (by first | decide | exact Nat.le_refl _ | exact Nat.le_add_right_of_le (by decide) | omega)) T.g_is_stamp (pa_cons (pe_ix (ix_any hu) (pv 0) pe_int (fun _ _ => rfl)) pa_nil))))))) (pss_one (ps_ret pe_bl)) pss_nil)
    (pss_one (ps_ret (pe_and (pe_fn G_is_seen (hr.mono (by first | decide | exact Nat.le_refl _ | exact Nat.le_add_right_of_le (by decide) | omega)) T.g_is_seen (pa_cons (pe_ix (ix_any hu) (pv 0) pe_int (fun _ _ => rfl)) (pa_cons (pe_ix (ix_any hu) (pv 0) pe_int (fun _ _ => rfl)) pa_nil))) (pe_one (pe_fn G_is_body (hr.mono (by first | decide | exact Nat.le_refl _ | exact Nat.le_add_right_of_le (by decide) | omega)) T.g_is_body (pa_cons (pe_ix (ix_any hu) (pv 0) pe_int (fun _ _ => rfl)) pa_nil))))))), ?_⟩
  refine ⟨_, rfl, _, _, 3, rfl, hd, ?_⟩
  refine ⟨_, rfl, iteF ?_⟩
  refine ⟨_, rfl, ixD 0 hd fun _ h0 => ⟨_, _, rfl, h0, ?_⟩⟩
  rw [stampB_ok hx.st]
  refine ⟨_, rfl, iteF ?_⟩
  refine ⟨_, rfl, ixD 1 hd fun _ h1 => ⟨_, rfl, ixD 0 hd fun _ h2 => ⟨rfl, ⟨_, _, x.seen, x.st, rfl, h1, h2, hx.len, hx.seen⟩, fun H' s' => ?_⟩⟩⟩
  refine ⟨_, rfl, iteT ?_⟩
  have hd' := dp_same s' hd
  refine ⟨_, rfl, ixD 2 hd' fun _ h1 => ⟨rfl, ⟨_, x.bd, rfl, h1, hx.bd⟩, fun H2 s2 => q _ (s'.trans s2)⟩⟩
end Ss
/-! Frames: what a heap keeps but at some places; dicts as tables. -/
namespace Ss
open PySem PySem.Spec PyProof.Rows L2
/-- but at S all stands as it was -/
def Fr (S : List Addr) (H H' : Hp) : Prop := ∀ a u, a ∉ S → H a = some u → H' a = some u
section
variable {S S' : List Addr} {H H1 H2 H' : Hp} {a b : Addr} {o u : HO} {K : PySem.W.Frag} {xs : List V}
theorem Fr.refl : Fr S H H := fun _ _ _ h => h
theorem Fr.trans (h1 : Fr S H H1) (h2 : Fr S H1 H2) : Fr S H H2 := fun a u n h => h2 a u n (h1 a u n h)
theorem Same.fr (h : Same H H') : Fr S H H' := fun a u _ e => h a u e
theorem Fr.same (h : Fr [] H H') : Same H H' := fun a u e => h a u (by simp) e
theorem Fr.mono (h : Fr S H H') (s : ∀ a ∈ S, a ∈ S') : Fr S' H H' := fun a u n e => h a u (fun m => n (s a m)) e
theorem Fr.snew (h : Fr S H H1) (n : H1 a = none) : Fr S H (upd H1 a o) := h.trans (Same.fr (same_new n))
theorem Fr.at (h : Fr S H H1) (m : a ∈ S) : Fr S H (upd H1 a o) := fun b u n e => by
  rw [upd_ne (fun z => n (by rw [z]; exact m))]
  exact h b u n e
theorem Fr.young (h : Fr S H H1) (n : H a = none) : Fr S H (upd H1 a o) := fun b u m e => by
  rw [upd_ne (ne_of_none e n)]
  exact h b u m e
/-- what was new at the start may be among S -/
theorem Fr.drop (h : Fr (a :: S) H H') (n : H a = none) : Fr S H H' := fun b u m e => h b u (by
  intro z
  rcases List.mem_cons.mp z with rfl | z
  · rw [n] at e; cases e
  · exact m z) e
theorem Fr.get (h : Fr S H H') (e : H a = some u) (n : a ∉ S) : H' a = some u := h a u n e
/-- no tuple here -/
def NT (H : Hp) (a : Addr) : Prop := ∀ xs, ¬ Rd H a (.tup xs)
theorem nt_of (h : H a = some u) (nt : ∀ xs, u ≠ .tup xs) (nf : ∀ ob xs, u ≠ .frz ob (.tup xs)) : NT H a := fun xs r => by
  rcases r with r | ⟨ob, r⟩
  · exact nt xs (Option.some.inj (h.symm.trans r))
  · exact nf ob xs (Option.some.inj (h.symm.trans r))
theorem nt_lst (h : H a = some (.lst xs)) : NT H a := nt_of h (fun _ z => nomatch z) (fun _ _ z => nomatch z)
theorem nt_ins {C dx : Addr} {fs : List (Str × V)} (h : H a = some (.ins C dx fs)) : NT H a := nt_of h (fun _ z => nomatch z) (fun _ _ z => nomatch z)
theorem nt_do {P : Program} {w : World} {es : List Ent} (h : H a = some (DO P w b es)) : NT H a := nt_of h (fun _ z => nomatch z) (fun _ _ z => nomatch z)
theorem nt_none (h : H a = none) : NT H a := fun xs r => by
  rcases r with r | ⟨ob, r⟩ <;> rw [h] at r <;> cases r
theorem Fr.rd (h : Fr S H H') (n : a ∉ S) (r : Rd H a o) : Rd H' a o := by
  rcases r with r | ⟨ob, r⟩
  · exact .inl (h a _ n r)
  · exact .inr ⟨ob, h a _ n r⟩
theorem Fr.tup (h : Fr S H H') (nt : ∀ a ∈ S, NT H a) : TupLe H H' := fun K b xs q => by
  rcases q with q | q
  · exact .inl (h.rd (fun m => nt b m xs q) q)
  · exact .inr q
theorem Fr.sql (h : Fr S H H') (n : a ∉ S) (q : SqL K H a xs) : SqL K H' a xs := by
  rcases q with q | q
  · exact .inl (h.rd n q)
  · exact .inr q
/-- no tuple, no list here -/
def NL (H : Hp) (a : Addr) : Prop := (∀ xs, ¬ Rd H a (.tup xs)) ∧ ∀ xs, ¬ Rd H a (.lst xs)
theorem nl_of (h : H a = some u) (nt : ∀ xs, u ≠ .tup xs) (nf : ∀ ob xs, u ≠ .frz ob (.tup xs)) (lt : ∀ xs, u ≠ .lst xs) (lf : ∀ ob xs, u ≠ .frz ob (.lst xs)) : NL H a := ⟨nt_of h nt nf, fun xs r => by
  rcases r with r | ⟨ob, r⟩
  · exact lt xs (Option.some.inj (h.symm.trans r))
  · exact lf ob xs (Option.some.inj (h.symm.trans r))⟩
theorem nl_ins {C dx : Addr} {fs : List (Str × V)} (h : H a = some (.ins C dx fs)) : NL H a := nl_of h (fun _ z => nomatch z) (fun _ _ z => nomatch z) (fun _ z => nomatch z) (fun _ _ z => nomatch z)
theorem nl_do {P : Program} {w : World} {es : List Ent} (h : H a = some (DO P w b es)) : NL H a := nl_of h (fun _ z => nomatch z) (fun _ _ z => nomatch z) (fun _ z => nomatch z) (fun _ _ z => nomatch z)
theorem nl_none (h : H a = none) : NL H a := by
  refine ⟨nt_none h, fun xs r => ?_⟩
  rcases r with r | ⟨ob, r⟩ <;> rw [h] at r <;> cases r
/-- tuples and lists as they were -/
def LTLe (H H' : Hp) : Prop := TupLe H H' ∧ ∀ (K : PySem.W.Frag) (a : Addr) (xs : List V), SqL K H a xs → SqL K H' a xs
theorem Fr.lt (h : Fr S H H') (nl : ∀ a ∈ S, NL H a) : LTLe H H' :=
  ⟨h.tup fun a m => (nl a m).1, fun K b xs q => by
    rcases q with q | q
    · exact .inl (h.rd (fun m => (nl b m).2 xs q) q)
    · exact .inr q⟩
theorem Same.lt (h : Same H H') : LTLe H H' := (Same.fr (S := []) h).lt (by simp)
theorem lt_upd (nl : NL H a) : LTLe H (upd H a o) := (Fr.at (S := [a]) Fr.refl (by simp)).lt (by simpa using nl)
end
/-! ### tables -/
section
variable {α β : Type}
abbrev Tb (α : Type) := List (St2 × α)
def lk (m : Tb α) (k : St2) : Option α := (m.find? fun x => decide (x.1 = k)).map (·.2)
def putM (m : Tb α) (k : St2) (x : α) : Tb α := if (lk m k).isSome then m.map (fun e => if e.1 = k then (e.1, x) else e) else m ++ [(k, x)]
theorem lk_nil {k : St2} : lk ([] : Tb α) k = none := rfl
theorem lk_cons {e : St2 × α} {m : Tb α} {k : St2} : lk (e :: m) k = if e.1 = k then some e.2 else lk m k := by
  unfold lk
  rw [List.find?_cons]
  by_cases h : e.1 = k <;> simp [h]
theorem lk_append {m n : Tb α} {k : St2} : lk (m ++ n) k = (lk m k).or (lk n k) := by
  unfold lk
  rw [List.find?_append]
  cases m.find? fun x => decide (x.1 = k) <;> rfl
theorem lk_mem {m : Tb α} {k : St2} {x : α} (h : lk m k = some x) : (k, x) ∈ m := by
  unfold lk at h
  cases q : m.find? fun x => decide (x.1 = k) with
  | none => rw [q] at h; cases h
  | some e =>
    rw [q] at h
    have e1 := of_decide_eq_true (List.find?_some (p := fun x : St2 × α => decide (x.1 = k)) q)
    have e2 : e.2 = x := Option.some.inj h
    have := List.mem_of_find?_eq_some q
    rw [← e1, ← e2]
    exact this
theorem lk_none {m : Tb α} {k : St2} : lk m k = none ↔ k ∉ m.map (·.1) := by
  induction m with
  | nil => simp [lk]
  | cons e r ih =>
    rw [lk_cons, List.map_cons, List.mem_cons, not_or]
    by_cases h : e.1 = k
    · subst h
      simp
    · rw [if_neg h, ih]
      exact ⟨fun z => ⟨fun q => h q.symm, z⟩, fun z => z.2⟩
theorem lk_some {m : Tb α} {k : St2} : (lk m k).isSome = true ↔ k ∈ m.map (·.1) := by
  cases h : lk m k with
  | none => simpa using lk_none.mp h
  | some x => exact ⟨fun _ => List.mem_map_of_mem (f := (·.1)) (lk_mem h), fun _ => rfl⟩
theorem lk_of_mem {m : Tb α} {k : St2} {x : α} (nd : (m.map (·.1)).Nodup) (h : (k, x) ∈ m) : lk m k = some x := by
  induction m with
  | nil => simp at h
  | cons e r ih =>
    rw [List.map_cons, List.nodup_cons] at nd
    rw [lk_cons]
    rcases List.mem_cons.mp h with h | h
    · subst h
      simp
    · rw [if_neg (fun z => nd.1 (by rw [z]; exact List.mem_map_of_mem (f := (·.1)) h))]
      exact ih nd.2 h
theorem lk_mapput {m : Tb α} {k j : St2} {x : α} : lk (m.map fun e => if e.1 = k then (e.1, x) else e) j = (lk m j).map fun y => if j = k then x else y := by
  induction m with
  | nil => rfl
  | cons e r ih =>
    rw [List.map_cons, lk_cons, lk_cons, ih]
    by_cases h : e.1 = k
    · rw [if_pos h]
      by_cases h2 : e.1 = j
      · rw [if_pos h2, if_pos h2]
        simp [← h2, h]
      · rw [if_neg h2, if_neg h2]
    · rw [if_neg h]
      by_cases h2 : e.1 = j
      · rw [if_pos h2, if_pos h2]
        simp [← h2, h]
      · rw [if_neg h2, if_neg h2]
theorem lk_put {m : Tb α} {k j : St2} {x : α} : lk (putM m k x) j = if j = k then some x else lk m j := by
  unfold putM
  by_cases h : (lk m k).isSome
  · rw [if_pos h, lk_mapput]
    by_cases h2 : j = k
    · subst h2
      rw [if_pos rfl]
      cases q : lk m j with
      | none => rw [q] at h; cases h
      | some y => simp
    · rw [if_neg h2]
      cases q : lk m j <;> simp [h2]
  · rw [if_neg h, lk_append, lk_cons]
    by_cases h2 : j = k
    · subst h2
      have : lk m j = none := by simpa using h
      simp [this]
    · rw [if_neg h2, if_neg (fun z => h2 z.symm)]
      simp [lk_nil]
theorem putM_len {m : Tb α} {k : St2} {x : α} : (putM m k x).length ≤ m.length + 1 := by
  unfold putM
  by_cases h : (lk m k).isSome
  · rw [if_pos h]; simp
  · rw [if_neg h]; simp
theorem putM_old {m : Tb α} {k : St2} {x : α} (h : (lk m k).isSome = true) : (putM m k x).map (·.1) = m.map (·.1) := by
  unfold putM
  rw [if_pos h, List.map_map]
  apply List.map_congr_left
  intro e _
  show (if e.1 = k then (e.1, x) else e).1 = e.1
  by_cases q : e.1 = k <;> simp [q]
theorem putM_new {m : Tb α} {k : St2} {x : α} (h : lk m k = none) : putM m k x = m ++ [(k, x)] := by
  unfold putM
  rw [if_neg (by rw [h]; simp)]
theorem putM_keys {m : Tb α} {k j : St2} {x : α} : j ∈ (putM m k x).map (·.1) ↔ j = k ∨ j ∈ m.map (·.1) := by
  rw [← lk_some, lk_put, ← lk_some]
  by_cases h : j = k <;> simp [h]
theorem putM_nodup {m : Tb α} {k : St2} {x : α} (nd : (m.map (·.1)).Nodup) : ((putM m k x).map (·.1)).Nodup := by
  cases h : lk m k with
  | some y => rw [putM_old (by rw [h]; rfl)]; exact nd
  | none =>
    rw [putM_new h, List.map_append, List.nodup_append]
    refine ⟨nd, by simp, fun a ha b hb e => ?_⟩
    simp at hb
    subst hb
    subst e
    exact lk_none.mp h ha
end
/-! ### dicts by tables -/
section
variable {α : Type} {P : Program} {w : World} {K : PySem.W.Frag} {R : Hp → V → α → Prop} {H H' : Hp} {a b : Addr} {es : List Ent} {m : Tb α} {k : St2} {x : α} {v y : V} {Q : VK}
/-- entries and a table -/
def DE (K : PySem.W.Frag) (R : Hp → V → α → Prop) (H : Hp) (es : List Ent) (m : Tb α) : Prop := Paired (fun (e : Ent) (x : St2 × α) => e.1 = x.1 ∧ SqT K H e.2.1 (sval e.1) ∧ R H e.2.2 x.2) es m
/-- a dict -/
def DM (P : Program) (w : World) (K : PySem.W.Frag) (R : Hp → V → α → Prop) (H : Hp) (a : Addr) (m : Tb α) : Prop := ∃ es, H a = some (DO P w a es) ∧ DE K R H es m
/-- a locked one -/
def DL (P : Program) (w : World) (K : PySem.W.Frag) (R : Hp → V → α → Prop) (H : Hp) (a : Addr) (o : Obj) (m : Tb α) : Prop := ∃ es, H a = some (.frz o (DO P w a es)) ∧ DE K R H es m
/-- what may be read as one -/
def DR (P : Program) (w : World) (K : PySem.W.Frag) (R : Hp → V → α → Prop) (H : Hp) (a : Addr) (m : Tb α) : Prop := ∃ es, Rd H a (DO P w a es) ∧ DE K R H es m
theorem DM.r (h : DM P w K R H a m) : DR P w K R H a m := let ⟨es, e, d⟩ := h; ⟨es, .inl e, d⟩
theorem DL.r {o : Obj} (h : DL P w K R H a o m) : DR P w K R H a m := let ⟨es, e, d⟩ := h; ⟨es, .inr ⟨o, e⟩, d⟩
theorem DE.ks (d : DE K R H es m) : ∀ e ∈ es, SqT K H e.2.1 (sval e.1) := by
  unfold DE at d
  induction d with
  | nil => simp
  | cons r t ih =>
    intro e he
    rcases List.mem_cons.mp he with rfl | he
    · exact r.2.1
    · exact ih e he
theorem DE.len (d : DE K R H es m) : es.length = m.length := by
  unfold DE at d
  induction d with
  | nil => rfl
  | cons r t ih => simp [ih]
theorem DE.keys (d : DE K R H es m) : es.map (·.1) = m.map (·.1) := by
  unfold DE at d
  induction d with
  | nil => rfl
  | cons r t ih => simp [ih, r.1]
theorem DE.look (d : DE K R H es m) (k : St2) : (lookE es k = none ∧ lk m k = none) ∨ ∃ v x, lookE es k = some v ∧ lk m k = some x ∧ R H v x := by
  unfold DE at d
  induction d with
  | nil => exact .inl ⟨rfl, rfl⟩
  | @cons e x es m r t ih =>
    rw [lookE_cons, lk_cons, ← r.1]
    by_cases h : e.1 = k
    · rw [if_pos h, if_pos h]
      exact .inr ⟨_, _, rfl, rfl, r.2.2⟩
    · rw [if_neg h, if_neg h]
      exact ih
theorem DE.at (d : DE K R H es m) {i : Nat} {e : Ent} (h : es[i]? = some e) : ∃ x, m[i]? = some x ∧ e.1 = x.1 ∧ SqT K H e.2.1 (sval e.1) ∧ R H e.2.2 x.2 := paired_at d h
theorem DE.mono {R' : Hp → V → α → Prop} (d : DE K R H es m) (t : TupLe H H') (st : ∀ v x, R H v x → R' H' v x) : DE K R' H' es m := by
  unfold DE at d ⊢
  induction d with
  | nil => exact .nil
  | cons r _ ih => exact .cons ⟨r.1, t _ _ _ r.2.1, st _ _ r.2.2⟩ ih
theorem DE.append {n : Tb α} {fs : List Ent} (d : DE K R H es m) (e : DE K R H fs n) : DE K R H (es ++ fs) (m ++ n) := by
  unfold DE at *
  induction d with
  | nil => exact e
  | cons r _ ih => exact .cons r ih
theorem DE.put (d : DE K R H es m) (hb : SqT K H b (sval k)) (hv : R H v x) : DE K R H (putE es k b v) (putM m k x) := by
  unfold putE putM
  have e : (lookE es k).isSome = (lk m k).isSome := by
    rcases d.look k with ⟨h1, h2⟩ | ⟨v, x, h1, h2, _⟩ <;> rw [h1, h2] <;> rfl
  rw [e]
  by_cases h : (lk m k).isSome = true
  · rw [if_pos h, if_pos h]
    clear e h
    unfold DE at d ⊢
    induction d with
    | nil => exact .nil
    | @cons e z es m r t ih =>
      rw [List.map_cons, List.map_cons]
      refine .cons ?_ ih
      by_cases q : e.1 = k
      · rw [if_pos q, if_pos (r.1 ▸ q)]
        exact ⟨r.1, r.2.1, hv⟩
      · rw [if_neg q, if_neg (r.1 ▸ q)]
        exact r
  · rw [if_neg h, if_neg h]
    exact d.append (.cons ⟨rfl, hb, hv⟩ .nil)
/-- values that heaps keep with their tuples and lists; with their tuples alone -/
def Stb (R : Hp → V → α → Prop) : Prop := ∀ H H' v x, LTLe H H' → R H v x → R H' v x
def StbT (R : Hp → V → α → Prop) : Prop := ∀ H H' v x, TupLe H H' → R H v x → R H' v x
theorem StbT.stb (h : StbT R) : Stb R := fun H H' v x l r => h H H' v x l.1 r
theorem DM.moveL (h : DM P w K R H a m) (st : Stb R) (l : LTLe H H') (e : ∀ u, H a = some u → H' a = some u) : DM P w K R H' a m := let ⟨es, q, d⟩ := h; ⟨es, e _ q, d.mono l.1 fun v x r => st _ _ v x l r⟩
theorem DM.moveT (h : DM P w K R H a m) (st : StbT R) (l : TupLe H H') (e : ∀ u, H a = some u → H' a = some u) : DM P w K R H' a m := let ⟨es, q, d⟩ := h; ⟨es, e _ q, d.mono l fun v x r => st _ _ v x l r⟩
theorem DM.same (h : DM P w K R H a m) (st : Stb R) (s : Same H H') : DM P w K R H' a m := h.moveL st (Same.lt s) fun _ e => s _ _ e
theorem DR.same (h : DR P w K R H a m) (st : Stb R) (s : Same H H') : DR P w K R H' a m := by
  obtain ⟨es, q, d⟩ := h
  refine ⟨es, ?_, d.mono (Same.lt s).1 fun v x r => st _ _ v x (Same.lt s) r⟩
  rcases q with q | ⟨o, q⟩
  · exact .inl (s _ _ q)
  · exact .inr ⟨o, s _ _ q⟩
theorem dgetR (h : DR P w K R H a m) (hy : Dp K H y (sD k)) (hx : lk m k = some x) (q : ∀ v, R H v x → Q v H) : rIxA P w K (.ref a) y H Q := by
  obtain ⟨es, e, d⟩ := h
  obtain ⟨b, rfl, hb⟩ := stamp_dp hy
  rcases d.look k with ⟨_, z⟩ | ⟨v, x', h1, h2, r⟩
  · rw [hx] at z; cases z
  · obtain rfl : x = x' := Option.some.inj (hx.symm.trans h2)
    exact .inr (.inr ⟨a, es, b, k, v, rfl, rfl, ⟨e, d.ks⟩, hb, h1, q v r⟩)
theorem dinR (h : DR P w K R H a m) (hy : Dp K H y (sD k)) (q : Q (.bl (lk m k).isSome) H) : rInA P w K false y (.ref a) H Q := by
  obtain ⟨es, e, d⟩ := h
  obtain ⟨b, rfl, hb⟩ := stamp_dp hy
  refine .inr (.inr ⟨a, es, b, k, rfl, rfl, ⟨e, d.ks⟩, hb, ?_⟩)
  have : (lookE es k).isSome = (lk m k).isSome := by
    rcases d.look k with ⟨h1, h2⟩ | ⟨v, x, h1, h2, _⟩ <;> rw [h1, h2] <;> rfl
  rw [this]
  exact q
theorem dninR (h : DR P w K R H a m) (hy : Dp K H y (sD k)) (q : Q (.bl (!(lk m k).isSome)) H) : rInA P w K true y (.ref a) H Q := by
  obtain ⟨es, e, d⟩ := h
  obtain ⟨b, rfl, hb⟩ := stamp_dp hy
  refine .inr (.inr ⟨a, es, b, k, rfl, rfl, ⟨e, d.ks⟩, hb, ?_⟩)
  have : (lookE es k).isSome = (lk m k).isSome := by
    rcases d.look k with ⟨h1, h2⟩ | ⟨v, x, h1, h2, _⟩ <;> rw [h1, h2] <;> rfl
  rw [this]
  exact q
/-- d[k] = v -/
theorem DM.put {N : Hp → Prop} (h : DM P w K R H a m) (st : Stb R) (hy : Dp K H y (sD k)) (hv : R H v x) (hl : m.length < sizeLine)
    (q : ∀ es, DM P w K R (upd H a (DO P w a es)) a (putM m k x) → LTLe H (upd H a (DO P w a es)) → N (upd H a (DO P w a es))) : sAny P w K (.ref a) y v H N := by
  obtain ⟨es, e, d⟩ := h
  obtain ⟨b, rfl, hb⟩ := stamp_dp hy
  have l : LTLe H (upd H a (DO P w a (putE es k b v))) := lt_upd (nl_do e)
  exact .inr ⟨a, es, b, k, rfl, rfl, ⟨e, d.ks⟩, hb, by rw [d.len]; exact hl, q _ ⟨_, upd_same, (d.put hb hv).mono l.1 fun v x r => st _ _ v x l r⟩ l⟩
theorem dlenR (h : DR P w K R H a m) (q : Q (.int m.length) H) : rLenA P w K [.ref a] H Q := by
  obtain ⟨es, e, d⟩ := h
  refine .inr ⟨a, es, rfl, ⟨e, d.ks⟩, ?_⟩
  rw [d.len]
  exact q
/-- values that are data without lists -/
def RD (K : PySem.W.Frag) (f : α → PyData) : Hp → V → α → Prop := fun H v x => Dp K H v (f x) ∧ imm (f x) = true
theorem rd_stb {f : α → PyData} : StbT (RD K f) := fun _ _ _ _ t r => ⟨dp_tup t r.2 r.1, r.2⟩
/-- values that are lists of stamps -/
def RLs (K : PySem.W.Frag) : Hp → V → List St2 → Prop := fun H v l => ∃ b vs, v = .ref b ∧ SqL K H b vs ∧ DpAll K H vs (l.map sD)
theorem immAll_sD : ∀ l : List St2, immAll (l.map sD) = true
  | [] => rfl
  | k :: l => by simp [immAll, imm_sD, immAll_sD l]
theorem rls_stb : Stb (RLs K) := fun _ _ _ _ t ⟨b, vs, e, h, d⟩ => ⟨b, vs, e, t.2 _ _ _ h, dpa_tup t.1 (immAll_sD _) d⟩
end
end Ss
/-! Comprehensions that make data. -/
namespace Ss
open PySem PySem.Spec PyProof.Rows L2
theorem dpa_append {K : PySem.W.Frag} {H : Hp} : ∀ {ds es : List PyData} {vs us : List V}, DpAll K H vs ds → DpAll K H us es → DpAll K H (vs ++ us) (ds ++ es)
  | _, _, _, _, .nil, h => h
  | _, _, _, _, .cons a t, h => .cons a (dpa_append t h)
theorem range_fm2 {α : Type} {f : Nat → Option α} (i : Nat) : (List.range (i + 1)).filterMap f = (List.range i).filterMap f ++ (match f i with | some v => [v] | none => []) := by
  rw [List.range_succ, List.filterMap_append]
  congr 1
  cases h : f i <;> simp [List.filterMap_cons, h]
theorem range_bind {α β : Type} (xs : List α) (f : α → Option β) : (List.range xs.length).filterMap (fun i => (xs[i]?).bind f) = xs.filterMap f := by
  induction xs with
  | nil => rfl
  | cons x xs ih =>
    rw [List.length_cons, List.range_succ_eq_map, List.filterMap_cons, List.filterMap_map, List.filterMap_cons]
    have e : (List.range xs.length).filterMap ((fun i => ((x :: xs)[i]?).bind f) ∘ Nat.succ) = xs.filterMap f := by
      rw [← ih]
      rfl
    rw [e]
    rfl
theorem immAll_append : ∀ {ds es : List PyData}, immAll (ds ++ es) = (immAll ds && immAll es)
  | [], es => rfl
  | d :: ds, es => by rw [List.cons_append]; show (imm d && immAll (ds ++ es)) = ((imm d && immAll ds) && immAll es); rw [immAll_append, Bool.and_assoc]
theorem immAll_of : ∀ {ds : List PyData}, (∀ d ∈ ds, imm d = true) → immAll ds = true
  | [], _ => rfl
  | d :: ds, h => by
    show (imm d && immAll ds) = true
    rw [h d (List.mem_cons_self ..), immAll_of fun e he => h e (List.mem_cons_of_mem _ he)]
    rfl
section
variable {K : PySem.W.Frag} {J : It} {n : Nat} {G : Hp → Prop} {Y : Nat → Hp → V → Hp → Prop} {g : TG} {tt : TT} {te tk tv : TE} {vs : List Nat} {σ : L2.St} {H1 : Hp} {D : Addr} {Qd : Hp → Prop}
/-- a list of data: turn i gives the data f i, or nothing; the heap only grows -/
theorem lc_dp (w : Walk J n G Y) (hD : H1 D = none) (f : Nat → Option PyData) (hz : n < sizeLine) (hf : ∀ i d, i < n → f i = some d → imm d = true) (hG : ∀ H, Same H1 H → G H)
    (hs : ∀ (i : Nat) (x : V) (H H' : Hp) (Q : VK) (R : Hp → Prop), i < n → Same H1 H → Y i H x H' → (∀ v d H4, f i = some d → Dp K H4 v d → Same H H4 → Q v H4) → (∀ H4, f i = none → Same H H4 → R H4) →
      g x (wipe σ vs) H' fun σ2 H2 => wipe σ2 vs = wipe σ vs ∧ tt σ2 H2 fun b H3 => if b = true then te σ2 H3 Q else R H3)
    (hd : ∀ H us, Same H1 H → H D = some (.lst us) → DpAll K H us ((List.range n).filterMap f) → Qd H) :
    ∃ W : Nat → Nat → Hp → Prop, (∃ m, W 0 m (upd H1 D (.lst []))) ∧ ∀ i m H, W i m H →
      (J.stop i H ∧ Qd H) ∨ (J.go i H ∧ ∃ Nx : Hp → Prop, (∀ H', Nx H' → ∃ m', m' < m ∧ W (i + 1) m' H') ∧ ∀ x H', J.yld i H x H' → g x (wipe σ vs) H' fun σ2 H2 => wipe σ2 vs = wipe σ vs ∧ tt σ2 H2 fun b H3 =>
        if b = true then te σ2 H3 fun y H4 => ∃ acc, H4 D = some (.lst acc) ∧ acc.length < sizeLine ∧ Nx (upd H4 D (.lst (acc ++ [y]))) else Nx H3) := by
  refine lc_it w (fun i H => i ≤ n ∧ Same H1 H ∧ ∃ us, H D = some (.lst us) ∧ us.length ≤ i ∧ DpAll K H us ((List.range i).filterMap f)) ⟨Nat.zero_le _, same_new hD, [], upd_same, Nat.le_refl _, .nil⟩ (fun i H _ p => hG H p.2.1) ?_ (fun H p => by
    obtain ⟨_, s, us, h, _, d⟩ := p
    exact hd H us s h d)
  rintro i x H H' hi ⟨hin, a, us, b, hl, d⟩ y
  have hall : ∀ j ≤ n, immAll ((List.range j).filterMap f) = true := fun j hj => immAll_of fun e he => by
    obtain ⟨k, hk, e1⟩ := List.mem_filterMap.mp he
    exact hf k e (Nat.lt_of_lt_of_le (List.mem_range.mp hk) hj) e1
  refine hs i x H H' _ _ hi a y (fun v e H4 hfi hv s4 => ⟨_, s4 _ _ b, Nat.lt_of_le_of_lt (Nat.le_trans hl hin) hz, hi, same_mut (a.trans s4) hD, us ++ [v], upd_same, by simp; exact hl, ?_⟩) (fun H4 hfi s4 => ⟨hi, a.trans s4, us, s4 _ _ b, Nat.le_succ_of_le hl, ?_⟩)
  · have t : TupLe H4 (upd H4 D (.lst (us ++ [v]))) := tup_lst (s4 _ _ b)
    rw [range_fm2, hfi]
    exact dpa_append (dpa_tup ((Same.tup s4).trans t) (hall i hin) d) (.cons (dp_tup t (hf i e hi hfi) hv) .nil)
  · rw [range_fm2, hfi, List.append_nil]
    exact dpa_same s4 d
end
theorem dpa_bools {K : PySem.W.Frag} {H : Hp} : ∀ {bs : List Bool} {us : List V}, DpAll K H us (bs.map .bool) → us = bs.map .bl
  | [], _, .nil => rfl
  | b :: bs, _, .cons h t => by cases h; rw [dpa_bools t]; rfl
theorem dpa_ints {K : PySem.W.Frag} {H : Hp} : ∀ {bs : List Int} {us : List V}, DpAll K H us (bs.map .int) → us = bs.map .int
  | [], _, .nil => rfl
  | b :: bs, _, .cons h t => by cases h; rw [dpa_ints t]; rfl
theorem dpa_mem {α : Type} {K : PySem.W.Frag} {H : Hp} {fD : α → PyData} {xs : List α} {us : List V} {i : Nat} {v : V} (h : DpAll K H us (xs.map fD)) (e : us[i]? = some v) : ∃ a, xs[i]? = some a ∧ Dp K H v (fD a) := by
  obtain ⟨d, hd, hv⟩ := dpa_getV h e
  rw [List.getElem?_map] at hd
  cases q : xs[i]? with
  | none => rw [q] at hd; cases hd
  | some a =>
    rw [q] at hd
    obtain rfl : fD a = d := Option.some.inj hd
    exact ⟨a, rfl, hv⟩
section
variable {K : PySem.W.Frag} {g : TG} {tt : TT} {te : TE} {vs : List Nat} {σ : L2.St} {H1 : Hp} {D l : Addr} {Qd : Hp → Prop} {us : List V} {α : Type}
theorem lc_src {J : It} {G : Hp → Prop} (w : Walk J us.length G (YAt us)) (hG : ∀ H, Same H1 H → G H) (xs : List α) (fD : α → PyData) (f : α → Option PyData) (hus : DpAll K H1 us (xs.map fD)) (hD : H1 D = none) (hz : xs.length < sizeLine)
    (hf : ∀ a ∈ xs, ∀ d, f a = some d → imm d = true)
    (hs : ∀ (a : α) (v : V) (H : Hp) (Q : VK) (R : Hp → Prop), a ∈ xs → Same H1 H → Dp K H v (fD a) → (∀ y d H4, f a = some d → Dp K H4 y d → Same H H4 → Q y H4) → (∀ H4, f a = none → Same H H4 → R H4) →
      g v (wipe σ vs) H fun σ2 H2 => wipe σ2 vs = wipe σ vs ∧ tt σ2 H2 fun b H3 => if b = true then te σ2 H3 Q else R H3)
    (hd : ∀ H ws, Same H1 H → H D = some (.lst ws) → DpAll K H ws (xs.filterMap f) → Qd H) :
    ∃ W : Nat → Nat → Hp → Prop, (∃ m, W 0 m (upd H1 D (.lst []))) ∧ ∀ i m H, W i m H →
      (J.stop i H ∧ Qd H) ∨ (J.go i H ∧ ∃ Nx : Hp → Prop, (∀ H', Nx H' → ∃ m', m' < m ∧ W (i + 1) m' H') ∧ ∀ x H', J.yld i H x H' → g x (wipe σ vs) H' fun σ2 H2 => wipe σ2 vs = wipe σ vs ∧ tt σ2 H2 fun b H3 =>
        if b = true then te σ2 H3 fun y H4 => ∃ acc, H4 D = some (.lst acc) ∧ acc.length < sizeLine ∧ Nx (upd H4 D (.lst (acc ++ [y]))) else Nx H3) := by
  have hlen : us.length = xs.length := by rw [dpa_len hus, List.length_map]
  refine lc_dp (K := K) w hD (fun i => (xs[i]?).bind f) (by rw [hlen]; exact hz) ?_ hG (fun i x H2 H3 Q2 R hi s2 y q1 q2 => ?_) (fun H ws s e d => hd H ws s e ?_)
  · intro i d _ e
    cases h : xs[i]? with
    | none => rw [h] at e; cases e
    | some a =>
      rw [h] at e
      exact hf a (List.mem_of_getElem? h) d e
  · obtain ⟨rfl, hx⟩ := y
    obtain ⟨a, ha, hv⟩ := dpa_mem hus hx
    rw [show (xs[i]?).bind f = f a by rw [ha]; rfl] at q1 q2
    exact hs a x _ Q2 R (List.mem_of_getElem? ha) s2 (dp_same s2 hv) q1 q2
  · rw [hlen, range_bind] at d
    exact d
end
section
variable {P : Program} {w : World} {K : PySem.W.Frag} {g : TG} {tt : TT} {te : TE} {vs : List Nat} {σ : L2.St} {H1 : Hp} {D a : Addr} {o : Obj} {es : List Ent} {Qd : Hp → Prop} {α : Type} {R : Hp → V → α → Prop}
/-- over the keys of a locked dict -/
theorem lc_kd (m : Tb α) (hat : H1 a = some (.frz o (DO P w a es))) (hE : DE K R H1 es m) (f : St2 × α → Option PyData) (hD : H1 D = none) (hz : m.length < sizeLine) (hf : ∀ x ∈ m, ∀ d, f x = some d → imm d = true)
    (hs : ∀ (x : St2 × α) (v : V) (H : Hp) (Q : VK) (R : Hp → Prop), x ∈ m → Same H1 H → Dp K H v (sD x.1) → (∀ y d H4, f x = some d → Dp K H4 y d → Same H H4 → Q y H4) → (∀ H4, f x = none → Same H H4 → R H4) →
      g v (wipe σ vs) H fun σ2 H2 => wipe σ2 vs = wipe σ vs ∧ tt σ2 H2 fun b H3 => if b = true then te σ2 H3 Q else R H3)
    (hd : ∀ H ws, Same H1 H → H D = some (.lst ws) → DpAll K H ws (m.filterMap f) → Qd H) :
    ∃ W : Nat → Nat → Hp → Prop, (∃ m, W 0 m (upd H1 D (.lst []))) ∧ ∀ i m H, W i m H →
      ((ItKd P w a o es).stop i H ∧ Qd H) ∨ ((ItKd P w a o es).go i H ∧ ∃ Nx : Hp → Prop, (∀ H', Nx H' → ∃ m', m' < m ∧ W (i + 1) m' H') ∧ ∀ x H', (ItKd P w a o es).yld i H x H' → g x (wipe σ vs) H' fun σ2 H2 => wipe σ2 vs = wipe σ vs ∧ tt σ2 H2 fun b H3 =>
        if b = true then te σ2 H3 fun y H4 => ∃ acc, H4 D = some (.lst acc) ∧ acc.length < sizeLine ∧ Nx (upd H4 D (.lst (acc ++ [y]))) else Nx H3) := by
  have hlen := hE.len
  refine lc_dp (K := K) walk_kd hD (fun i => (m[i]?).bind f) (by rw [hlen]; exact hz) ?_ (fun H s => s _ _ hat) (fun i x H2 H3 Q2 R hi s2 y q1 q2 => ?_) (fun H ws s e d => hd H ws s e ?_)
  · intro i d _ e
    cases h : m[i]? with
    | none => rw [h] at e; cases e
    | some a =>
      rw [h] at e
      exact hf a (List.mem_of_getElem? h) d e
  · obtain ⟨rfl, e, he, rfl⟩ := y
    obtain ⟨x, hx, e1, e2, _⟩ := hE.at he
    rw [show (m[i]?).bind f = f x by rw [hx]; rfl] at q1 q2
    exact hs x _ _ Q2 R (List.mem_of_getElem? hx) s2 (dp_same s2 (e1 ▸ dp_stamp e2)) q1 q2
  · rw [hlen, range_bind] at d
    exact d
end
end Ss
/-! Books: what makes a list of deeds one. -/
namespace Ss
open PySem PySem.Spec PyProof.Rows L2
theorem word_tab2 : ∀ i ∈ List.range 8, ∀ j ∈ List.range 8, decide (wordN i = wordN j) = (i == j) := by decide +kernel
theorem wd (b : Bd) (j : Nat) (hj : j < 8 := by decide) : decide (b.word = wordN j) = (b.wn == j) := by
  obtain ⟨h, hm, _⟩ := word_n b
  rw [h]
  exact word_tab2 _ hm _ (List.mem_range.mpr hj)
def unB : PyData → Option St2
  | .tuple [.int a, .int b] => some (a, b)
  | _ => none
theorem unB_bD (b : Option St2) : unB (bD b) = b := by cases b <;> rfl
def Bd.names : Bd → List (Option St2)
  | .make k u _ c => [some u, if k = .use then unB c else none]
  | .move t u _ => [some t, some u]
  | .drop t => [some t, none]
  | .put p t c => [some t, if p = .point then unB c else none]
  | .mark _ t => [some t, none]
def Dd.sn (d : Dd) (h : Int) : Int := d.seen.getD h.toNat 0
/-- a name that is seen -/
def seesB (d : Dd) (n : St2) : Bool := decide (n = (0, 0)) || decide (n.1 ≤ d.sn n.2)
structure IsAhead (ds : List Dd) (k : St2) (m : Int) : Prop where
  at_ : m = 0 ∨ ∃ d ∈ ds, d.st.2 = k.2 ∧ d.st.1 < k.1 ∧ d.st.1 = m
  nn : 0 ≤ m
  top : ∀ d ∈ ds, d.st.2 = k.2 → d.st.1 < k.1 → d.st.1 ≤ m
def hands : List Int := [0, 1, 2, 3]
structure Closed (ds : List Dd) (d : Dd) : Prop where
  own : IsAhead ds d.st (d.sn d.st.2)
  seen : ∀ h ∈ hands, d.sn h ≠ 0 → ∃ e ∈ ds, e.st = (d.sn h, h) ∧ ∀ o ∈ hands, e.sn o ≤ d.sn o
def Named (ds : List Dd) (d : Dd) : Prop := ∀ n, some n ∈ d.bd.names → n ≠ (0, 0) → n ∈ ds.map (·.st) ∧ n.1 ≤ d.sn n.2
structure Bk (ds : List Dd) : Prop where
  ok : ∀ d ∈ ds, d.ok
  nd : (ds.map (·.st)).Nodup
  closed : ∀ d ∈ ds, Closed ds d
  named : ∀ d ∈ ds, Named ds d
  len : ds.length ≤ 60
theorem Closed.perm {ds es : List Dd} {d : Dd} (p : ds.Perm es) (c : Closed ds d) : Closed es d := by
  refine ⟨⟨?_, c.own.nn, fun e he => c.own.top e (p.mem_iff.mpr he)⟩, fun h hh ne => ?_⟩
  · rcases c.own.at_ with h | ⟨e, he, q⟩
    · exact .inl h
    · exact .inr ⟨e, p.mem_iff.mp he, q⟩
  · obtain ⟨e, he, q⟩ := c.seen h hh ne
    exact ⟨e, p.mem_iff.mp he, q⟩
theorem Named.perm {ds es : List Dd} {d : Dd} (p : ds.Perm es) (c : Named ds d) : Named es d := fun n hn ne => by
  obtain ⟨h1, h2⟩ := c n hn ne
  exact ⟨(p.map _).mem_iff.mp h1, h2⟩
theorem Bk.perm {ds es : List Dd} (p : ds.Perm es) (b : Bk ds) : Bk es :=
  ⟨fun d hd => b.ok d (p.mem_iff.mpr hd), (p.map _).nodup_iff.mp b.nd, fun d hd => (b.closed d (p.mem_iff.mpr hd)).perm p, fun d hd => (b.named d (p.mem_iff.mpr hd)).perm p, by rw [← p.length_eq]; exact b.len⟩
/-- deeds by their stamps -/
def tbD (ds : List Dd) : Tb Dd := ds.map fun d => (d.st, d)
theorem tbD_keys (ds : List Dd) : (tbD ds).map (·.1) = ds.map (·.st) := by simp [tbD, List.map_map, Function.comp_def]
theorem tbD_get {ds : List Dd} (nd : (ds.map (·.st)).Nodup) {d : Dd} (h : d ∈ ds) : lk (tbD ds) d.st = some d := lk_of_mem (by rw [tbD_keys]; exact nd) (List.mem_map_of_mem (f := fun d : Dd => (d.st, d)) h)
theorem tbD_some {ds : List Dd} {k : St2} {d : Dd} (h : lk (tbD ds) k = some d) : d ∈ ds ∧ d.st = k := by
  obtain ⟨e, he, z⟩ := List.mem_map.mp (lk_mem h)
  cases z
  exact ⟨he, rfl⟩
theorem tbD_in {ds : List Dd} {k : St2} : (lk (tbD ds) k).isSome = true ↔ k ∈ ds.map (·.st) := by rw [lk_some, tbD_keys]
/-- the deeds' own data in a dict -/
abbrev RDd (K : PySem.W.Frag) : Hp → V → Dd → Prop := RD K Dd.d
end Ss
/-! Walks: what a book looks at. -/
namespace Ss
open PySem PySem.Spec PyProof.Rows L2
variable {P : Program} {w : World} {K : PySem.W.Frag} {mg : Str → Option Value} {base : Heap} {e0 : Addr}
/-- a new list of names -/
def sp_names_in (K : PySem.W.Frag) : Sp := fun vs H Q _ => vs.length = 1 ∧ ∃ (v : V) (b : Bd), vs = [v] ∧ Dp K H v b.d ∧ b.ok ∧
  ∀ p us H', H p = none → H' = upd H p (.lst us) → us.length = 2 → DpAll K H us (b.names.map bD) → Q (.ref p) H'
theorem ok_names_in (T : Tx w K mg e0) : Kn P w K mg base 1 (He.ga K "names_in") ["body"] (sp_names_in K) := by
  refine T.d_names_in.kn sc_names_in (fun _ _ _ _ _ _ us hl => match us, hl with | [_], _ => rfl) (fun vs H Q E h => h.1) (fun cdv A outer s H vs Q E hr h => ?_)
  have hu := hu65 hr
  obtain ⟨_, v, b, rfl, hd, hb, q⟩ := h
  refine ⟨_, (pss_cons (ps_if (pt_cmpR (op_eqA hu) (pe_ix (ix_any hu) (pv 0) pe_int (fun _ _ => rfl)) pe_str (nomark _)) (pss_one (ps_ret (pe_lst (pa_cons (pe_ix (ix_any hu) (pv 0) pe_int (fun _ _ => rfl)) (pa_cons (pe_ifExp (pt_cmpR (op_eqA hu) (pe_ix (ix_any hu) (pv 0) pe_int (fun _ _ => rfl)) pe_str (nomark _)) (pe_ix (ix_any hu) (pv 0) pe_int (fun _ _ => rfl)) pe_non) pa_nil))))) pss_nil)
    (pss_cons (ps_if (pt_cmpR (op_eqA hu) (pe_ix (ix_any hu) (pv 0) pe_int (fun _ _ => rfl)) pe_str (nomark _)) (pss_one (ps_ret (pe_lst (pa_cons (pe_ix (ix_any hu) (pv 0) pe_int (fun _ _ => rfl)) (pa_cons (pe_ix (ix_any hu) (pv 0) pe_int (fun _ _ => rfl)) pa_nil))))) pss_nil)
    (pss_one (ps_ret (pe_lst (pa_cons (pe_ix (ix_any hu) (pv 0) pe_int (fun _ _ => rfl)) (pa_cons (pe_ifExp (pt_cmpR (op_eqA hu) (pe_ix (ix_any hu) (pv 0) pe_int (fun _ _ => rfl)) pe_str (nomark _)) (pe_ix (ix_any hu) (pv 0) pe_int (fun _ _ => rfl)) pe_non) pa_nil))))))), ?_⟩
  refine ⟨_, rfl, bd_word hd (eqS ⟨_, rfl, ?_⟩)⟩
  rw [word_make]
  cases b with
  | make k u key c =>
    refine iteT ⟨_, rfl, ixD 2 hd fun _ h2 => ⟨_, rfl, ixD 1 hd fun _ h1 => ?_⟩⟩
    obtain rfl := dp_str h1
    refine eqS ⟨_, rfl, ?_⟩
    rw [show decide (k.s = "use") = decide (k = .use) from Kd.s_eq k .use]
    refine ite2 (fun c1 => ?_) (fun c1 => ?_)
    · obtain rfl := of_decide_eq_true c1
      obtain ⟨b, rfl, _⟩ := hb.2.2
      refine ⟨_, rfl, ixD 4 hd fun _ h4 => ⟨szL, fun p hp => q p _ _ hp rfl rfl (.cons h2 (.cons ?_ .nil))⟩⟩
      simp only [↓reduceIte, unB_bD]
      exact h4
    · refine ⟨szL, fun p hp => q p _ _ hp rfl rfl (.cons h2 (.cons ?_ .nil))⟩
      rw [if_neg (of_decide_eq_false (by simpa using c1))]
      exact .non
  | move t u key =>
    refine iteF ⟨_, rfl, bd_word hd (eqS ⟨_, rfl, ?_⟩)⟩
    rw [show decide (Bd.word (.move t u key) = "move") = true from wd (.move t u key) 1]
    refine iteT ⟨_, rfl, ixD 1 hd fun _ h1 => ⟨_, rfl, ixD 2 hd fun _ h2 => ⟨szL, fun p hp => q p _ _ hp rfl rfl (.cons h1 (.cons h2 .nil))⟩⟩⟩
  | drop t =>
    refine iteF ⟨_, rfl, bd_word hd (eqS ⟨_, rfl, ?_⟩)⟩
    rw [show decide (Bd.word (.drop t) = "move") = false from wd (.drop t) 1]
    refine iteF ⟨_, rfl, ixD 1 hd fun _ h1 => ⟨_, rfl, bd_word hd (eqS ⟨_, rfl, ?_⟩)⟩⟩
    rw [show decide (Bd.word (.drop t) = "point") = false from wd (.drop t) 4]
    exact iteF ⟨szL, fun p hp => q p _ _ hp rfl rfl (.cons h1 (.cons .non .nil))⟩
  | mark r t =>
    refine iteF ⟨_, rfl, bd_word hd (eqS ⟨_, rfl, ?_⟩)⟩
    rw [show decide (Bd.word (.mark r t) = "move") = false by cases r <;> exact wd (.mark _ t) 1]
    refine iteF ⟨_, rfl, ixD 1 hd fun _ h1 => ⟨_, rfl, bd_word hd (eqS ⟨_, rfl, ?_⟩)⟩⟩
    rw [show decide (Bd.word (.mark r t) = "point") = false by cases r <;> exact wd (.mark _ t) 4]
    exact iteF ⟨szL, fun p hp => q p _ _ hp rfl rfl (.cons h1 (.cons .non .nil))⟩
  | put p t c =>
    refine iteF ⟨_, rfl, bd_word hd (eqS ⟨_, rfl, ?_⟩)⟩
    rw [show decide (Bd.word (.put p t c) = "move") = false by cases p <;> exact wd (.put _ t c) 1]
    refine iteF ⟨_, rfl, ixD 1 hd fun _ h1 => ⟨_, rfl, bd_word hd (eqS ⟨_, rfl, ?_⟩)⟩⟩
    cases p with
    | point =>
      rw [show decide (Bd.word (.put .point t c) = "point") = true from wd (.put .point t c) 4]
      obtain ⟨b, rfl, _⟩ := hb.2
      refine iteT ⟨_, rfl, ixD 2 hd fun _ h4 => ⟨szL, fun p hp => q p _ _ hp rfl rfl (.cons h1 (.cons ?_ .nil))⟩⟩
      simp only [↓reduceIte, unB_bD]
      exact h4
    | wish =>
      rw [show decide (Bd.word (.put .wish t c) = "point") = false from wd (.put .wish t c) 4]
      exact iteF ⟨szL, fun p hp => q p _ _ hp rfl rfl (.cons h1 (.cons .non .nil))⟩
    | set =>
      rw [show decide (Bd.word (.put .set t c) = "point") = false from wd (.put .set t c) 4]
      exact iteF ⟨szL, fun p hp => q p _ _ hp rfl rfl (.cons h1 (.cons .non .nil))⟩
/-- seen[h] -/
theorem seen_at {x : Dd} {H : Hp} {v : V} {Q : VK} {h : Int} (ok : x.ok) (hd : Dp K H v (.tuple (x.seen.map .int))) (h0 : 0 ≤ h) (h3 : h ≤ 3) (q : Q (.int (x.sn h)) H) : rIxA P w K v (.int h) H Q := by
  refine ixD h.toNat (d := .int (x.sn h)) hd (fun u hu => ?_) ?_ (by omega)
  · obtain rfl := dp_int hu
    exact q
  · rw [List.getElem?_map]
    have e : x.seen[h.toNat]? = some (x.sn h) := by
      unfold Dd.sn
      have hl := ok.len
      rw [List.getD_eq_getElem?_getD, List.getElem?_eq_getElem (by omega)]
      rfl
    rw [e]
    rfl
def sp_is_named_seen (K : PySem.W.Frag) : Sp := fun vs H Q _ => vs.length = 2 ∧ ∃ (v u : V) (x : Dd) (n : St2), vs = [v, u] ∧ Dp K H v (sD n) ∧ Dp K H u (.tuple (x.seen.map .int)) ∧ x.ok ∧ okPl n ∧ Q (.bl (seesB x n)) H
theorem ok_is_named_seen (T : Tx w K mg e0) : Kn P w K mg base 1 (He.ga K "is_named_seen") ["name", "seen"] (sp_is_named_seen K) := by
  refine T.d_is_named_seen.kn sc_is_named_seen (fun _ _ _ _ _ _ us hl => match us, hl with | [_, _], _ => rfl) (fun vs H Q E h => h.1) (fun cdv A outer s H vs Q E hr h => ?_)
  have hu := hu65 hr
  obtain ⟨_, v, u, x, n, rfl, hv, hu2, hx, hn, q⟩ := h
  refine ⟨_, (pss_one (ps_ret (pe_or (pe_cmpR op_isN (pv 0) pe_non (nomark _)) (pe_or (pe_cmpR (op_eqA hu) (pv 0) (pe_globR rfl T.g_ROOT) (nomark _)) (pe_one (pe_cmpR op_le (pe_ix (ix_any hu) (pv 0) pe_int (fun _ _ => rfl)) (pe_ix (ix_any hu) (pv 1) (pe_ix (ix_any hu) (pv 0) pe_int (fun _ _ => rfl)) (fun _ _ => rfl)) (nomark _))))))), ?_⟩
  obtain ⟨a, rfl, ha⟩ := stamp_dp hv
  refine ⟨_, rfl, rfl, _, rfl, iteF ?_⟩
  refine ⟨_, rfl, eqK hv (dp_stamp (k := (0, 0)) (T.tu_ROOT _)) ⟨_, rfl, ite2 (fun c => ?_) (fun c => ?_)⟩⟩
  · have e : seesB x n = true := by simp only [seesB]; rw [c]; rfl
    rw [e] at q
    exact q
  · have e : seesB x n = decide (n.1 ≤ x.sn n.2) := by simp only [seesB]; rw [Bool.eq_false_iff.mpr c]; rfl
    rw [e] at q
    have hb : 0 ≤ n.2 ∧ n.2 ≤ 3 := by
      rcases hn with hn | rfl
      · exact ⟨hn.2.2.1, hn.2.2.2⟩
      · exact ⟨by decide, by decide⟩
    refine ⟨_, rfl, ixD 0 hv fun _ h0 => ?_⟩
    obtain rfl := dp_int h0
    refine ⟨_, rfl, _, rfl, ixD 1 hv fun _ h1 => ?_⟩
    obtain rfl := dp_int h1
    exact seen_at hx hu2 hb.1 hb.2 ⟨_, _, rfl, rfl, q⟩
theorem names_ok {b : Bd} (h : b.ok) {n : St2} (hn : some n ∈ b.names) : okPl n := by
  have two : ∀ {x y : Option St2}, some n ∈ [x, y] → some n = x ∨ some n = y := fun h => by simpa using h
  cases b with
  | make k u key c =>
    rcases two hn with e | e
    · cases e; exact h.1
    · by_cases hk : k = .use
      · subst hk
        obtain ⟨b, rfl, hb⟩ := h.2.2
        rw [if_pos rfl, unB_bD] at e
        exact hb n e.symm
      · rw [if_neg hk] at e
        cases e
  | move t u key =>
    rcases two hn with e | e <;> cases e
    · exact h.1
    · exact h.2.1
  | drop t =>
    rcases two hn with e | e <;> cases e
    exact h
  | mark r t =>
    rcases two hn with e | e <;> cases e
    exact .inl h
  | put p t c =>
    rcases two hn with e | e
    · cases e; exact h.1
    · by_cases hk : p = .point
      · subst hk
        obtain ⟨b, rfl, hb⟩ := h.2
        rw [if_pos rfl, unB_bD] at e
        exact hb n e.symm
      · rw [if_neg hk] at e
        cases e
theorem eqv_bD (b : Option St2) (k : St2) : PyData.eqv (bD b) (sD k) = decide (b = some k) := by
  cases b with
  | none => rfl
  | some b => 
    rw [show bD (some b) = sD b from rfl, eqv_sD]
    simp
theorem shaped_bD (b : Option St2) : SeqAt.shaped (bD b) = true := by
  cases b with
  | none => rfl
  | some b => exact shaped_sD b
theorem bd_non {b : Option St2} {H : Hp} {v : V} (h : Dp K H v (bD b)) : (b = none ∧ v = .non) ∨ ∃ k a, b = some k ∧ v = .ref a := by
  cases b with
  | none => exact .inl ⟨rfl, dp_non h⟩
  | some k =>
    obtain ⟨a, rfl, _⟩ := stamp_dp h
    exact .inr ⟨k, a, rfl, rfl⟩
def sp_are_named_there (P : Program) (w : World) (K : PySem.W.Frag) : Sp := fun vs H Q _ => vs.length = 2 ∧ ∃ (a : Addr) (v : V) (ds : List Dd) (d : Dd), vs = [.ref a, v] ∧ DR P w K (RDd K) H a (tbD ds) ∧ Dp K H v d.d ∧ d.ok ∧ Named ds d ∧
  ∀ H', Same H H' → Q (.bl true) H'
theorem ok_are_named_there (T : Tx w K mg e0) : Kn P w K mg base 2 (He.ga K "are_named_there") ["known", "deed"] (sp_are_named_there P w K) := by
  have G_names_in : Kn P w K mg base 1 _ _ _ := ok_names_in T
  have G_is_named_seen : Kn P w K mg base 1 _ _ _ := ok_is_named_seen T
  refine T.d_are_named_there.kn sc_are_named_there (fun _ _ _ _ _ _ us hl => match us, hl with | [_, _], _ => rfl) (fun vs H Q E h => h.1) (fun cdv A outer s H vs Q E hr h => ?_)
  have hu := hu65 hr
  obtain ⟨_, a, v, ds, d, rfl, ha, hd, ok, hn, q⟩ := h
  refine ⟨_, (pss_cons (ps_setLc (i := 2) (own := [("name", 3)]) (g := _) (by rfl) sc_are_named_there.nd rfl rfl (sw_true rfl rfl rfl (by decide +kernel)) (pi_list (pe_fn G_names_in (hr.mono (by first | decide | exact Nat.le_refl _ | exact Nat.le_add_right_of_le (by decide) | omega)) T.g_names_in (pa_cons (pe_ix (ix_any hu) (pv 1) pe_int (fun _ _ => rfl)) pa_nil))) (blkOk_by (N := n_are_named_there) (sc := defScope s_are_named_there) (by decide +kernel)) (fun _ _ _ _ _ => (pg_name (i := 3) sc_are_named_there.nd rfl (Or.inl rfl))) (fun _ _ _ _ _ => pts_one (PW.pt (pw_and (pt_cmpR op_notN (pv 3) pe_non (nomark _)) (pw_and1 (pt_cmpR (show OpR _ _ (rNeA K) from (op_neA hu)) (pv 3) (pe_globR rfl T.g_ROOT) (nomark _)))))) (fun _ _ _ _ _ => (pv 3)))
    (pss_one (ps_ret (pe_callB (cb_all hu) (by rfl) T.b_all (by decide +kernel) (pa_cons (pe_lc (own := [("name", 3)]) (by rfl) sc_are_named_there.nd (pi_list (pv 2)) (blkOk_by (N := n_are_named_there) (sc := defScope s_are_named_there) (by decide +kernel)) (fun _ _ _ _ _ => (pg_name (i := 3) sc_are_named_there.nd rfl (Or.inl rfl))) (fun _ _ _ _ _ => pts_nil) (fun _ _ _ _ _ => (pe_and (pe_cmpR (show OpR _ _ (rInA P w K false) from (op_inA hu)) (pv 3) (pv 0) (by rfl)) (pe_one (pe_fn G_is_named_seen (hr.mono (by first | decide | exact Nat.le_refl _ | exact Nat.le_add_right_of_le (by decide) | omega)) T.g_is_named_seen (pa_cons (pv 3) (pa_cons (pe_ix (show IxR _ (rIxA P w K) from (ix_any hu)) (pv 1) pe_int (fun _ _ => rfl)) pa_nil))))))) pa_nil))))), ?_⟩
  refine ⟨_, rfl, ixD 2 hd fun _ h2 => ⟨rfl, _, d.bd, rfl, h2, ok.bd, fun p us H1 hp hH hl hus => ?_⟩⟩
  have s1 : Same H H1 := by subst hH; exact same_new hp
  have hpu : SqL K H1 p us := SqL.of (by subst hH; exact upd_same)
  refine ⟨p, rfl, ⟨us, hpu⟩, fun D hD => ?_⟩
  refine lc_src (K := K) walk_list (fun _ s => s.seq hpu) d.bd.names bD (fun b => b.bind fun n => if n = (0, 0) then none else some (sD n)) (dpa_same s1 hus) hD (by rw [show d.bd.names.length = 2 by cases d.bd <;> rfl]; decide) ?_ (fun b v2 H2 Q2 R hm s2 hv q1 q2 => ?_) (fun H2 ws s2 hD2 hws => ?_)
  · intro b _ e he
    cases b with
    | none => cases he
    | some n =>
      by_cases hn : n = (0, 0)
      · simp [hn] at he
      · simp [hn] at he
        subst he
        exact imm_sD n
  · refine ⟨rfl, ?_⟩
    rcases bd_non hv with ⟨rfl, rfl⟩ | ⟨k, b, rfl, rfl⟩
    · exact ⟨_, rfl, rfl, _, rfl, iteF (iteF (q2 _ rfl (Same.refl _)))⟩
    · refine ⟨_, rfl, rfl, _, rfl, iteT ⟨_, rfl, neD hv (dp_stamp (k := (0, 0)) (T.tu_ROOT _)) ?_ (shaped_bD _) (shaped_sD _)⟩⟩
      rw [eqv_bD]
      refine ⟨_, rfl, ?_⟩
      by_cases c : k = (0, 0)
      · subst c
        exact iteF (B := R H2) (q2 _ rfl (Same.refl _))
      · rw [decide_eq_false (show ¬ (some k = some (0, 0)) from fun z => c (Option.some.inj z))]
        refine iteT (B := R H2) ⟨_, rfl, q1 _ (sD k) _ (by simp [c]) hv (Same.refl _)⟩
  · have hws : DpAll K H2 ws ((d.bd.names.filterMap fun b => b.bind fun n => if n = (0, 0) then none else some n).map sD) := by
      rw [List.map_filterMap]
      have e : (fun b : Option St2 => Option.map sD (b.bind fun n => if n = (0, 0) then none else some n)) = fun b => b.bind fun n => if n = (0, 0) then none else some (sD n) := by
        funext b
        cases b with
        | none => rfl
        | some n => by_cases h : n = (0, 0) <;> simp [h]
      rw [e]
      exact hws
    have hnm : ∀ n ∈ (d.bd.names.filterMap fun b => b.bind fun n => if n = (0, 0) then none else some n), some n ∈ d.bd.names ∧ n ≠ (0, 0) := fun n h => by
      obtain ⟨b, hb, e⟩ := List.mem_filterMap.mp h
      cases b with
      | none => cases e
      | some m =>
        by_cases hm : m = (0, 0)
        · simp [hm] at e
        · simp [hm] at e
          subst e
          exact ⟨hb, hm⟩
    have hln : (d.bd.names.filterMap fun b => b.bind fun n => if n = (0, 0) then none else some n).length ≤ 2 := by
      have := List.length_filterMap_le (fun b : Option St2 => b.bind fun n => if n = (0, 0) then none else some n) d.bd.names
      rwa [show d.bd.names.length = 2 by cases d.bd <;> rfl] at this
    generalize d.bd.names.filterMap (fun b => b.bind fun n => if n = (0, 0) then none else some n) = ns at hws hnm hln
    have s12 := s1.trans s2
    refine ⟨_, rfl, D, rfl, ⟨ws, SqL.of hD2⟩, fun D2 hDn => ?_⟩
    refine lc_src (K := K) walk_list (fun _ s => s.seq (SqL.of hD2)) ns sD (fun _ => some (.bool true)) hws hDn (Nat.lt_of_le_of_lt hln (by decide)) (fun _ _ _ e => by cases e; rfl) (fun n v2 H3 Q2 R hm s3 hv q1 q2 => ?_) (fun H3 zs s3 hD3 hzs => ?_)
    · refine ⟨rfl, ?_⟩
      refine iteT (B := R H3) ?_
      obtain ⟨h1, h2⟩ := hn n (hnm n hm).1 (hnm n hm).2
      have s123 := s12.trans s3
      refine ⟨_, rfl, _, rfl, dinR (ha.same rd_stb.stb s123) hv ?_⟩
      rw [tbD_in.mpr h1]
      refine ⟨_, rfl, iteT ⟨_, rfl, _, rfl, ixD 1 (dp_same s123 hd) fun _ h4 => ⟨rfl, _, _, d, n, rfl, hv, h4, ok, names_ok ok.bd (hnm n hm).1, ?_⟩⟩⟩
      have e : seesB d n = true := by
        unfold seesB
        rw [decide_eq_true h2]
        simp
      rw [e]
      exact q1 _ (.bool true) _ rfl (.bl true) (Same.refl _)
    · have hzs : DpAll K H3 zs ((ns.map fun _ => true).map .bool) := by
        rw [List.map_map]
        have e : ns.filterMap (fun _ => some (PyData.bool true)) = ns.map (PyData.bool ∘ fun _ => true) := by
          rw [List.filterMap_eq_map']
          rfl
        rw [← e]
        exact hzs
      refine ⟨_, ns.map fun _ => true, rfl, SqL.of (by rw [hD3, dpa_bools hzs]), ?_⟩
      have e : (ns.map fun _ => true).all id = true := by simp
      rw [e]
      exact q _ (s12.trans s3)
end Ss
/-! Walks: the checking of a book. -/
namespace Ss
open PySem PySem.Spec PyProof.Rows L2
variable {P : Program} {w : World} {K : PySem.W.Frag} {mg : Str → Option Value} {base : Heap} {e0 : Addr}
def sp_ahead_of (P : Program) (w : World) (K : PySem.W.Frag) : Sp := fun vs H Q _ => vs.length = 2 ∧ ∃ (a : Addr) (o : Obj) (v : V) (ds : List Dd) (k : St2), vs = [.ref a, v] ∧ DL P w K (RDd K) H a o (tbD ds) ∧ ds.length ≤ 60 ∧ Dp K H v (sD k) ∧
  ∀ m H', IsAhead ds k m → Same H H' → Q (.int m) H'
theorem ok_ahead_of (T : Tx w K mg e0) : Kn P w K mg base 1 (He.ga K "ahead_of") ["known", "stamp"] (sp_ahead_of P w K) := by
  refine T.d_ahead_of.kn sc_ahead_of (fun _ _ _ _ _ _ us hl => match us, hl with | [_, _], _ => rfl) (fun vs H Q E h => h.1) (fun cdv A outer s H vs Q E hr h => ?_)
  have hu := hu65 hr
  obtain ⟨_, a, o, v, ds, k, rfl, ⟨es, ha, hE⟩, hl, hk, q⟩ := h
  refine ⟨_, (pss_cons (ps_setLc (i := 2) (own := [("time", 3), ("hand", 4)]) (g := _) (by rfl) sc_ahead_of.nd rfl rfl (sw_true rfl rfl rfl (by decide +kernel)) (pi_kd (pv 0)) (blkOk_by (N := n_ahead_of) (sc := defScope s_ahead_of) (by decide +kernel)) (fun _ _ _ _ _ => (show PG _ _ (gTup K 2 _) from pg_tup (by rfl) (pgs_cons (pg_name (i := 3) sc_ahead_of.nd rfl (Or.inl rfl)) (pgs_cons (pg_name (i := 4) sc_ahead_of.nd rfl (Or.inl rfl)) pgs_nil)))) (fun _ _ _ _ _ => pts_one (PW.pt (pw_and (pt_cmpR (show OpR _ _ (rEqA K) from (op_eqA hu)) (pv 4) (pe_ix (show IxR _ (rIxA P w K) from (ix_any hu)) (pv 1) pe_int (fun _ _ => rfl)) (nomark _)) (pw_and1 (pt_cmpR op_lt (pv 3) (pe_ix (show IxR _ (rIxA P w K) from (ix_any hu)) (pv 1) pe_int (fun _ _ => rfl)) (nomark _)))))) (fun _ _ _ _ _ => (pv 3)))
    (pss_one (ps_ret (pe_callB (cb_max hu) (by rfl) T.b_max (by decide +kernel) (pa_cons (pe_lst (pa_cons pe_int (StX.pa_star (pv 2) pa_nil))) pa_nil))))), ?_⟩
  refine ⟨_, rfl, a, o, es, rfl, ha, fun D hD => ?_⟩
  refine lc_kd (tbD ds) ha hE (fun x => if x.2.st.2 = k.2 ∧ x.2.st.1 < k.1 then some (.int x.2.st.1) else none) hD (by simp [tbD]; exact Nat.lt_of_le_of_lt hl (by decide)) ?_ (fun x v2 H2 Q2 R hm s2 hv q1 q2 => ?_) (fun H2 ws s2 hD2 hws => ?_)
  · intro x _ d e
    by_cases c : x.2.st.2 = k.2 ∧ x.2.st.1 < k.1
    · rw [if_pos c] at e; cases e; rfl
    · rw [if_neg c] at e; cases e
  · obtain ⟨b, rfl, hb⟩ := stamp_dp hv
    have hk2 := dp_same s2 hk
    have hx : x.1 = x.2.st := by
      obtain ⟨d, _, e⟩ := List.mem_map.mp hm
      subst e
      rfl
    refine ⟨b, _, rfl, hb, rfl, _, _, rfl, _, _, rfl, rfl, rfl, ?_⟩
    refine ⟨_, rfl, _, rfl, ixD 1 hk2 fun _ h1 => ?_⟩
    obtain rfl := dp_int h1
    refine eqI ⟨_, rfl, ite2 (fun c => ?_) (fun c => ?_)⟩
    · refine ⟨_, rfl, _, rfl, ixD 0 hk2 fun _ h0 => ?_⟩
      obtain rfl := dp_int h0
      refine ⟨_, _, rfl, rfl, _, rfl, ite2 (fun c2 => ?_) (fun c2 => ?_)⟩
      · refine ⟨_, rfl, q1 _ (.int x.1.1) _ ?_ (.int _) (Same.refl _)⟩
        rw [← hx, if_pos ⟨of_decide_eq_true c, of_decide_eq_true c2⟩]
      · refine q2 _ ?_ (Same.refl _)
        rw [← hx, if_neg (fun z => c2 (decide_eq_true z.2))]
    · refine iteF (B := R H2) (q2 _ ?_ (Same.refl _))
      rw [← hx, if_neg (fun z => c (decide_eq_true z.1))]
  · have hws : DpAll K H2 ws (((tbD ds).filterMap fun x => if x.2.st.2 = k.2 ∧ x.2.st.1 < k.1 then some x.2.st.1 else none).map .int) := by
      rw [List.map_filterMap]
      have e : (fun x : St2 × Dd => Option.map PyData.int (if x.2.st.2 = k.2 ∧ x.2.st.1 < k.1 then some x.2.st.1 else none)) = fun x => if x.2.st.2 = k.2 ∧ x.2.st.1 < k.1 then some (.int x.2.st.1) else none := by
        funext x
        by_cases h : x.2.st.2 = k.2 ∧ x.2.st.1 < k.1 <;> simp [h]
      rw [e]
      exact hws
    have hts : ∀ t, t ∈ ((tbD ds).filterMap fun x => if x.2.st.2 = k.2 ∧ x.2.st.1 < k.1 then some x.2.st.1 else none) ↔ ∃ d ∈ ds, d.st.2 = k.2 ∧ d.st.1 < k.1 ∧ d.st.1 = t := fun t => by
      rw [List.mem_filterMap]
      constructor
      · rintro ⟨x, hx, e⟩
        obtain ⟨d, hd, rfl⟩ := List.mem_map.mp hx
        by_cases h : d.st.2 = k.2 ∧ d.st.1 < k.1
        · simp only [h, and_self, if_true] at e
          exact ⟨d, hd, h.1, h.2, Option.some.inj e⟩
        · rw [if_neg h] at e
          cases e
      · rintro ⟨d, hd, h1, h2, rfl⟩
        exact ⟨(d.st, d), List.mem_map_of_mem (f := fun d : Dd => (d.st, d)) hd, by rw [if_pos ⟨h1, h2⟩]⟩
    have hlt : ((tbD ds).filterMap fun x => if x.2.st.2 = k.2 ∧ x.2.st.1 < k.1 then some x.2.st.1 else none).length ≤ 60 := Nat.le_trans (List.length_filterMap_le _ _) (by simp [tbD]; exact hl)
    generalize (tbD ds).filterMap (fun x => if x.2.st.2 = k.2 ∧ x.2.st.1 < k.1 then some x.2.st.1 else none) = ts at hws hts hlt
    have ew := dpa_ints hws
    subst ew
    refine ⟨_, rfl, D, _, rfl, .inr (SqL.of hD2), ?_, fun p hp => .inr ⟨p, 0 :: ts, rfl, SqL.of (upd_same.trans (by simp)), by simp, fun m hm hx => ?_⟩⟩
    · refine Nat.le_trans (m := 62) ?_ (by decide)
      simp
      omega
    · refine q m _ ⟨?_, hx 0 (List.mem_cons_self ..), fun d hd h1 h2 => hx _ (List.mem_cons_of_mem _ ((hts _).mpr ⟨d, hd, h1, h2, rfl⟩))⟩ (s2.trans (same_new hp))
      rcases List.mem_cons.mp hm with h | h
      · exact .inl h
      · exact .inr ((hts m).mp h)
theorem ahead_one {ds : List Dd} {k : St2} {a b : Int} (h1 : IsAhead ds k a) (h2 : IsAhead ds k b) : a = b := by
  have le : ∀ {a b : Int}, IsAhead ds k a → IsAhead ds k b → a ≤ b := fun {a b} h1 h2 => by
    rcases h1.at_ with e | ⟨d, hd, e1, e2, e3⟩
    · have := h2.nn; omega
    · have := h2.top d hd e1 e2; omega
  have := le h1 h2
  have := le h2 h1
  omega
def sp_is_closed (P : Program) (w : World) (K : PySem.W.Frag) : Sp := fun vs H Q _ => vs.length = 2 ∧ ∃ (a : Addr) (o : Obj) (v : V) (ds : List Dd) (d : Dd), vs = [.ref a, v] ∧ DL P w K (RDd K) H a o (tbD ds) ∧ Bk ds ∧ d ∈ ds ∧ Dp K H v d.d ∧
  ∀ H', Same H H' → Q (.bl true) H'
theorem ok_is_closed (T : Tx w K mg e0) : Kn P w K mg base 2 (He.ga K "is_closed") ["known", "deed"] (sp_is_closed P w K) := by
  have G_ahead_of : Kn P w K mg base 1 _ _ _ := ok_ahead_of T
  refine T.d_is_closed.kn sc_is_closed (fun _ _ _ _ _ _ us hl => match us, hl with | [_, _], _ => rfl) (fun vs H Q E h => h.1) (fun cdv A outer s H vs Q E hr h => ?_)
  have hu := hu65 hr
  obtain ⟨_, a, o, v, ds, d, rfl, hD, hb, hm, hd, q⟩ := h
  refine ⟨_, (pss_cons (ps_asg (pv 1) (pg_tup (by rfl) (pgs_cons (pg_name (i := 2) sc_is_closed.nd rfl (Or.inl rfl)) (pgs_cons (pg_name (i := 3) sc_is_closed.nd rfl (Or.inr rfl)) (pgs_cons (pg_name (i := 4) sc_is_closed.nd rfl (Or.inl rfl)) pgs_nil)))))
    (pss_cons (ps_if (pt_cmpR (op_neA hu) (pe_ix (ix_any hu) (pv 3) (pe_ix (ix_any hu) (pv 2) pe_int (fun _ _ => rfl)) (fun _ _ => rfl)) (pe_fn G_ahead_of (hr.mono (by first | decide | exact Nat.le_refl _ | exact Nat.le_add_right_of_le (by decide) | omega)) T.g_ahead_of (pa_cons (pv 0) (pa_cons (pv 2) pa_nil))) (nomark _)) (pss_one (ps_ret pe_bl)) pss_nil)
    (pss_cons (ps_for PassesOwn.never rfl (pi_tup (pe_globR rfl T.g_ALL_HANDS)) (pg_name (i := 5) sc_is_closed.nd rfl (Or.inl rfl)) (pss_one (ps_if (pt_cmpR (op_neA hu) (pe_ix (ix_any hu) (pv 3) (pv 5) (fun _ _ => rfl)) pe_int (nomark _)) (pss_cons (ps_if (pt_cmpR (op_ninA hu) (pe_tup (pa_cons (pe_ix (ix_any hu) (pv 3) (pv 5) (fun _ _ => rfl)) (pa_cons (pv 5) pa_nil))) (pv 0) (by rfl)) (pss_one (ps_ret pe_bl)) pss_nil)
    (pss_cons (ps_set (i := 6) sc_is_closed.nd rfl (Or.inr rfl) (pe_ix (ix_any hu) (pe_ix (ix_any hu) (pv 0) (pe_tup (pa_cons (pe_ix (ix_any hu) (pv 3) (pv 5) (fun _ _ => rfl)) (pa_cons (pv 5) pa_nil))) (fun _ _ => rfl)) pe_int (fun _ _ => rfl)))
    (pss_one (ps_if (pt_val (pe_callB (cb_any hu) (by rfl) T.b_any (by decide +kernel) (pa_cons (pe_lc (own := [("other", 7)]) (by rfl) sc_is_closed.nd (pi_tup (pe_globR rfl T.g_ALL_HANDS)) (blkOk_by (N := n_is_closed) (sc := defScope s_is_closed) (by decide +kernel)) (fun _ _ _ _ _ => (pg_name (i := 7) sc_is_closed.nd rfl (Or.inl rfl))) (fun _ _ _ _ _ => pts_nil) (fun _ _ _ _ _ => (pe_cmpR op_gt (pe_ix (show IxR _ (rIxA P w K) from (ix_any hu)) (pv 6) (pv 7) (fun _ _ => rfl)) (pe_ix (show IxR _ (rIxA P w K) from (ix_any hu)) (pv 3) (pv 7) (fun _ _ => rfl)) (nomark _)))) pa_nil))) (pss_one (ps_ret pe_bl)) pss_nil)))) pss_nil)))
    (pss_one (ps_ret pe_bl))))), ?_⟩
  have ok := hb.ok d hm
  have cl := hb.closed d hm
  obtain ⟨va, x, y, z, rfl, hs, h1, h2, h3⟩ := tup3 hd
  refine ⟨_, rfl, va, _, rfl, hs, rfl, _, _, rfl, _, _, rfl, _, _, rfl, rfl, ?_⟩
  refine ⟨_, rfl, _, rfl, ixD 1 h1 fun _ e1 => ?_⟩
  obtain rfl := dp_int e1
  refine seen_at ok h2 ok.st.2.2.1 ok.st.2.2.2 ⟨_, rfl, _, rfl, rfl, a, o, x, ds, d.st, rfl, hD, hb.len, h1, fun m H1 hm1 s1 => ?_⟩
  obtain rfl := ahead_one hm1 cl.own
  refine neI ⟨_, rfl, ?_⟩
  rw [show (!decide (d.sn d.st.2 = d.sn d.st.2)) = false by simp]
  refine iteF ⟨_, rfl, ⟨_, T.tu_ALL_HANDS _⟩, ?_⟩
  refine for_it walk_tup (fun _ σ H2 => Same H H2 ∧ ∃ o5 o6 o7, σ = [some (.ref a), some (.ref va), some x, some y, some z, o5, o6, o7]) ⟨s1, _, _, _, rfl⟩ (fun _ _ _ _ _ => T.tu_ALL_HANDS _) (fun i hv σ H2 H3 hi p yy => ?_) (fun σ H2 p => ?_)
  · obtain ⟨s2, o5, o6, o7, rfl⟩ := p
    obtain ⟨rfl, hx⟩ := yy
    obtain ⟨h, hh, rfl⟩ : ∃ h : Int, h ∈ hands ∧ hv = .int h := by
      match i, hx with
      | 0, hx => exact ⟨0, by decide, (Option.some.inj hx).symm⟩
      | 1, hx => exact ⟨1, by decide, (Option.some.inj hx).symm⟩
      | 2, hx => exact ⟨2, by decide, (Option.some.inj hx).symm⟩
      | 3, hx => exact ⟨3, by decide, (Option.some.inj hx).symm⟩
    have hh2 : 0 ≤ h ∧ h ≤ 3 := by
      have : ∀ h ∈ hands, 0 ≤ h ∧ h ≤ 3 := by decide
      exact this h hh
    refine ⟨_, rfl, _, rfl, seen_at ok (dp_same s2 h2) hh2.1 hh2.2 (neI ⟨_, rfl, ?_⟩)⟩
    by_cases hz : d.sn h = 0
    · rw [show (!decide (d.sn h = 0)) = false by simp [hz]]
      exact iteF ⟨s2, _, _, _, rfl⟩
    rw [show (!decide (d.sn h = 0)) = true by simp [hz]]
    obtain ⟨e, he, est, hle⟩ := cl.seen h hh hz
    have oke := hb.ok e he
    have lke : lk (tbD ds) (d.sn h, h) = some e := by rw [← est]; exact tbD_get hb.nd he
    refine iteT ⟨_, rfl, _, rfl, seen_at ok (dp_same s2 h2) hh2.1 hh2.2 ⟨_, rfl, szL, fun p hp => ?_⟩⟩
    have s3 := s2.trans (same_new (o := .tup [.int (d.sn h), .int h]) hp)
    refine ⟨_, rfl, dninR ((DL.r hD).same rd_stb.stb s3) (dp_stamp (k := (d.sn h, h)) (SqT.of upd_same)) ⟨_, rfl, ?_⟩⟩
    rw [lke]
    refine iteF ⟨_, rfl, _, rfl, _, rfl, seen_at ok (dp_same s3 h2) hh2.1 hh2.2 ⟨_, rfl, szL, fun p2 hp2 => ?_⟩⟩
    have s4 := s3.trans (same_new (o := .tup [.int (d.sn h), .int h]) hp2)
    refine dgetR ((DL.r hD).same rd_stb.stb s4) (dp_stamp (k := (d.sn h, h)) (SqT.of upd_same)) lke fun ve hve => ?_
    refine ixD 1 hve.1 fun ue hue => ?_
    refine ⟨_, rfl, ⟨_, T.tu_ALL_HANDS _⟩, fun D hDn => ?_⟩
    refine lc_src (K := K) walk_tup (fun _ _ => T.tu_ALL_HANDS _) hands .int (fun _ => some (.bool false)) (.cons (.int _) (.cons (.int _) (.cons (.int _) (.cons (.int _) .nil)))) hDn (by decide) (fun _ _ _ e => by cases e; rfl) (fun o v2 H4 Q2 R ho s5 hv q1 q2 => ?_) (fun H4 zs s5 hD4 hzs => ?_)
    · obtain rfl := dp_int hv
      have s6 := s4.trans s5
      have ho2 : 0 ≤ o ∧ o ≤ 3 := by
        have : ∀ h ∈ hands, 0 ≤ h ∧ h ≤ 3 := by decide
        exact this o ho
      refine ⟨rfl, iteT (B := R H4) ?_⟩
      refine ⟨_, rfl, _, rfl, seen_at oke (dp_same s5 hue) ho2.1 ho2.2 ⟨_, rfl, _, rfl, seen_at ok (dp_same s6 h2) ho2.1 ho2.2 ⟨_, _, rfl, rfl, ?_⟩⟩⟩
      show Q2 (.bl (decide (d.sn o < e.sn o))) H4
      rw [decide_eq_false (show ¬ d.sn o < e.sn o by have := hle o ho; omega)]
      exact q1 _ (.bool false) _ rfl (.bl false) (Same.refl _)
    · refine ⟨_, hands.map fun _ => false, rfl, SqL.of (by rw [hD4, dpa_bools (bs := hands.map fun _ => false) hzs]), ?_⟩
      exact ⟨_, rfl, iteF ⟨s4.trans s5, _, _, _, rfl⟩⟩
  · obtain ⟨s2, _, _, _, rfl⟩ := p
    exact q _ s2
theorem same_unlock {H H' : Hp} {a : Addr} {u v : HO} (h : H a = some u) (s : Same (upd H a v) H') : Same H (upd H' a u) := fun b o e => by
  by_cases hb : b = a
  · subst hb
    rw [upd_same]
    exact h.symm.trans e
  · rw [upd_ne hb]
    exact s b o (by rw [upd_ne hb]; exact e)
theorem frz_tup {H : Hp} {a : Addr} {es : List Ent} {od : Obj} (h : H a = some (DO P w a es)) : LTLe H (upd H a (.frz od (DO P w a es))) := lt_upd (nl_do h)
theorem nl_fdo {H : Hp} {a b : Addr} {es : List Ent} {od : Obj} (h : H a = some (.frz od (DO P w b es))) : NL H a := nl_of h (fun _ z => nomatch z) (fun _ _ z => by injection z with _ z; cases z) (fun _ z => nomatch z) (fun _ _ z => by injection z with _ z; cases z)
theorem dk_put {α : Type} {R : Hp → V → α → Prop} {H : Hp} {D : Addr} {m : Tb α} {y z : V} {k : St2} {x : α} {N : Hp → Prop} (h : DM P w K R H D m) (st : Stb R) (hy : Dp K H y (sD k)) (hv : R H z x) (hl : m.length < sizeLine)
    (q : ∀ es, DM P w K R (upd H D (DO P w D es)) D (putM m k x) → LTLe H (upd H D (DO P w D es)) → N (upd H D (DO P w D es))) : (dkT P w K).put D y z H N := by
  obtain ⟨es, e, d⟩ := h
  obtain ⟨b, rfl, hb⟩ := stamp_dp hy
  have l : LTLe H (upd H D (DO P w D (putE es k b z))) := lt_upd (nl_do e)
  exact ⟨es, b, k, rfl, ⟨e, d.ks⟩, hb, by rw [d.len]; exact hl, q _ ⟨_, upd_same, (d.put hb hv).mono l.1 fun v x r => st _ _ v x l r⟩ l⟩
def RYes : Hp → V → Unit → Prop := fun _ v _ => v = .bl true
theorem ryes_stb : Stb RYes := fun _ _ _ _ _ r => r
theorem take_keys {α : Type} {m : Tb α} (nd : (m.map (·.1)).Nodup) {i : Nat} {x : St2 × α} (h : m[i]? = some x) : lk ((m.take i).map fun y => (y.1, ())) x.1 = none := by
  rw [lk_none, List.map_map]
  intro hm
  rw [← List.take_append_drop i m, List.map_append, List.nodup_append] at nd
  refine nd.2.2 x.1 hm x.1 (List.mem_map_of_mem (f := fun x : St2 × α => x.1) ?_) rfl
  refine List.mem_of_getElem? (i := 0) ?_
  rw [List.getElem?_drop]
  exact h
def sp_in_stamp_order (P : Program) (w : World) (K : PySem.W.Frag) : Sp := fun vs H Q _ => vs.length = 1 ∧ ∃ (a : Addr) (ds : List Dd), vs = [.ref a] ∧ DM P w K (RDd K) H a (tbD ds) ∧ ds.length ≤ 60 ∧ (ds.map (·.st)).Nodup ∧
  ∀ (p : Addr) (us : List V) (ks : List St2) (H' : Hp), ks.Perm (ds.map (·.st)) → Same H H' → H p = none → H' p = some (.lst us) → DpAll K H' us (ks.map sD) → Q (.ref p) H'
theorem ok_in_stamp_order (T : Tx w K mg e0) : Kn P w K mg base 1 (He.ga K "in_stamp_order") ["some"] (sp_in_stamp_order P w K) := by
  refine T.d_in_stamp_order.kn sc_in_stamp_order (fun _ _ _ _ _ _ us hl => match us, hl with | [_], _ => rfl) (fun vs H Q E h => h.1) (fun cdv A outer s H vs Q E hr h => ?_)
  have hu := hu65 hr
  have hu1 := hu_of hr
  obtain ⟨_, a, ds, rfl, ⟨es, ha, hE⟩, hl, nd, q⟩ := h
  refine ⟨_, (pss_cons (ps_lock (ps_setDk (i := 1) (own := [("time", 2), ("hand", 3)]) (dkT_ok hu1) (by rfl) sc_in_stamp_order.nd rfl rfl (swD_true rfl rfl rfl (by decide +kernel)) (pi_kd (pv 0)) (blkOk_by (N := n_in_stamp_order) (sc := defScope s_in_stamp_order) (by decide +kernel)) (fun _ _ _ _ _ => (show PG _ _ (gTup K 2 _) from pg_tup (by rfl) (pgs_cons (pg_name (i := 2) sc_in_stamp_order.nd rfl (Or.inl rfl)) (pgs_cons (pg_name (i := 3) sc_in_stamp_order.nd rfl (Or.inl rfl)) pgs_nil)))) (fun _ _ _ _ _ => pts_nil) (fun _ _ _ _ _ => (pe_tup (pa_cons (pe_callTy (show CallR _ _ rIntA from (cb_int hu)) (by rfl) T.b_int (by decide +kernel) (pa_cons (pv 2) pa_nil)) (pa_cons (pe_callTy (show CallR _ _ rIntA from (cb_int hu)) (by rfl) T.b_int (by decide +kernel) (pa_cons (pv 3) pa_nil)) pa_nil)))) (fun _ _ _ _ _ => pe_bl)))
    (pss_one (ps_ret (pe_callB (cb_sorted hu) (by rfl) T.b_sorted (by decide +kernel) (pa_cons (pv 1) pa_nil))))), ?_⟩
  refine ⟨a, _, ha, trivial, fun od => ?_⟩
  have hLL : LTLe H (upd H a (.frz od (DO P w a es))) := frz_tup ha
  have hEL : DE K (RDd K) (upd H a (.frz od (DO P w a es))) es (tbD ds) := hE.mono hLL.1 fun v x r => rd_stb _ _ v x hLL.1 r
  have hle : es.length ≤ 60 := by rw [hE.len]; simp [tbD]; exact hl
  have ndk : ((tbD ds).map (·.1)).Nodup := by rw [tbD_keys]; exact nd
  refine ⟨_, rfl, a, od, es, rfl, upd_same, fun D hD => ?_⟩
  have hDa : H D = none := by
    by_cases c : D = a
    · subst c; rw [upd_same] at hD; cases hD
    · rwa [upd_ne c] at hD
  refine dk_it (K := K) walk_kd (fun i H2 => Same (upd H a (.frz od (DO P w a es))) H2 ∧ DM P w K RYes H2 D (((tbD ds).take i).map fun y => (y.1, ()))) ⟨same_new hD, [], upd_same, .nil⟩ (fun i H2 _ p => p.1 _ _ upd_same) (fun i x H2 H3 hi p y => ?_) (fun H2 p => ?_)
  · obtain ⟨s2, dm⟩ := p
    obtain ⟨rfl, e, he, rfl⟩ := y
    obtain ⟨x, hx, e1, e2, _⟩ := hEL.at he
    refine ⟨_, _, rfl, same_sqt s2 e2, rfl, _, _, rfl, _, _, rfl, rfl, rfl, ?_⟩
    refine iteT (B := Same (upd H a (.frz od (DO P w a es))) H3 ∧ DM P w K RYes H3 D (((tbD ds).take (i + 1)).map fun y => (y.1, ()))) ?_
    refine ⟨_, rfl, .inl ⟨_, rfl, _, rfl, .inl ⟨_, rfl, szL, fun p hp => ?_⟩⟩⟩
    have s3 := same_new (o := .tup [.int e.1.1, .int e.1.2]) hp
    refine dk_put (dm.same ryes_stb s3) ryes_stb (dp_stamp (k := e.1) (SqT.of upd_same)) (show RYes _ _ () from rfl) ?_ (fun es2 dm2 l => ⟨?_, ?_⟩)
    · rw [List.length_map, List.length_take]
      exact Nat.lt_of_le_of_lt (Nat.min_le_left _ _) (Nat.lt_of_lt_of_le hi (Nat.le_trans hle (by decide)))
    · exact same_mut (s2.trans s3) hD
    · have e3 : putM (((tbD ds).take i).map fun y => (y.1, ())) e.1 () = ((tbD ds).take (i + 1)).map fun y => (y.1, ()) := by
        rw [e1, putM_new (take_keys ndk hx), List.take_add_one, hx, List.map_append]
        rfl
      rw [e3] at dm2
      exact dm2
  · obtain ⟨s2, es2, hd2, hE2⟩ := p
    have hda : D ≠ a := fun z => by rw [z] at hD; rw [upd_same] at hD; cases hD
    refine ⟨s2 _ _ upd_same, ?_⟩
    have l2 : LTLe H2 (upd H2 a (DO P w a es)) := lt_upd (nl_fdo (s2 _ _ upd_same))
    have hE3 := hE2.mono (R' := RYes) l2.1 (fun v x r => r)
    refine ⟨_, rfl, D, es2, rfl, ⟨.inl (by rw [upd_ne hda]; exact hd2), hE3.ks⟩, fun es3 p hperm hp => ?_⟩
    have s4 : Same H (upd H2 a (DO P w a es)) := same_unlock ha s2
    have hke : es2.map (·.1) = ds.map (·.st) := by
      rw [hE2.keys, List.map_map, List.take_of_length_le (by rw [hE.len]; exact Nat.le_refl _), ← tbD_keys]
      rfl
    refine q p _ (es3.map (·.1)) _ (by rw [← hke]; exact hperm.map _) (s4.trans (same_new hp)) ?_ upd_same ?_
    · cases c : H p with
      | none => rfl
      | some u => rw [s4 _ _ c] at hp; cases hp
    · have t2 := tup_new (o := .lst (es3.map fun e => .ref e.2.1)) hp
      have hks : ∀ e ∈ es3, SqT K (upd (upd H2 a (DO P w a es)) p (.lst (es3.map fun e => .ref e.2.1))) e.2.1 (sval e.1) := fun e he => t2 _ _ _ (hE3.ks e (hperm.mem_iff.mp he))
      revert hks
      generalize upd (upd H2 a (DO P w a es)) p (.lst (es3.map fun e => .ref e.2.1)) = H5
      intro hks
      clear hperm t2 hp
      induction es3 with
      | nil => exact .nil
      | cons e r ih => exact .cons (dp_stamp (hks e (List.mem_cons_self ..))) (ih (fun x hx => hks x (List.mem_cons_of_mem _ hx)))
end Ss
/-! Walks: books. -/
namespace Ss
open PySem PySem.Spec PyProof.Rows L2
variable {P : Program} {w : World} {K : PySem.W.Frag} {mg : Str → Option Value} {base : Heap} {e0 : Addr}
theorem tbD_take (ds : List Dd) (i : Nat) : tbD (ds.take i) = (tbD ds).take i := by simp [tbD]
theorem take_keysD {ds : List Dd} (nd : (ds.map (·.st)).Nodup) {i : Nat} {d : Dd} (h : ds[i]? = some d) : lk (tbD (ds.take i)) d.st = none := by
  rw [lk_none, tbD_keys]
  intro hm
  rw [← List.take_append_drop i ds, List.map_append, List.nodup_append] at nd
  refine nd.2.2 d.st hm d.st (List.mem_map_of_mem (f := fun x : Dd => x.st) ?_) rfl
  refine List.mem_of_getElem? (i := 0) ?_
  rw [List.getElem?_drop]
  exact h
theorem putD_take {ds : List Dd} (nd : (ds.map (·.st)).Nodup) {i : Nat} {d : Dd} (h : ds[i]? = some d) : putM (tbD (ds.take i)) d.st d = tbD (ds.take (i + 1)) := by
  rw [putM_new (take_keysD nd h), List.take_add_one, h]
  simp [tbD]
theorem lift_perm {ds : List Dd} {ks : List St2} (nd : (ds.map (·.st)).Nodup) (p : ks.Perm (ds.map (·.st))) : ∃ es : List Dd, es.Perm ds ∧ es.map (·.st) = ks := by
  refine ⟨ks.filterMap (lk (tbD ds)), ?_, ?_⟩
  · have h := p.filterMap (lk (tbD ds))
    have e : (ds.map (·.st)).filterMap (lk (tbD ds)) = ds := by
      rw [List.filterMap_map]
      have : ∀ l : List Dd, (∀ d ∈ l, d ∈ ds) → l.filterMap (lk (tbD ds) ∘ fun d => d.st) = l := by
        intro l
        induction l with
        | nil => intro _; rfl
        | cons d r ih =>
          intro hl
          rw [List.filterMap_cons]
          have e : (lk (tbD ds) ∘ fun d : Dd => d.st) d = some d := tbD_get nd (hl d (List.mem_cons_self ..))
          rw [e, ih fun x hx => hl x (List.mem_cons_of_mem _ hx)]
      exact this ds fun _ h => h
    rw [e] at h
    exact h
  · have : ∀ l : List St2, (∀ k ∈ l, k ∈ ds.map (·.st)) → (l.filterMap (lk (tbD ds))).map (·.st) = l := by
      intro l
      induction l with
      | nil => intro _; rfl
      | cons k r ih =>
        intro hl
        obtain ⟨d, hd, rfl⟩ := List.mem_map.mp (hl k (List.mem_cons_self ..))
        rw [List.filterMap_cons, tbD_get nd hd]
        show d.st :: _ = _
        rw [ih fun x hx => hl x (List.mem_cons_of_mem _ hx)]
    exact this ks fun k hk => p.mem_iff.mp hk
def sp_checked_book (P : Program) (w : World) (K : PySem.W.Frag) : Sp := fun vs H Q _ => vs.length = 1 ∧ ∃ (l : Addr) (us : List V) (ds : List Dd), vs = [.ref l] ∧ SqL K H l us ∧ DpAll K H us (ds.map Dd.d) ∧ Bk ds ∧
  ∀ (a : Addr) (ds' : List Dd) (H' : Hp), ds'.Perm ds → H a = none → Same H H' → DM P w K (RDd K) H' a (tbD ds') → Q (.ref a) H'
theorem ok_checked_book (T : Tx w K mg e0) : Kn P w K mg base 10 (He.ga K "checked_book") ["some"] (sp_checked_book P w K) := by
  have G_is_line : Kn P w K mg base 1 _ _ _ := ok_is_line T
  have G_is_deed : Kn P w K mg base 9 _ _ _ := ok_is_deed T
  have G_in_stamp_order : Kn P w K mg base 1 _ _ _ := ok_in_stamp_order T
  have G_is_closed : Kn P w K mg base 2 _ _ _ := ok_is_closed T
  have G_are_named_there : Kn P w K mg base 2 _ _ _ := ok_are_named_there T
  refine T.d_checked_book.kn sc_checked_book (fun _ _ _ _ _ _ us hl => match us, hl with | [_], _ => rfl) (fun vs H Q E h => h.1) (fun cdv A outer s H vs Q E hr h => ?_)
  have hu := hu65 hr
  have hu1 := hu_of hr
  obtain ⟨_, l, us, ds, rfl, hl, hus, bk, q⟩ := h
  refine ⟨_, (pss_cons (ps_if (pt_not (pt_val (pe_fn G_is_line (hr.mono (by first | decide | exact Nat.le_refl _ | exact Nat.le_add_right_of_le (by decide) | omega)) T.g_is_line (pa_cons (pv 0) pa_nil)))) (pss_one ps_never) pss_nil)
    (pss_cons (ps_set (i := 1) sc_checked_book.nd rfl (Or.inr rfl) pe_dnew)
    (pss_cons (ps_for PassesOwn.never rfl (pi_enum (by rfl) T.b_enumerate (pa_cons (pv 0) pa_nil)) (pg_tup (by rfl) (pgs_cons (pg_name (i := 2) sc_checked_book.nd rfl (Or.inl rfl)) (pgs_cons (pg_name (i := 3) sc_checked_book.nd rfl (Or.inl rfl)) pgs_nil))) (pss_cons (ps_if (PW.pt (pw_or (pt_not (pt_val (pe_fn G_is_deed (hr.mono (by first | decide | exact Nat.le_refl _ | exact Nat.le_add_right_of_le (by decide) | omega)) T.g_is_deed (pa_cons (pv 3) pa_nil)))) (pw_or1 (pt_cmpR (op_inA hu) (pe_ix (ix_any hu) (pv 3) pe_int (fun _ _ => rfl)) (pv 1) (by rfl))))) (pss_one ps_never) pss_nil)
    (pss_one (ps_asg (pv 3) (pg_sub (pv 1) (pe_ix (ix_any hu) (pv 3) pe_int (fun _ _ => rfl)) (set_any hu))))))
    (pss_cons (ps_if (pt_cmpR op_gt (pe_callB (cb_len hu) (by rfl) T.b_len (by decide +kernel) (pa_cons (pv 1) pa_nil)) (pe_globI rfl T.i_MOST_DEEDS) (nomark _)) (pss_one ps_never) pss_nil)
    (pss_cons (ps_setDk (i := 4) (own := [("stamp", 5)]) (dkT_ok hu1) (by rfl) sc_checked_book.nd rfl rfl (swD_true rfl rfl rfl (by decide +kernel)) (pi_list (pe_fn G_in_stamp_order (hr.mono (by first | decide | exact Nat.le_refl _ | exact Nat.le_add_right_of_le (by decide) | omega)) T.g_in_stamp_order (pa_cons (pv 1) pa_nil))) (blkOk_by (N := n_checked_book) (sc := defScope s_checked_book) (by decide +kernel)) (fun _ _ _ _ _ => (pg_name (i := 5) sc_checked_book.nd rfl (Or.inl rfl))) (fun _ _ _ _ _ => pts_nil) (fun _ _ _ _ _ => (pv 5)) (fun _ _ _ _ _ => (pe_ix (show IxR _ (rIxA P w K) from (ix_any hu)) (pv 1) (pv 5) (fun _ _ => rfl))))
    (pss_cons (ps_lock (ps_for PassesOwn.never rfl (pi_kd (pv 4)) (pg_name (i := 5) sc_checked_book.nd rfl (Or.inl rfl)) (pss_cons (ps_if (pt_not (pt_val (pe_fn G_is_closed (hr.mono (by first | decide | exact Nat.le_refl _ | exact Nat.le_add_right_of_le (by decide) | omega)) T.g_is_closed (pa_cons (pv 4) (pa_cons (pe_ix (ix_any hu) (pv 4) (pv 5) (fun _ _ => rfl)) pa_nil))))) (pss_one ps_never) pss_nil)
    (pss_one (ps_if (pt_not (pt_val (pe_fn G_are_named_there (hr.mono (by first | decide | exact Nat.le_refl _ | exact Nat.le_add_right_of_le (by decide) | omega)) T.g_are_named_there (pa_cons (pv 4) (pa_cons (pe_ix (ix_any hu) (pv 4) (pv 5) (fun _ _ => rfl)) pa_nil))))) (pss_one ps_never) pss_nil)))))
    (pss_one (ps_ret (pv 4))))))))), ?_⟩
  have hlen : us.length = ds.length := by rw [dpa_len hus, List.length_map]
  refine ⟨_, rfl, _, us, rfl, .inl hl, fun H1 s1 => ⟨_, rfl, iteF fun f hf => ?_⟩⟩
  refine ⟨_, rfl, l, us, rfl, (s1.trans (same_new hf)).seq hl, ?_⟩
  refine for_it walk_enum (fun i σ H2 => Same H1 H2 ∧ DM P w K (RDd K) H2 f (tbD (ds.take i)) ∧ ∃ o2 o3 o4 o5, σ = [some (.ref l), some (.ref f), o2, o3, o4, o5]) ⟨same_new hf, ⟨[], upd_same, .nil⟩, _, _, _, _, rfl⟩ (fun _ _ _ _ p => (s1.trans p.1).seq hl) (fun i v σ H2 H3 hi p yy => ?_) (fun σ H2 p => ?_)
  · obtain ⟨s2, dm, o2, o3, o4, o5, rfl⟩ := p
    obtain ⟨T1, x, y, rfl, hT, rfl, hx, hy⟩ := yy
    obtain ⟨d, hd, hv⟩ := dpa_mem hus hy
    have hmd := List.mem_of_getElem? hd
    have s3 := same_new (o := .tup [x, y]) hT
    have s13 := (s1.trans s2).trans s3
    refine ⟨_, _, rfl, SqT.of upd_same, rfl, _, _, rfl, _, _, rfl, rfl, ?_⟩
    refine ⟨_, rfl, rfl, ⟨_, d, rfl, dp_same s13 hv, bk.ok d hmd⟩, fun H4 s4 => ⟨_, rfl, iteF ?_⟩⟩
    have s14 := s13.trans s4
    have hvd := dp_same s14 hv
    refine ⟨_, rfl, ixD 0 hvd fun ve he => ⟨_, rfl, dinR ((dm.same rd_stb.stb (s3.trans s4)).r) he ⟨_, rfl, ?_⟩⟩⟩
    rw [take_keysD bk.nd hd]
    refine iteF ⟨_, rfl, _, rfl, _, rfl, ixD 0 hvd fun ve2 he2 => ?_⟩
    refine (dm.same rd_stb.stb (s3.trans s4)).put rd_stb.stb he2 ⟨hvd, imm_dd (bk.ok d hmd)⟩ ?_ fun es dm2 l2 => ⟨?_, ?_, _, _, _, _, rfl⟩
    · rw [tbD, List.length_map, List.length_take]
      exact Nat.lt_of_le_of_lt (Nat.min_le_right _ _) (Nat.lt_of_le_of_lt bk.len (by decide))
    · exact same_mut ((s2.trans s3).trans s4) hf
    · rw [putD_take bk.nd hd] at dm2
      exact dm2
  · obtain ⟨s2, dm, o2, o3, o4, o5, rfl⟩ := p
    rw [List.take_of_length_le (by rw [hlen]; exact Nat.le_refl _)] at dm
    refine ⟨_, rfl, dlenR dm.r ⟨_, _, rfl, rfl, ⟨_, rfl, ?_⟩⟩⟩
    refine ite2 (fun c => ?_) (fun _ => ?_)
    · have := of_decide_eq_true c
      simp [tbD] at this
      have := bk.len
      omega
    refine ⟨_, rfl, rfl, f, ds, rfl, dm, bk.len, bk.nd, fun p ws ks H4 hperm s4 hp hpl hdp => ?_⟩
    obtain ⟨es, hes, rfl⟩ := lift_perm bk.nd hperm
    have bke := bk.perm hes.symm
    have hwl : ws.length = es.length := by rw [dpa_len hdp, List.length_map, List.length_map]
    have dm4 := dm.same rd_stb.stb s4
    have s04 := (s1.trans s2).trans s4
    refine ⟨p, rfl, ⟨ws, SqL.of hpl⟩, fun D hD => ?_⟩
    refine dk_it (K := K) walk_list (fun i H5 => Same H4 H5 ∧ DM P w K (RDd K) H5 D (tbD (es.take i))) ⟨same_new hD, [], upd_same, .nil⟩ (fun i H5 _ p => p.1.seq (SqL.of hpl)) (fun i x H5 H6 hi p y => ?_) (fun H5 p => ?_)
    · obtain ⟨s5, dm5⟩ := p
      obtain ⟨rfl, hx⟩ := y
      rw [List.map_map] at hdp
      obtain ⟨d, hd, hv⟩ := dpa_mem hdp hx
      have hv := dp_same s5 hv
      have hm : d ∈ ds := hes.mem_iff.mp (List.mem_of_getElem? hd)
      refine ⟨rfl, ?_⟩
      refine iteT (B := Same H4 H6 ∧ DM P w K (RDd K) H6 D (tbD (es.take (i + 1)))) ?_
      refine ⟨_, rfl, _, rfl, _, rfl, dgetR (dm4.same rd_stb.stb s5).r hv (tbD_get bk.nd hm) fun z hz => ?_⟩
      refine dk_put dm5 rd_stb.stb hv hz ?_ fun es2 dm6 l => ⟨same_mut s5 hD, ?_⟩
      · rw [tbD, List.length_map, List.length_take]
        exact Nat.lt_of_le_of_lt (Nat.min_le_right _ _) (Nat.lt_of_le_of_lt bke.len (by decide))
      · rw [putD_take bke.nd hd] at dm6
        exact dm6
    · obtain ⟨s5, dm5⟩ := p
      rw [List.take_of_length_le (by rw [hwl]; exact Nat.le_refl _)] at dm5
      obtain ⟨en, hD5, hE5⟩ := dm5
      refine ⟨D, _, hD5, trivial, fun od => ?_⟩
      have hLL : LTLe H5 (upd H5 D (.frz od (DO P w D en))) := frz_tup hD5
      have hEL : DE K (RDd K) (upd H5 D (.frz od (DO P w D en))) en (tbD es) := hE5.mono hLL.1 fun v x r => rd_stb _ _ v x hLL.1 r
      refine ⟨_, rfl, D, od, en, rfl, upd_same, ?_⟩
      refine for_it walk_kd (fun i σ H6 => Same (upd H5 D (.frz od (DO P w D en))) H6 ∧ ∃ o2 o3 o5, σ = [some (.ref l), some (.ref f), o2, o3, some (.ref D), o5]) ⟨Same.refl _, _, _, _, rfl⟩ (fun _ _ _ _ p => p.1 _ _ upd_same) (fun i v σ H6 H7 hi p yy => ?_) (fun σ H6 p => ?_)
      · obtain ⟨s6, o2, o3, o5, rfl⟩ := p
        obtain ⟨rfl, e, he, rfl⟩ := yy
        obtain ⟨x, hx, e1, e2, e3⟩ := hEL.at he
        obtain ⟨d, hd, rfl⟩ : ∃ d ∈ es, x = (d.st, d) := by
          obtain ⟨d, hd, e⟩ := List.mem_map.mp (List.mem_of_getElem? hx)
          exact ⟨d, hd, e.symm⟩
        have hk : Dp K (upd H5 D (.frz od (DO P w D en))) (.ref e.2.1) (sD d.st) := dp_stamp (show SqT K _ e.2.1 (sval d.st) by rw [show d.st = e.1 from e1.symm]; exact e2)
        have dl : DL P w K (RDd K) (upd H5 D (.frz od (DO P w D en))) D od (tbD es) := ⟨en, upd_same, hEL⟩
        have dl6 : DL P w K (RDd K) H7 D od (tbD es) := ⟨en, s6 _ _ upd_same, hEL.mono (Same.tup s6) fun v x r => rd_stb _ _ v x (Same.tup s6) r⟩
        refine ⟨_, rfl, _, rfl, _, rfl, dgetR dl6.r (dp_same s6 hk) (tbD_get bke.nd hd) fun z hz => ?_⟩
        refine ⟨rfl, D, od, z, es, d, rfl, dl6, bke, hd, hz.1, fun H8 s8 => ⟨_, rfl, iteF ?_⟩⟩
        refine ⟨_, rfl, _, rfl, _, rfl, dgetR (dl6.r.same rd_stb.stb s8) (dp_same (s6.trans s8) hk) (tbD_get bke.nd hd) fun z hz => ?_⟩
        refine ⟨rfl, D, z, es, d, rfl, dl6.r.same rd_stb.stb s8, hz.1, bke.ok d hd, bke.named d hd, fun H9 s9 => ⟨_, rfl, iteF ⟨(s6.trans s8).trans s9, _, _, _, rfl⟩⟩⟩
      · obtain ⟨s6, o2, o3, o5, rfl⟩ := p
        refine ⟨s6 _ _ upd_same, _, rfl, ?_⟩
        have s7 : Same H5 (upd H6 D (DO P w D en)) := same_unlock hD5 s6
        refine q D es _ hes ?_ ((s04.trans s5).trans s7) ((show DM P w K (RDd K) H5 D (tbD es) from ⟨en, hD5, hE5⟩).same rd_stb.stb s7)
        cases c : H D with
        | none => rfl
        | some u => rw [s04 _ _ c] at hD; cases hD
end Ss
/-! Walks: books' methods. -/
namespace Ss
open PySem PySem.Spec PyProof.Rows L2
variable {P : Program} {w : World} {K : PySem.W.Frag} {mg : Str → Option Value} {base : Heap} {e0 : Addr}
abbrev bkO (K : PySem.W.Frag) (dx a : Addr) : HO := .ins (He.ga K "Book") dx [("by_stamp", .ref a)]
def sp_Book_init (P : Program) (w : World) (K : PySem.W.Frag) : Sp := fun vs H Q _ => vs.length = 2 ∧ ∃ (b dx l : Addr) (us : List V) (ds : List Dd), vs = [.ref b, .ref l] ∧ H b = some (.ins (He.ga K "Book") dx []) ∧ SqL K H l us ∧ DpAll K H us (ds.map Dd.d) ∧ Bk ds ∧
  ∀ (H' : Hp) (a : Addr) (ds' : List Dd), ds'.Perm ds → Fr [b] H H' → H' b = some (bkO K dx a) → H a = none → DM P w K (RDd K) H' a (tbD ds') → Q .non H'
theorem ok_Book_init (T : Tx w K mg e0) : KnD P w K mg base 11 (He.ma K (He.ga K "Book") "__init__") ["self", "deeds"] [] (sp_Book_init P w K) := by
  have G_checked_book : Kn P w K mg base 10 _ _ _ := ok_checked_book T
  refine T.d_Book_init.kn sc_Book_init 2 1 (by decide) (by rfl) (fun _ _ _ _ _ _ _ us its hl hi => match us, its, hl, hi with | [_, _], [_], _, _ => ⟨_, rfl, rfl⟩) (fun vs H Q E h => h.1) (fun cdv A outer s H vs Q E hr h => ?_)
  have hu := hu65 hr
  obtain ⟨_, b, dx, l, us, ds, rfl, hb, hl, hus, bk, q⟩ := h
  refine ⟨_, (pss_one (ps_fld (pv 0) (pe_fn G_checked_book (hr.mono (by first | decide | exact Nat.le_refl _ | exact Nat.le_add_right_of_le (by decide) | omega)) T.g_checked_book (pa_cons (pv 1) pa_nil)) rfl)), ?_⟩
  refine ⟨_, rfl, rfl, l, us, ds, rfl, hl, hus, bk, fun a ds' H' hp hn s1 dm => ⟨_, rfl, b, _, dx, _, rfl, s1 _ _ hb, T.cls_Book, T.na_Book_by_stamp, by decide, ?_⟩⟩
  refine q _ a ds' hp ((Same.fr s1).at (by simp)) upd_same hn ?_
  refine dm.moveL rd_stb.stb (lt_upd (nl_ins (s1 _ _ hb))) fun u e => ?_
  rw [upd_ne (fun z => by rw [z] at hn; rw [hb] at hn; cases hn)]
  exact e
/-- a book -/
def BookAt (P : Program) (w : World) (K : PySem.W.Frag) (H : Hp) (b : Addr) (ds : List Dd) : Prop := ∃ dx a, H b = some (bkO K dx a) ∧ DM P w K (RDd K) H a (tbD ds) ∧ Bk ds
theorem BookAt.same {H H' : Hp} {b : Addr} {ds : List Dd} (h : BookAt P w K H b ds) (s : Same H H') : BookAt P w K H' b ds := by
  obtain ⟨dx, a, h1, h2, h3⟩ := h
  exact ⟨dx, a, s _ _ h1, h2.same rd_stb.stb s, h3⟩
theorem BookAt.fr {H H' : Hp} {S : List Addr} {b : Addr} {ds : List Dd} (h : BookAt P w K H b ds) (s : Fr S H H') (nt : ∀ a ∈ S, NT H a) (hb : b ∉ S) (hd : ∀ dx a, H b = some (bkO K dx a) → a ∉ S) : BookAt P w K H' b ds := by
  obtain ⟨dx, a, h1, h2, h3⟩ := h
  exact ⟨dx, a, s _ _ hb h1, h2.moveT rd_stb (s.tup nt) fun u e => s _ _ (hd dx a h1) e, h3⟩
def sp_Book_getitem (P : Program) (w : World) (K : PySem.W.Frag) : Sp := fun vs H Q _ => vs.length = 2 ∧ ∃ (b : Addr) (v : V) (ds : List Dd) (d : Dd), vs = [.ref b, v] ∧ BookAt P w K H b ds ∧ d ∈ ds ∧ Dp K H v (sD d.st) ∧ ∀ u, Dp K H u d.d → Q u H
theorem ok_Book_getitem (T : Tx w K mg e0) : Kn P w K mg base 4 (He.ma K (He.ga K "Book") "__getitem__") ["self", "stamp"] (sp_Book_getitem P w K) := by
  have G_is_stamp : Kn P w K mg base 3 _ _ _ := ok_is_stamp T
  refine T.d_Book_getitem.kn sc_Book_getitem (fun _ _ _ _ _ _ us hl => match us, hl with | [_, _], _ => rfl) (fun vs H Q E h => h.1) (fun cdv A outer s H vs Q E hr h => ?_)
  have hu := hu65 hr
  obtain ⟨_, b, v, ds, d, rfl, ⟨dx, a, hb, dm, bk⟩, hd, hv, q⟩ := h
  refine ⟨_, (pss_cons (ps_if (PW.pt (pw_or (pt_not (pt_val (pe_fn G_is_stamp (hr.mono (by first | decide | exact Nat.le_refl _ | exact Nat.le_add_right_of_le (by decide) | omega)) T.g_is_stamp (pa_cons (pv 1) pa_nil)))) (pw_or1 (pt_cmpR (op_ninA hu) (pv 1) (pe_fld (pv 0) rfl) (by rfl))))) (pss_one ps_never) pss_nil)
    (pss_one (ps_ret (pe_ix (ix_any hu) (pe_fld (pv 0) rfl) (pv 1) (fun _ _ => rfl))))), ?_⟩
  have hok := bk.ok d hd
  have lkd := tbD_get bk.nd hd
  refine ⟨_, rfl, v, _, rfl, hv, ?_⟩
  rw [stampB_ok hok.st]
  refine ⟨_, rfl, iteF ⟨_, rfl, _, rfl, b, _, dx, _, _, rfl, hb, T.cls_Book, T.na_Book_by_stamp, rfl, dninR dm.r hv ⟨_, rfl, ?_⟩⟩⟩
  rw [lkd]
  refine iteF ⟨_, rfl, b, _, dx, _, _, rfl, hb, T.cls_Book, T.na_Book_by_stamp, rfl, _, rfl, dgetR dm.r hv lkd fun u hu => q u hu.1⟩
def sp_Book_deeds (P : Program) (w : World) (K : PySem.W.Frag) : Sp := fun vs H Q _ => vs.length = 1 ∧ ∃ (b : Addr) (ds : List Dd), vs = [.ref b] ∧ BookAt P w K H b ds ∧
  ∀ (p : Addr) (us : List V) (H' : Hp), Same H H' → H p = none → H' p = some (.lst us) → DpAll K H' us (ds.map Dd.d) → Q (.ref p) H'
theorem ok_Book_deeds (T : Tx w K mg e0) : Kn P w K mg base 1 (He.ma K (He.ga K "Book") "deeds") ["self"] (sp_Book_deeds P w K) := by
  refine T.d_Book_deeds.kn sc_Book_deeds (fun _ _ _ _ _ _ us hl => match us, hl with | [_], _ => rfl) (fun vs H Q E h => h.1) (fun cdv A outer s H vs Q E hr h => ?_)
  have hu := hu65 hr
  obtain ⟨_, b, ds, rfl, ⟨dx, a, hb, ⟨es, ha, hE⟩, bk⟩, q⟩ := h
  refine ⟨_, (pss_one (ps_ret (pe_lock (pe_lc (own := [("stamp", 1)]) (by rfl) sc_Book_deeds.nd (pi_kd (pe_fld (pv 0) rfl)) (blkOk_by (N := n_Book_deeds) (sc := defScope s_Book_deeds) (by decide +kernel)) (fun _ _ _ _ _ => (pg_name (i := 1) sc_Book_deeds.nd rfl (Or.inl rfl))) (fun _ _ _ _ _ => pts_nil) (fun _ _ _ _ _ => (pe_ix (show IxR _ (rIxA P w K) from (ix_any hu)) (show PE _ _ (tFld K _ _) from (pe_fld (pv 0) rfl)) (pv 1) (fun _ _ => rfl))))))), ?_⟩
  refine ⟨a, _, ha, trivial, fun od => ?_⟩
  have hLL : LTLe H (upd H a (.frz od (DO P w a es))) := frz_tup ha
  have hEL : DE K (RDd K) (upd H a (.frz od (DO P w a es))) es (tbD ds) := hE.mono hLL.1 fun v x r => rd_stb _ _ v x hLL.1 r
  have dl : DL P w K (RDd K) (upd H a (.frz od (DO P w a es))) a od (tbD ds) := ⟨es, upd_same, hEL⟩
  have hba : b ≠ a := fun z => by rw [z] at hb; rw [ha] at hb; cases hb
  have hbL : (upd H a (.frz od (DO P w a es))) b = some (bkO K dx a) := by rw [upd_ne hba]; exact hb
  refine ⟨_, rfl, b, _, dx, _, _, rfl, hbL, T.cls_Book, T.na_Book_by_stamp, rfl, a, od, es, rfl, upd_same, fun D hD => ?_⟩
  refine lc_kd (tbD ds) upd_same hEL (fun x => some x.2.d) hD (by simp [tbD]; exact Nat.lt_of_le_of_lt bk.len (by decide)) (fun x hx d e => ?_) (fun x v2 H2 Q2 R hm s2 hv q1 q2 => ?_) (fun H2 ws s2 hD2 hws => ?_)
  · obtain ⟨y, hy, rfl⟩ := List.mem_map.mp hx
    cases e
    exact imm_dd (bk.ok y hy)
  · obtain ⟨y, hy, rfl⟩ := List.mem_map.mp hm
    refine ⟨rfl, ?_⟩
    refine iteT (B := R H2) ?_
    refine ⟨_, rfl, b, _, dx, _, _, rfl, s2 _ _ hbL, T.cls_Book, T.na_Book_by_stamp, rfl, _, rfl, dgetR (dl.r.same rd_stb.stb s2) hv (tbD_get bk.nd hy) fun z hz => q1 _ y.d _ rfl hz.1 (Same.refl _)⟩
  · refine ⟨s2 _ _ upd_same, ?_⟩
    have s3 := same_unlock ha s2
    have hDa : D ≠ a := fun z => by rw [z, upd_same] at hD; cases hD
    have hDn : H D = none := by rwa [upd_ne hDa] at hD
    refine q D ws _ s3 hDn (by rw [upd_ne hDa]; exact hD2) ?_
    rw [show (tbD ds).filterMap (fun x => some x.2.d) = ds.map Dd.d by simp [tbD, List.filterMap_map, Function.comp_def]] at hws
    exact dpa_tup (lt_upd (nl_fdo (s2 _ _ upd_same))).1 (immAll_of fun d hd => by obtain ⟨y, hy, rfl⟩ := List.mem_map.mp hd; exact imm_dd (bk.ok y hy)) hws
def sp_check_book (P : Program) (w : World) (K : PySem.W.Frag) : Sp := fun vs H Q _ => vs.length = 1 ∧ ∃ (b dx : Addr) (fs : List (Str × V)), vs = [.ref b] ∧ H b = some (.ins (He.ga K "Book") dx fs) ∧ Q .non H
theorem ok_check_book (T : Tx w K mg e0) : Kn P w K mg base 1 (He.ga K "check_book") ["book"] (sp_check_book P w K) := by
  refine T.d_check_book.kn sc_check_book (fun _ _ _ _ _ _ us hl => match us, hl with | [_], _ => rfl) (fun vs H Q E h => h.1) (fun cdv A outer s H vs Q E hr h => ?_)
  have hu := hu65 hr
  obtain ⟨_, b, dx, fs, rfl, hb, q⟩ := h
  refine ⟨_, (pss_one (ps_if (pt_not (pt_val (pe_callB (cb_isinstance hu) (by rfl) T.b_isinstance (by decide +kernel) (pa_cons (pv 0) (pa_cons (pe_globR rfl T.g_Book) pa_nil))))) (pss_one ps_never) pss_nil)), ?_⟩
  refine ⟨_, rfl, isi_own hb T.cls_Book T.is_Book ⟨_, rfl, iteF q⟩⟩
def sp_check_state (P : Program) (w : World) (K : PySem.W.Frag) : Sp := fun vs H Q _ => vs.length = 1 ∧ ∃ (b dx : Addr) (fs : List (Str × V)), vs = [.ref b] ∧ H b = some (.ins (He.ga K "State") dx fs) ∧ Q .non H
theorem ok_check_state (T : Tx w K mg e0) : Kn P w K mg base 1 (He.ga K "check_state") ["state"] (sp_check_state P w K) := by
  refine T.d_check_state.kn sc_check_state (fun _ _ _ _ _ _ us hl => match us, hl with | [_], _ => rfl) (fun vs H Q E h => h.1) (fun cdv A outer s H vs Q E hr h => ?_)
  have hu := hu65 hr
  obtain ⟨_, b, dx, fs, rfl, hb, q⟩ := h
  refine ⟨_, (pss_one (ps_if (pt_not (pt_val (pe_callB (cb_isinstance hu) (by rfl) T.b_isinstance (by decide +kernel) (pa_cons (pv 0) (pa_cons (pe_globR rfl T.g_State) pa_nil))))) (pss_one ps_never) pss_nil)), ?_⟩
  refine ⟨_, rfl, isi_own hb T.cls_State T.is_State ⟨_, rfl, iteF q⟩⟩
def sp_check_stamps (K : PySem.W.Frag) (e0 : Addr) : Sp := fun vs H Q _ => vs.length = 2 ∧ ∃ v, vs = [v, .ref e0] ∧ ∀ H', Same H H' → Q .non H'
theorem ok_check_stamps (T : Tx w K mg e0) : Kn P w K mg base 2 (He.ga K "check_stamps") ["book", "stamps"] (sp_check_stamps K e0) := by
  refine T.d_check_stamps.kn sc_check_stamps (fun _ _ _ _ _ _ us hl => match us, hl with | [_, _], _ => rfl) (fun vs H Q E h => h.1) (fun cdv A outer s H vs Q E hr h => ?_)
  have G_is_line : Kn P w K mg base 1 _ _ _ := ok_is_line T
  have hu := hu65 hr
  obtain ⟨_, v, rfl, q⟩ := h
  refine ⟨_, (pss_cons (ps_if (pt_not (pt_val (pe_fn G_is_line (hr.mono (by first | decide | exact Nat.le_refl _ | exact Nat.le_add_right_of_le (by decide) | omega)) T.g_is_line (pa_cons (pv 1) pa_nil)))) (pss_one ps_never) pss_nil)
    (pss_one (ps_for PassesOwn.never rfl (pi_enum0 (by rfl) T.b_enumerate (pa_cons (pv 1) pa_nil)) (pg_tup (by rfl) (pgs_cons (pg_name (i := 2) sc_check_stamps.nd rfl (Or.inl rfl)) (pgs_cons (pg_name (i := 3) sc_check_stamps.nd rfl (Or.inl rfl)) pgs_nil))) (pss_one ps_never)))), ?_⟩
  refine ⟨_, rfl, e0, [], rfl, .inr (T.empty _), fun H1 s1 => ⟨_, rfl, iteF ?_⟩⟩
  refine ⟨_, rfl, e0, rfl, T.empty _, ?_⟩
  exact for_it walk_0 (fun _ _ H2 => Same H H2) s1 (fun _ _ _ _ _ => T.empty _) (fun _ _ _ _ _ h => (by omega)) (fun _ H2 s2 => q H2 s2)
end Ss
/-! Walks: marks. -/
namespace Ss
open PySem PySem.Spec PyProof.Rows L2
variable {P : Program} {w : World} {K : PySem.W.Frag} {mg : Str → Option Value} {base : Heap} {e0 : Addr}
def sp_has_mark_word (K : PySem.W.Frag) : Sp := fun vs H Q _ => vs.length = 1 ∧ ∃ (v : V) (d : Dd), vs = [v] ∧ Dp K H v d.d ∧ Q (.bl d.bd.isMark) H
theorem ok_has_mark_word (T : Tx w K mg e0) : Kn P w K mg base 1 (He.ga K "has_mark_word") ["deed"] (sp_has_mark_word K) := by
  refine T.d_has_mark_word.kn sc_has_mark_word (fun _ _ _ _ _ _ us hl => match us, hl with | [_], _ => rfl) (fun vs H Q E h => h.1) (fun cdv A outer s H vs Q E hr h => ?_)
  have hu := hu65 hr
  obtain ⟨_, v, d, rfl, hd, q⟩ := h
  refine ⟨_, (pss_one (ps_ret (pe_cmpR (op_inA hu) (pe_ix (ix_any hu) (pe_ix (ix_any hu) (pv 0) pe_int (fun _ _ => rfl)) pe_int (fun _ _ => rfl)) (pe_globR rfl T.g_MARK_WORDS) (by rfl)))), ?_⟩
  exact ⟨_, rfl, ixD 2 hd fun _ h2 => bd_word h2 (inNewT (T.tu_MARK_WORDS _) rfl rfl (word_mark _) q)⟩
def sp_named_deed (P : Program) (w : World) (K : PySem.W.Frag) : Sp := fun vs H Q _ => vs.length = 2 ∧ ∃ (b : Addr) (v : V) (ds : List Dd) (d : Dd), vs = [.ref b, v] ∧ BookAt P w K H b ds ∧ d ∈ ds ∧ Dp K H v d.d ∧ Q .non H ∧
  ∀ u e, e ∈ ds → e.bd.isMark = false → d.bd.isMark = true → Dp K H u e.d → Q u H
theorem ok_named_deed (T : Tx w K mg e0) : Kn P w K mg base 2 (He.ga K "named_deed") ["book", "deed"] (sp_named_deed P w K) := by
  have G_has_mark_word : Kn P w K mg base 1 _ _ _ := ok_has_mark_word T
  refine T.d_named_deed.kn sc_named_deed (fun _ _ _ _ _ _ us hl => match us, hl with | [_, _], _ => rfl) (fun vs H Q E h => h.1) (fun cdv A outer s H vs Q E hr h => ?_)
  have hu := hu65 hr
  obtain ⟨_, b, v, ds, d, rfl, ⟨dx, a, hb, dm, bk⟩, hd, hv, q1, q2⟩ := h
  refine ⟨_, (pss_cons (ps_if (pt_not (pt_val (pe_fn G_has_mark_word (hr.mono (by first | decide | exact Nat.le_refl _ | exact Nat.le_add_right_of_le (by decide) | omega)) T.g_has_mark_word (pa_cons (pv 1) pa_nil)))) (pss_one (ps_ret pe_non)) pss_nil)
    (pss_cons (ps_set (i := 2) sc_named_deed.nd rfl (Or.inl rfl) (pe_ix (ix_any hu) (pe_fld (pv 0) rfl) (pe_ix (ix_any hu) (pe_ix (ix_any hu) (pv 1) pe_int (fun _ _ => rfl)) pe_int (fun _ _ => rfl)) (fun _ _ => rfl)))
    (pss_one (ps_ret (pe_ifExp (PW.pt (pw_or (pt_val (pe_fn G_has_mark_word (hr.mono (by first | decide | exact Nat.le_refl _ | exact Nat.le_add_right_of_le (by decide) | omega)) T.g_has_mark_word (pa_cons (pv 2) pa_nil))) (pw_or1 (pt_cmpR (op_neA hu) (pe_ix (ix_any hu) (pe_ix (ix_any hu) (pv 2) pe_int (fun _ _ => rfl)) pe_int (fun _ _ => rfl)) (pe_ix (ix_any hu) (pe_ix (ix_any hu) (pv 1) pe_int (fun _ _ => rfl)) pe_int (fun _ _ => rfl)) (nomark _))))) pe_non (pv 2)))))), ?_⟩
  refine ⟨_, rfl, rfl, v, d, rfl, hv, ⟨_, rfl, ?_⟩⟩
  have hok := bk.ok d hd
  have hnm := bk.named d hd
  cases hbd : d.bd with
  | mark r t =>
    refine iteF ?_
    have hok2 := hok.bd
    rw [hbd] at hok2
    have ht : t ≠ (0, 0) := fun z => by
      have : okSt t := hok2
      rw [z] at this
      exact absurd this.1 (by decide)
    obtain ⟨hin, _⟩ := hnm t (by rw [hbd]; simp [Bd.names]) ht
    obtain ⟨e, he, rfl⟩ := List.mem_map.mp hin
    refine ⟨_, rfl, b, _, dx, _, _, rfl, hb, T.cls_Book, T.na_Book_by_stamp, rfl, _, rfl, ixD 2 hv fun _ h2 => ?_⟩
    rw [hbd] at h2
    refine ixD 1 h2 fun _ h3 => dgetR dm.r h3 (tbD_get bk.nd he) fun u hu1 => ?_
    refine ⟨_, rfl, rfl, u, e, rfl, hu1.1, ⟨_, rfl, ite2 (fun c => q1) (fun c => ?_)⟩⟩
    refine ⟨_, rfl, ixD 0 hu1.1 fun _ h4 => ?_⟩
    refine ixD 1 h4 fun _ h5 => ⟨_, rfl, ixD 0 hv fun _ h6 => ?_⟩
    refine ixD 1 h6 fun _ h7 => ?_
    obtain rfl := dp_int h5
    obtain rfl := dp_int h7
    refine neI ⟨_, rfl, ite2 (fun _ => q1) (fun _ => ⟨_, rfl, q2 u e he (by simpa using c) (by rw [hbd]; rfl) hu1.1⟩)⟩
  | _ => exact iteT q1
/-- a list of marks, made behind A -/
def RMk (K : PySem.W.Frag) (A : Hp) (ds : List Dd) (n : Nat) : Hp → V → Unit → Prop := fun H v _ => ∃ p us, v = .ref p ∧ A p = none ∧ H p = some (.lst us) ∧ us.length ≤ n ∧ ∀ u ∈ us, ∃ d ∈ ds, d.bd.isMark = true ∧ Dp K H u d.d
def sp_is_up (K : PySem.W.Frag) : Sp := fun vs H Q _ => vs.length = 1 ∧ ∃ (v : V) (A : Hp) (ds : List Dd) (n : Nat), vs = [v] ∧ RMk K A ds n H v () ∧ ∀ b, Q (.bl b) H
theorem ok_is_up (T : Tx w K mg e0) : Kn P w K mg base 1 (He.ga K "is_up") ["marks"] (sp_is_up K) := by
  refine T.d_is_up.kn sc_is_up (fun _ _ _ _ _ _ us hl => match us, hl with | [_], _ => rfl) (fun vs H Q E h => h.1) (fun cdv A outer s H vs Q E hr h => ?_)
  have hu := hu65 hr
  obtain ⟨_, v, A0, ds, n, rfl, ⟨p, us, rfl, _, hp, hl, hus⟩, q⟩ := h
  refine ⟨_, (pss_one (ps_ret (pe_or (pe_cmpR (op_eqA hu) (pe_callB (cb_len hu) (by rfl) T.b_len (by decide +kernel) (pa_cons (pv 0) pa_nil)) pe_int (nomark _)) (pe_one (pe_cmpR (op_eqA hu) (pe_ix (ix_any hu) (pe_ix (ix_any hu) (pe_ix (ix_any hu) (pv 0) (pe_un un_neg pe_int) (fun _ _ => rfl)) pe_int (fun _ _ => rfl)) pe_int (fun _ _ => rfl)) pe_str (nomark _)))))), ?_⟩
  refine ⟨_, rfl, lenL (SqL.of hp) (eqI ⟨_, rfl, ite2 (fun _ => q _) (fun c => ?_)⟩)⟩
  have hne : us ≠ [] := fun z => c (by rw [z]; rfl)
  obtain ⟨d, hd, hm, hv⟩ := hus _ (List.getLast_mem hne)
  refine ⟨_, rfl, _, rfl, ixLl (SqL.of hp) (List.getLast?_eq_some_getLast hne) ?_⟩
  refine ixD 2 hv fun _ h2 => ?_
  exact bd_word h2 (eqS (q _))
def nonM (ds : List Dd) : List St2 := (ds.filter fun d => !d.bd.isMark).map (·.st)
theorem rmk_le {A : Hp} {ds : List Dd} {n : Nat} {H H' : Hp} (s : Same H H') {v : V} {x : Unit} (r : RMk K A ds n H v x) : RMk K A ds n H' v x := by
  obtain ⟨p, us, e, ha, hp, hl, h⟩ := r
  exact ⟨p, us, e, ha, s _ _ hp, hl, fun u hu => let ⟨d, h1, h2, h3⟩ := h u hu; ⟨d, h1, h2, dp_same s h3⟩⟩
theorem rmk_upd {A : Hp} {ds : List Dd} {n : Nat} (hok : ∀ d ∈ ds, d.ok) {H : Hp} {a : Addr} {o : HO} (h : NL H a) {v : V} {x : Unit} (r : RMk K A ds n H v x) : RMk K A ds n (upd H a o) v x := by
  obtain ⟨p, us, e, ha, hp, hl, h2⟩ := r
  refine ⟨p, us, e, ha, ?_, hl, fun u hu => let ⟨d, h3, h4, h5⟩ := h2 u hu; ⟨d, h3, h4, dp_tup (lt_upd h).1 (imm_dd (hok d h3)) h5⟩⟩
  rw [upd_ne (fun z => h.2 us (.inl (by rw [← z]; exact hp)))]
  exact hp
theorem rmk_app {A : Hp} {ds : List Dd} {n : Nat} (hok : ∀ d ∈ ds, d.ok) {H : Hp} {p : Addr} {us : List V} {y : V} {d : Dd} (h : H p = some (.lst us)) (hl : us.length ≤ n) (hd : d ∈ ds) (hm : d.bd.isMark = true) (hy : Dp K H y d.d)
    (hu : ∀ u ∈ us, ∃ d ∈ ds, d.bd.isMark = true ∧ Dp K H u d.d) {v : V} {x : Unit} (r : RMk K A ds n H v x) : RMk K A ds (n + 1) (upd H p (.lst (us ++ [y]))) v x := by
  have t : TupLe H (upd H p (.lst (us ++ [y]))) := tup_lst h
  obtain ⟨p2, us2, e, ha, hp, hl2, h2⟩ := r
  by_cases c : p2 = p
  · subst c
    refine ⟨p2, us ++ [y], e, ha, upd_same, by simp; omega, fun u hu2 => ?_⟩
    rcases List.mem_append.mp hu2 with h3 | h3
    · obtain ⟨d2, h4, h5, h6⟩ := hu u h3
      exact ⟨d2, h4, h5, dp_tup t (imm_dd (hok d2 h4)) h6⟩
    · simp at h3
      subst h3
      exact ⟨d, hd, hm, dp_tup t (imm_dd (hok d hd)) hy⟩
  · refine ⟨p2, us2, e, ha, by rw [upd_ne c]; exact hp, Nat.le_succ_of_le hl2, fun u hu2 => ?_⟩
    obtain ⟨d2, h4, h5, h6⟩ := h2 u hu2
    exact ⟨d2, h4, h5, dp_tup t (imm_dd (hok d2 h4)) h6⟩
theorem nl_dm {α : Type} {R : Hp → V → α → Prop} {H : Hp} {a : Addr} {m : Tb α} (h : DM P w K R H a m) : NL H a := by
  obtain ⟨es, e, _⟩ := h
  exact nl_do e
theorem rmk_more {A : Hp} {ds : List Dd} {n k : Nat} (hk : n ≤ k) {H : Hp} {v : V} {x : Unit} (r : RMk K A ds n H v x) : RMk K A ds k H v x := by
  obtain ⟨p2, us2, e, ha, hp, hl2, h2⟩ := r
  exact ⟨p2, us2, e, ha, hp, Nat.le_trans hl2 hk, h2⟩
theorem dk_putX {α : Type} {R : Hp → V → α → Prop} {H : Hp} {D : Addr} {m : Tb α} {y z : V} {k : St2} {x : α} {N : Hp → Prop} (h : DM P w K R H D m) (st : ∀ es v x, R H v x → R (upd H D (DO P w D es)) v x) (hy : Dp K H y (sD k)) (hv : R H z x) (hl : m.length < sizeLine)
    (q : ∀ es, DM P w K R (upd H D (DO P w D es)) D (putM m k x) → N (upd H D (DO P w D es))) : (dkT P w K).put D y z H N := by
  obtain ⟨es, e, d⟩ := h
  obtain ⟨b, rfl, hb⟩ := stamp_dp hy
  exact ⟨es, b, k, rfl, ⟨e, d.ks⟩, hb, by rw [d.len]; exact hl, q _ ⟨_, upd_same, (d.put hb hv).mono (lt_upd (nl_do e)).1 fun v x r => st _ v x r⟩⟩
def sp_mark_rows (P : Program) (w : World) (K : PySem.W.Frag) (e0 : Addr) : Sp := fun vs H Q _ => vs.length = 2 ∧ ∃ (b : Addr) (ds : List Dd), vs = [.ref b, .ref e0] ∧ BookAt P w K H b ds ∧
  ∀ (a : Addr) (m : Tb Unit) (H' : Hp), Same H H' → H a = none → m.map (·.1) = nonM ds → DM P w K (RMk K H ds 60) H' a m → Q (.ref a) H'
theorem ok_mark_rows (T : Tx w K mg e0) : Kn P w K mg base 3 (He.ga K "mark_rows") ["book", "left_out"] (sp_mark_rows P w K e0) := by
  have G_has_mark_word : Kn P w K mg base 1 _ _ _ := ok_has_mark_word T
  have G_named_deed : Kn P w K mg base 2 _ _ _ := ok_named_deed T
  have G_Book_deeds : Kn P w K mg base 1 _ _ _ := ok_Book_deeds T
  refine T.d_mark_rows.kn sc_mark_rows (fun _ _ _ _ _ _ us hl => match us, hl with | [_, _], _ => rfl) (fun vs H Q E h => h.1) (fun cdv A outer s H vs Q E hr h => ?_)
  have hu := hu65 hr
  have hu1 := hu_of hr
  obtain ⟨_, b, ds, rfl, hB, q⟩ := h
  refine ⟨_, (pss_cons (ps_setDk (i := 2) (own := [("deed", 3)]) (dkT_ok hu1) (by rfl) sc_mark_rows.nd rfl rfl (swD_true rfl rfl rfl (by decide +kernel)) (pi_list (pe_mt0 (pv 0) T.cls_Book T.me_Book_deeds G_Book_deeds (hr.mono (by first | decide | exact Nat.le_refl _ | exact Nat.le_add_right_of_le (by decide) | omega)))) (blkOk_by (N := n_mark_rows) (sc := defScope s_mark_rows) (by decide +kernel)) (fun _ _ _ _ _ => (pg_name (i := 3) sc_mark_rows.nd rfl (Or.inl rfl))) (fun _ _ _ _ _ => pts_one (PW.pt (pw_and (pt_not (pt_val (pe_fn G_has_mark_word (hr.mono (by first | decide | exact Nat.le_refl _ | exact Nat.le_add_right_of_le (by decide) | omega)) T.g_has_mark_word (pa_cons (pv 3) pa_nil)))) (pw_and1 (pt_cmpR (show OpR _ _ (rInA P w K true) from (op_ninA hu)) (pe_ix (show IxR _ (rIxA P w K) from (ix_any hu)) (pv 3) pe_int (fun _ _ => rfl)) (pv 1) (by rfl)))))) (fun _ _ _ _ _ => (pe_ix (show IxR _ (rIxA P w K) from (ix_any hu)) (pv 3) pe_int (fun _ _ => rfl))) (fun _ _ _ _ _ => (pe_lst pa_nil)))
    (pss_cons (ps_for PassesOwn.never rfl (pi_list (pe_mt0 (pv 0) T.cls_Book T.me_Book_deeds G_Book_deeds (hr.mono (by first | decide | exact Nat.le_refl _ | exact Nat.le_add_right_of_le (by decide) | omega)))) (pg_name (i := 3) sc_mark_rows.nd rfl (Or.inl rfl)) (pss_cons (ps_set (i := 4) sc_mark_rows.nd rfl (Or.inl rfl) (pe_fn G_named_deed (hr.mono (by first | decide | exact Nat.le_refl _ | exact Nat.le_add_right_of_le (by decide) | omega)) T.g_named_deed (pa_cons (pv 0) (pa_cons (pv 3) pa_nil))))
    (pss_one (ps_if (PW.pt (pw_and (pt_cmpR op_notN (pv 4) pe_non (nomark _)) (pw_and (pt_cmpR (op_ninA hu) (pe_ix (ix_any hu) (pv 3) pe_int (fun _ _ => rfl)) (pv 1) (by rfl)) (pw_and1 (pt_cmpR (op_inA hu) (pe_ix (ix_any hu) (pv 4) pe_int (fun _ _ => rfl)) (pv 2) (by rfl)))))) (pss_one (ps_expr (pe_bm PySem.F.plainAttrs_list PySem.F.slot_list_append PySem.F.type_list_append mt_append (pe_ix (ix_any hu) (pv 2) (pe_ix (ix_any hu) (pv 4) pe_int (fun _ _ => rfl)) (fun _ _ => rfl)) (pa_cons (pv 3) pa_nil)))) pss_nil))))
    (pss_one (ps_ret (pv 2))))), ?_⟩
  obtain ⟨dx, a, hb, dm, bk⟩ := id hB
  refine ⟨_, rfl, b, dx, _, rfl, hb, rfl, rfl, b, ds, rfl, hB, fun p us H1 s1 hpn hp hus => ⟨p, rfl, ⟨us, SqL.of hp⟩, fun D hD => ?_⟩⟩
  have hlen : us.length = ds.length := by rw [dpa_len hus, List.length_map]
  have emp : ∀ H', Dp K H' (.ref e0) (.tuple []) := fun H' => .tup (T.empty H') .nil
  have nonM_take : ∀ {i : Nat} {d : Dd}, ds[i]? = some d → nonM (ds.take (i + 1)) = nonM (ds.take i) ++ if d.bd.isMark then [] else [d.st] := fun {i d} h => by
    unfold nonM
    rw [List.take_add_one, h, List.filter_append, List.map_append]
    congr 1
    cases c : d.bd.isMark <;> simp [c]
  have hfresh : ∀ {q : Addr} {H2 : Hp}, Same H1 H2 → H2 q = none → H q = none := fun {q H2} s2 h => by
    cases c : H q with
    | none => rfl
    | some u => rw [(s1.trans s2) _ _ c] at h; cases h
  refine dk_it (K := K) walk_list (fun i H2 => Same H1 H2 ∧ ∃ m : Tb Unit, m.map (·.1) = nonM (ds.take i) ∧ DM P w K (RMk K H ds 0) H2 D m) ⟨same_new hD, [], rfl, [], upd_same, .nil⟩ (fun i H2 _ p => p.1.seq (SqL.of hp)) (fun i x H2 H3 hi p y => ?_) (fun H2 p2 => ?_)
  · obtain ⟨s2, m, hm, dm2⟩ := p
    obtain ⟨rfl, hx⟩ := y
    obtain ⟨d, hd, hv⟩ := dpa_mem hus hx
    have hv := dp_same s2 hv
    have hmem := List.mem_of_getElem? hd
    have hok := bk.ok d hmem
    refine ⟨rfl, ?_⟩
    refine ⟨_, rfl, rfl, x, d, rfl, hv, ⟨_, rfl, ?_⟩⟩
    have hml : m.length ≤ 60 := by
      have h1 : m.length = (nonM (ds.take i)).length := by rw [← hm, List.length_map]
      have h2 : (nonM (ds.take i)).length ≤ (ds.take i).length := by
        unfold nonM
        rw [List.length_map]
        exact List.length_filter_le _ _
      have h3 := bk.len
      rw [List.length_take] at h2
      omega
    cases c : d.bd.isMark with
    | true =>
      refine iteF ?_
      refine iteF (A := _) ⟨s2, m, ?_, dm2⟩
      rw [nonM_take hd, c, hm]
      simp
    | false =>
      refine iteT ⟨_, rfl, ixD 0 hv fun ve he => ⟨_, rfl, .inr (.inl ⟨sD d.st, [], he, .inr (emp _), shaped_sD _, rfl, ⟨_, rfl, ?_⟩⟩)⟩⟩
      refine iteT ⟨_, rfl, ixD 0 hv fun ve2 he2 => ⟨szL, fun l hl => ?_⟩⟩
      have s3 := same_new (o := .lst []) hl
      have dm3 : DM P w K (RMk K H ds 0) (upd H3 l (.lst [])) D m := by
        obtain ⟨es, h1, h2⟩ := dm2
        exact ⟨es, s3 _ _ h1, h2.mono (Same.tup s3) fun v x r => rmk_le s3 r⟩
      have hnew : lk m d.st = none := by
        rw [lk_none, hm]
        intro z
        obtain ⟨d2, h2, e2⟩ := List.mem_map.mp z
        have h3 := (List.mem_filter.mp h2).1
        exact absurd (take_keysD bk.nd hd) (by
          rw [lk_none, tbD_keys]
          exact fun z2 => z2 (by rw [← e2]; exact List.mem_map_of_mem (f := fun x : Dd => x.st) h3))
      refine dk_putX (x := ()) dm3 (fun es v x r => rmk_upd bk.ok (nl_dm dm3) r) (dp_same s3 he2) ⟨l, [], rfl, hfresh s2 hl, upd_same, Nat.zero_le _, fun u hu => by simp at hu⟩ (Nat.lt_of_le_of_lt hml (by decide)) fun es2 dm4 => ⟨same_mut (s2.trans s3) hD, _, ?_, dm4⟩
      rw [putM_new hnew, List.map_append, hm, nonM_take hd, c]
      rfl
  · obtain ⟨s2, m, hm, dm2⟩ := p2
    rw [List.take_of_length_le (by rw [hlen]; exact Nat.le_refl _)] at hm
    have hB2 := hB.same (s1.trans s2)
    refine ⟨_, rfl, b, dx, _, rfl, (s1.trans s2) _ _ hb, rfl, rfl, b, ds, rfl, hB2, fun p3 us3 H3 s3 hpn3 hp3 hus3 => ⟨p3, rfl, ⟨us3, SqL.of hp3⟩, ?_⟩⟩
    have hlen3 : us3.length = ds.length := by rw [dpa_len hus3, List.length_map]
    have hDn : H D = none := hfresh (Same.refl _) hD
    have s03 : Same H H3 := (s1.trans s2).trans s3
    have hpH : H p3 = none := hfresh s2 hpn3
    have hDp : D ≠ p3 := fun z => by
      obtain ⟨es, h1, _⟩ := dm2
      rw [z, hpn3] at h1; cases h1
    have imus : immAll (ds.map Dd.d) = true := immAll_of fun d hd => by obtain ⟨y, hy, rfl⟩ := List.mem_map.mp hd; exact imm_dd (bk.ok y hy)
    -- the anchor that holds the second row of deeds
    have dm3 : DM P w K (RMk K (upd H p3 (.lst us3)) ds 0) H3 D m := by
      obtain ⟨es, h1, h2⟩ := dm2
      refine ⟨es, s3 _ _ h1, h2.mono (Same.tup s3) fun v x r => ?_⟩
      obtain ⟨q0, us0, e, ha, hq, hl, h⟩ := r
      refine ⟨q0, us0, e, ?_, s3 _ _ hq, hl, fun u hu => let ⟨d, h1, h2, h3⟩ := h u hu; ⟨d, h1, h2, dp_same s3 h3⟩⟩
      rw [upd_ne (fun z => by rw [z, hpn3] at hq; cases hq)]
      exact ha
    have hA3 : Same (upd H p3 (.lst us3)) H3 := fun c o e => by
      by_cases hc : c = p3
      · subst hc
        rw [upd_same] at e
        rw [← e]
        exact hp3
      · rw [upd_ne hc] at e
        exact s03 _ _ e
    have hAH : Same H (upd H p3 (.lst us3)) := same_new hpH
    refine for_it walk_list (fun i σ H4 => Same (upd H p3 (.lst us3)) H4 ∧ TupLe H3 H4 ∧ (∃ o3 o4, σ = [some (.ref b), some (.ref e0), some (.ref D), o3, o4]) ∧ DM P w K (RMk K (upd H p3 (.lst us3)) ds i) H4 D m) ⟨hA3, TupLe.refl _, ⟨_, _, rfl⟩, dm3⟩ (fun _ _ _ _ p => p.1.seq (SqL.of upd_same)) (fun i v σ H4 H5 hi p yy => ?_) (fun σ H4 p => ?_)
    · obtain ⟨s4, t4, ⟨o3, o4, rfl⟩, dm4⟩ := p
      obtain ⟨rfl, hx⟩ := yy
      obtain ⟨d, hd, hv⟩ := dpa_mem hus3 hx
      have hmem := List.mem_of_getElem? hd
      have hv := dp_tup t4 (imm_dd (bk.ok d hmem)) hv
      have hB4 := hB.same (hAH.trans s4)
      have dm5 : DM P w K (RMk K (upd H p3 (.lst us3)) ds (i + 1)) H5 D m := by
        obtain ⟨es, h1, h2⟩ := dm4
        exact ⟨es, h1, h2.mono (TupLe.refl _) fun v x r => rmk_more (Nat.le_succ _) r⟩
      refine ⟨_, rfl, _, rfl, rfl, b, v, ds, d, rfl, hB4, hmem, hv, ?_, fun u e he hnm hmk hu => ?_⟩
      · refine ⟨_, rfl, rfl, _, rfl, iteF ⟨s4, t4, ⟨_, _, rfl⟩, dm5⟩⟩
      · obtain ⟨ue, rfl⟩ : ∃ ue, u = .ref ue := by
          obtain ⟨a1, _, _, _, e1, _⟩ := tup3 hu
          exact ⟨a1, e1⟩
        refine ⟨_, rfl, rfl, _, rfl, iteT ⟨_, rfl, ixD 0 hv fun ve he2 => ⟨_, rfl, .inr (.inl ⟨sD d.st, [], he2, .inr (emp _), shaped_sD _, rfl, ⟨_, rfl, ?_⟩⟩)⟩⟩⟩
        refine iteT ⟨_, rfl, ixD 0 hu fun v0 h0 => ⟨_, rfl, dinR dm4.r h0 ⟨_, rfl, ?_⟩⟩⟩
        refine ite2 (fun c => ?_) (fun c => ⟨s4, t4, ⟨_, _, rfl⟩, dm5⟩)
        obtain ⟨x, hx2⟩ := Option.isSome_iff_exists.mp c
        refine ⟨_, rfl, _, rfl, ixD 0 hu fun v1 h1 => dgetR dm4.r h1 hx2 fun v2 hr => ?_⟩
        obtain ⟨q0, us0, rfl, ha, hq, hl, h⟩ := id hr
        have hn : us0.length < sizeLine := Nat.lt_of_le_of_lt hl (Nat.lt_of_lt_of_le (by rw [hlen3] at hi; exact Nat.lt_of_lt_of_le hi bk.len) (by decide))
        refine ⟨.inl ⟨rfl, us0, SqL.of hq⟩, _, rfl, q0, us0, v, rfl, rfl, hq, hn, same_mut s4 ha, t4.trans (tup_lst hq), ⟨_, _, rfl⟩, ?_⟩
        obtain ⟨es, h1, h2⟩ := dm4
        refine ⟨es, ?_, h2.mono (tup_lst hq) fun v x r => rmk_app bk.ok hq hl hmem hmk hv h r⟩
        rw [upd_ne (fun z => by rw [z, hq] at h1; cases h1)]
        exact h1
    · obtain ⟨s4, t4, ⟨o3, o4, rfl⟩, dm4⟩ := p
      refine ⟨_, rfl, q D m H4 (hAH.trans s4) hDn hm ?_⟩
      obtain ⟨es, h1, h2⟩ := dm4
      refine ⟨es, h1, h2.mono (TupLe.refl _) fun v x r => ?_⟩
      obtain ⟨q0, us0, e, ha, hq, hl, h⟩ := r
      refine ⟨q0, us0, e, ?_, hq, Nat.le_trans hl (by rw [hlen3]; exact bk.len), h⟩
      cases c : H q0 with
      | none => rfl
      | some u => rw [hAH _ _ c] at ha; cases ha
def sp_alive_by (P : Program) (w : World) (K : PySem.W.Frag) (e0 : Addr) : Sp := fun vs H Q _ => vs.length = 2 ∧ ∃ (b : Addr) (ds : List Dd), vs = [.ref b, .ref e0] ∧ BookAt P w K H b ds ∧
  ∀ (p : Addr) (us : List V) (ks : List St2) (H' : Hp), ks.Sublist (nonM ds) → Same H H' → H p = none → H' p = some (.lst us) → DpAll K H' us (ks.map sD) → Q (.ref p) H'
theorem ok_alive_by (T : Tx w K mg e0) : Kn P w K mg base 4 (He.ga K "alive_by") ["book", "left_out"] (sp_alive_by P w K e0) := by
  have G_mark_rows : Kn P w K mg base 3 _ _ _ := ok_mark_rows T
  have G_is_up : Kn P w K mg base 1 _ _ _ := ok_is_up T
  refine T.d_alive_by.kn sc_alive_by (fun _ _ _ _ _ _ us hl => match us, hl with | [_, _], _ => rfl) (fun vs H Q E h => h.1) (fun cdv A outer s H vs Q E hr h => ?_)
  have hu := hu65 hr
  obtain ⟨_, b, ds, rfl, hB, q⟩ := h
  have bk : Bk ds := by obtain ⟨_, _, _, _, bk⟩ := hB; exact bk
  refine ⟨_, (pss_cons (ps_set (i := 2) sc_alive_by.nd rfl (Or.inr rfl) (pe_fn G_mark_rows (hr.mono (by first | decide | exact Nat.le_refl _ | exact Nat.le_add_right_of_le (by decide) | omega)) T.g_mark_rows (pa_cons (pv 0) (pa_cons (pv 1) pa_nil))))
    (pss_one (ps_ret (pe_lock (pe_lc (own := [("stamp", 3)]) (by rfl) sc_alive_by.nd (pi_kd (pv 2)) (blkOk_by (N := n_alive_by) (sc := defScope s_alive_by) (by decide +kernel)) (fun _ _ _ _ _ => (pg_name (i := 3) sc_alive_by.nd rfl (Or.inl rfl))) (fun _ _ _ _ _ => pts_one (pt_val (pe_fn G_is_up (hr.mono (by first | decide | exact Nat.le_refl _ | exact Nat.le_add_right_of_le (by decide) | omega)) T.g_is_up (pa_cons (pe_ix (show IxR _ (rIxA P w K) from (ix_any hu)) (pv 2) (pv 3) (fun _ _ => rfl)) pa_nil)))) (fun _ _ _ _ _ => (pv 3))))))), ?_⟩
  refine ⟨_, rfl, _, rfl, rfl, b, ds, rfl, hB, fun a m H1 s1 han hm dm => ?_⟩
  have ndm : (m.map (·.1)).Nodup := by
    rw [hm]
    exact List.Nodup.sublist ((List.filter_sublist).map _) bk.nd
  have hml : m.length ≤ 60 := by
    have h1 : m.length = (nonM ds).length := by rw [← hm, List.length_map]
    have h2 : (nonM ds).length ≤ ds.length := by
      unfold nonM
      rw [List.length_map]
      exact List.length_filter_le _ _
    have h3 := bk.len
    omega
  obtain ⟨es, ha, hE⟩ := dm
  refine ⟨a, _, ha, trivial, fun od => ?_⟩
  have hLL : LTLe H1 (upd H1 a (.frz od (DO P w a es))) := frz_tup ha
  have hEL : DE K (RMk K H ds 60) (upd H1 a (.frz od (DO P w a es))) es m := hE.mono hLL.1 fun v x r => rmk_upd bk.ok (nl_do ha) r
  refine ⟨_, rfl, a, od, es, rfl, upd_same, fun D hD => ?_⟩
  refine lc_it walk_kd (fun i H2 => Same (upd H1 a (.frz od (DO P w a es))) H2 ∧ ∃ us ks, H2 D = some (.lst us) ∧ us.length ≤ i ∧ DpAll K H2 us (ks.map sD) ∧ ks.Sublist ((m.take i).map (·.1))) ⟨same_new hD, [], [], upd_same, Nat.le_refl _, .nil, .slnil⟩ (fun i H2 _ p => p.1 _ _ upd_same) (fun i x H2 H3 hi p y => ?_) (fun H2 p => ?_)
  · obtain ⟨s2, us, ks, hD2, hl, hus, hsub⟩ := p
    obtain ⟨rfl, e, he, rfl⟩ := y
    obtain ⟨x, hx, e1, e2, e3⟩ := hEL.at he
    have hk : Dp K H3 (.ref e.2.1) (sD x.1) := dp_same s2 (dp_stamp (show SqT K _ e.2.1 (sval x.1) by rw [← e1]; exact e2))
    have lkx : lk m x.1 = some x.2 := lk_of_mem ndm (List.mem_of_getElem? hx)
    have dl : DL P w K (RMk K H ds 60) H3 a od m := ⟨es, s2 _ _ upd_same, hEL.mono (Same.tup s2) fun v x r => rmk_le s2 r⟩
    refine ⟨rfl, ?_⟩
    refine ⟨_, rfl, _, rfl, dgetR dl.r hk lkx fun v hv => ⟨rfl, v, H, ds, 60, rfl, hv, fun bb => ⟨_, rfl, ?_⟩⟩⟩
    have hsub2 : (m.take i).map (·.1) ++ [x.1] = (m.take (i + 1)).map (·.1) := by rw [List.take_add_one, hx, List.map_append]; rfl
    refine ite2 (fun _ => ?_) (fun _ => ?_)
    · refine ⟨_, rfl, us, hD2, Nat.lt_of_le_of_lt hl (Nat.lt_of_lt_of_le (by rw [hE.len] at hi; exact hi) (Nat.le_trans hml (by decide))), same_mut s2 hD, us ++ [.ref e.2.1], ks ++ [x.1], upd_same, by simp; exact hl, ?_, ?_⟩
      · rw [List.map_append]
        exact dpa_tup (tup_lst hD2) (by rw [← List.map_append]; exact immAll_sD _) (dpa_append hus (.cons hk .nil))
      · rw [← hsub2]
        exact hsub.append (List.Sublist.refl _)
    · exact ⟨s2, us, ks, hD2, Nat.le_succ_of_le hl, hus, by rw [← hsub2]; exact hsub.trans (List.sublist_append_left _ _)⟩
  · obtain ⟨s2, us, ks, hD2, hl, hus, hsub⟩ := p
    refine ⟨s2 _ _ upd_same, ?_⟩
    have s3 := same_unlock ha s2
    have hDa : D ≠ a := fun z => by rw [z, upd_same] at hD; cases hD
    refine q D us ks _ ?_ (s1.trans s3) ?_ (by rw [upd_ne hDa]; exact hD2) (dpa_tup (lt_upd (nl_fdo (s2 _ _ upd_same))).1 (immAll_sD _) hus)
    · rw [← hm]
      exact hsub.trans ((List.take_sublist _ _).map _)
    · rw [upd_ne hDa] at hD
      cases c : H D with
      | none => rfl
      | some u => rw [s1 _ _ c] at hD; cases hD
theorem ok_alive_without (T : Tx w K mg e0) : Kn P w K mg base 5 (He.ga K "alive_without") ["book", "stamps"] (sp_alive_by P w K e0) := by
  have G_check_book : Kn P w K mg base 1 _ _ _ := ok_check_book T
  have G_check_stamps : Kn P w K mg base 2 _ _ _ := ok_check_stamps T
  have G_alive_by : Kn P w K mg base 4 _ _ _ := ok_alive_by T
  refine T.d_alive_without.kn sc_alive_without (fun _ _ _ _ _ _ us hl => match us, hl with | [_, _], _ => rfl) (fun vs H Q E h => h.1) (fun cdv A outer s H vs Q E hr h => ?_)
  have hu := hu65 hr
  obtain ⟨_, b, ds, rfl, hB, q⟩ := h
  obtain ⟨dx, a, hb, dm, bk⟩ := id hB
  refine ⟨_, (pss_cons (ps_expr (pe_fn G_check_book (hr.mono (by first | decide | exact Nat.le_refl _ | exact Nat.le_add_right_of_le (by decide) | omega)) T.g_check_book (pa_cons (pv 0) pa_nil)))
    (pss_cons (ps_expr (pe_fn G_check_stamps (hr.mono (by first | decide | exact Nat.le_refl _ | exact Nat.le_add_right_of_le (by decide) | omega)) T.g_check_stamps (pa_cons (pv 0) (pa_cons (pv 1) pa_nil))))
    (pss_one (ps_ret (pe_fn G_alive_by (hr.mono (by first | decide | exact Nat.le_refl _ | exact Nat.le_add_right_of_le (by decide) | omega)) T.g_alive_by (pa_cons (pv 0) (pa_cons (pe_callTy (cb_tuple hu) (by rfl) T.b_tuple (by decide +kernel) (pa_cons (pv 1) pa_nil)) pa_nil))))))), ?_⟩
  refine ⟨_, rfl, rfl, b, dx, _, rfl, hb, ?_⟩
  refine ⟨_, rfl, _, rfl, rfl, _, rfl, fun H1 s1 => ?_⟩
  refine ⟨_, rfl, _, rfl, .inr ⟨e0, [], rfl, T.empty _, rfl, b, ds, rfl, hB.same s1, fun p us ks H2 hs s2 hp hp2 hus => q p us ks H2 hs (s1.trans s2) ?_ hp2 hus⟩⟩
  cases c : H p with
  | none => rfl
  | some u => rw [s1 _ _ c] at hp; cases hp
end Ss
/-! What is played: kinds, contents, places. -/
namespace Ss
open PySem PySem.Spec PyProof.Rows L2
abbrev ROOT : St2 := (0, 0)
structure Pl where
  up : Option (St2 × Int)
  st : St2
def Pl.d : Pl → PyData
  | ⟨some (u, k), s⟩ => .tuple [sD u, .int k, sD s]
  | ⟨none, s⟩ => .tuple [.none, .none, sD s]
theorem imm_pl (q : Pl) : imm q.d = true := by
  obtain ⟨u, s⟩ := q
  cases u with
  | none => simp [Pl.d, imm, immAll, imm_sD]
  | some x => simp [Pl.d, imm, immAll, imm_sD]
structure Ply where
  kd : Tb Kd
  ct : Tb PyData
  pl : Tb Pl
def Ply.holds (p : Ply) (u : St2) : Bool := match lk p.kd u with
  | some k => k.holds
  | none => false
theorem Ply.holds_kd {p : Ply} {u : St2} (h : p.holds u = true) : ∃ k, lk p.kd u = some k ∧ k.holds = true := by
  unfold Ply.holds at h
  cases c : lk p.kd u with
  | none => rw [c] at h; cases h
  | some k => rw [c] at h; exact ⟨k, rfl, h⟩
theorem Ply.holds_of {p : Ply} {u : St2} {k : Kd} (h : lk p.kd u = some k) (hk : k.holds = true) : p.holds u = true := by
  unfold Ply.holds
  rw [h]
  exact hk
/-- the way up, n steps -/
inductive Up (pl : Tb Pl) : St2 → Nat → Prop
  | root : Up pl ROOT 0
  | off {s : St2} {q : Pl} : s ≠ ROOT → lk pl s = some q → q.up = none → Up pl s 0
  | step {s u : St2} {q : Pl} {key : Int} {n : Nat} : s ≠ ROOT → lk pl s = some q → q.up = some (u, key) → Up pl u n → Up pl s (n + 1)
/-- the way up does not meet t -/
inductive Avoid (pl : Tb Pl) (t : St2) : St2 → Prop
  | root : Avoid pl t ROOT
  | off {s : St2} {q : Pl} : s ≠ ROOT → s ≠ t → lk pl s = some q → q.up = none → Avoid pl t s
  | step {s u : St2} {q : Pl} {key : Int} : s ≠ ROOT → s ≠ t → lk pl s = some q → q.up = some (u, key) → Avoid pl t u → Avoid pl t s
structure PInv (p : Ply) : Prop where
  root : lk p.kd ROOT = some .block
  ndk : (p.kd.map (·.1)).Nodup
  ndp : (p.pl.map (·.1)).Nodup
  ok : ∀ s k, lk p.kd s = some k → okPl s
  ct : ∀ s k, lk p.kd s = some k → s ≠ ROOT → ∃ c, lk p.ct s = some c ∧ okC k c
  pl : ∀ s k, lk p.kd s = some k → s ≠ ROOT → ∃ q, lk p.pl s = some q
  plk : ∀ s q, lk p.pl s = some q → s ≠ ROOT ∧ ∃ k, lk p.kd s = some k
  up : ∀ s q u key, lk p.pl s = some q → q.up = some (u, key) → p.holds u = true
  rank : ∀ s k, lk p.kd s = some k → ∃ n, Up p.pl s n
inductive Step (p : Ply) (st : St2) : Bd → Ply → Prop
  | same {b : Bd} : Step p st b p
  | make {k : Kd} {u : St2} {key : Int} {c : PyData} : p.holds u = true → Step p st (.make k u key c) ⟨putM p.kd st k, putM p.ct st c, putM p.pl st ⟨some (u, key), st⟩⟩
  | move {t u : St2} {key : Int} : t ≠ ROOT → (lk p.kd t).isSome = true → p.holds u = true → Avoid p.pl t u → Step p st (.move t u key) ⟨p.kd, p.ct, putM p.pl t ⟨some (u, key), st⟩⟩
  | drop {t : St2} : t ≠ ROOT → (lk p.kd t).isSome = true → Step p st (.drop t) ⟨p.kd, p.ct, putM p.pl t ⟨none, st⟩⟩
  | put {x : Pw} {t : St2} {c : PyData} : lk p.kd t = some x.k → Step p st (.put x t c) ⟨p.kd, putM p.ct t c, p.pl⟩
theorem holds_block {p : Ply} (h : PInv p) : p.holds ROOT = true := Ply.holds_of h.root rfl
theorem okSt_ne {s : St2} (h : okSt s) : s ≠ ROOT := fun z => by
  rw [z] at h
  exact absurd h.1 (by decide)
theorem Up.kept {pl pl' : Tb Pl} (h : ∀ s q, lk pl s = some q → lk pl' s = some q) {s : St2} {n : Nat} (u : Up pl s n) : Up pl' s n := by
  induction u with
  | root => exact .root
  | off a b c => exact .off a (h _ _ b) c
  | step a b c _ ih => exact .step a (h _ _ b) c ih
theorem Avoid.up {pl : Tb Pl} {t : St2} {q' : Pl} {s : St2} (a : Avoid pl t s) : ∃ n, Up (putM pl t q') s n := by
  induction a with
  | root => exact ⟨0, .root⟩
  | off a b c d => exact ⟨0, .off a (by rw [lk_put, if_neg b]; exact c) d⟩
  | step a b c d _ ih =>
    obtain ⟨n, h⟩ := ih
    exact ⟨n + 1, .step a (by rw [lk_put, if_neg b]; exact c) d h⟩
theorem Up.put {pl : Tb Pl} {t : St2} {q' : Pl} (ht : ∃ n, Up (putM pl t q') t n) {s : St2} {n : Nat} (u : Up pl s n) : ∃ m, Up (putM pl t q') s m := by
  induction u with
  | root => exact ⟨0, .root⟩
  | @off s q a b c =>
    by_cases h : s = t
    · rw [h]; exact ht
    · exact ⟨0, .off a (by rw [lk_put, if_neg h]; exact b) c⟩
  | @step s u q key n a b c _ ih =>
    by_cases h : s = t
    · rw [h]; exact ht
    · obtain ⟨m, hm⟩ := ih
      exact ⟨m + 1, .step a (by rw [lk_put, if_neg h]; exact b) c hm⟩
theorem PInv.step {p p' : Ply} {st : St2} {b : Bd} (h : PInv p) (hs : Step p st b p') (hb : b.ok) (hst : okSt st) (hn : lk p.kd st = none) : PInv p' := by
  cases hs with
  | same => exact h
  | @make k u key c hu =>
    have hne := okSt_ne hst
    have hpn : lk p.pl st = none := by
      cases e : lk p.pl st with
      | none => rfl
      | some q =>
        obtain ⟨_, k2, h2⟩ := h.plk st q e
        rw [hn] at h2; cases h2
    obtain ⟨ku, hku, hkh⟩ := Ply.holds_kd hu
    have hust : u ≠ st := fun z => by rw [z, hn] at hku; cases hku
    have hold : ∀ v, p.holds v = true → Ply.holds ⟨putM p.kd st k, putM p.ct st c, putM p.pl st ⟨some (u, key), st⟩⟩ v = true := fun v hv => by
      obtain ⟨kv, h1, h2⟩ := Ply.holds_kd hv
      exact Ply.holds_of (by show lk (putM p.kd st k) v = some kv; rw [lk_put, if_neg (fun z => by rw [z, hn] at h1; cases h1)]; exact h1) h2
    refine ⟨?_, putM_nodup h.ndk, putM_nodup h.ndp, ?_, ?_, ?_, ?_, ?_, ?_⟩
    · show lk (putM p.kd st k) ROOT = _
      rw [lk_put, if_neg (fun z => hne z.symm)]
      exact h.root
    · intro s k2 h2
      have h2 : lk (putM p.kd st k) s = some k2 := h2
      rw [lk_put] at h2
      by_cases e : s = st
      · rw [e]; exact .inl hst
      · rw [if_neg e] at h2; exact h.ok s k2 h2
    · intro s k2 h2 hs
      have h2 : lk (putM p.kd st k) s = some k2 := h2
      show ∃ c2, lk (putM p.ct st c) s = some c2 ∧ okC k2 c2
      rw [lk_put] at h2 ⊢
      by_cases e : s = st
      · rw [if_pos e] at h2 ⊢
        cases h2
        exact ⟨c, rfl, hb.2.2⟩
      · rw [if_neg e] at h2 ⊢
        exact h.ct s k2 h2 hs
    · intro s k2 h2 hs
      have h2 : lk (putM p.kd st k) s = some k2 := h2
      show ∃ c2, lk (putM p.pl st _) s = some c2
      rw [lk_put] at h2 ⊢
      by_cases e : s = st
      · rw [if_pos e]; exact ⟨_, rfl⟩
      · rw [if_neg e] at h2 ⊢
        exact h.pl s k2 h2 hs
    · intro s q h2
      have h2 : lk (putM p.pl st _) s = some q := h2
      show _ ∧ ∃ k2, lk (putM p.kd st k) s = some k2
      rw [lk_put] at h2 ⊢
      by_cases e : s = st
      · rw [if_pos e]; exact ⟨by rw [e]; exact hne, _, rfl⟩
      · rw [if_neg e] at h2 ⊢
        exact h.plk s q h2
    · intro s q v key2 h2 h3
      have h2 : lk (putM p.pl st _) s = some q := h2
      rw [lk_put] at h2
      by_cases e : s = st
      · rw [if_pos e] at h2
        cases h2
        cases h3
        exact hold _ hu
      · rw [if_neg e] at h2
        exact hold _ (h.up s q v key2 h2 h3)
    · intro s k2 h2
      have h2 : lk (putM p.kd st k) s = some k2 := h2
      have kept : ∀ s q, lk p.pl s = some q → lk (putM p.pl st ⟨some (u, key), st⟩) s = some q := fun s q hq => by
        rw [lk_put, if_neg (fun z => by rw [z, hpn] at hq; cases hq)]
        exact hq
      rw [lk_put] at h2
      by_cases e : s = st
      · obtain ⟨n, hu2⟩ := h.rank u ku hku
        refine ⟨n + 1, ?_⟩
        rw [e]
        exact .step hne (by show lk (putM p.pl st _) st = _; rw [lk_put, if_pos rfl]) rfl (hu2.kept kept)
      · rw [if_neg e] at h2
        obtain ⟨n, hs2⟩ := h.rank s k2 h2
        exact ⟨n, hs2.kept kept⟩
  | @move t u key ht hts hu ha =>
    obtain ⟨kt, hkt⟩ := Option.isSome_iff_exists.mp hts
    refine ⟨h.root, h.ndk, putM_nodup h.ndp, h.ok, h.ct, ?_, ?_, ?_, ?_⟩
    · intro s k2 h2 hs
      show ∃ c2, lk (putM p.pl t _) s = some c2
      rw [lk_put]
      by_cases e : s = t
      · rw [if_pos e]; exact ⟨_, rfl⟩
      · rw [if_neg e]; exact h.pl s k2 h2 hs
    · intro s q h2
      have h2 : lk (putM p.pl t _) s = some q := h2
      rw [lk_put] at h2
      by_cases e : s = t
      · rw [e]; exact ⟨ht, kt, hkt⟩
      · rw [if_neg e] at h2; exact h.plk s q h2
    · intro s q v key2 h2 h3
      have h2 : lk (putM p.pl t _) s = some q := h2
      rw [lk_put] at h2
      by_cases e : s = t
      · rw [if_pos e] at h2; cases h2; cases h3; exact hu
      · rw [if_neg e] at h2; exact h.up s q v key2 h2 h3
    · intro s k2 h2
      obtain ⟨n, hn2⟩ := h.rank s k2 h2
      obtain ⟨m, hm⟩ := ha.up (q' := ⟨some (u, key), st⟩)
      exact Up.put ⟨m + 1, .step ht (by rw [lk_put, if_pos rfl]) rfl hm⟩ hn2
  | @drop t ht hts =>
    obtain ⟨kt, hkt⟩ := Option.isSome_iff_exists.mp hts
    refine ⟨h.root, h.ndk, putM_nodup h.ndp, h.ok, h.ct, ?_, ?_, ?_, ?_⟩
    · intro s k2 h2 hs
      show ∃ c2, lk (putM p.pl t _) s = some c2
      rw [lk_put]
      by_cases e : s = t
      · rw [if_pos e]; exact ⟨_, rfl⟩
      · rw [if_neg e]; exact h.pl s k2 h2 hs
    · intro s q h2
      have h2 : lk (putM p.pl t _) s = some q := h2
      rw [lk_put] at h2
      by_cases e : s = t
      · rw [e]; exact ⟨ht, kt, hkt⟩
      · rw [if_neg e] at h2; exact h.plk s q h2
    · intro s q v key2 h2 h3
      have h2 : lk (putM p.pl t _) s = some q := h2
      rw [lk_put] at h2
      by_cases e : s = t
      · rw [if_pos e] at h2; cases h2; cases h3
      · rw [if_neg e] at h2; exact h.up s q v key2 h2 h3
    · intro s k2 h2
      obtain ⟨n, hn2⟩ := h.rank s k2 h2
      exact Up.put ⟨0, .off ht (by rw [lk_put, if_pos rfl]) rfl⟩ hn2
  | @put x t c hk =>
    refine ⟨h.root, h.ndk, h.ndp, h.ok, ?_, h.pl, h.plk, h.up, h.rank⟩
    intro s k2 h2 hs
    show ∃ c2, lk (putM p.ct t c) s = some c2 ∧ okC k2 c2
    rw [lk_put]
    by_cases e : s = t
    · rw [if_pos e]
      rw [e, hk] at h2
      cases h2
      exact ⟨c, rfl, hb.2⟩
    · rw [if_neg e]
      exact h.ct s k2 h2 hs
def Ply.zero : Ply := ⟨[(ROOT, .block)], [], []⟩
theorem PInv.zero : PInv Ply.zero := by
  have one : ∀ s k, lk Ply.zero.kd s = some k → s = ROOT := fun s k h => by
    have h : lk [(ROOT, Kd.block)] s = some k := h
    rw [lk_cons] at h
    by_cases e : ROOT = s
    · exact e.symm
    · rw [if_neg e] at h; cases h
  refine ⟨rfl, by simp [Ply.zero], by simp [Ply.zero], fun s k h => ?_, fun s k h hs => absurd (one s k h) hs, fun s k h hs => absurd (one s k h) hs, fun s q h => ?_, fun s q u key h => ?_, fun s k h => ?_⟩
  · rw [one s k h]; exact .inr rfl
  · cases h
  · cases h
  · rw [one s k h]; exact ⟨0, .root⟩
end Ss
/-! Ranks. -/
namespace Ss
open PySem PySem.Spec PyProof.Rows L2
theorem nodup_le {α : Type} [DecidableEq α] : ∀ {l m : List α}, l.Nodup → (∀ x ∈ l, x ∈ m) → l.length ≤ m.length
  | [], _, _, _ => Nat.zero_le _
  | x :: l, m, nd, h => by
    rw [List.nodup_cons] at nd
    have h1 : l.length ≤ (m.erase x).length := nodup_le nd.2 fun y hy => by
      rw [List.mem_erase_of_ne (fun z => nd.1 (by rw [← z]; exact hy))]
      exact h y (List.mem_cons_of_mem _ hy)
    rw [List.length_erase_of_mem (h x (List.mem_cons_self ..))] at h1
    have : 0 < m.length := List.length_pos_of_mem (h x (List.mem_cons_self ..))
    simp
    omega
theorem Up.one {pl : Tb Pl} {s : St2} {n m : Nat} (a : Up pl s n) (b : Up pl s m) : n = m := by
  induction a generalizing m with
  | root =>
    cases b with
    | root => rfl
    | off c _ _ => exact absurd rfl c
    | step c _ _ _ => exact absurd rfl c
  | off a1 a2 a3 =>
    cases b with
    | root => exact absurd rfl a1
    | off _ _ _ => rfl
    | step _ c d _ => rw [a2] at c; cases c; rw [a3] at d; cases d
  | step a1 a2 a3 _ ih =>
    cases b with
    | root => exact absurd rfl a1
    | off _ c d => rw [a2] at c; cases c; rw [a3] at d; cases d
    | step _ c d e => rw [a2] at c; cases c; rw [a3] at d; cases d; rw [ih e]
theorem Up.path {pl : Tb Pl} {s : St2} {n : Nat} (a : Up pl s n) : ∃ l : List St2, l.length = n ∧ l.Nodup ∧ ∀ x ∈ l, x ∈ pl.map (·.1) ∧ ∃ k, k ≤ n ∧ Up pl x k := by
  induction a with
  | root => exact ⟨[], rfl, List.nodup_nil, by simp⟩
  | off _ _ _ => exact ⟨[], rfl, List.nodup_nil, by simp⟩
  | @step s u q key n a1 a2 a3 hu ih =>
    obtain ⟨l, h1, h2, h3⟩ := ih
    refine ⟨s :: l, by simp [h1], List.nodup_cons.mpr ⟨fun hm => ?_, h2⟩, fun x hx => ?_⟩
    · obtain ⟨_, k, hk, hu2⟩ := h3 s hm
      have := hu2.one (.step a1 a2 a3 hu)
      omega
    · rcases List.mem_cons.mp hx with rfl | hx
      · exact ⟨lk_some.mp (by rw [a2]; rfl), n + 1, Nat.le_refl _, .step a1 a2 a3 hu⟩
      · obtain ⟨h4, k, hk, h5⟩ := h3 x hx
        exact ⟨h4, k, by omega, h5⟩
theorem Up.le {pl : Tb Pl} {s : St2} {n : Nat} (a : Up pl s n) : n ≤ pl.length := by
  obtain ⟨l, h1, h2, h3⟩ := a.path
  have := nodup_le h2 fun x hx => (h3 x hx).1
  rw [List.length_map] at this
  omega
theorem canAll_of : ∀ {ds : List PyData}, (∀ d ∈ ds, PyData.canLay0 d = true) → PyData.canLayAll0 ds = true
  | [], _ => by simp [PyData.canLayAll0]
  | d :: ds, h => by
    simp only [PyData.canLayAll0, Bool.and_eq_true]
    exact ⟨h d (List.mem_cons_self ..), canAll_of fun x hx => h x (List.mem_cons_of_mem _ hx)⟩
theorem depthAll_of {n : Nat} : ∀ {ds : List PyData}, (∀ d ∈ ds, d.depth ≤ n) → PyData.depthAll ds ≤ n
  | [], _ => by simp [PyData.depthAll]
  | d :: ds, h => by
    have h1 := h d (List.mem_cons_self ..)
    have h2 := depthAll_of (ds := ds) fun x hx => h x (List.mem_cons_of_mem _ hx)
    simp only [PyData.depthAll]
    omega
theorem shaped_of {ds : List PyData} (h : ∀ d ∈ ds, PyData.canLay0 d = true ∧ d.depth ≤ 60) : SeqAt.shaped (.tuple ds) = true := by
  unfold SeqAt.shaped
  rw [Bool.and_eq_true]
  refine ⟨?_, decide_eq_true ?_⟩
  · show PyData.canLayAll0 ds = true
    exact canAll_of fun d hd => (h d hd).1
  · have := depthAll_of (n := 60) fun d hd => (h d hd).2
    simp only [PyData.depth]
    omega
theorem lay_sD (k : St2) : PyData.canLay0 (sD k) = true ∧ (sD k).depth ≤ 2 := ⟨by simp [sD, PyData.canLay0, PyData.canLayAll0], by simp [sD, PyData.depth, PyData.depthAll]⟩
theorem lay_bD (b : Option St2) : PyData.canLay0 (bD b) = true ∧ (bD b).depth ≤ 2 := by
  cases b with
  | none => exact ⟨by simp [bD, PyData.canLay0], by simp [bD, PyData.depth]⟩
  | some k => exact lay_sD k
section
variable {P : Program} {w : World} {K : PySem.W.Frag} {H : Hp} {Q : VK} {v : V}
theorem dpa_last {ds : List PyData} {vs : List V} {d : PyData} (h : DpAll K H vs ds) (e : ds.getLast? = some d) : ∃ u, vs.getLast? = some u ∧ Dp K H u d := by
  rw [List.getLast?_eq_getElem?] at e
  obtain ⟨u, h1, h2⟩ := dpa_get h e
  refine ⟨u, ?_, h2⟩
  rw [List.getLast?_eq_getElem?, dpa_len h]
  exact h1
theorem ixDl {ds : List PyData} {d : PyData} (h : Dp K H v (.tuple ds)) (e : ds.getLast? = some d) (q : ∀ u, Dp K H u d → Q u H) : rIxA P w K v (.int (-1)) H Q := by
  cases h with
  | tup hs ha =>
    obtain ⟨u, h1, h2⟩ := dpa_last ha e
    exact ixTl hs h1 (q u h2)
theorem ixLd {a : Addr} {us : List V} {ds : List PyData} {d : PyData} (h : SqL K H a us) (hd : DpAll K H us ds) (e : ds.getLast? = some d) (q : ∀ u, Dp K H u d → Q u H) : rIxA P w K (.ref a) (.int (-1)) H Q := by
  obtain ⟨u, h1, h2⟩ := dpa_last hd e
  exact ixLl h h1 (q u h2)
end
end Ss
/-! Walks: playing. -/
namespace Ss
open PySem PySem.Spec PyProof.Rows L2
variable {P : Program} {w : World} {K : PySem.W.Frag} {mg : Str → Option Value} {base : Heap} {e0 : Addr}
abbrev RK (K : PySem.W.Frag) : Hp → V → Kd → Prop := RD K fun k => .str k.s
abbrev RC (K : PySem.W.Frag) : Hp → V → PyData → Prop := RD K fun d => d
abbrev RP (K : PySem.W.Frag) : Hp → V → Pl → Prop := RD K Pl.d
abbrev plO (K : PySem.W.Frag) (dx ak ac ap ar : Addr) : HO := .ins (He.ga K "Playing") dx [("own_kinds", .ref ak), ("own_contents", .ref ac), ("own_places", .ref ap), ("own_rows", .ref ar)]
def Ply.le (y : Ply) (N : Nat) : Prop := y.kd.length ≤ N + 1 ∧ y.ct.length ≤ N + 1 ∧ y.pl.length ≤ N + 1
structure PlyC (P : Program) (w : World) (K : PySem.W.Frag) (N : Nat) (H : Hp) (p dx ak ac ap ar : Addr) (y : Ply) : Prop where
  ob : H p = some (plO K dx ak ac ap ar)
  kd : DM P w K (RK K) H ak y.kd
  ct : DM P w K (RC K) H ac y.ct
  pl : DM P w K (RP K) H ap y.pl
  rows : ∃ rs, H ar = some (.lst rs) ∧ rs.length ≤ N
  kc : ak ≠ ac
  kp : ak ≠ ap
  cp : ac ≠ ap
section
variable {N : Nat} {H H' : Hp} {p dx ak ac ap ar : Addr} {y : Ply}
theorem PlyC.same (h : PlyC P w K N H p dx ak ac ap ar y) (s : Same H H') : PlyC P w K N H' p dx ak ac ap ar y :=
  ⟨s _ _ h.ob, h.kd.same rd_stb.stb s, h.ct.same rd_stb.stb s, h.pl.same rd_stb.stb s, let ⟨rs, e, l⟩ := h.rows; ⟨rs, s _ _ e, l⟩, h.kc, h.kp, h.cp⟩
theorem PlyC.pk (h : PlyC P w K N H p dx ak ac ap ar y) : p ≠ ak ∧ p ≠ ac ∧ p ≠ ap ∧ p ≠ ar ∧ ar ≠ ak ∧ ar ≠ ac ∧ ar ≠ ap := by
  obtain ⟨e1, k1, _⟩ := h.kd
  obtain ⟨e2, k2, _⟩ := h.ct
  obtain ⟨e3, k3, _⟩ := h.pl
  obtain ⟨rs, k4, _⟩ := h.rows
  have k0 := h.ob
  refine ⟨fun z => ?_, fun z => ?_, fun z => ?_, fun z => ?_, fun z => ?_, fun z => ?_, fun z => ?_⟩
  · rw [z, k1] at k0; cases k0
  · rw [z, k2] at k0; cases k0
  · rw [z, k3] at k0; cases k0
  · rw [z, k4] at k0; cases k0
  · rw [z, k1] at k4; cases k4
  · rw [z, k2] at k4; cases k4
  · rw [z, k3] at k4; cases k4
theorem rk_v {v : V} {k : Kd} (h : RK K H v k) : v = .str k.s := dp_str h.1
theorem look_some {α : Type} {m : Tb α} {k : St2} {x : α} (h : lk m k = some x) : (lk m k).isSome = true := by rw [h]; rfl
end
def sp_can_hold (P : Program) (w : World) (K : PySem.W.Frag) : Sp := fun vs H Q _ => vs.length = 2 ∧ ∃ (N : Nat) (p dx ak ac ap ar : Addr) (y : Ply) (v : V) (u : St2), vs = [.ref p, v] ∧ PlyC P w K N H p dx ak ac ap ar y ∧ Dp K H v (sD u) ∧ Q (.bl (y.holds u)) H
theorem ok_can_hold (T : Tx w K mg e0) : Kn P w K mg base 2 (He.ma K (He.ga K "Playing") "can_hold") ["self", "under"] (sp_can_hold P w K) := by
  have G_does_hold : Kn P w K mg base 1 _ _ _ := ok_does_hold T
  refine T.d_Playing_can_hold.kn sc_Playing_can_hold (fun _ _ _ _ _ _ us hl => match us, hl with | [_, _], _ => rfl) (fun vs H Q E h => h.1) (fun cdv A outer s H vs Q E hr h => ?_)
  have hu := hu65 hr
  obtain ⟨_, N, p, dx, ak, ac, ap, ar, y, v, u, rfl, hC, hv, q⟩ := h
  refine ⟨_, (pss_one (ps_ret (pe_and (pe_cmpR (op_inA hu) (pv 1) (pe_fld (pv 0) rfl) (by rfl)) (pe_one (pe_fn G_does_hold (hr.mono (by first | decide | exact Nat.le_refl _ | exact Nat.le_add_right_of_le (by decide) | omega)) T.g_does_hold (pa_cons (pe_ix (ix_any hu) (pe_fld (pv 0) rfl) (pv 1) (fun _ _ => rfl)) pa_nil)))))), ?_⟩
  refine ⟨_, rfl, _, rfl, p, _, dx, _, _, rfl, hC.ob, T.cls_Playing, T.na_Playing_own_kinds, rfl, dinR hC.kd.r hv ⟨_, rfl, ?_⟩⟩
  unfold Ply.holds at q
  cases c : lk y.kd u with
  | none =>
    rw [c] at q
    exact iteF q
  | some k =>
    rw [c] at q
    refine iteT ⟨_, rfl, p, _, dx, _, _, rfl, hC.ob, T.cls_Playing, T.na_Playing_own_kinds, rfl, _, rfl, dgetR hC.kd.r hv c fun x hx => ?_⟩
    obtain rfl := rk_v hx
    exact ⟨k, rfl, q⟩
def sp_can_leave (P : Program) (w : World) (K : PySem.W.Frag) : Sp := fun vs H Q _ => vs.length = 2 ∧ ∃ (N : Nat) (p dx ak ac ap ar : Addr) (y : Ply) (v : V) (u : St2), vs = [.ref p, v] ∧ PlyC P w K N H p dx ak ac ap ar y ∧ Dp K H v (sD u) ∧ Q (.bl (!decide (u = ROOT) && (lk y.kd u).isSome)) H
theorem ok_can_leave (T : Tx w K mg e0) : Kn P w K mg base 1 (He.ma K (He.ga K "Playing") "can_leave") ["self", "thing"] (sp_can_leave P w K) := by
  refine T.d_Playing_can_leave.kn sc_Playing_can_leave (fun _ _ _ _ _ _ us hl => match us, hl with | [_, _], _ => rfl) (fun vs H Q E h => h.1) (fun cdv A outer s H vs Q E hr h => ?_)
  have hu := hu65 hr
  obtain ⟨_, N, p, dx, ak, ac, ap, ar, y, v, u, rfl, hC, hv, q⟩ := h
  refine ⟨_, (pss_one (ps_ret (pe_and (pe_cmpR (op_neA hu) (pv 1) (pe_globR rfl T.g_ROOT) (nomark _)) (pe_one (pe_cmpR (op_inA hu) (pv 1) (pe_fld (pv 0) rfl) (by rfl)))))), ?_⟩
  refine ⟨_, rfl, neK hv (dp_stamp (k := ROOT) (T.tu_ROOT _)) ⟨_, rfl, ?_⟩⟩
  cases c : decide (u = ROOT) with
  | true =>
    rw [c] at q
    exact iteF q
  | false =>
    rw [c] at q
    exact iteT ⟨_, rfl, _, rfl, p, _, dx, _, _, rfl, hC.ob, T.cls_Playing, T.na_Playing_own_kinds, rfl, dinR hC.kd.r hv q⟩
/-- what a chain is -/
def chD (cs : List (St2 × Option St2)) : PyData := .tuple (cs.map fun x => .tuple [sD x.1, bD x.2])
theorem chD_imm (cs : List (St2 × Option St2)) : imm (chD cs) = true := by
  show immAll _ = true
  refine immAll_of fun d hd => ?_
  obtain ⟨x, _, rfl⟩ := List.mem_map.mp hd
  cases h : x.2 <;> simp [imm, immAll, imm_sD, bD]
def sp_chain_up (P : Program) (w : World) (K : PySem.W.Frag) : Sp := fun vs H Q _ => vs.length = 3 ∧ ∃ (N : Nat) (p dx ak ac ap ar : Addr) (y : Ply) (v1 v2 : V) (t u : St2), vs = [.ref p, v1, v2] ∧ PlyC P w K N H p dx ak ac ap ar y ∧ Dp K H v1 (sD t) ∧ Dp K H v2 (sD u) ∧
  (∃ n, Up y.pl u n) ∧ N ≤ 60 ∧ y.le N ∧ ∀ (r : V) (cs : List (St2 × Option St2)) (H' : Hp), Same H H' → Dp K H' r (chD cs) → cs.length ≤ 200 → ((∃ x, cs.getLast? = some (x, none)) ∨ ((∀ x, cs.getLast? ≠ some (x, none)) ∧ Avoid y.pl t u)) → Q r H'
theorem ok_chain_up (T : Tx w K mg e0) : Kn P w K mg base 1 (He.ma K (He.ga K "Playing") "chain_up") ["self", "thing", "under"] (sp_chain_up P w K) := by
  refine T.d_Playing_chain_up.kn sc_Playing_chain_up (fun _ _ _ _ _ _ us hl => match us, hl with | [_, _, _], _ => rfl) (fun vs H Q E h => h.1) (fun cdv A outer s H vs Q E hr h => ?_)
  have hu := hu65 hr
  obtain ⟨_, N, p, dx, ak, ac, ap, ar, y, v1, v2, t, u, rfl, hC, h1, h2, ⟨n0, hn0⟩, hN, hle, q⟩ := h
  refine ⟨_, (pss_cons (ps_set (i := 3) sc_Playing_chain_up.nd rfl (Or.inl rfl) (pe_lst pa_nil))
    (pss_cons (ps_set (i := 4) sc_Playing_chain_up.nd rfl (Or.inl rfl) (pv 2))
    (pss_cons (ps_while PassesOwn.never (PW.pt (pw_and (pt_cmpR op_notN (pv 4) pe_non (nomark _)) (pw_and1 (pt_cmpR (op_neA hu) (pv 4) (pe_globR rfl T.g_ROOT) (nomark _))))) (pss_cons (ps_if (pt_cmpR (op_eqA hu) (pv 4) (pv 1) (nomark _)) (pss_one (ps_ret (pe_tup (StX.pa_star (pv 3) (pa_cons (pe_tup (pa_cons (pv 1) (pa_cons pe_non pa_nil))) pa_nil))))) pss_nil)
    (pss_cons (ps_set (i := 5) sc_Playing_chain_up.nd rfl (Or.inl rfl) (pe_ix (ix_any hu) (pe_fld (pv 0) rfl) (pv 4) (fun _ _ => rfl)))
    (pss_cons (ps_expr (pe_bm PySem.F.plainAttrs_list PySem.F.slot_list_append PySem.F.type_list_append mt_append (pv 3) (pa_cons (pe_tup (pa_cons (pv 4) (pa_cons (pe_ix (ix_any hu) (pv 5) pe_int (fun _ _ => rfl)) pa_nil))) pa_nil)))
    (pss_one (ps_set (i := 4) sc_Playing_chain_up.nd rfl (Or.inl rfl) (pe_ix (ix_any hu) (pv 5) pe_int (fun _ _ => rfl))))))))
    (pss_one (ps_ret (pe_callTy (cb_tuple hu) (by rfl) T.b_tuple (by decide +kernel) (pa_cons (pv 3) pa_nil))))))), ?_⟩
  have hnl : n0 ≤ 61 := Nat.le_trans hn0.le (Nat.le_trans hle.2.2 (by omega))
  refine ⟨szL, fun fl hfl => ⟨_, rfl, ?_⟩⟩
  refine ⟨fun m σ H2 => ∃ (sp : Option St2) (v4 : V) (cs : List (St2 × Option St2)) (us : List V) (o5 : Option V), σ = [some (.ref p), some v1, some v2, some (.ref fl), some v4, o5] ∧ Same H H2 ∧ H2 fl = some (.lst us) ∧
    DpAll K H2 us (cs.map fun x => .tuple [sD x.1, bD x.2]) ∧ (∀ x ∈ cs, x.2 ≠ none) ∧ Dp K H2 v4 (bD sp) ∧ cs.length + m ≤ n0 + 1 ∧
    (match sp with | none => Avoid y.pl t u | some s => (∃ n, Up y.pl s n ∧ n + 1 = m) ∧ (Avoid y.pl t s → Avoid y.pl t u)), ?_, ?_⟩
  · exact ⟨n0 + 1, some u, v2, [], [], _, rfl, same_new hfl, upd_same, .nil, fun x hx => by simp at hx, dp_same (same_new hfl) h2, by simp, ⟨n0, hn0, rfl⟩, fun h => h⟩
  · rintro m σ H2 ⟨sp, v4, cs, us, o5, rfl, s2, hf2, hus, hcn, hv4, hcl, hsp⟩
    have hcsl : us.length = cs.length := by rw [dpa_len hus, List.length_map]
    have fin : Avoid y.pl t u → ∀ (r : V) (H' : Hp), Same H2 H' → Dp K H' r (chD cs) → Q r H' := fun hav r H' s3 hr => by
      refine q r cs H' (s2.trans s3) hr (by omega) (.inr ⟨fun x hx => ?_, hav⟩)
      exact hcn _ (List.mem_of_getLast? hx) rfl
    have nxt : Avoid y.pl t u → (tRet (tCB (rTupA K) (tCons (tVar 3) tNil))) { nx := fun x H' => Q V.non H', rt := Q } [some (.ref p), some v1, some v2, some (.ref fl), some v4, o5] H2 := fun hav =>
      ⟨_, rfl, .inl ⟨fl, us, rfl, SqL.of hf2, fun l hl => fin hav _ _ (same_new hl) (.tup (SqT.of upd_same) (dpa_same (same_new hl) hus))⟩⟩
    cases sp with
    | none =>
      obtain rfl := dp_non hv4
      exact ⟨_, rfl, rfl, _, rfl, iteF (iteF (nxt hsp))⟩
    | some s =>
      obtain ⟨⟨n, hup, rfl⟩, hav⟩ := hsp
      obtain ⟨va, rfl, hva⟩ := stamp_dp hv4
      have h12 := dp_same s2 h1
      refine ⟨_, rfl, rfl, _, rfl, iteT ⟨_, rfl, neK hv4 (dp_stamp (k := ROOT) (T.tu_ROOT _)) ⟨_, rfl, ?_⟩⟩⟩
      by_cases hr0 : s = ROOT
      · rw [show (!decide (s = ROOT)) = false by simp [hr0]]
        refine iteF (nxt (hav ?_))
        rw [hr0]
        exact .root
      rw [show (!decide (s = ROOT)) = true by simp [hr0]]
      refine iteT ⟨fun σ' H' => ∃ m', m' < n + 1 ∧ _, fun σ' H' h => h, ?_⟩
      refine ⟨_, rfl, _, rfl, eqK hv4 h12 ⟨_, rfl, ?_⟩⟩
      by_cases hst : s = t
      · rw [show decide (s = t) = true by simp [hst]]
        refine iteT ⟨_, rfl, fl, us, rfl, .inr (SqL.of hf2), _, rfl, szL, fun p2 hp2 => ⟨?_, fun p3 hp3 => ?_⟩⟩
        · simp
          exact Nat.le_trans (show us.length + 1 ≤ 70 by omega) (by decide)
        · have s3 := same_new (o := .tup [v1, .non]) hp2
          have s4 := same_new (o := .tup (us ++ [.ref p2])) hp3
          refine q _ (cs ++ [(t, none)]) _ ((s2.trans s3).trans s4) ?_ (by simp; omega) (.inl ⟨t, by simp⟩)
          unfold chD
          rw [List.map_append]
          refine .tup (SqT.of upd_same) (dpa_append (dpa_same (s3.trans s4) hus) (.cons (dp_same s4 (.tup (SqT.of upd_same) (.cons (dp_same s3 h12) (.cons .non .nil)))) .nil))
      rw [show decide (s = t) = false by simp [hst]]
      obtain ⟨q0, hq0⟩ : ∃ q0, lk y.pl s = some q0 := by
        cases hup with
        | root => exact absurd rfl hr0
        | off _ c _ => exact ⟨_, c⟩
        | step _ c _ _ => exact ⟨_, c⟩
      have hC2 := hC.same s2
      refine iteF ⟨_, rfl, p, _, dx, _, _, rfl, hC2.ob, T.cls_Playing, T.na_Playing_own_places, rfl, _, rfl, dgetR hC2.pl.r hv4 hq0 fun vp hvp => ?_⟩
      have hpd : ∃ d0 d1, q0.d = .tuple [d0, d1, sD q0.st] ∧ d0 = bD (q0.up.map (·.1)) := by
        obtain ⟨qu, qs⟩ := q0
        cases qu with
        | none => exact ⟨_, _, rfl, rfl⟩
        | some x => exact ⟨_, _, rfl, rfl⟩
      obtain ⟨d0, d1, hqd, hd0⟩ := hpd
      have hvp := hvp.1
      rw [hqd] at hvp
      refine ⟨_, rfl, .inl ⟨rfl, us, SqL.of hf2⟩, _, rfl, _, rfl, ixD 2 hvp fun v6 h6 => ⟨szL, fun p2 hp2 => ?_⟩⟩
      have s3 := same_new (o := .tup [.ref va, v6]) hp2
      refine ⟨fl, us, _, rfl, rfl, s3 _ _ hf2, Nat.lt_of_le_of_lt (show us.length ≤ 64 by omega) (by decide), ?_⟩
      have t4 : TupLe (upd H2 p2 (.tup [.ref va, v6])) (upd (upd H2 p2 (.tup [.ref va, v6])) fl (.lst (us ++ [.ref p2]))) := tup_lst (s3 _ _ hf2)
      have imcs : immAll (cs.map fun x => .tuple [sD x.1, bD x.2]) = true := chD_imm cs
      have imq : imm (.tuple [d0, d1, sD q0.st]) = true := hqd ▸ imm_pl q0
      refine ⟨_, rfl, ixD 0 (dp_tup t4 imq (dp_same s3 hvp)) fun v7 h7 => ?_⟩
      rw [hd0] at h7
      refine ⟨n, Nat.lt_succ_self _, q0.up.map (·.1), v7, cs ++ [(s, some q0.st)], _, _, rfl, same_mut (s2.trans s3) hfl, upd_same, ?_, ?_, h7, by simp; omega, ?_⟩
      · rw [List.map_append]
        refine dpa_append (dpa_tup t4 imcs (dpa_same s3 hus)) (.cons (dp_tup t4 (by simp [imm, immAll, imm_sD, bD]) (.tup (SqT.of upd_same) (.cons (dp_same s3 hv4) (.cons (dp_same s3 h6) .nil)))) .nil)
      · intro x hx
        rcases List.mem_append.mp hx with hx | hx
        · exact hcn x hx
        · simp at hx
          subst hx
          simp
      · cases hup with
        | root => exact absurd rfl hr0
        | off _ c d =>
          rw [hq0] at c
          cases c
          rw [d]
          exact hav (.off hr0 hst hq0 d)
        | @step _ u2 _ key k _ c d e =>
          rw [hq0] at c
          cases c
          rw [d]
          exact ⟨⟨_, e, rfl⟩, fun h => hav (.step hr0 hst hq0 d h)⟩
theorem DM.keep {α : Type} {R : Hp → V → α → Prop} {H : Hp} {a b : Addr} {o : HO} {m : Tb α} (h : DM P w K R H a m) (st : Stb R) (l : LTLe H (upd H b o)) (ne : a ≠ b) : DM P w K R (upd H b o) a m :=
  h.moveL st l fun u e => by rw [upd_ne ne]; exact e
section
variable {N : Nat} {H H' : Hp} {p dx ak ac ap ar : Addr} {y : Ply}
theorem PlyC.setK (h : PlyC P w K N H p dx ak ac ap ar y) {o : HO} {m : Tb Kd} (d : DM P w K (RK K) (upd H ak o) ak m) (l : LTLe H (upd H ak o)) : PlyC P w K N (upd H ak o) p dx ak ac ap ar ⟨m, y.ct, y.pl⟩ := by
  obtain ⟨h1, h2, h3, h4, h5, h6, h7⟩ := h.pk
  exact ⟨by rw [upd_ne h1]; exact h.ob, d, h.ct.keep rd_stb.stb l (Ne.symm h.kc), h.pl.keep rd_stb.stb l (Ne.symm h.kp), let ⟨rs, e, z⟩ := h.rows; ⟨rs, by rw [upd_ne h5]; exact e, z⟩, h.kc, h.kp, h.cp⟩
theorem PlyC.setC (h : PlyC P w K N H p dx ak ac ap ar y) {o : HO} {m : Tb PyData} (d : DM P w K (RC K) (upd H ac o) ac m) (l : LTLe H (upd H ac o)) : PlyC P w K N (upd H ac o) p dx ak ac ap ar ⟨y.kd, m, y.pl⟩ := by
  obtain ⟨h1, h2, h3, h4, h5, h6, h7⟩ := h.pk
  exact ⟨by rw [upd_ne h2]; exact h.ob, h.kd.keep rd_stb.stb l h.kc, d, h.pl.keep rd_stb.stb l (Ne.symm h.cp), let ⟨rs, e, z⟩ := h.rows; ⟨rs, by rw [upd_ne h6]; exact e, z⟩, h.kc, h.kp, h.cp⟩
theorem PlyC.setP (h : PlyC P w K N H p dx ak ac ap ar y) {o : HO} {m : Tb Pl} (d : DM P w K (RP K) (upd H ap o) ap m) (l : LTLe H (upd H ap o)) : PlyC P w K N (upd H ap o) p dx ak ac ap ar ⟨y.kd, y.ct, m⟩ := by
  obtain ⟨h1, h2, h3, h4, h5, h6, h7⟩ := h.pk
  exact ⟨by rw [upd_ne h3]; exact h.ob, h.kd.keep rd_stb.stb l h.kp, h.ct.keep rd_stb.stb l h.cp, d, let ⟨rs, e, z⟩ := h.rows; ⟨rs, by rw [upd_ne h7]; exact e, z⟩, h.kc, h.kp, h.cp⟩
end
/-- a deed's doing -/
def spOp (P : Program) (w : World) (K : PySem.W.Frag) (len : Nat) (G : Addr → List V → Hp → St2 → Bd → Prop) : Sp := fun vs H Q _ => vs.length = len ∧ ∃ (N : Nat) (p dx ak ac ap ar : Addr) (y : Ply) (st : St2) (b : Bd), G p vs H st b ∧ PlyC P w K N H p dx ak ac ap ar y ∧
  PInv y ∧ y.le N ∧ N ≤ 60 ∧ b.ok ∧ ∀ (r : Addr) (o1 c1 : V) (y' : Ply) (H' : Hp), Step y st b y' → Fr [ak, ac, ap] H H' → PlyC P w K N H' p dx ak ac ap ar y' → SqT K H' r [o1, c1] → Q (.ref r) H'
def sp_make_thing (P : Program) (w : World) (K : PySem.W.Frag) : Sp := spOp P w K 3 fun p vs H st b => ∃ (x u : V) (k : Kd) (uu : St2) (key : Int) (c : PyData), vs = [.ref p, x, u] ∧ b = .make k uu key c ∧ Dp K H x (sD st) ∧ Dp K H u b.d
theorem ok_make_thing (T : Tx w K mg e0) : Kn P w K mg base 3 (He.ma K (He.ga K "Playing") "make_thing") ["self", "stamp", "body"] (sp_make_thing P w K) := by
  have G_Playing_can_hold : Kn P w K mg base 2 _ _ _ := ok_can_hold T
  refine T.d_Playing_make_thing.kn sc_Playing_make_thing (fun _ _ _ _ _ _ us hl => match us, hl with | [_, _, _], _ => rfl) (fun vs H Q E h => h.1) (fun cdv A outer s H vs Q E hr h => ?_)
  have hu := hu65 hr
  obtain ⟨_, N, p, dx, ak, ac, ap, ar, y, st, b, ⟨x, u, k, uu, key, c, rfl, rfl, hx, hb⟩, hC, hI, hle, hN, hok, q⟩ := h
  refine ⟨_, (pss_cons (ps_if (pt_not (pt_val (pe_mt (pv 0) T.cls_Playing T.me_Playing_can_hold G_Playing_can_hold (hr.mono (by first | decide | exact Nat.le_refl _ | exact Nat.le_add_right_of_le (by decide) | omega)) (pa_cons (pe_ix (ix_any hu) (pv 2) pe_int (fun _ _ => rfl)) pa_nil)))) (pss_one (ps_ret (pe_tup (pa_cons (pe_globS rfl T.s_GONE) (pa_cons (pe_tup pa_nil) pa_nil))))) pss_nil)
    (pss_cons (ps_asg (pe_ix (ix_any hu) (pv 2) pe_int (fun _ _ => rfl)) (pg_sub (pe_fld (pv 0) rfl) (pv 1) (set_any hu)))
    (pss_cons (ps_asg (pe_ix (ix_any hu) (pv 2) pe_int (fun _ _ => rfl)) (pg_sub (pe_fld (pv 0) rfl) (pv 1) (set_any hu)))
    (pss_cons (ps_asg (pe_tup (pa_cons (pe_ix (ix_any hu) (pv 2) pe_int (fun _ _ => rfl)) (pa_cons (pe_ix (ix_any hu) (pv 2) pe_int (fun _ _ => rfl)) (pa_cons (pv 1) pa_nil)))) (pg_sub (pe_fld (pv 0) rfl) (pv 1) (set_any hu)))
    (pss_one (ps_ret (pe_tup (pa_cons (pe_globS rfl T.s_DONE) (pa_cons (pe_tup pa_nil) pa_nil))))))))), ?_⟩
  refine ⟨_, rfl, p, dx, _, rfl, hC.ob, rfl, _, rfl, ixD 2 hb fun v2 h2 => ⟨rfl, N, p, dx, ak, ac, ap, ar, y, v2, uu, rfl, hC, h2, ⟨_, rfl, ?_⟩⟩⟩
  cases hho : y.holds uu with
  | false =>
    refine iteT ⟨szL, fun p1 hp1 => ⟨szL, fun p2 hp2 => ?_⟩⟩
    have s1 := (same_new (o := .tup []) hp1).trans (same_new (o := .tup [.str "gone", .ref p1]) hp2)
    exact q p2 _ _ y _ .same (Same.fr s1) (hC.same s1) (SqT.of upd_same)
  | true =>
    refine iteF ⟨_, rfl, ixD 1 hb fun v1 h1 => ⟨_, rfl, p, _, dx, _, _, rfl, hC.ob, T.cls_Playing, T.na_Playing_own_kinds, rfl, _, rfl, ?_⟩⟩
    refine hC.kd.put (x := k) rd_stb.stb hx ⟨h1, rfl⟩ (Nat.lt_of_le_of_lt hle.1 (Nat.lt_of_le_of_lt (show N + 1 ≤ 61 by omega) (by decide))) fun es1 d1 l1 => ?_
    have hC1 := hC.setK d1 l1
    have hb1 := dp_tup l1.1 (imm_bd hok) hb
    have hx1 := dp_tup l1.1 (imm_sD _) hx
    refine ⟨_, rfl, ixD 4 hb1 fun v4 h4 => ⟨_, rfl, p, _, dx, _, _, rfl, hC1.ob, T.cls_Playing, T.na_Playing_own_contents, rfl, _, rfl, ?_⟩⟩
    refine hC1.ct.put (x := c) rd_stb.stb hx1 ⟨h4, imm_c hok.2.2⟩ (Nat.lt_of_le_of_lt hle.2.1 (Nat.lt_of_le_of_lt (show N + 1 ≤ 61 by omega) (by decide))) fun es2 d2 l2 => ?_
    have hC2 := hC1.setC d2 l2
    have hb2 := dp_tup l2.1 (imm_bd hok) hb1
    have hx2 := dp_tup l2.1 (imm_sD _) hx1
    refine ⟨_, rfl, ixD 2 hb2 fun v5 h5 => ⟨_, rfl, ixD 3 hb2 fun v6 h6 => ⟨_, rfl, szL, fun p1 hp1 => ?_⟩⟩⟩
    have s3 := same_new (o := .tup [v5, v6, x]) hp1
    have hC3 := hC2.same s3
    refine ⟨_, rfl, p, _, dx, _, _, rfl, hC3.ob, T.cls_Playing, T.na_Playing_own_places, rfl, _, rfl, ?_⟩
    have hnew : Dp K (upd (upd (upd H ak (DO P w ak es1)) ac (DO P w ac es2)) p1 (.tup [v5, v6, x])) (.ref p1) (Pl.d ⟨some (uu, key), st⟩) := .tup (SqT.of upd_same) (.cons (dp_same s3 h5) (.cons (dp_same s3 h6) (.cons (dp_same s3 hx2) .nil)))
    refine hC3.pl.put (x := Pl.mk (some (uu, key)) st) rd_stb.stb (dp_same s3 hx2) ⟨hnew, imm_pl _⟩ (Nat.lt_of_le_of_lt hle.2.2 (Nat.lt_of_le_of_lt (show N + 1 ≤ 61 by omega) (by decide))) fun es3 d3 l3 => ?_
    have hC4 := hC3.setP d3 l3
    refine ⟨szL, fun p2 hp2 => ⟨szL, fun p3 hp3 => ?_⟩⟩
    have s4 := (same_new (o := .tup []) hp2).trans (same_new (o := .tup [.str "done", .ref p2]) hp3)
    refine q p3 _ _ _ _ (.make hho) ?_ (hC4.same s4) (SqT.of upd_same)
    exact ((((Fr.refl.at (by simp)).at (by simp)).trans (Same.fr s3)).at (by simp)).trans (Same.fr s4)
def sp_move_thing (P : Program) (w : World) (K : PySem.W.Frag) : Sp := spOp P w K 3 fun p vs H st b => ∃ (x u : V) (t uu : St2) (key : Int), vs = [.ref p, x, u] ∧ b = .move t uu key ∧ Dp K H x (sD st) ∧ Dp K H u b.d
theorem shaped_chD (cs : List (St2 × Option St2)) : SeqAt.shaped (chD cs) = true := by
  refine shaped_of fun d hd => ?_
  obtain ⟨x, _, rfl⟩ := List.mem_map.mp hd
  obtain ⟨h1, h2⟩ := lay_sD x.1
  obtain ⟨h3, h4⟩ := lay_bD x.2
  refine ⟨by simp [PyData.canLay0, PyData.canLayAll0, h1, h3], ?_⟩
  simp only [PyData.depth, PyData.depthAll]
  omega
theorem ok_move_thing (T : Tx w K mg e0) : Kn P w K mg base 3 (He.ma K (He.ga K "Playing") "move_thing") ["self", "stamp", "body"] (sp_move_thing P w K) := by
  have G_Playing_can_hold : Kn P w K mg base 2 _ _ _ := ok_can_hold T
  have G_Playing_can_leave : Kn P w K mg base 1 _ _ _ := ok_can_leave T
  have G_Playing_chain_up : Kn P w K mg base 1 _ _ _ := ok_chain_up T
  refine T.d_Playing_move_thing.kn sc_Playing_move_thing (fun _ _ _ _ _ _ us hl => match us, hl with | [_, _, _], _ => rfl) (fun vs H Q E h => h.1) (fun cdv A outer s H vs Q E hr h => ?_)
  have hu := hu65 hr
  obtain ⟨_, N, p, dx, ak, ac, ap, ar, y, st, b, ⟨x, u, t, uu, key, rfl, rfl, hx, hb⟩, hC, hI, hle, hN, hok, q⟩ := h
  refine ⟨_, (pss_cons (ps_par (i := 3) (j := 4) (by rfl) sc_Playing_move_thing.nd rfl rfl (by decide) rfl rfl (pa_cons (pe_ix (ix_any hu) (pv 2) pe_int (fun _ _ => rfl)) (pa_cons (pe_ix (ix_any hu) (pv 2) pe_int (fun _ _ => rfl)) pa_nil)) (by rfl))
    (pss_cons (ps_if (PW.pt (pw_or (pt_not (pt_val (pe_mt (pv 0) T.cls_Playing T.me_Playing_can_leave G_Playing_can_leave (hr.mono (by first | decide | exact Nat.le_refl _ | exact Nat.le_add_right_of_le (by decide) | omega)) (pa_cons (pv 3) pa_nil)))) (pw_or1 (pt_not (pt_val (pe_mt (pv 0) T.cls_Playing T.me_Playing_can_hold G_Playing_can_hold (hr.mono (by first | decide | exact Nat.le_refl _ | exact Nat.le_add_right_of_le (by decide) | omega)) (pa_cons (pv 4) pa_nil))))))) (pss_one (ps_ret (pe_tup (pa_cons (pe_globS rfl T.s_GONE) (pa_cons (pe_tup pa_nil) pa_nil))))) pss_nil)
    (pss_cons (ps_set (i := 5) sc_Playing_move_thing.nd rfl (Or.inl rfl) (pe_mt (pv 0) T.cls_Playing T.me_Playing_chain_up G_Playing_chain_up (hr.mono (by first | decide | exact Nat.le_refl _ | exact Nat.le_add_right_of_le (by decide) | omega)) (pa_cons (pv 3) (pa_cons (pv 4) pa_nil))))
    (pss_cons (ps_if (PW.pt (pw_and (pt_cmpR (op_neA hu) (pv 5) (pe_tup pa_nil) (nomark _)) (pw_and1 (pt_cmpR op_isN (pe_ix (ix_any hu) (pe_ix (ix_any hu) (pv 5) (pe_un un_neg pe_int) (fun _ _ => rfl)) pe_int (fun _ _ => rfl)) pe_non (nomark _))))) (pss_one (ps_ret (pe_tup (pa_cons (pe_globS rfl T.s_RING) (pa_cons (pv 5) pa_nil))))) pss_nil)
    (pss_cons (ps_asg (pe_tup (pa_cons (pv 4) (pa_cons (pe_ix (ix_any hu) (pv 2) pe_int (fun _ _ => rfl)) (pa_cons (pv 1) pa_nil)))) (pg_sub (pe_fld (pv 0) rfl) (pv 3) (set_any hu)))
    (pss_one (ps_ret (pe_tup (pa_cons (pe_globS rfl T.s_DONE) (pa_cons (pv 5) pa_nil)))))))))), ?_⟩
  refine ⟨_, rfl, ixD 1 hb fun v1 h1 => ⟨_, rfl, ixD 2 hb fun v2 h2 => ?_⟩⟩
  refine ⟨_, _, rfl, ?_⟩
  refine ⟨_, rfl, p, dx, _, rfl, hC.ob, rfl, _, rfl, rfl, N, p, dx, ak, ac, ap, ar, y, v1, t, rfl, hC, h1, ⟨_, rfl, ?_⟩⟩
  have gone : ∀ {H1 : Hp}, Same H H1 → ∀ p1, H1 p1 = none → ∀ p2, upd H1 p1 (.tup []) p2 = none → ∀ z : V, Q (.ref p2) (upd (upd H1 p1 (.tup [])) p2 (.tup [z, .ref p1])) := fun {H1} s0 p1 hp1 p2 hp2 z => by
    have s1 := s0.trans ((same_new (o := .tup []) hp1).trans (same_new (o := .tup [z, .ref p1]) hp2))
    exact q p2 _ _ y _ .same (Same.fr s1) (hC.same s1) (SqT.of upd_same)
  cases hl : (!decide (t = ROOT) && (lk y.kd t).isSome) with
  | false => exact iteT (iteT ⟨szL, fun p1 hp1 => ⟨szL, fun p2 hp2 => gone (Same.refl _) p1 hp1 p2 hp2 _⟩⟩)
  | true =>
    rw [Bool.and_eq_true] at hl
    have ht : t ≠ ROOT := by simpa using hl.1
    refine iteF ⟨_, rfl, p, dx, _, rfl, hC.ob, rfl, _, rfl, rfl, N, p, dx, ak, ac, ap, ar, y, v2, uu, rfl, hC, h2, ⟨_, rfl, ?_⟩⟩
    cases hho : y.holds uu with
    | false => exact iteT ⟨szL, fun p1 hp1 => ⟨szL, fun p2 hp2 => gone (Same.refl _) p1 hp1 p2 hp2 _⟩⟩
    | true =>
      obtain ⟨ku, hku, _⟩ := Ply.holds_kd hho
      refine iteF ⟨_, rfl, p, dx, _, rfl, hC.ob, rfl, _, rfl, _, rfl, rfl, N, p, dx, ak, ac, ap, ar, y, v1, v2, t, uu, rfl, hC, h1, h2, hI.rank uu ku hku, hN, hle, fun r cs H1 s1 hr2 hcl hcs => ?_⟩
      refine ⟨_, rfl, szL, fun p1 hp1 => neD (dp_same (same_new hp1) hr2) (.tup (SqT.of upd_same) .nil) ?_ (shaped_chD cs) rfl⟩
      have s2 := s1.trans (same_new (o := .tup []) hp1)
      have hr3 := dp_same (same_new (o := .tup []) hp1) hr2
      have hC2 := hC.same s2
      have hb2 := dp_same s2 hb
      have eqv0 : ∀ z : List (St2 × Option St2), PyData.eqv (chD z) (.tuple []) = z.isEmpty := fun z => by cases z <;> simp [chD, PyData.eqv, PyData.eqvAll]
      rw [eqv0]
      refine ⟨_, rfl, ?_⟩
      rcases hcs with ⟨x0, hx0⟩ | ⟨hnl, hav⟩
      · have hne : cs.isEmpty = false := by
          cases cs with
          | nil => simp at hx0
          | cons _ _ => rfl
        rw [hne]
        refine iteT ⟨_, rfl, _, rfl, ixDl (d := .tuple [sD x0, .none]) hr3 (by rw [List.getLast?_map, hx0]; rfl) fun v3 h3 => ?_⟩
        refine ixD 1 h3 fun v4 h4 => ?_
        obtain rfl := dp_non h4
        refine ⟨rfl, _, rfl, iteT ⟨_, rfl, szL, fun p2 hp2 => ?_⟩⟩
        have s3 := s2.trans (same_new (o := .tup [.str "ring", r]) hp2)
        exact q p2 _ _ y _ .same (Same.fr s3) (hC.same s3) (SqT.of upd_same)
      have hcase : cs.isEmpty = true ∨ ∃ x0 z0, cs.getLast? = some (x0, some z0) ∧ cs.isEmpty = false := by
        cases hce : cs with
        | nil => exact .inl rfl
        | cons c0 cr =>
          rw [← hce]
          obtain ⟨⟨x0, z0⟩, hx0⟩ : ∃ x, cs.getLast? = some x := by
            rw [hce]
            exact ⟨_, List.getLast?_eq_some_getLast (by simp)⟩
          cases z0 with
          | none => exact absurd hx0 (hnl x0)
          | some z0 => exact .inr ⟨x0, z0, hx0, by rw [hce]; rfl⟩
      rcases hcase with hcase | ⟨x0, z0, hx0, hne⟩
      · rw [hcase]
        refine iteF (iteF ?_)
        refine ⟨_, rfl, _, rfl, ixD 3 hb2 fun v6 h6 => ⟨_, rfl, szL, fun p2 hp2 => ?_⟩⟩
        have s3 := s2.trans (same_new (o := .tup [v2, v6, x]) hp2)
        have hC3 := hC.same s3
        have hnew : Dp K (upd (upd H1 p1 (.tup [])) p2 (.tup [v2, v6, x])) (.ref p2) (Pl.d ⟨some (uu, key), st⟩) := .tup (SqT.of upd_same) (.cons (dp_same s3 h2) (.cons (dp_same (same_new hp2) h6) (.cons (dp_same s3 hx) .nil)))
        refine ⟨_, rfl, p, _, dx, _, _, rfl, hC3.ob, T.cls_Playing, T.na_Playing_own_places, rfl, _, rfl, ?_⟩
        refine hC3.pl.put (x := Pl.mk (some (uu, key)) st) rd_stb.stb (dp_same s3 h1) ⟨hnew, imm_pl _⟩ (Nat.lt_of_le_of_lt hle.2.2 (Nat.lt_of_le_of_lt (show N + 1 ≤ 61 by omega) (by decide))) fun es3 d3 l3 => ?_
        have hC4 := hC3.setP d3 l3
        refine ⟨_, rfl, szL, fun p3 hp3 => ?_⟩
        have s4 := same_new (o := .tup [.str "done", r]) hp3
        exact q p3 _ _ _ _ (.move ht hl.2 hho hav) (((Same.fr s3).at (by simp)).trans (Same.fr s4)) (hC4.same s4) (SqT.of upd_same)
      · rw [hne]
        refine iteT ⟨_, rfl, _, rfl, ixDl (d := .tuple [sD x0, sD z0]) hr3 (by rw [List.getLast?_map, hx0]; rfl) fun v3 h3 => ?_⟩
        refine ixD 1 h3 fun v4 h4 => ?_
        obtain ⟨a4, rfl, _⟩ := stamp_dp h4
        refine ⟨rfl, _, rfl, iteF ?_⟩
        refine ⟨_, rfl, _, rfl, ixD 3 hb2 fun v6 h6 => ⟨_, rfl, szL, fun p2 hp2 => ?_⟩⟩
        have s3 := s2.trans (same_new (o := .tup [v2, v6, x]) hp2)
        have hC3 := hC.same s3
        have hnew : Dp K (upd (upd H1 p1 (.tup [])) p2 (.tup [v2, v6, x])) (.ref p2) (Pl.d ⟨some (uu, key), st⟩) := .tup (SqT.of upd_same) (.cons (dp_same s3 h2) (.cons (dp_same (same_new hp2) h6) (.cons (dp_same s3 hx) .nil)))
        refine ⟨_, rfl, p, _, dx, _, _, rfl, hC3.ob, T.cls_Playing, T.na_Playing_own_places, rfl, _, rfl, ?_⟩
        refine hC3.pl.put (x := Pl.mk (some (uu, key)) st) rd_stb.stb (dp_same s3 h1) ⟨hnew, imm_pl _⟩ (Nat.lt_of_le_of_lt hle.2.2 (Nat.lt_of_le_of_lt (show N + 1 ≤ 61 by omega) (by decide))) fun es3 d3 l3 => ?_
        have hC4 := hC3.setP d3 l3
        refine ⟨_, rfl, szL, fun p3 hp3 => ?_⟩
        have s4 := same_new (o := .tup [.str "done", r]) hp3
        exact q p3 _ _ _ _ (.move ht hl.2 hho hav) (((Same.fr s3).at (by simp)).trans (Same.fr s4)) (hC4.same s4) (SqT.of upd_same)
def sp_drop_thing (P : Program) (w : World) (K : PySem.W.Frag) : Sp := spOp P w K 3 fun p vs H st b => ∃ (x u : V) (t : St2), vs = [.ref p, x, u] ∧ b = .drop t ∧ Dp K H x (sD st) ∧ Dp K H u b.d
theorem ok_drop_thing (T : Tx w K mg e0) : Kn P w K mg base 3 (He.ma K (He.ga K "Playing") "drop_thing") ["self", "stamp", "body"] (sp_drop_thing P w K) := by
  have G_Playing_can_leave : Kn P w K mg base 1 _ _ _ := ok_can_leave T
  refine T.d_Playing_drop_thing.kn sc_Playing_drop_thing (fun _ _ _ _ _ _ us hl => match us, hl with | [_, _, _], _ => rfl) (fun vs H Q E h => h.1) (fun cdv A outer s H vs Q E hr h => ?_)
  have hu := hu65 hr
  obtain ⟨_, N, p, dx, ak, ac, ap, ar, y, st, b, ⟨x, u, t, rfl, rfl, hx, hb⟩, hC, hI, hle, hN, hok, q⟩ := h
  refine ⟨_, (pss_cons (ps_if (pt_not (pt_val (pe_mt (pv 0) T.cls_Playing T.me_Playing_can_leave G_Playing_can_leave (hr.mono (by first | decide | exact Nat.le_refl _ | exact Nat.le_add_right_of_le (by decide) | omega)) (pa_cons (pe_ix (ix_any hu) (pv 2) pe_int (fun _ _ => rfl)) pa_nil)))) (pss_one (ps_ret (pe_tup (pa_cons (pe_globS rfl T.s_GONE) (pa_cons (pe_tup pa_nil) pa_nil))))) pss_nil)
    (pss_cons (ps_asg (pe_tup (pa_cons pe_non (pa_cons pe_non (pa_cons (pv 1) pa_nil)))) (pg_sub (pe_fld (pv 0) rfl) (pe_ix (ix_any hu) (pv 2) pe_int (fun _ _ => rfl)) (set_any hu)))
    (pss_one (ps_ret (pe_tup (pa_cons (pe_globS rfl T.s_DONE) (pa_cons (pe_tup pa_nil) pa_nil))))))), ?_⟩
  refine ⟨_, rfl, p, dx, _, rfl, hC.ob, rfl, _, rfl, ixD 1 hb fun v1 h1 => ⟨rfl, N, p, dx, ak, ac, ap, ar, y, v1, t, rfl, hC, h1, ⟨_, rfl, ?_⟩⟩⟩
  cases hl : (!decide (t = ROOT) && (lk y.kd t).isSome) with
  | false =>
    refine iteT ⟨szL, fun p1 hp1 => ⟨szL, fun p2 hp2 => ?_⟩⟩
    have s1 := (same_new (o := .tup []) hp1).trans (same_new (o := .tup [.str "gone", .ref p1]) hp2)
    exact q p2 _ _ y _ .same (Same.fr s1) (hC.same s1) (SqT.of upd_same)
  | true =>
    rw [Bool.and_eq_true] at hl
    have ht : t ≠ ROOT := by simpa using hl.1
    refine iteF ⟨_, rfl, szL, fun p1 hp1 => ?_⟩
    have s1 := same_new (o := .tup [.non, .non, x]) hp1
    have hC1 := hC.same s1
    have hnew : Dp K (upd H p1 (.tup [.non, .non, x])) (.ref p1) (Pl.d ⟨none, st⟩) := .tup (SqT.of upd_same) (.cons .non (.cons .non (.cons (dp_same s1 hx) .nil)))
    refine ⟨_, rfl, p, _, dx, _, _, rfl, hC1.ob, T.cls_Playing, T.na_Playing_own_places, rfl, _, rfl, ixD 1 (dp_same s1 hb) fun v3 h3 => ?_⟩
    refine hC1.pl.put (x := Pl.mk none st) rd_stb.stb h3 ⟨hnew, imm_pl _⟩ (Nat.lt_of_le_of_lt hle.2.2 (Nat.lt_of_le_of_lt (show N + 1 ≤ 61 by omega) (by decide))) fun es3 d3 l3 => ?_
    have hC4 := hC1.setP d3 l3
    refine ⟨szL, fun p2 hp2 => ⟨szL, fun p3 hp3 => ?_⟩⟩
    have s4 := (same_new (o := .tup []) hp2).trans (same_new (o := .tup [.str "done", .ref p2]) hp3)
    exact q p3 _ _ _ _ (.drop ht hl.2) (((Same.fr s1).at (by simp)).trans (Same.fr s4)) (hC4.same s4) (SqT.of upd_same)
def sp_put_content (P : Program) (w : World) (K : PySem.W.Frag) : Sp := spOp P w K 2 fun p vs H st b => ∃ (u : V) (x : Pw) (t : St2) (c : PyData), vs = [.ref p, u] ∧ b = .put x t c ∧ Dp K H u b.d
theorem ok_put_content (T : Tx w K mg e0) : Kn P w K mg base 3 (He.ma K (He.ga K "Playing") "put_content") ["self", "body"] (sp_put_content P w K) := by
  refine T.d_Playing_put_content.kn sc_Playing_put_content (fun _ _ _ _ _ _ us hl => match us, hl with | [_, _], _ => rfl) (fun vs H Q E h => h.1) (fun cdv A outer s H vs Q E hr h => ?_)
  have hu := hu65 hr
  obtain ⟨_, N, p, dx, ak, ac, ap, ar, y, st, b, ⟨u, x, t, c, rfl, rfl, hb⟩, hC, hI, hle, hN, hok, q⟩ := h
  refine ⟨_, (pss_cons (ps_if (PW.pt (pw_or (pt_cmpR (op_ninA hu) (pe_ix (ix_any hu) (pv 1) pe_int (fun _ _ => rfl)) (pe_fld (pv 0) rfl) (by rfl)) (pw_or1 (pt_cmpR (op_neA hu) (pe_ix (ix_any hu) (pe_fld (pv 0) rfl) (pe_ix (ix_any hu) (pv 1) pe_int (fun _ _ => rfl)) (fun _ _ => rfl)) (pe_ixDX rfl LamX.takes0 (pe_globR rfl T.g_CONTENT_KINDS) (pe_ix (ix_any hu) (pv 1) pe_int (fun _ _ => rfl)) (fun _ _ => rfl)) (nomark _))))) (pss_one (ps_ret (pe_tup (pa_cons (pe_globS rfl T.s_GONE) (pa_cons (pe_tup pa_nil) pa_nil))))) pss_nil)
    (pss_cons (ps_asg (pe_ix (ix_any hu) (pv 1) pe_int (fun _ _ => rfl)) (pg_sub (pe_fld (pv 0) rfl) (pe_ix (ix_any hu) (pv 1) pe_int (fun _ _ => rfl)) (set_any hu)))
    (pss_one (ps_ret (pe_tup (pa_cons (pe_globS rfl T.s_DONE) (pa_cons (pe_tup pa_nil) pa_nil))))))), ?_⟩
  refine ⟨_, rfl, ixD 1 hb fun v1 h1 => ⟨_, rfl, p, _, dx, _, _, rfl, hC.ob, T.cls_Playing, T.na_Playing_own_kinds, rfl, dninR hC.kd.r h1 ⟨_, rfl, ?_⟩⟩⟩
  have gone : ∀ p1, H p1 = none → ∀ p2, upd H p1 (.tup []) p2 = none → ∀ z : V, Q (.ref p2) (upd (upd H p1 (.tup [])) p2 (.tup [z, .ref p1])) := fun p1 hp1 p2 hp2 z => by
    have s1 := (same_new (o := .tup []) hp1).trans (same_new (o := .tup [z, .ref p1]) hp2)
    exact q p2 _ _ y _ .same (Same.fr s1) (hC.same s1) (SqT.of upd_same)
  cases hk : lk y.kd t with
  | none => exact iteT (iteT ⟨szL, fun p1 hp1 => ⟨szL, fun p2 hp2 => gone p1 hp1 p2 hp2 _⟩⟩)
  | some k =>
    refine iteF ⟨_, rfl, p, _, dx, _, _, rfl, hC.ob, T.cls_Playing, T.na_Playing_own_kinds, rfl, _, rfl, ixD 1 hb fun v2 h2 => dgetR hC.kd.r h2 hk fun v3 h3 => ?_⟩
    obtain rfl := rk_v h3
    refine ⟨_, rfl, bd_word (b := .put x t c) hb ⟨_, _, rfl, rfl, .inl ⟨.str x.k.s, T.kd_CONTENT_KINDS _ _ (by cases x <;> simp [Bd.word, Pw.s, Pw.k, Kd.s]), neS ⟨_, rfl, ?_⟩⟩⟩⟩
    rw [Kd.s_eq]
    by_cases hkk : k = x.k
    · rw [show (!decide (k = x.k)) = false by simp [hkk]]
      refine iteF ⟨_, rfl, ixD 2 hb fun v4 h4 => ⟨_, rfl, p, _, dx, _, _, rfl, hC.ob, T.cls_Playing, T.na_Playing_own_contents, rfl, _, rfl, ixD 1 hb fun v5 h5 => ?_⟩⟩
      refine hC.ct.put (x := c) rd_stb.stb h5 ⟨h4, imm_c hok.2⟩ (Nat.lt_of_le_of_lt hle.2.1 (Nat.lt_of_le_of_lt (show N + 1 ≤ 61 by omega) (by decide))) fun es2 d2 l2 => ?_
      have hC2 := hC.setC d2 l2
      refine ⟨szL, fun p2 hp2 => ⟨szL, fun p3 hp3 => ?_⟩⟩
      have s4 := (same_new (o := .tup []) hp2).trans (same_new (o := .tup [.str "done", .ref p2]) hp3)
      exact q p3 _ _ _ _ (.put (by rw [hk, hkk])) ((Fr.refl.at (by simp)).trans (Same.fr s4)) (hC2.same s4) (SqT.of upd_same)
    · rw [show (!decide (k = x.k)) = true by simp [hkk]]
      exact iteT ⟨szL, fun p1 hp1 => ⟨szL, fun p2 hp2 => gone p1 hp1 p2 hp2 _⟩⟩
theorem PlyC.app {N : Nat} {H : Hp} {p dx ak ac ap ar : Addr} {y : Ply} (h : PlyC P w K N H p dx ak ac ap ar y) {rs : List V} {v : V} (e : H ar = some (.lst rs)) (hl : rs.length ≤ N) : PlyC P w K (N + 1) (upd H ar (.lst (rs ++ [v]))) p dx ak ac ap ar y := by
  obtain ⟨h1, h2, h3, h4, h5, h6, h7⟩ := h.pk
  have t := tup_lst (o := .lst (rs ++ [v])) e
  exact ⟨by rw [upd_ne h4]; exact h.ob, h.kd.moveT rd_stb t fun u e => by rw [upd_ne (Ne.symm h5)]; exact e, h.ct.moveT rd_stb t fun u e => by rw [upd_ne (Ne.symm h6)]; exact e, h.pl.moveT rd_stb t fun u e => by rw [upd_ne (Ne.symm h7)]; exact e,
    ⟨_, upd_same, by simp; exact hl⟩, h.kc, h.kp, h.cp⟩
theorem wdp {b : Bd} (j : Nat) (h : b.wn = j) (hj : j < 8 := by decide) : b.word = wordN j := of_decide_eq_true ((wd b j hj).trans (by simp [h]))
theorem wdn {b : Bd} (j : Nat) (h : b.wn ≠ j) (hj : j < 8 := by decide) : ¬ b.word = wordN j := of_decide_eq_false ((wd b j hj).trans (by simp [h]))
def sp_do_deed (P : Program) (w : World) (K : PySem.W.Frag) : Sp := fun vs H Q _ => vs.length = 3 ∧ ∃ (N : Nat) (p dx ak ac ap ar : Addr) (y : Ply) (x u : V) (st : St2) (b : Bd), vs = [.ref p, x, u] ∧ Dp K H x (sD st) ∧ Dp K H u b.d ∧ b.isMark = false ∧ PlyC P w K N H p dx ak ac ap ar y ∧
  PInv y ∧ y.le N ∧ N < 60 ∧ b.ok ∧ ∀ (y' : Ply) (H' : Hp), Step y st b y' → Fr [ak, ac, ap, ar] H H' → PlyC P w K (N + 1) H' p dx ak ac ap ar y' → Q .non H'
theorem ok_do_deed (T : Tx w K mg e0) : Kn P w K mg base 4 (He.ma K (He.ga K "Playing") "do_deed") ["self", "stamp", "body"] (sp_do_deed P w K) := by
  have G_Playing_make_thing : Kn P w K mg base 3 _ _ _ := ok_make_thing T
  have G_Playing_move_thing : Kn P w K mg base 3 _ _ _ := ok_move_thing T
  have G_Playing_drop_thing : Kn P w K mg base 3 _ _ _ := ok_drop_thing T
  have G_Playing_put_content : Kn P w K mg base 3 _ _ _ := ok_put_content T
  refine T.d_Playing_do_deed.kn sc_Playing_do_deed (fun _ _ _ _ _ _ us hl => match us, hl with | [_, _, _], _ => rfl) (fun vs H Q E h => h.1) (fun cdv A outer s H vs Q E hr h => ?_)
  have hu := hu65 hr
  obtain ⟨_, N, p, dx, ak, ac, ap, ar, y, x, u, st, b, rfl, hx, hb, hbm, hC, hI, hle, hN, hok, q⟩ := h
  refine ⟨_, (pss_cons (ps_match (pe_ix (ix_any hu) (pv 2) pe_int (fun _ _ => rfl)) (pm_text (j := 0) (pss_one (ps_asg (pe_mt (pv 0) T.cls_Playing T.me_Playing_make_thing G_Playing_make_thing (hr.mono (by first | decide | exact Nat.le_refl _ | exact Nat.le_add_right_of_le (by decide) | omega)) (pa_cons (pv 1) (pa_cons (pv 2) pa_nil))) (pg_tup (by rfl) (pgs_cons (pg_name (i := 3) sc_Playing_do_deed.nd rfl (Or.inl rfl)) (pgs_cons (pg_name (i := 4) sc_Playing_do_deed.nd rfl (Or.inl rfl)) pgs_nil))))) (pm_text (j := 0) (pss_one (ps_asg (pe_mt (pv 0) T.cls_Playing T.me_Playing_move_thing G_Playing_move_thing (hr.mono (by first | decide | exact Nat.le_refl _ | exact Nat.le_add_right_of_le (by decide) | omega)) (pa_cons (pv 1) (pa_cons (pv 2) pa_nil))) (pg_tup (by rfl) (pgs_cons (pg_name (i := 3) sc_Playing_do_deed.nd rfl (Or.inl rfl)) (pgs_cons (pg_name (i := 4) sc_Playing_do_deed.nd rfl (Or.inl rfl)) pgs_nil))))) (pm_text (j := 0) (pss_one (ps_asg (pe_mt (pv 0) T.cls_Playing T.me_Playing_drop_thing G_Playing_drop_thing (hr.mono (by first | decide | exact Nat.le_refl _ | exact Nat.le_add_right_of_le (by decide) | omega)) (pa_cons (pv 1) (pa_cons (pv 2) pa_nil))) (pg_tup (by rfl) (pgs_cons (pg_name (i := 3) sc_Playing_do_deed.nd rfl (Or.inl rfl)) (pgs_cons (pg_name (i := 4) sc_Playing_do_deed.nd rfl (Or.inl rfl)) pgs_nil))))) (pm_any (pss_one (ps_asg (pe_mt (pv 0) T.cls_Playing T.me_Playing_put_content G_Playing_put_content (hr.mono (by first | decide | exact Nat.le_refl _ | exact Nat.le_add_right_of_le (by decide) | omega)) (pa_cons (pv 2) pa_nil)) (pg_tup (by rfl) (pgs_cons (pg_name (i := 3) sc_Playing_do_deed.nd rfl (Or.inl rfl)) (pgs_cons (pg_name (i := 4) sc_Playing_do_deed.nd rfl (Or.inl rfl)) pgs_nil))))))))))
    (pss_one (ps_expr (pe_bm PySem.F.plainAttrs_list PySem.F.slot_list_append PySem.F.type_list_append mt_append (pe_fld (pv 0) rfl) (pa_cons (pe_tup (pa_cons (pv 1) (pa_cons (pv 3) (pa_cons (pv 4) pa_nil)))) pa_nil))))), ?_⟩
  refine ⟨_, rfl, bd_word hb ⟨_, rfl, ?_⟩⟩
  cases b with
  | make k u2 key c =>
    rw [if_pos (show Bd.word (.make k u2 key c) = "make" from wdp 0 rfl)]
    refine ⟨_, rfl, p, dx, _, rfl, hC.ob, rfl, _, rfl, _, rfl, rfl, N, p, dx, ak, ac, ap, ar, y, st, _, ⟨x, u, k, u2, key, c, rfl, rfl, hx, hb⟩, hC, hI, hle, Nat.le_of_lt hN, hok, fun r o1 c1 y' H1 hst hfr hC1 hr1 => ?_⟩
    refine ⟨r, _, rfl, hr1, rfl, _, _, rfl, _, _, rfl, rfl, ?_⟩
    obtain ⟨rs, hrs, hrl⟩ := hC1.rows
    refine ⟨_, rfl, p, _, dx, _, _, rfl, hC1.ob, T.cls_Playing, T.na_Playing_own_rows, rfl, .inl ⟨rfl, rs, SqL.of hrs⟩, _, rfl, _, rfl, _, rfl, szL, fun p2 hp2 => ?_⟩
    have s2 := same_new (o := .tup [x, o1, c1]) hp2
    refine ⟨ar, rs, _, rfl, rfl, s2 _ _ hrs, Nat.lt_of_le_of_lt (show rs.length ≤ 60 by omega) (by decide), ?_⟩
    exact q y' _ hst (((hfr.mono (by simp)).trans (Same.fr s2)).at (by simp)) ((hC1.same s2).app (s2 _ _ hrs) hrl)
  | move t u2 key =>
    rw [if_neg (show ¬ Bd.word (.move t u2 key) = "make" from wdn 0 (by simp [Bd.wn]))]
    refine ⟨_, rfl, ?_⟩
    rw [if_pos (show Bd.word (.move t u2 key) = "move" from wdp 1 rfl)]
    refine ⟨_, rfl, p, dx, _, rfl, hC.ob, rfl, _, rfl, _, rfl, rfl, N, p, dx, ak, ac, ap, ar, y, st, _, ⟨x, u, t, u2, key, rfl, rfl, hx, hb⟩, hC, hI, hle, Nat.le_of_lt hN, hok, fun r o1 c1 y' H1 hst hfr hC1 hr1 => ?_⟩
    refine ⟨r, _, rfl, hr1, rfl, _, _, rfl, _, _, rfl, rfl, ?_⟩
    obtain ⟨rs, hrs, hrl⟩ := hC1.rows
    refine ⟨_, rfl, p, _, dx, _, _, rfl, hC1.ob, T.cls_Playing, T.na_Playing_own_rows, rfl, .inl ⟨rfl, rs, SqL.of hrs⟩, _, rfl, _, rfl, _, rfl, szL, fun p2 hp2 => ?_⟩
    have s2 := same_new (o := .tup [x, o1, c1]) hp2
    refine ⟨ar, rs, _, rfl, rfl, s2 _ _ hrs, Nat.lt_of_le_of_lt (show rs.length ≤ 60 by omega) (by decide), ?_⟩
    exact q y' _ hst (((hfr.mono (by simp)).trans (Same.fr s2)).at (by simp)) ((hC1.same s2).app (s2 _ _ hrs) hrl)
  | drop t =>
    rw [if_neg (show ¬ Bd.word (.drop t) = "make" from wdn 0 (by simp [Bd.wn]))]
    refine ⟨_, rfl, ?_⟩
    rw [if_neg (show ¬ Bd.word (.drop t) = "move" from wdn 1 (by simp [Bd.wn]))]
    refine ⟨_, rfl, ?_⟩
    rw [if_pos (show Bd.word (.drop t) = "drop" from wdp 2 rfl)]
    refine ⟨_, rfl, p, dx, _, rfl, hC.ob, rfl, _, rfl, _, rfl, rfl, N, p, dx, ak, ac, ap, ar, y, st, _, ⟨x, u, t, rfl, rfl, hx, hb⟩, hC, hI, hle, Nat.le_of_lt hN, hok, fun r o1 c1 y' H1 hst hfr hC1 hr1 => ?_⟩
    refine ⟨r, _, rfl, hr1, rfl, _, _, rfl, _, _, rfl, rfl, ?_⟩
    obtain ⟨rs, hrs, hrl⟩ := hC1.rows
    refine ⟨_, rfl, p, _, dx, _, _, rfl, hC1.ob, T.cls_Playing, T.na_Playing_own_rows, rfl, .inl ⟨rfl, rs, SqL.of hrs⟩, _, rfl, _, rfl, _, rfl, szL, fun p2 hp2 => ?_⟩
    have s2 := same_new (o := .tup [x, o1, c1]) hp2
    refine ⟨ar, rs, _, rfl, rfl, s2 _ _ hrs, Nat.lt_of_le_of_lt (show rs.length ≤ 60 by omega) (by decide), ?_⟩
    exact q y' _ hst (((hfr.mono (by simp)).trans (Same.fr s2)).at (by simp)) ((hC1.same s2).app (s2 _ _ hrs) hrl)
  | put z t c =>
    have hz : ∀ j < 3, (Bd.put z t c).wn ≠ j := fun j hj => by cases z <;> simp [Bd.wn] <;> omega
    rw [if_neg (show ¬ Bd.word (.put z t c) = "make" from wdn 0 (hz 0 (by decide)))]
    refine ⟨_, rfl, ?_⟩
    rw [if_neg (show ¬ Bd.word (.put z t c) = "move" from wdn 1 (hz 1 (by decide)))]
    refine ⟨_, rfl, ?_⟩
    rw [if_neg (show ¬ Bd.word (.put z t c) = "drop" from wdn 2 (hz 2 (by decide)))]
    refine ⟨_, rfl, p, dx, _, rfl, hC.ob, rfl, _, rfl, rfl, N, p, dx, ak, ac, ap, ar, y, st, _, ⟨u, z, t, c, rfl, rfl, hb⟩, hC, hI, hle, Nat.le_of_lt hN, hok, fun r o1 c1 y' H1 hst hfr hC1 hr1 => ?_⟩
    refine ⟨r, _, rfl, hr1, rfl, _, _, rfl, _, _, rfl, rfl, ?_⟩
    obtain ⟨rs, hrs, hrl⟩ := hC1.rows
    refine ⟨_, rfl, p, _, dx, _, _, rfl, hC1.ob, T.cls_Playing, T.na_Playing_own_rows, rfl, .inl ⟨rfl, rs, SqL.of hrs⟩, _, rfl, _, rfl, _, rfl, szL, fun p2 hp2 => ?_⟩
    have s2 := same_new (o := .tup [x, o1, c1]) hp2
    refine ⟨ar, rs, _, rfl, rfl, s2 _ _ hrs, Nat.lt_of_le_of_lt (show rs.length ≤ 60 by omega) (by decide), ?_⟩
    exact q y' _ hst (((hfr.mono (by simp)).trans (Same.fr s2)).at (by simp)) ((hC1.same s2).app (s2 _ _ hrs) hrl)
  | mark r t => cases hbm
end Ss
/-! Walks: a play. -/
namespace Ss
open PySem PySem.Spec PyProof.Rows L2
variable {P : Program} {w : World} {K : PySem.W.Frag} {mg : Str → Option Value} {base : Heap} {e0 : Addr}
theorem putF_new {f : Str} {v : V} : ∀ {fs : List (Str × V)} {ks : List Str}, fs.map (·.1) = ks → (∀ g ∈ ks, g ≠ f) → putF f v fs = fs ++ [(f, v)]
  | [], _, _, _ => rfl
  | (g, x) :: fs, ks, e, h => by
    subst e
    unfold putF
    rw [if_neg (h g (by simp)), putF_new (fs := fs) rfl (fun g hg => h g (by rw [List.map_cons]; exact List.mem_cons_of_mem _ hg))]
    rfl
theorem DM.pst {α : Type} {R : Hp → V → α → Prop} {H : Hp} {a p C dx : Addr} {fs : List (Str × V)} {o : HO} {m : Tb α} (h : DM P w K R H a m) (st : Stb R) (hp : H p = some (.ins C dx fs)) : DM P w K R (upd H p o) a m :=
  h.moveL st (lt_upd (nl_ins hp)) fun u e => by
    obtain ⟨es, e2, _⟩ := h
    rw [upd_ne (fun z => by rw [z, hp] at e2; cases e2)]
    exact e
theorem fr_none {S : List Addr} {H H' : Hp} {a : Addr} (f : Fr S H H') (n : a ∉ S) (h : H' a = none) : H a = none := by
  cases c : H a with
  | none => rfl
  | some u => rw [f _ _ n c] at h; cases h
theorem same_none {H H' : Hp} {a : Addr} (f : Same H H') (h : H' a = none) : H a = none := by
  cases c : H a with
  | none => rfl
  | some u => rw [f _ _ c] at h; cases h
theorem same_fr {S : List Addr} {A H H' : Hp} (s : Same A H) (f : Fr S H H') (n : ∀ a ∈ S, A a = none) : Same A H' := fun a u e => f a u (fun m => by rw [n a m] at e; cases e) (s a u e)
abbrev pf1 (ak : Addr) : List (Str × V) := [("own_kinds", .ref ak)]
abbrev pf2 (ak ac : Addr) : List (Str × V) := pf1 ak ++ [(("own_contents" : Str), V.ref ac)]
abbrev pf3 (ak ac ap : Addr) : List (Str × V) := pf2 ak ac ++ [(("own_places" : Str), V.ref ap)]
def sp_Playing_init (P : Program) (w : World) (K : PySem.W.Frag) : Sp := fun vs H Q _ => vs.length = 1 ∧ ∃ (p dx : Addr), vs = [.ref p] ∧ H p = some (.ins (He.ga K "Playing") dx []) ∧
  ∀ (H' : Hp) (ak ac ap ar : Addr), Fr [p] H H' → PlyC P w K 0 H' p dx ak ac ap ar Ply.zero → H ak = none → H ac = none → H ap = none → H ar = none → Q .non H'
theorem ok_Playing_init (T : Tx w K mg e0) : Kn P w K mg base 1 (He.ma K (He.ga K "Playing") "__init__") ["self"] (sp_Playing_init P w K) := by
  refine T.d_Playing_init.kn sc_Playing_init (fun _ _ _ _ _ _ us hl => match us, hl with | [_], _ => rfl) (fun vs H Q E h => h.1) (fun cdv A outer s H vs Q E hr h => ?_)
  have hu := hu65 hr
  have hu1 := hu_of hr
  obtain ⟨_, p, dx, rfl, hp, q⟩ := h
  refine ⟨_, (pss_cons (ps_fld (pv 0) (pe_done hu1 (pe_globR rfl T.g_ROOT) pe_str) rfl)
    (pss_cons (ps_fld (pv 0) pe_dnew rfl)
    (pss_cons (ps_fld (pv 0) pe_dnew rfl)
    (pss_one (ps_fld (pv 0) (pe_lst pa_nil) rfl))))), ?_⟩
  intro ak hak
  refine ⟨upd_same, He.ga K "ROOT", ROOT, .str "block", rfl, T.tu_ROOT _, ?_⟩
  rw [upd_upd]
  have s1 : Same H (upd H ak (DO P w ak [(ROOT, He.ga K "ROOT", .str "block")])) := same_new hak
  refine ⟨_, rfl, p, _, dx, _, rfl, s1 _ _ hp, T.cls_Playing, T.na_Playing_own_kinds, by simp, ?_⟩
  have hp1 := s1 _ _ hp
  have hnp : ∀ {H2 : Hp} {a : Addr} {o : HO}, H2 p = some o → H2 a = none → a ≠ p := fun h n z => by rw [z, h] at n; cases n
  have k0 : DM P w K (RK K) (upd H ak (DO P w ak [(ROOT, He.ga K "ROOT", .str "block")])) ak Ply.zero.kd := ⟨_, upd_same, .cons ⟨rfl, T.tu_ROOT _, .str _, rfl⟩ .nil⟩
  have k1 := k0.pst rd_stb.stb hp1 (o := .ins (He.ga K "Playing") dx (pf1 ak))
  have f1 : Fr [p] H (upd (upd H ak (DO P w ak [(ROOT, He.ga K "ROOT", .str "block")])) p (.ins (He.ga K "Playing") dx (pf1 ak))) := (Same.fr s1).at (by simp)
  have g1 : (upd (upd H ak (DO P w ak [(ROOT, He.ga K "ROOT", .str "block")])) p (.ins (He.ga K "Playing") dx (pf1 ak))) p = some (.ins (He.ga K "Playing") dx (pf1 ak)) := upd_same
  show tSeq _ _ _ _ (upd (upd H ak (DO P w ak [(ROOT, He.ga K "ROOT", .str "block")])) p (.ins (He.ga K "Playing") dx (pf1 ak)))
  revert k1 f1 g1
  generalize upd (upd H ak (DO P w ak [(ROOT, He.ga K "ROOT", .str "block")])) p (.ins (He.ga K "Playing") dx (pf1 ak)) = H1
  intro k1 f1 g1
  intro ac hac
  have s2 := same_new (o := DO P w ac []) hac
  refine ⟨_, rfl, p, _, dx, _, rfl, s2 _ _ g1, T.cls_Playing, T.na_Playing_own_contents, by simp, ?_⟩
  rw [putF_new (ks := ["own_kinds"]) rfl (by decide +kernel)]
  have c1 : DM P w K (RC K) (upd H1 ac (DO P w ac [])) ac [] := ⟨[], upd_same, .nil⟩
  have k2 := (k1.same rd_stb.stb s2).pst rd_stb.stb (s2 _ _ g1) (o := .ins (He.ga K "Playing") dx (pf2 ak ac))
  have c2 := c1.pst rd_stb.stb (s2 _ _ g1) (o := .ins (He.ga K "Playing") dx (pf2 ak ac))
  have f2 : Fr [p] H _ := (f1.trans (Same.fr s2)).at (a := p) (o := .ins (He.ga K "Playing") dx (pf2 ak ac)) (by simp)
  have g2 : (upd (upd H1 ac (DO P w ac [])) p (.ins (He.ga K "Playing") dx (pf2 ak ac))) p = _ := upd_same
  have hka : ak ≠ ac := fun z => by
    obtain ⟨es, e, _⟩ := k1
    rw [z, hac] at e
    cases e
  have hacH := fr_none f1 (by simpa using hnp g1 hac) hac
  show tSeq _ _ _ _ (upd (upd H1 ac (DO P w ac [])) p (.ins (He.ga K "Playing") dx (pf2 ak ac)))
  revert k2 c2 f2 g2
  generalize upd (upd H1 ac (DO P w ac [])) p (.ins (He.ga K "Playing") dx (pf2 ak ac)) = H2
  intro k2 c2 f2 g2
  intro ap hap
  have s3 := same_new (o := DO P w ap []) hap
  refine ⟨_, rfl, p, _, dx, _, rfl, s3 _ _ g2, T.cls_Playing, T.na_Playing_own_places, by simp, ?_⟩
  rw [putF_new (ks := ["own_kinds", "own_contents"]) rfl (by decide +kernel)]
  have p1 : DM P w K (RP K) (upd H2 ap (DO P w ap [])) ap [] := ⟨[], upd_same, .nil⟩
  have k3 := (k2.same rd_stb.stb s3).pst rd_stb.stb (s3 _ _ g2) (o := .ins (He.ga K "Playing") dx (pf3 ak ac ap))
  have c3 := (c2.same rd_stb.stb s3).pst rd_stb.stb (s3 _ _ g2) (o := .ins (He.ga K "Playing") dx (pf3 ak ac ap))
  have p3 := p1.pst rd_stb.stb (s3 _ _ g2) (o := .ins (He.ga K "Playing") dx (pf3 ak ac ap))
  have f3 : Fr [p] H _ := (f2.trans (Same.fr s3)).at (a := p) (o := .ins (He.ga K "Playing") dx (pf3 ak ac ap)) (by simp)
  have g3 : (upd (upd H2 ap (DO P w ap [])) p (.ins (He.ga K "Playing") dx (pf3 ak ac ap))) p = _ := upd_same
  have hkp : ak ≠ ap := fun z => by
    obtain ⟨es, e, _⟩ := k2
    rw [z, hap] at e
    cases e
  have hcp : ac ≠ ap := fun z => by
    obtain ⟨es, e, _⟩ := c2
    rw [z, hap] at e
    cases e
  have hapH := fr_none f2 (by simpa using hnp g2 hap) hap
  refine ⟨szL, fun ar har => ?_⟩
  have s4 := same_new (o := .lst []) har
  refine ⟨_, rfl, p, _, dx, _, rfl, s4 _ _ g3, T.cls_Playing, T.na_Playing_own_rows, by simp, ?_⟩
  rw [putF_new (ks := ["own_kinds", "own_contents", "own_places"]) rfl (by decide +kernel)]
  have harH := fr_none f3 (by simpa using hnp g3 har) har
  refine q _ ak ac ap ar ((f3.trans (Same.fr s4)).at (by simp)) ⟨upd_same, (k3.same rd_stb.stb s4).pst rd_stb.stb (s4 _ _ g3), (c3.same rd_stb.stb s4).pst rd_stb.stb (s4 _ _ g3), (p3.same rd_stb.stb s4).pst rd_stb.stb (s4 _ _ g3), ⟨[], ?_, Nat.le_refl _⟩, hka, hkp, hcp⟩ hak hacH hapH harH
  rw [upd_ne (hnp g3 har)]
  exact upd_same
theorem Step.keys {y y' : Ply} {st : St2} {b : Bd} (s : Step y st b y') {k : St2} (h : (lk y'.kd k).isSome = true) : k = st ∨ (lk y.kd k).isSome = true := by
  cases s with
  | same => exact .inr h
  | make _ =>
    have h : (lk (putM y.kd st _) k).isSome = true := h
    rw [lk_put] at h
    by_cases e : k = st
    · exact .inl e
    · rw [if_neg e] at h; exact .inr h
  | move => exact .inr h
  | drop => exact .inr h
  | put => exact .inr h
theorem Step.le {y y' : Ply} {st : St2} {b : Bd} (s : Step y st b y') {N : Nat} (h : y.le N) : y'.le (N + 1) := by
  have p1 : ∀ {α : Type} {m : Tb α} {k : St2} {x : α}, m.length ≤ N + 1 → (putM m k x).length ≤ N + 1 + 1 := fun h => Nat.le_trans putM_len (by omega)
  obtain ⟨h1, h2, h3⟩ := h
  cases s with
  | same => exact ⟨by omega, by omega, by omega⟩
  | make _ => exact ⟨p1 h1, p1 h2, p1 h3⟩
  | move => exact ⟨Nat.le_succ_of_le h1, Nat.le_succ_of_le h2, p1 h3⟩
  | drop => exact ⟨Nat.le_succ_of_le h1, Nat.le_succ_of_le h2, p1 h3⟩
  | put => exact ⟨Nat.le_succ_of_le h1, p1 h2, Nat.le_succ_of_le h3⟩
def sp_play_through (P : Program) (w : World) (K : PySem.W.Frag) (e0 : Addr) : Sp := fun vs H Q _ => vs.length = 2 ∧ ∃ (b : Addr) (ds : List Dd), vs = [.ref b, .ref e0] ∧ BookAt P w K H b ds ∧
  ∀ (p dx ak ac ap ar : Addr) (y : Ply) (H' : Hp), Same H H' → PInv y → y.le ds.length → PlyC P w K ds.length H' p dx ak ac ap ar y → Q (.ref p) H'
theorem PlyC.more {N M : Nat} {H : Hp} {p dx ak ac ap ar : Addr} {y : Ply} (h : PlyC P w K N H p dx ak ac ap ar y) (m : N ≤ M) : PlyC P w K M H p dx ak ac ap ar y :=
  ⟨h.ob, h.kd, h.ct, h.pl, let ⟨rs, e, l⟩ := h.rows; ⟨rs, e, Nat.le_trans l m⟩, h.kc, h.kp, h.cp⟩
theorem Ply.le_more {y : Ply} {N M : Nat} (h : y.le N) (m : N ≤ M) : y.le M := ⟨Nat.le_trans h.1 (by omega), Nat.le_trans h.2.1 (by omega), Nat.le_trans h.2.2 (by omega)⟩
theorem ok_play_through (T : Tx w K mg e0) : KnD P w K mg base 6 (He.ga K "play_through") ["book", "without"] [] (sp_play_through P w K e0) := by
  have G_alive_without : Kn P w K mg base 5 _ _ _ := ok_alive_without T
  have G_Playing_init : KnD P w K mg base 1 _ _ _ _ := (ok_Playing_init T).d
  have G_Playing_do_deed : Kn P w K mg base 4 _ _ _ := ok_do_deed T
  have G_Book_getitem : Kn P w K mg base 4 _ _ _ := ok_Book_getitem T
  refine T.d_play_through.kn sc_play_through 2 1 (by decide) (by rfl) (fun _ _ _ _ _ _ _ us its hl hi => match us, its, hl, hi with | [_, _], [_], _, _ => ⟨_, rfl, rfl⟩) (fun vs H Q E h => h.1) (fun cdv A outer s H vs Q E hr h => ?_)
  have hu := hu65 hr
  obtain ⟨_, b, ds, rfl, hB, q⟩ := h
  have bk : Bk ds := by obtain ⟨_, _, _, _, bk⟩ := hB; exact bk
  refine ⟨_, (pss_cons (ps_set (i := 2) sc_play_through.nd rfl (Or.inl rfl) (pe_mk0 T.mk_Playing G_Playing_init (hr.mono (by first | decide | exact Nat.le_refl _ | exact Nat.le_add_right_of_le (by decide) | omega)) T.g_Playing))
    (pss_cons (ps_for PassesOwn.never rfl (pi_list (pe_fn G_alive_without (hr.mono (by first | decide | exact Nat.le_refl _ | exact Nat.le_add_right_of_le (by decide) | omega)) T.g_alive_without (pa_cons (pv 0) (pa_cons (pv 1) pa_nil)))) (pg_name (i := 3) sc_play_through.nd rfl (Or.inl rfl)) (pss_one (ps_expr (pe_mt (pv 2) T.cls_Playing T.me_Playing_do_deed G_Playing_do_deed (hr.mono (by first | decide | exact Nat.le_refl _ | exact Nat.le_add_right_of_le (by decide) | omega)) (pa_cons (pv 3) (pa_cons (pe_ix (ix_any hu) (pe_own_ix (pv 0) (pv 3) G_Book_getitem (hr.mono (by first | decide | exact Nat.le_refl _ | exact Nat.le_add_right_of_le (by decide) | omega)) T.me_Book_getitem.at_ T.d_Book_getitem.fnIn T.me_Book_getitem.fn) pe_int (fun _ _ => rfl)) pa_nil))))))
    (pss_one (ps_ret (pv 2))))), ?_⟩
  intro p dx hp hdx hne
  have hpn : ∀ {H2 : Hp} {o : HO}, Same H (upd (upd H dx (.own p)) p o) := fun {H2 o} => (same_new hdx).trans (same_new (by rw [upd_ne (Ne.symm hne)]; exact hp))
  have young : ∀ {o : HO} {z : Addr}, (upd (upd H dx (.own p)) p o) z = none → H z = none := fun {o z} h => same_none (hpn (H2 := H)) h
  refine ⟨rfl, p, dx, rfl, upd_same, fun H1 ak ac ap ar f1 hC hak hac hap har => ⟨rfl, ?_⟩⟩
  have s1 : Same H H1 := same_fr (hpn (H2 := H)) f1 (by simpa using hp)
  refine ⟨_, rfl, _, rfl, rfl, b, ds, rfl, hB.same s1, fun l us ks H2 hsub s2 hl hl2 hus => ⟨l, rfl, ⟨us, SqL.of hl2⟩, ?_⟩⟩
  have hndk : ks.Nodup := List.Nodup.sublist (hsub.trans ((List.filter_sublist).map _)) bk.nd
  have hlen : us.length = ks.length := by rw [dpa_len hus, List.length_map]
  have hkl : ks.length ≤ ds.length := by
    have h1 := hsub.length_le
    have h2 : (nonM ds).length ≤ ds.length := by
      unfold nonM
      rw [List.length_map]
      exact List.length_filter_le _ _
    omega
  have hlH : H l = none := same_none s1 hl
  have hC2 := hC.same s2
  have hAn : ∀ z ∈ [ak, ac, ap, ar], (upd H l (.lst us)) z = none := by
    intro z hz
    have hz1 : H z = none := by
      simp only [List.mem_cons, List.not_mem_nil, or_false] at hz
      rcases hz with rfl | rfl | rfl | rfl
      · exact young hak
      · exact young hac
      · exact young hap
      · exact young har
    have hz2 : z ≠ l := fun e => by
      subst e
      simp only [List.mem_cons, List.not_mem_nil, or_false] at hz
      rcases hz with rfl | rfl | rfl | rfl
      · obtain ⟨_, e, _⟩ := hC.kd; rw [hl] at e; cases e
      · obtain ⟨_, e, _⟩ := hC.ct; rw [hl] at e; cases e
      · obtain ⟨_, e, _⟩ := hC.pl; rw [hl] at e; cases e
      · obtain ⟨_, e, _⟩ := hC.rows; rw [hl] at e; cases e
    rw [upd_ne hz2]
    exact hz1
  have hA2 : Same (upd H l (.lst us)) H2 := fun c o e => by
    by_cases hc : c = l
    · subst hc
      rw [upd_same] at e
      rw [← e]
      exact hl2
    · rw [upd_ne hc] at e
      exact s2 _ _ (s1 _ _ e)
  refine for_it walk_list (fun i σ H3 => Same (upd H l (.lst us)) H3 ∧ TupLe H2 H3 ∧ (∃ o3, σ = [some (.ref b), some (.ref e0), some (.ref p), o3]) ∧ ∃ y, PlyC P w K i H3 p dx ak ac ap ar y ∧ PInv y ∧ y.le i ∧ ∀ k, (lk y.kd k).isSome = true → k = ROOT ∨ k ∈ ks.take i)
    ⟨hA2, TupLe.refl _, ⟨_, rfl⟩, Ply.zero, hC2, PInv.zero, ⟨by decide, by decide, by decide⟩, fun k hk => ?_⟩ (fun _ _ _ _ p => p.1.seq (SqL.of upd_same)) (fun i v σ H3 H4 hi pp yy => ?_) (fun σ H3 pp => ?_)
  · have := lk_some.mp hk
    simp [Ply.zero] at this
    exact .inl this
  · obtain ⟨s3, t3, ⟨o3, rfl⟩, y, hC3, hI, hle, hks⟩ := pp
    obtain ⟨rfl, hx⟩ := yy
    obtain ⟨k, hk, hv⟩ := dpa_mem hus hx
    have hv := dp_tup t3 (imm_sD k) hv
    obtain ⟨d, hd, rfl⟩ := List.mem_map.mp (hsub.subset (List.mem_of_getElem? hk))
    obtain ⟨hd, hdm⟩ := List.mem_filter.mp hd
    have hB3 : BookAt P w K H4 b ds := hB.same ((same_new hlH).trans s3)
    obtain ⟨bdx, ba, hbo, _⟩ := id hB3
    have hi60 : i < 60 := by have := bk.len; omega
    have hnew : lk y.kd d.st = none := by
      cases c : lk y.kd d.st with
      | none => rfl
      | some x =>
        rcases hks d.st (by rw [c]; rfl) with e | e
        · exact absurd e (okSt_ne (bk.ok d hd).st)
        · rw [← List.take_append_drop i ks, List.nodup_append] at hndk
          refine absurd rfl (hndk.2.2 d.st e d.st ?_)
          refine List.mem_of_getElem? (i := 0) ?_
          rw [List.getElem?_drop]
          exact hk
    refine ⟨_, rfl, p, dx, _, rfl, hC3.ob, rfl, _, rfl, _, rfl, _, rfl, b, bdx, _, rfl, hbo, rfl, b, v, ds, d, rfl, hB3, hd, hv, fun u hu2 => ?_⟩
    refine ixD 2 hu2 fun v2 h2 => ⟨rfl, i, p, dx, ak, ac, ap, ar, y, v, v2, d.st, d.bd, rfl, hv, h2, by simpa using hdm, hC3, hI, hle, hi60, (bk.ok d hd).bd, fun y' H5 hst f5 hC5 => ?_⟩
    refine ⟨same_fr s3 f5 hAn, t3.trans (f5.tup fun z hz => ?_), ⟨_, rfl⟩, y', hC5, hI.step hst (bk.ok d hd).bd (bk.ok d hd).st hnew, hst.le hle, fun k hk2 => ?_⟩
    · simp only [List.mem_cons, List.not_mem_nil, or_false] at hz
      rcases hz with rfl | rfl | rfl | rfl
      · obtain ⟨_, e, _⟩ := hC3.kd; exact nt_do e
      · obtain ⟨_, e, _⟩ := hC3.ct; exact nt_do e
      · obtain ⟨_, e, _⟩ := hC3.pl; exact nt_do e
      · obtain ⟨_, e, _⟩ := hC3.rows; exact nt_lst e
    · rw [List.take_add_one, hk]
      rcases hst.keys hk2 with rfl | h
      · exact .inr (List.mem_append_right _ (by simp))
      · rcases hks k h with h | h
        · exact .inl h
        · exact .inr (List.mem_append_left _ h)
  · obtain ⟨s3, t3, ⟨o3, rfl⟩, y, hC3, hI, hle, hks⟩ := pp
    rw [hlen] at hC3 hle
    exact ⟨_, rfl, q p dx ak ac ap ar y H3 ((same_new hlH).trans s3) hI (Ply.le_more hle hkl) (hC3.more hkl)⟩
end Ss
/-! sorted(xs, key=lambda x: self.f[x][1:]). -/
namespace Ss
open PySem PySem.Spec PyProof.Rows L2
abbrev ExH (h h' : Heap) : Prop := ∀ b o, h.get? b = some o → h'.get? b = some o
theorem dict_keep {P : Program} {w : World} {h h' : Heap} {d : Addr} {xs : List (List Key × Addr × Value)} (e : ExH h h') (x : h.DictOfH (tupleKind (mixKind P w)) d xs) : h'.DictOfH (tupleKind (mixKind P w)) d xs := by
  obtain ⟨o, es, ep, h1, h2, h3, h4, h5, h6⟩ := x
  refine ⟨o, es, ep, e _ _ h1, h2, h3, h4, fun y hy => ?_, h6⟩
  obtain ⟨o2, its, n, g1, g2, g3, g4⟩ := h5 y hy
  exact ⟨o2, its, n, e _ _ g1, g2, g3, g4⟩
theorem key_keep {P : Program} {w : World} {h h' : Heap} {k : List Key} {b : Addr} (e : ExH h h') (x : (tupleKind (mixKind P w)).is h k b) : (tupleKind (mixKind P w)).is h' k b := by
  obtain ⟨o2, its, n, g1, g2, g3, g4⟩ := x
  exact ⟨o2, its, n, e _ _ g1, g2, g3, g4⟩
theorem objm_keep {h h' : Heap} {x dx C : Addr} {mA : Str → Option Value} (e : ExH h h') (o : ObjM h x dx C mA) : ObjM h' x dx C mA := ⟨e _ _ o.obj, o.ns.at fun u q => e _ _ q, o.ne⟩
theorem sIx_lo (n : Nat) (h : 1 ≤ n) : HT.sIx n 0 (some 1) = 1 := by
  unfold HT.sIx
  simp
  omega
theorem lam_eval {P : Program} {w : World} {A : Around} {E : Value → Shared → Prop} {env : Env} {s : Shared} {K : PySem.W.Frag} {p dx ad b b' t sb C cS : Addr} {mA m : Str → Option Value} {xs : List (List Key × Addr × Value)} {k : St2} {u0 : Value} {key a1 a2 : Int} {tk t1 t2 : Tok}
    {p1 p2 p3 p4 p5 p6 p7 : Pos} {j : Nat} (KX : K.In s.heap) (hkind : env.scope.kind = .function) (hself : env.scope.names.lookup ("self" : Str) = some .free) (hcell : env.cells.lookup ("self" : Str) = some cS) (hc : s.heap.IsCell cS (some (.ref p)))
    (hthing : env.scope.names.lookup ("thing" : Str) = some .local) (hn : s.heap.Ns env.locals m) (hm : m "thing" = some (.ref b)) (O : ObjM s.heap p dx C mA) (hmA : mA "own_places" = some (.ref ad)) (cls : Cls K C) (na : NoAttr K C "own_places")
    (dd : s.heap.DictOfH (tupleKind (mixKind P w)) ad xs) (hkey : (tupleKind (mixKind P w)).is s.heap (skey k) b) (hp : atKey xs (skey k) = some (b', .ref t)) (ht : IsTup s.heap t #[u0, .int key tk, .ref sb]) (hsb : IsTup s.heap sb #[.int a1 t1, .int a2 t2]) (hu : A.units + 1 < cLine) :
    wpAny (model P w) A (eval (.Subscript (.Subscript (.Attribute (.Name "self" p1) "own_places" p2) (.Name "thing" p3) p4) (.Slice (some (.Constant (.int 1) j p5)) none none p6) p7) env)
      (fun v s' => ∃ h' tk', s' = { s with heap := h', toks := tk' } ∧ ExH s.heap h' ∧ Reads h' v (.tuple [.int key, .tuple [.int a1, .int a2]]) []) E s := by
  refine Subscript_ (Subscript_ (attr_of rfl (wpAny_Name (wpAny_loadName_free hkind hself hcell hc ?_ (by decide)) (by decide))))
  refine get_map KX O (cls.get _) cls.hd na hmA (handed_of (show RelV (.ref ad) (.ref ad) from rfl)) ?_
  refine wpAny_Name (wpAny_loadName_local hkind hthing hn hm ?_) (by decide)
  refine subscriptTail_builtinR (x := .ref t) dd.typeIs PySem.F.slot_dict_getitem.lookup (wpAny_getItem_heap (tupleKind_room_in1 hu) hkey dd hp ⟨rfl, ?_⟩)
  refine wpAny_Slice ?_
  rw [evalPart_some, evalPart_none]
  refine wpAny_Constant_int (wpAny_pure (wpAny_pure ?_))
  refine tail_any (T := "tuple") (ops := [.ref _, .ref t]) ?_ PyProof.Rows.slot_tuple_getitem.lookup ?_ (by with_unfolding_all rfl)
  · exact (ht.keeps fun b o q => Heap.get?_push_of_some _ q).typeIs
  · refine HT.getItem_tuple_cut (ht.keeps fun b o q => Heap.get?_push_of_some _ q) (Heap.IsSliceOf.new ..) (.int 1 _) .none ?_ ⟨_, _, rfl, ?_, ?_⟩ (by simp; decide)
    · simp [HT.sIx]
    · intro b o q
      exact Heap.get?_push_of_some _ (Heap.get?_push_of_some _ q)
    · refine .tuple (Heap.get?_push_size _ rfl) rfl rfl ?_
      have e : ((#[u0, .int key tk, .ref sb] : Array Value).toList.drop (HT.sIx (#[u0, .int key tk, .ref sb] : Array Value).size 0 (some 1))).take (HT.sIx (#[u0, .int key tk, .ref sb] : Array Value).size (#[u0, .int key tk, .ref sb] : Array Value).size none - HT.sIx (#[u0, .int key tk, .ref sb] : Array Value).size 0 (some 1)) = [.int key tk, .ref sb] := by
        simp [HT.sIx]
      rw [e]
      obtain ⟨o2, g1, g2, n2, g3⟩ := hsb
      exact .cons (as := []) (.int _ _) (.cons (as := []) (.tuple (Heap.get?_push_of_some _ (Heap.get?_push_of_some _ g1)) g2 g3 (.cons (as := []) (.int _ _) (.cons (as := []) (.int _ _) .nil))) .nil)
/-- what the lambda looks at, to be read at every later heap -/
structure LamF (P : Program) (w : World) (K : PySem.W.Frag) (h : Heap) (p : Addr) (d : PyData) (v : Value) : Prop where
  ex : ∃ (dx ad b b' t sb C : Addr) (mA : Str → Option Value) (xs : List (List Key × Addr × Value)) (k : St2) (u0 : Value) (key a1 a2 : Int) (tk t1 t2 : Tok), v = .ref b ∧ ObjM h p dx C mA ∧ mA "own_places" = some (.ref ad) ∧ Cls K C ∧ NoAttr K C "own_places" ∧
    h.DictOfH (tupleKind (mixKind P w)) ad xs ∧ (tupleKind (mixKind P w)).is h (skey k) b ∧ atKey xs (skey k) = some (b', .ref t) ∧ IsTup h t #[u0, .int key tk, .ref sb] ∧ IsTup h sb #[.int a1 t1, .int a2 t2] ∧ d = .tuple [.int key, .tuple [.int a1, .int a2]]
theorem LamF.keep {P : Program} {w : World} {K : PySem.W.Frag} {h h' : Heap} {p : Addr} {d : PyData} {v : Value} (x : LamF P w K h p d v) (e : ExH h h') : LamF P w K h' p d v := by
  obtain ⟨dx, ad, b, b', t, sb, C, mA, xs, k, u0, key, a1, a2, tk, t1, t2, g1, g2, g3, g4, g5, g6, g7, g8, g9, g10, g11⟩ := x.ex
  exact ⟨dx, ad, b, b', t, sb, C, mA, xs, k, u0, key, a1, a2, tk, t1, t2, g1, objm_keep e g2, g3, g4, g5, dict_keep e g6, key_keep e g7, g8, g9.keeps e, g10.keeps e, g11⟩
abbrev lamBody (p1 p2 p3 p4 p5 p6 p7 : Pos) (j : Nat) : Expr := .Subscript (.Subscript (.Attribute (.Name "self" p1) "own_places" p2) (.Name "thing" p3) p4) (.Slice (some (.Constant (.int 1) j p5)) none none p6) p7
/-- f(v) -/
theorem lam_turn {P : Program} {w : World} {A : Around} {s : Shared} {K : PySem.W.Frag} {q : Str} {params : Arguments} {scope : Scope} {clo : List (Str × Addr)} {pm ctv v : Value} {f c' cS p : Addr} {d : PyData} {p1 p2 p3 p4 p5 p6 p7 : Pos} {j : Nat}
    (KX : K.In s.heap) (lim : s.heap.NoLimit) (hdep : A.depth < recursionLimit) (hu : A.units + 4 < cLine)
    (hf : s.heap.get? f = some (PySem.W.kla_obj "<lambda>" q params (lamBody p1 p2 p3 p4 p5 p6 p7 j) scope clo pm c' ctv))
    (hco : ∃ (oc : Obj) (vs : Array Value) (t : Tok), s.heap.get? c' = some oc ∧ oc.data = .fields vs ∧ vs[1]? = some (.str q t))
    (hk : scope.kind = .function) (co : scope.isCoroutine = false) (gen : scope.isGenerator = false) (nc : ∀ y ∈ scope.names, y.2 ≠ .cell)
    (hself : scope.names.lookup ("self" : Str) = some .free) (hthing : scope.names.lookup ("thing" : Str) = some .local) (hcell : clo.lookup ("self" : Str) = some cS) (hc : s.heap.IsCell cS (some (.ref p)))
    (hbind : bindArgs (PySem.W.kla_fn "<lambda>" q params (lamBody p1 p2 p3 p4 p5 p6 p7 j) scope clo pm (.ref c') ctv) ⟨[v], []⟩ = pure [(("thing" : Str), v)])
    (F : LamF P w K s.heap p d v) : wpAny (model P w) A (call (.ref f) [v]) (PySem.W.KeyPure d s) (fun _ _ => False) s := by
  obtain ⟨oc, vs, t, hoc, hdc, hvc⟩ := hco
  refine wpAny_call (PySem.W.kla_callFunE hdep hf rfl co gen rfl ⟨c', oc, vs, t, rfl, hoc, hdc, hvc⟩ ?_)
  rw [hbind]
  refine wpAny_pure (wpAny_newFunctionEnv nc (fun y hy => ?_) (fun h₁ hns hsb => ⟨lim.fresh _ hsb, ?_⟩) hk)
  · simp at hy
    subst hy
    exact hthing
  have kp : ExH s.heap h₁ := fun b o e => hsb.extBut b o (Nat.ne_of_lt (Heap.lt_size e)) (Heap.get?_push_of_some _ e)
  obtain ⟨dx, ad, b, b', t2, sb, C, mA, xs, k, u0, key, a1, a2, tk, t1, t3, g1, g2, g3, g4, g5, g6, g7, g8, g9, g10, g11⟩ := (F.keep kp).ex
  subst g1 g11
  refine PySem.W.kla_codeExpr ?_
  refine wpAny_mono (lam_eval (E := fun _ _ => False) (KX.keeps kp) hk hself hcell ?_ hthing hns rfl g2 g3 g4 g5 g6 g7 g8 g9 g10 ?_) (fun u s' hq => ?_) (fun _ _ z => z.elim)
  · obtain ⟨o, ho, hd⟩ := hc
    exact ⟨o, kp _ _ ho, hd⟩
  · show A.units + 3 + 1 < cLine
    omega
  · obtain ⟨h', tk', rfl, e2, hr⟩ := hq
    exact ⟨h', tk', rfl, fun b o e => e2 b o (kp b o e), hr⟩
end Ss
/-! sorted(xs, key=lambda x: self.f[x][1:]): the rule. -/
namespace Ss
open PySem PySem.Spec PyProof.Rows L2 LamX
/-- an item, its stamp, its key -/
abbrev LE3 := V × St2 × PyData
def keyOk (m : Tb Pl) (e : LE3) : Prop := ∃ u key st, lk m e.2.1 = some ⟨some (u, key), st⟩ ∧ e.2.2 = .tuple [.int key, sD st]
def RSort (P : Program) (w : World) (K : PySem.W.Frag) (T : List (Addr × Str)) (i : Nat) (σ : L2.St) (x : V) (H1 : Hp) (Q : VK) : Prop := Tabs T H1 ∧ ∃ (l : Addr) (es : List LE3) (p C dx ad : Addr) (fs : List (Str × V)) (m : Tb Pl), x = .ref l ∧ SqL K H1 l (es.map (·.1)) ∧ (∀ e ∈ es, Dp K H1 e.1 (sD e.2.1) ∧ keyOk m e) ∧
  σ[i]? = some (some (.ref p)) ∧ H1 p = some (.ins C dx fs) ∧ Cls K C ∧ NoAttr K C "own_places" ∧ fs.lookup ("own_places" : Str) = some (.ref ad) ∧ DM P w K (RP K) H1 ad m ∧
  ∀ (es' : List LE3) (H2 : Hp) (q : Addr), es'.Perm es → ExtN H1 H2 → Tabs T H2 → H2 q = none → Q (.ref q) (upd H2 q (.lst (es'.map (·.1))))
def tSortLam (P : Program) (w : World) (K : PySem.W.Frag) (T : List (Addr × Str)) (i : Nat) (te : TE) : TE := fun σ H Q => te σ H fun x H1 => RSort P w K T i σ x H1 Q
theorem extN_tup {K : PySem.W.Frag} {H H' : Hp} (e : ExtN H H') {a : Addr} {xs : List V} (h : SqT K H a xs) : SqT K H' a xs := by
  rcases h with (h | ⟨o, h⟩) | h
  · exact .inl (.inl (e _ _ h (fun _ z => nomatch z)))
  · exact .inl (.inr ⟨o, e _ _ h (fun _ z => nomatch z)⟩)
  · exact .inr h
theorem extN_lst {K : PySem.W.Frag} {H H' : Hp} (e : ExtN H H') {a : Addr} {xs : List V} (h : SqL K H a xs) : SqL K H' a xs := by
  rcases h with (h | ⟨o, h⟩) | h
  · exact .inl (.inl (e _ _ h (fun _ z => nomatch z)))
  · exact .inl (.inr ⟨o, e _ _ h (fun _ z => nomatch z)⟩)
  · exact .inr h
theorem each_of {es : List LE3} {vs : List Value} : Vals (es.map (·.1)) vs → PySem.W.EachIs (fun v (e : LE3) => L2.RelV e.1 v) vs es := by
  induction es generalizing vs with
  | nil => intro h; cases h; exact .nil
  | cons e r ih =>
    intro h
    cases h with
    | cons a b => exact .cons a (ih b)
theorem of_each {es : List LE3} {vs : List Value} : PySem.W.EachIs (fun v (e : LE3) => L2.RelV e.1 v) vs es → Vals (es.map (·.1)) vs := by
  induction es generalizing vs with
  | nil => intro h; cases h; exact .nil
  | cons e r ih =>
    intro h
    cases h with
    | cons a b => exact .cons a (ih b)
section
variable {X : Cx} {T : List (Addr × Str)} {e : Expr} {te : TE} {c P0 : Addr} {params : Arguments} {scope : Scope} {p p1 p2 p3 p4 p5 p6 p7 lpos kpos pos : Pos} {j i : Nat}
theorem pe_sortlam (hcalm : X.calm = true) (ha : PA X [e] (tCons te tNil)) (hg : Gl X "sorted") (hm : X.mg "sorted" = none) (TB : TabB X.base X.mg c P0) (hcode : X.env.code = .ref c) (hmT : (P0, X.env.qual ++ "<lambda>") ∈ T) (huT : ∀ p ∈ T, p.1 = P0 → p.2 = X.env.qual ++ "<lambda>") (hr : Room 3 X.A)
    (hk : scope.kind = .function) (co : scope.isCoroutine = false) (gen : scope.isGenerator = false) (nc : ∀ y ∈ scope.names, y.2 ≠ .cell) (hself : scope.names.lookup ("self" : Str) = some .free) (hthing : scope.names.lookup ("thing" : Str) = some .local)
    (hfr : ∀ y ∈ scope.names, y.2 = .free → X.env.scope.names.lookup y.1 = some .cell ∨ X.env.scope.names.lookup y.1 = some .free) (hN : X.N[i]? = some "self")
    (hdef : defaultsOf params X.env = ([], [])) (hbind : ∀ (q : Str) (cl : List (Str × Addr)) (pm cv ctv v : Value), bindArgs (PySem.W.kla_fn "<lambda>" q params (lamBody p1 p2 p3 p4 p5 p6 p7 j) scope cl pm cv ctv) ⟨[v], []⟩ = pure [(("thing" : Str), v)])
    (hst : backTo pos (starEach [e] X.env) = (false, eval e X.env) :: backTo pos (starEach [] X.env) := by rfl) (hpl : (backTo pos (starEach [e] X.env)).any (·.1) = false := by rfl) :
    PE X (.Call (.Name "sorted" p) [e] [⟨some "key", .Lambda params (lamBody p1 p2 p3 p4 p5 p6 p7 j) scope lpos, kpos⟩] pos) (tSortLam X.prog X.w X.K T i te) := by
  refine ⟨fun pins s σ H Q I h => ?_⟩
  refine wpAny_Call_Name_kw (ld_blt I hg hm boot_sorted ?_)
  refine PyProof.Rows.callWith_kw ?_ hst hpl
  have hfree : ∀ y ∈ scope.names, y.2 = .free → ∃ c, X.env.cells.lookup y.1 = some c := fun y hy e => by
    rcases hfr y hy e with k | k
    · exact I.ok.has _ (.inl k)
    · exact I.ok.has _ (.inr k)
  refine thn (ha.run pos pins s σ H (fun vs H1 => match vs with | [x] => RSort X.prog X.w X.K T i σ x H1 Q | _ => False) I h) fun us s1 ⟨vs, H1, I1, r1, q1⟩ => ?_
  obtain ⟨x, rfl⟩ : ∃ x, vs = [x] := by
    match vs, q1 with
    | [x], _ => exact ⟨x, rfl⟩
    | [], q => exact q.elim
    | _ :: _ :: _, q => exact q.elim
  have q1 : RSort X.prog X.w X.K T i σ x H1 Q := q1
  obtain ⟨hT, l, es, ps, C, dx, ad, fs, m, rfl, hl, hes, hσ, hp, hcls, hna, hlk, hdm, q⟩ := q1
  obtain rfl := Vals.ref1 r1
  show wpAny _ _ (evalAll ((do let v ← eval (.Lambda params (lamBody p1 p2 p3 p4 p5 p6 p7 j) scope lpos) X.env; standAt pos; pure v) :: [])) _ _ s1
  refine wpAny_evalAll_cons (wpAny_bind (lam_make2 I1 TB hcode hmT huT hT hdef hfree fun f c' pm ctv H2 s2 I2 eN T2 hf hfn hfr2 hco => wpAny_bind (wpAny_standAt (wpAny_pure ?_))))
  refine wpAny_evalAll_nil ?_
  show wpAny _ _ (call (.builtin "sorted") [.ref l] [(Str.ofString "key", .ref f)]) _ _ s2
  -- self's cell
  obtain ⟨mloc, hns, hloc⟩ := I2.loc
  have hmem : (("self" : Str), NameKind.free) ∈ scope.names := PySem.mem_of_lookup hself
  have hvis : Vis X.env.scope "self" := (hfr _ hmem rfl).elim (fun k => .inr (.inl k)) (fun k => .inr (.inr k))
  obtain ⟨us, rus, look⟩ := hloc i "self" (.ref ps) hN hσ hvis
  obtain rfl : us = Value.ref ps := rus
  obtain ⟨cS, hcl, hcs⟩ : ∃ cS, (cloFrom X.env.cells scope.names []).lookup ("self" : Str) = some cS ∧ s2.heap.IsCell cS (some (.ref ps)) := by
    obtain ⟨cS, h1⟩ := mem_lookup (cloFrom_has (cells := X.env.cells) (acc := []) hmem)
    refine ⟨cS, h1, ?_⟩
    have h2 : X.env.cells.lookup ("self" : Str) = some cS := by
      rcases cloFrom_mem (PySem.mem_of_lookup h1) with hm | ⟨g1, g2⟩
      · cases hm
      · obtain ⟨c1, g3⟩ := hfree _ g1 rfl
        have g3 : X.env.cells.lookup ("self" : Str) = some c1 := g3
        have e2 : cS = c1 := by
          rw [g2, g3] <;> rfl
        rw [e2]
        exact g3
    rcases look with ⟨k', _⟩ | ⟨_, c3, e', z⟩
    · have k' : X.env.scope.names.lookup ("self" : Str) = some .local := k'
      rcases hfr _ hmem rfl with k2 | k2 <;> rw [show X.env.scope.names.lookup ("self" : Str) = _ from k2] at k' <;> cases k'
    · rw [h2] at e'
      cases e'
      exact z
  -- what each turn looks at
  have hp2 := eN _ _ hp (fun _ z => nomatch z)
  obtain ⟨mA, O, rm, _, _, _⟩ := ins_get I2.hok hp2
  obtain ⟨uad, huad, ruad⟩ := RelO.some_of (v := V.ref ad) (o := mA "own_places") (by rw [← hlk]; exact rm "own_places")
  obtain rfl : uad = Value.ref ad := ruad
  obtain ⟨en, hen, hE⟩ := hdm
  have hen2 := eN _ _ hen (fun _ z => nomatch z)
  obtain ⟨_, _, xs, rx, dd⟩ := dict_at I2 (.inl hen2) (fun e he => extN_tup eN (hE.ks e he))
  obtain ⟨its, rv, pl, hz⟩ := I2.list (extN_lst eN hl)
  have facts : ∀ (v : Value) (e : LE3), L2.RelV e.1 v → e ∈ es → LamF X.prog X.w X.K s2.heap ps e.2.2 v := fun v e rve hee => by
    obtain ⟨hd, uu, key, st, hk1, hk2⟩ := hes e hee
    obtain ⟨b, hb, hbt⟩ := stamp_dp hd
    rw [hb] at rve
    obtain rfl : v = Value.ref b := rve
    obtain ⟨z, hz1, hz2⟩ : ∃ z, lookE en e.2.1 = some z ∧ RP X.K H1 z ⟨some (uu, key), st⟩ := by
      rcases hE.look e.2.1 with ⟨_, n⟩ | ⟨z, y, g1, g2, g3⟩
      · rw [hk1] at n; cases n
      · rw [hk1] at g2; cases g2; exact ⟨z, g1, g3⟩
    obtain ⟨t, x0, x1, x2, rfl, ht, hx0, hx1, hx2⟩ := tup3 (show Dp X.K H1 z (.tuple [sD uu, .int key, sD st]) from hz2.1)
    obtain rfl := dp_int hx1
    obtain ⟨sb, rfl, hsb⟩ := stamp_dp hx2
    obtain ⟨w1, hw1, rw1⟩ := RelO.some_of (v := V.ref t) (o := (atKey xs (skey e.2.1)).map (·.2)) (by rw [← hz1]; exact ER.look rx e.2.1)
    obtain rfl : w1 = Value.ref t := rw1
    obtain ⟨⟨b', w2⟩, hp3, hp4⟩ := Option.map_eq_some_iff.mp hw1
    obtain rfl : w2 = Value.ref t := hp4
    obtain ⟨its1, r1, g1, _⟩ := I2.tuple (extN_tup eN ht)
    obtain ⟨its2, r2, g2, _⟩ := I2.tuple (extN_tup eN hsb)
    cases r1 with
    | @cons _ u0 _ _ a1 r1 =>
    cases r1 with
    | cons a2 r1 =>
    cases r1 with
    | cons a3 r1 =>
    cases r1
    obtain ⟨tk, rfl⟩ := a2
    obtain rfl := (show _ = Value.ref sb from a3)
    cases r2 with
    | cons b1 r2 =>
    cases r2 with
    | cons b2 r2 =>
    cases r2
    obtain ⟨t1, rfl⟩ := b1
    obtain ⟨t2, rfl⟩ := b2
    exact ⟨dx, ad, b, b', t, sb, C, mA, xs, e.2.1, u0, key, st.1, st.2, tk, t1, t2, rfl, O, huad, hcls, hna, dd, key_at I2 (extN_tup eN hbt), hp3, g1, g2, hk2⟩
  have hen3 : ∀ e ∈ es, ∃ key st, e.2.2 = .tuple [.int key, sD st] := fun e hee => by
    obtain ⟨_, _, key, st, _, hk2⟩ := hes e hee
    exact ⟨key, st, hk2⟩
  have eR := each_of rv
  have hzl : es.length ≤ sizeLine := by rw [List.length_map] at hz; exact hz
  obtain ⟨⟨oc, vs, t, hoc, hdc, hvc⟩, _, _⟩ := I2.hok c' _ hco
  have hun := hr.un
  refine PySem.W.sorted_key_data (kw := [(Str.ofString "key", .ref f)]) (b := false) (fun e : LE3 => e.2.2) pl.isList eR ?_ ?_ hzl (fun x hx => ?_) (PyProof.Rows.ksk_s1 _ _) (fun _ => PyProof.Rows.ksk_l1 _ _) (fun a => PyProof.Rows.ksk_t1 f a) (fun v x hR hx h tk kp => ?_) (fun out c2 h' tk kp hn hat hol eo => ?_)
  · intro d hd d' hd'
    obtain ⟨e1, h1, rfl⟩ := List.mem_map.mp hd
    obtain ⟨e2, h2, rfl⟩ := List.mem_map.mp hd'
    obtain ⟨k1, s1, g1⟩ := hen3 e1 h1
    obtain ⟨k2, s2, g2⟩ := hen3 e2 h2
    rw [g1, g2]
    simp [sD, PySem.W.alike, PySem.W.alikeAll]
  · refine .inl fun d hd => ?_
    obtain ⟨e1, h1, rfl⟩ := List.mem_map.mp hd
    obtain ⟨k1, s1, g1⟩ := hen3 e1 h1
    exact ⟨_, _, g1⟩
  · obtain ⟨k1, s1, g1⟩ := hen3 x hx
    rw [g1]
    have : (PyData.tuple [.int k1, sD s1]).depth ≤ 3 := by simp [sD, PyData.depth, PyData.depthAll]
    omega
  · have hr2 : (X.A.in1.in1).depth < recursionLimit := hr.depth
    refine lam_turn (s := { s2 with heap := h, toks := tk }) (I2.kIn.keeps kp) (I2.nolimit.keeps kp) hr2 ?_ (kp _ _ hf) ⟨oc, vs, t, kp _ _ hoc, hdc, hvc⟩ hk co gen nc hself hthing hcl ?_ (hbind _ _ _ _ _ _) ((facts v x hR hx).keep kp)
    · show X.A.units + 1 + 1 + 4 < cLine
      omega
    · obtain ⟨o, ho, hd⟩ := hcs
      exact ⟨o, kp _ _ ho, hd⟩
  · have hperm := List.mergeSort_perm es (PySem.W.dataLe false fun e : LE3 => e.2.2)
    obtain ⟨fr, I3⟩ := inv_laid (t' := tk) (a := s2.heap.objs.size + 1) (o := .lst ((es.mergeSort (PySem.W.dataLe false fun e : LE3 => e.2.2)).map (·.1))) I2 kp hn ⟨by rw [List.length_map, hperm.length_eq]; exact hzl, out, c2, of_each eo, hat⟩
    exact ⟨.ref (s2.heap.objs.size + 1), _, I3, rfl, q _ H2 _ hperm eN T2 fr⟩
def lamFr (sc scope : Scope) : Bool := scope.names.all fun y => !decide (y.2 = .free) || (decide (sc.names.lookup y.1 = some .cell) || decide (sc.names.lookup y.1 = some .free))
def lamNc (scope : Scope) : Bool := scope.names.all fun y => !decide (y.2 = .cell)
theorem pe_sortlamB (hcalm : X.calm = true) (ha : PA X [e] (tCons te tNil)) (hg : Gl X "sorted") (hm : X.mg "sorted" = none) (TB : TabB X.base X.mg c P0) (hcode : X.env.code = .ref c) (hmT : (P0, X.env.qual ++ "<lambda>") ∈ T) (huT : ∀ p ∈ T, p.1 = P0 → p.2 = X.env.qual ++ "<lambda>") (hr : Room 3 X.A)
    (hk : scope.kind = .function) (co : scope.isCoroutine = false) (gen : scope.isGenerator = false) (nc : lamNc scope = true) (hself : scope.names.lookup ("self" : Str) = some .free) (hthing : scope.names.lookup ("thing" : Str) = some .local)
    (hfr : lamFr X.env.scope scope = true) (hN : X.N[i]? = some "self")
    (hdef : defaultsOf params X.env = ([], [])) (hbind : ∀ (q : Str) (cl : List (Str × Addr)) (pm cv ctv v : Value), bindArgs (PySem.W.kla_fn "<lambda>" q params (lamBody p1 p2 p3 p4 p5 p6 p7 j) scope cl pm cv ctv) ⟨[v], []⟩ = pure [(("thing" : Str), v)])
    (hst : backTo pos (starEach [e] X.env) = (false, eval e X.env) :: backTo pos (starEach [] X.env) := by rfl) (hpl : (backTo pos (starEach [e] X.env)).any (·.1) = false := by rfl) :
    PE X (.Call (.Name "sorted" p) [e] [⟨some "key", .Lambda params (lamBody p1 p2 p3 p4 p5 p6 p7 j) scope lpos, kpos⟩] pos) (tSortLam X.prog X.w X.K T i te) := by
  refine pe_sortlam hcalm ha hg hm TB hcode hmT huT hr hk co gen (fun y hy z => ?_) hself hthing (fun y hy z => ?_) hN hdef hbind hst hpl
  · have := List.all_eq_true.mp nc y hy
    simp [z] at this
  · have := List.all_eq_true.mp hfr y hy
    simpa [z] using this
end
end Ss
/-! Trees by their children. -/
namespace Ss
open PySem PySem.Spec PyProof.Rows L2
variable {kids : St2 → List St2} {U : List St2} {rk : St2 → Nat}
structure Kds (kids : St2 → List St2) (U : List St2) (rk : St2 → Nat) : Prop where
  nd : ∀ x, (kids x).Nodup
  one : ∀ x x' y, y ∈ kids x → y ∈ kids x' → x = x'
  rk : ∀ x y, y ∈ kids x → rk y = rk x + 1
  mem : ∀ x y, y ∈ kids x → y ∈ U
/-- less than n steps down -/
def Ht (kids : St2 → List St2) : Nat → St2 → Prop
  | 0, _ => False
  | n + 1, x => ∀ y ∈ kids x, Ht kids n y
def below (kids : St2 → List St2) : Nat → St2 → List St2
  | 0, _ => []
  | n + 1, x => (kids x).flatMap fun y => y :: below kids n y
def ends (kids : St2 → List St2) : Nat → St2 → List St2
  | 0, _ => []
  | n + 1, x => ((kids x).flatMap fun y => ends kids n y) ++ [x]
theorem Ht.mono {n m : Nat} (h : n ≤ m) : ∀ {x : St2}, Ht kids n x → Ht kids m x := by
  induction n generalizing m with
  | zero => intro x z; exact z.elim
  | succ n ih =>
    intro x z
    obtain ⟨k, rfl⟩ : ∃ k, m = k + 1 := ⟨m - 1, by omega⟩
    exact fun y hy => ih (by omega) (z y hy)
theorem below_same {n m : Nat} : ∀ {x : St2}, Ht kids n x → Ht kids m x → below kids n x = below kids m x := by
  induction n generalizing m with
  | zero => intro x z; exact z.elim
  | succ n ih =>
    intro x z z'
    cases m with
    | zero => exact z'.elim
    | succ m =>
      show (kids x).flatMap _ = (kids x).flatMap _
      have : ∀ l : List St2, (∀ y ∈ l, y ∈ kids x) → l.flatMap (fun y => y :: below kids n y) = l.flatMap fun y => y :: below kids m y := by
        intro l
        induction l with
        | nil => intro _; rfl
        | cons a l ih2 =>
          intro h
          rw [List.flatMap_cons, List.flatMap_cons, ih2 fun y hy => h y (List.mem_cons_of_mem _ hy), ih (z a (h a (List.mem_cons_self ..))) (z' a (h a (List.mem_cons_self ..)))]
      exact this _ fun _ h => h
/-- z stands below y, or is y -/
inductive Anc (kids : St2 → List St2) (y : St2) : St2 → Prop
  | refl : Anc kids y y
  | step {p z : St2} : z ∈ kids p → Anc kids y p → Anc kids y z
theorem Anc.top {x y z : St2} (hy : y ∈ kids x) (a : Anc kids y z) : Anc kids x z := by
  induction a with
  | refl => exact .step hy .refl
  | step h _ ih => exact .step h ih
theorem Anc.le (K : Kds kids U rk) {y z : St2} (a : Anc kids y z) : rk y ≤ rk z := by
  induction a with
  | refl => exact Nat.le_refl _
  | step h _ ih => have := K.rk _ _ h; omega
theorem Anc.one (K : Kds kids U rk) {y y' z : St2} (a : Anc kids y z) (b : Anc kids y' z) (e : rk y = rk y') : y = y' := by
  induction a with
  | refl =>
    cases b with
    | refl => rfl
    | step h b2 => have := K.rk _ _ h; have := b2.le K; omega
  | step h a2 ih =>
    cases b with
    | refl => have := K.rk _ _ h; have := a2.le K; omega
    | step h2 b2 =>
      obtain rfl := K.one _ _ _ h h2
      exact ih b2
theorem below_anc : ∀ {n : Nat} {x z : St2}, z ∈ below kids n x → ∃ y ∈ kids x, Anc kids y z
  | 0, x, z, h => by simp [below] at h
  | n + 1, x, z, h => by
    obtain ⟨y, hy, hz⟩ := List.mem_flatMap.mp h
    rcases List.mem_cons.mp hz with rfl | hz
    · exact ⟨z, hy, .refl⟩
    · obtain ⟨y2, h2, a⟩ := below_anc hz
      exact ⟨y, hy, a.top h2⟩
theorem anc_below : ∀ {n : Nat} {x z : St2}, Ht kids n x → Anc kids x z → z = x ∨ z ∈ below kids n x := by
  intro n x z h a
  have key : ∀ {y z : St2}, Anc kids y z → ∀ n, Ht kids n y → z = y ∨ z ∈ below kids n y := by
    intro y z a
    have gen : ∀ {p : St2} {n : Nat} {y : St2}, Ht kids n y → (p = y ∨ p ∈ below kids n y) → ∀ z ∈ kids p, z ∈ below kids n y := by
      intro p n
      induction n with
      | zero => intro y z; exact z.elim
      | succ n ih =>
        intro y ht hp z hz
        rcases hp with rfl | hp
        · exact List.mem_flatMap.mpr ⟨z, hz, List.mem_cons_self ..⟩
        · obtain ⟨q, hq, hm⟩ := List.mem_flatMap.mp hp
          refine List.mem_flatMap.mpr ⟨q, hq, ?_⟩
          rcases List.mem_cons.mp hm with rfl | hm
          · exact List.mem_cons_of_mem _ (ih (ht p hq) (.inl rfl) z hz)
          · exact List.mem_cons_of_mem _ (ih (ht q hq) (.inr hm) z hz)
    induction a with
    | refl => intro n _; exact .inl rfl
    | step hz _ ih => intro n ht; exact .inr (gen ht (ih n ht) _ hz)
  exact key a n h
theorem nodup_flat {α β : Type} {f : α → List β} : ∀ {l : List α}, l.Nodup → (∀ a ∈ l, (f a).Nodup) → (∀ a ∈ l, ∀ b ∈ l, ∀ z, z ∈ f a → z ∈ f b → a = b) → (l.flatMap f).Nodup
  | [], _, _, _ => by simp
  | a :: l, nd, h1, h2 => by
    rw [List.nodup_cons] at nd
    rw [List.flatMap_cons, List.nodup_append]
    refine ⟨h1 a (List.mem_cons_self ..), nodup_flat nd.2 (fun b hb => h1 b (List.mem_cons_of_mem _ hb)) (fun b hb c hc => h2 b (List.mem_cons_of_mem _ hb) c (List.mem_cons_of_mem _ hc)), fun x hx y hy e => ?_⟩
    subst e
    obtain ⟨b, hb, hz⟩ := List.mem_flatMap.mp hy
    have := h2 a (List.mem_cons_self ..) b (List.mem_cons_of_mem _ hb) x hx hz
    exact nd.1 (this ▸ hb)
theorem below_nodup (K : Kds kids U rk) : ∀ (n : Nat) (x : St2), (below kids n x).Nodup ∧ ∀ z ∈ below kids n x, z ∈ U ∧ rk x < rk z
  | 0, x => ⟨by simp [below], by simp [below]⟩
  | n + 1, x => by
    have up : ∀ z ∈ below kids (n + 1) x, z ∈ U ∧ rk x < rk z := fun z hz => by
      obtain ⟨y, hy, hm⟩ := List.mem_flatMap.mp hz
      have h1 := K.rk _ _ hy
      rcases List.mem_cons.mp hm with rfl | hm
      · exact ⟨K.mem _ _ hy, by omega⟩
      · obtain ⟨h2, h3⟩ := (below_nodup K n y).2 z hm
        exact ⟨h2, by omega⟩
    refine ⟨nodup_flat (K.nd x) (fun y hy => ?_) (fun y hy y' hy' z hz hz' => ?_), up⟩
    · refine List.nodup_cons.mpr ⟨fun h => ?_, (below_nodup K n y).1⟩
      have := ((below_nodup K n y).2 y h).2
      omega
    · have anc : ∀ {y : St2}, z ∈ y :: below kids n y → Anc kids y z := fun {y} h => by
        rcases List.mem_cons.mp h with rfl | h
        · exact .refl
        · obtain ⟨y2, h2, a⟩ := below_anc h
          exact a.top h2
      refine (anc hz).one K (anc hz') ?_
      rw [K.rk _ _ hy, K.rk _ _ hy']
theorem below_len (K : Kds kids U rk) (n : Nat) (x : St2) : (below kids n x).length ≤ U.length := nodup_le (below_nodup K n x).1 fun z hz => ((below_nodup K n x).2 z hz).1
theorem ends_perm : ∀ {n : Nat} {x : St2}, Ht kids n x → (ends kids n x).Perm (x :: below kids n x)
  | 0, x, h => h.elim
  | n + 1, x, h => by
    show (((kids x).flatMap fun y => ends kids n y) ++ [x]).Perm _
    refine List.perm_append_comm.trans ?_
    refine List.Perm.cons x ?_
    show ((kids x).flatMap fun y => ends kids n y).Perm ((kids x).flatMap fun y => y :: below kids n y)
    have : ∀ l : List St2, (∀ y ∈ l, y ∈ kids x) → (l.flatMap fun y => ends kids n y).Perm (l.flatMap fun y => y :: below kids n y) := by
      intro l
      induction l with
      | nil => intro _; exact List.Perm.refl _
      | cons a l ih =>
        intro hl
        rw [List.flatMap_cons, List.flatMap_cons]
        exact (ends_perm (h a (hl a (List.mem_cons_self ..)))).append (ih fun y hy => hl y (List.mem_cons_of_mem _ hy))
    exact this _ fun _ h => h
end Ss
/-! Walks: what stands below. -/
namespace Ss
open PySem PySem.Spec PyProof.Rows L2
variable {P : Program} {w : World} {K : PySem.W.Frag} {mg : Str → Option Value} {base : Heap} {e0 : Addr}
/-- a reading by what stood before -/
theorem dgetR2 {α : Type} {R : Hp → V → α → Prop} {H0 H : Hp} {a : Addr} {m : Tb α} {k : St2} {x : α} {y : V} {Q : VK} (h : DR P w K R H0 a m) (s : Same H0 H) (hy : Dp K H y (sD k)) (hx : lk m k = some x) (q : ∀ v, R H0 v x → Q v H) : rIxA P w K (.ref a) y H Q := by
  obtain ⟨es, e, d⟩ := h
  obtain ⟨b, rfl, hb⟩ := stamp_dp hy
  rcases d.look k with ⟨_, z⟩ | ⟨v, x', h1, h2, r⟩
  · rw [hx] at z; cases z
  · obtain rfl : x = x' := Option.some.inj (hx.symm.trans h2)
    refine .inr (.inr ⟨a, es, b, k, v, rfl, rfl, ⟨?_, fun e he => same_sqt s (d.ks e he)⟩, hb, h1, q v r⟩)
    rcases e with e | ⟨o, e⟩
    · exact .inl (s _ _ e)
    · exact .inr ⟨o, s _ _ e⟩
def kidsT (un : Tb (List St2)) (x : St2) : List St2 := (lk un x).getD []
structure UnOk (un : Tb (List St2)) (U : List St2) (rk : St2 → Nat) : Prop where
  k : Kds (kidsT un) U rk
  has : ∀ x ∈ U, ∃ l, lk un x = some l
  len : U.length ≤ 70
def sp_all_below (P : Program) (w : World) (K : PySem.W.Frag) (n : Nat) : Sp := fun vs H Q _ => vs.length = 2 ∧ ∃ (a dx au : Addr) (fs : List (Str × V)) (un : Tb (List St2)) (U : List St2) (rk : St2 → Nat) (v : V) (x : St2), vs = [.ref a, v] ∧ H a = some (.ins (He.ga K "State") dx fs) ∧ fs.lookup ("all_below" : Str) = none ∧ fs.lookup ("own_unders" : Str) = some (.ref au) ∧
  DM P w K (RLs K) H au un ∧ UnOk un U rk ∧ x ∈ U ∧ Ht (kidsT un) n x ∧ Dp K H v (sD x) ∧
  ∀ (p : Addr) (us : List V) (H' : Hp), Same H H' → H p = none → H' p = some (.lst us) → DpAll K H' us ((below (kidsT un) n x).map sD) → Q (.ref p) H'
theorem kids_at {un : Tb (List St2)} {x : St2} {l : List St2} (h : lk un x = some l) : kidsT un x = l := by unfold kidsT; rw [h]; rfl
theorem ok_all_below (T : Tx w K mg e0) (n : Nat) : Kn P w K mg base (1 + n) (He.ma K (He.ga K "State") "all_below") ["self", "thing"] (sp_all_below P w K n) := by
  induction n with
  | zero =>
    refine T.d_State_all_below.kn sc_State_all_below (fun _ _ _ _ _ _ us hl => match us, hl with | [_, _], _ => rfl) (fun vs H Q E h => h.1) (fun cdv A outer s H vs Q E hr h => ?_)
    obtain ⟨_, a, dx, au, fs, un, U, rk, v, x, _, _, _, _, _, _, _, hz, _⟩ := h
    exact hz.elim
  | succ n ih =>
  have G_State_all_below : Kn P w K mg base (1 + n) _ _ _ := ih
  refine (show 1 + (n + 1) = (1 + n) + 1 by omega) ▸ T.d_State_all_below.kn sc_State_all_below (fun _ _ _ _ _ _ us hl => match us, hl with | [_, _], _ => rfl) (fun vs H Q E h => h.1) (fun cdv A outer s H vs Q E hr h => ?_)
  have hu := hu65 hr
  obtain ⟨_, a, dx, au, fs, un, U, rk, v, x, rfl, ha, hm, hf, dm, hun, hx, hH, hv, q⟩ := h
  refine ⟨_, (pss_cons (ps_set (i := 2) sc_State_all_below.nd rfl (Or.inl rfl) (pe_lst pa_nil))
    (pss_cons (ps_for PassesOwn.never rfl (pi_list (pe_ix (ix_any hu) (pe_fld (pv 0) rfl) (pv 1) (fun _ _ => rfl))) (pg_name (i := 3) sc_State_all_below.nd rfl (Or.inl rfl)) (pss_one (ps_expr (pe_bm PySem.F.plainAttrs_list PySem.F.slot_list_extend PySem.F.type_list_extend mt_extend (pv 2) (pa_cons (pe_lst (pa_cons (pv 3) (StX.pa_star (pe_mt (pv 0) T.cls_State T.me_State_all_below G_State_all_below (hr.mono (by first | decide | exact Nat.le_refl _ | exact Nat.le_add_right_of_le (by decide) | omega)) (pa_cons (pv 3) pa_nil)) pa_nil))) pa_nil)))))
    (pss_one (ps_ret (pv 2))))), ?_⟩
  obtain ⟨l, hl⟩ := hun.has x hx
  have hkl := kids_at hl
  refine ⟨szL, fun fl hfl => ?_⟩
  have s1 := same_new (o := .lst []) hfl
  have hle : ∀ i, (((l.take i).flatMap fun y => y :: below (kidsT un) n y)).length ≤ 70 := fun i => by
    have h1 : ((l.take i).flatMap fun y => y :: below (kidsT un) n y).Sublist (below (kidsT un) (n + 1) x) := by
      show List.Sublist _ ((kidsT un x).flatMap fun y => y :: below (kidsT un) n y)
      rw [hkl]
      conv => rhs; rw [← List.take_append_drop i l, List.flatMap_append]
      exact List.sublist_append_left _ _
    exact Nat.le_trans h1.length_le (Nat.le_trans (below_len hun.k (n + 1) x) hun.len)
  refine ⟨_, rfl, a, _, dx, _, _, rfl, s1 _ _ ha, T.cls_State, T.na_State_own_unders, hf, _, rfl, dgetR2 dm.r s1 (dp_same s1 hv) hl fun lv hlv => ?_⟩
  obtain ⟨b, us, rfl, hb, hus⟩ := hlv
  have hlen : us.length = l.length := by rw [dpa_len hus, List.length_map]
  refine ⟨b, rfl, ⟨us, s1.seq hb⟩, ?_⟩
  refine for_it walk_list (fun i σ H2 => Same H H2 ∧ (∃ o3, σ = [some (.ref a), some v, some (.ref fl), o3]) ∧ ∃ ws, H2 fl = some (.lst ws) ∧ DpAll K H2 ws (((l.take i).flatMap fun y => y :: below (kidsT un) n y).map sD)) ⟨s1, ⟨_, rfl⟩, [], upd_same, .nil⟩ (fun _ _ _ _ p => p.1.seq hb) (fun i vv σ H2 H3 hi pp yy => ?_) (fun σ H2 pp => ?_)
  · obtain ⟨s2, ⟨o3, rfl⟩, ws, hfl2, hws⟩ := pp
    obtain ⟨rfl, hxx⟩ := yy
    obtain ⟨y, hy, hyv⟩ := dpa_mem hus hxx
    have hyk : y ∈ kidsT un x := by rw [hkl]; exact List.mem_of_getElem? hy
    have hyv2 := dp_same s2 hyv
    refine ⟨_, rfl, .inl ⟨rfl, ws, SqL.of hfl2⟩, _, rfl, _, rfl, a, dx, _, rfl, s2 _ _ ha, hm, _, rfl, rfl, a, dx, au, fs, un, U, rk, vv, y, rfl, s2 _ _ ha, hm, hf, dm.same rls_stb s2, hun, hun.k.mem _ _ hyk, hH y hyk, hyv2, fun p2 us2 H4 s4 hp2 hp2' hus2 => ?_⟩
    have hl2 : us2.length ≤ 70 := by
      rw [dpa_len hus2, List.length_map]
      exact Nat.le_trans (below_len hun.k n y) hun.len
    have hlw : ws.length ≤ 70 := by
      rw [dpa_len hws, List.length_map]
      exact hle i
    refine ⟨p2, us2, rfl, .inr (SqL.of hp2'), ?_, fun p3 hp3 => ?_⟩
    · simp
      exact Nat.le_trans (show us2.length + 1 ≤ 71 by omega) (by decide)
    have s5 := s4.trans (same_new (o := .lst (vv :: (us2 ++ []))) hp3)
    refine ⟨fl, p3, ws, _, rfl, rfl, s5 _ _ hfl2, upd_same, ?_, same_mut (s2.trans s5) hfl, ⟨_, rfl⟩, _, upd_same, ?_⟩
    · simp
      exact Nat.le_trans (show ws.length + (us2.length + 1) ≤ 142 by omega) (by decide)
    · rw [List.take_add_one, hy, List.flatMap_append, List.map_append]
      have t6 := tup_lst (o := .lst (ws ++ ([vv] ++ (us2 ++ [])))) (s5 _ _ hfl2)
      refine dpa_append (dpa_tup ((Same.tup s5).trans t6) (immAll_sD _) hws) ?_
      have e : (((some y).toList.flatMap fun y => y :: below (kidsT un) n y).map sD) = sD y :: (below (kidsT un) n y).map sD := by simp
      rw [e, List.append_nil]
      rw [List.append_nil] at t6 s5
      refine dpa_tup t6 (by rw [← List.map_cons]; exact immAll_sD _) (.cons (dp_same s5 hyv2) (dpa_same (same_new hp3) hus2))
  · obtain ⟨s2, ⟨o3, rfl⟩, ws, hfl2, hws⟩ := pp
    rw [List.take_of_length_le (by rw [hlen]; exact Nat.le_refl _)] at hws
    refine ⟨_, rfl, q fl ws H2 s2 hfl hfl2 ?_⟩
    show DpAll K H2 ws (((kidsT un x).flatMap fun y => y :: below (kidsT un) n y).map sD)
    rw [hkl]
    exact hws
end Ss
/-! States: what a play leaves. -/
namespace Ss
open PySem PySem.Spec PyProof.Rows L2
structure SA where
  kd : Tb Kd
  ct : Tb PyData
  un : Tb (List St2)
abbrev SA.kids (S : SA) : St2 → List St2 := kidsT S.un
def SA.line (S : SA) : List St2 := ROOT :: below S.kids 64 ROOT
def SA.ends (S : SA) : List St2 := Ss.ends S.kids 64 ROOT
structure SInv (S : SA) : Prop where
  root : lk S.kd ROOT = some .block
  ok : ∀ s k, lk S.kd s = some k → okPl s
  ct : ∀ s k, lk S.kd s = some k → s ≠ ROOT → ∃ c, lk S.ct s = some c ∧ okC k c
  un : ∃ rk, UnOk S.un (S.kd.map (·.1)) rk
  ht : Ht S.kids 64 ROOT
  ndu : (S.un.map (·.1)).Nodup
/-- under what a thing stands -/
def Ply.upOf (y : Ply) (t : St2) : Option St2 := (lk y.pl t).bind fun q => q.up.map (·.1)
/-- what is placed -/
def Ply.placed (y : Ply) : List St2 := y.pl.filterMap fun x => x.2.up.map fun _ => x.1
/-- the rows of children that l makes -/
def Ply.un (y : Ply) (l : List St2) : Tb (List St2) := y.kd.map fun x => (x.1, l.filter fun t => decide (y.upOf t = some x.1))
theorem Ply.placed_of {y : Ply} (h : PInv y) {t : St2} : t ∈ y.placed ↔ ∃ u, y.upOf t = some u := by
  unfold Ply.placed Ply.upOf
  rw [List.mem_filterMap]
  constructor
  · rintro ⟨⟨s, q⟩, hm, e⟩
    cases hq : q.up with
    | none => simp [hq] at e
    | some x =>
      simp [hq] at e
      subst e
      rw [lk_of_mem h.ndp hm]
      exact ⟨x.1, by simp [hq]⟩
  · rintro ⟨u, e⟩
    cases hq : lk y.pl t with
    | none => rw [hq] at e; cases e
    | some q =>
      rw [hq] at e
      cases hu : q.up with
      | none => simp [hu] at e
      | some x => exact ⟨(t, q), lk_mem hq, by simp [hu]⟩
theorem Ply.placed_nd {y : Ply} (h : PInv y) : y.placed.Nodup := by
  have : ∀ m : Tb Pl, (m.map (·.1)).Nodup → (m.filterMap fun x => x.2.up.map fun _ => x.1).Nodup := by
    intro m
    induction m with
    | nil => intro _; exact List.nodup_nil
    | cons x r ih =>
      intro nd
      rw [List.map_cons, List.nodup_cons] at nd
      rw [List.filterMap_cons]
      cases e : x.2.up with
      | none => simpa [e] using ih nd.2
      | some z =>
        simp only [Option.map_some]
        refine List.nodup_cons.mpr ⟨fun hm => nd.1 ?_, ih nd.2⟩
        obtain ⟨w, hw, e2⟩ := List.mem_filterMap.mp hm
        cases e3 : w.2.up with
        | none => simp [e3] at e2
        | some z2 =>
          simp [e3] at e2
          rw [← e2]
          exact List.mem_map_of_mem (f := fun x : St2 × Pl => x.1) hw
  exact this _ h.ndp
theorem lk_map {α β : Type} {m : Tb α} {f : St2 → α → β} {k : St2} : lk (m.map fun x => (x.1, f x.1 x.2)) k = (lk m k).map (f k) := by
  induction m with
  | nil => rfl
  | cons x r ih =>
    rw [List.map_cons, lk_cons, lk_cons, ih]
    by_cases h : x.1 = k
    · rw [if_pos h, if_pos h, h]
      rfl
    · rw [if_neg h, if_neg h]
theorem Ply.un_lk {y : Ply} {l : List St2} {k : St2} : lk (y.un l) k = (lk y.kd k).map fun _ => l.filter fun t => decide (y.upOf t = some k) := lk_map (f := fun k _ => l.filter fun t => decide (y.upOf t = some k))
open Classical in
noncomputable def Ply.rk (y : Ply) (s : St2) : Nat := if h : ∃ n, Up y.pl s n then h.choose else 0
theorem Ply.rk_eq {y : Ply} {s : St2} {n : Nat} (h : Up y.pl s n) : y.rk s = n := by
  have e : ∃ n, Up y.pl s n := ⟨n, h⟩
  unfold Ply.rk
  rw [dif_pos e]
  exact e.choose_spec.one h
theorem Ply.kid {y : Ply} (h : PInv y) {l : List St2} {x t : St2} (ht : t ∈ kidsT (y.un l) x) : t ∈ l ∧ y.upOf t = some x ∧ ∃ k, lk y.kd x = some k := by
  unfold kidsT at ht
  rw [Ply.un_lk] at ht
  cases hk : lk y.kd x with
  | none => rw [hk] at ht; simp at ht
  | some k =>
    rw [hk] at ht
    simp at ht
    exact ⟨ht.1, ht.2, k, rfl⟩
theorem Ply.up_at {y : Ply} {t x : St2} (h : y.upOf t = some x) : ∃ q key, lk y.pl t = some q ∧ q.up = some (x, key) := by
  unfold Ply.upOf at h
  cases hq : lk y.pl t with
  | none => rw [hq] at h; cases h
  | some q =>
    rw [hq] at h
    cases hu : q.up with
    | none => simp [hu] at h
    | some z =>
      simp [hu] at h
      exact ⟨q, z.2, rfl, by rw [← h]; exact hu⟩
theorem Ply.up_rk {y : Ply} (h : PInv y) {t x : St2} (e : y.upOf t = some x) : ∃ n, Up y.pl x n ∧ Up y.pl t (n + 1) := by
  obtain ⟨q, key, hq, hu⟩ := Ply.up_at e
  obtain ⟨k, hk, _⟩ := Ply.holds_kd (h.up t q x key hq hu)
  obtain ⟨n, hn⟩ := h.rank x k hk
  exact ⟨n, hn, .step (h.plk t q hq).1 hq hu hn⟩
theorem Ply.un_ok {y : Ply} (h : PInv y) {l : List St2} (hl : l.Perm y.placed) {N : Nat} (hN : y.le N) (hN2 : N ≤ 60) : UnOk (y.un l) (y.kd.map (·.1)) y.rk := by
  refine ⟨⟨fun x => ?_, fun x x' t h1 h2 => ?_, fun x t ht => ?_, fun x t ht => ?_⟩, fun x hx => ?_, ?_⟩
  · unfold kidsT
    rw [Ply.un_lk]
    cases lk y.kd x with
    | none => exact List.nodup_nil
    | some k => exact List.Nodup.sublist List.filter_sublist (hl.nodup_iff.mpr (Ply.placed_nd h))
  · have e1 := (Ply.kid h h1).2.1
    have e2 := (Ply.kid h h2).2.1
    rw [e1] at e2
    exact Option.some.inj e2
  · obtain ⟨n, h1, h2⟩ := Ply.up_rk h (Ply.kid h ht).2.1
    rw [Ply.rk_eq h1, Ply.rk_eq h2]
  · obtain ⟨q, key, hq, _⟩ := Ply.up_at (Ply.kid h ht).2.1
    obtain ⟨_, k, hk⟩ := h.plk t q hq
    exact lk_some.mp (by rw [hk]; rfl)
  · have := lk_some.mpr hx
    obtain ⟨k, hk⟩ := Option.isSome_iff_exists.mp this
    rw [Ply.un_lk, hk]
    exact ⟨_, rfl⟩
  · rw [List.length_map]
    have := hN.1
    omega
theorem Ply.un_ht {y : Ply} (h : PInv y) {l : List St2} {N : Nat} (hN : y.le N) (hN2 : N ≤ 60) : Ht (kidsT (y.un l)) 64 ROOT := by
  have hp : y.pl.length ≤ 61 := by have := hN.2.2; omega
  have : ∀ n x r, Up y.pl x r → 64 ≤ r + n → Ht (kidsT (y.un l)) n x := by
    intro n
    induction n with
    | zero =>
      intro x r hu hr
      have := hu.le
      omega
    | succ n ih =>
      intro x r hu hr t ht
      obtain ⟨m, h1, h2⟩ := Ply.up_rk h (Ply.kid h ht).2.1
      rw [h1.one hu] at h2
      exact ih t (r + 1) h2 (by omega)
  exact this 64 ROOT 0 .root (by omega)
theorem Ply.sinv {y : Ply} (h : PInv y) {l : List St2} (hl : l.Perm y.placed) {N : Nat} (hN : y.le N) (hN2 : N ≤ 60) : SInv ⟨y.kd, y.ct, y.un l⟩ :=
  ⟨h.root, h.ok, h.ct, ⟨y.rk, Ply.un_ok h hl hN hN2⟩, Ply.un_ht h hN hN2, by
    show ((y.kd.map fun x => (x.1, l.filter fun t => decide (y.upOf t = some x.1))).map (·.1)).Nodup
    rw [List.map_map]
    exact h.ndk⟩
end Ss
/-! States: their objects while they are made. -/
namespace Ss
open PySem PySem.Spec PyProof.Rows L2 LamX
variable {P : Program} {w : World} {K : PySem.W.Frag}
abbrev RA : Hp → V → Addr → Prop := fun _ v c => v = .ref c
theorem ra_stb : StbT RA := fun _ _ _ _ _ r => r
/-- all but the tables of code objects as it was -/
theorem DM.extN {α : Type} {R : Hp → V → α → Prop} {H H' : Hp} {a : Addr} {m : Tb α} (h : DM P w K R H a m) (st : StbT R) (e : ExtN H H') : DM P w K R H' a m :=
  h.moveT st (fun K b xs q => extN_tup e q) fun u hu => by
    obtain ⟨es, h1, _⟩ := h
    rw [h1] at hu
    cases hu
    exact e _ _ h1 (fun _ z => nomatch z)
theorem extN_tle {H H' : Hp} (e : ExtN H H') : TupLe H H' := fun K b xs q => extN_tup e q
structure StM (P : Program) (w : World) (K : PySem.W.Frag) (H : Hp) (a dx ak ac ap au : Addr) (fs : List (Str × V)) (y : Ply) (ua : Tb Addr) : Prop where
  ob : H a = some (.ins (He.ga K "State") dx fs)
  kd : DM P w K (RK K) H ak y.kd
  ct : DM P w K (RC K) H ac y.ct
  pl : DM P w K (RP K) H ap y.pl
  ua : DM P w K RA H au ua
section
variable {H H' : Hp} {a dx ak ac ap au : Addr} {fs fs' : List (Str × V)} {y : Ply} {ua : Tb Addr}
theorem StM.same (h : StM P w K H a dx ak ac ap au fs y ua) (s : Same H H') : StM P w K H' a dx ak ac ap au fs y ua :=
  ⟨s _ _ h.ob, h.kd.same rd_stb.stb s, h.ct.same rd_stb.stb s, h.pl.same rd_stb.stb s, h.ua.same ra_stb.stb s⟩
theorem StM.extN (h : StM P w K H a dx ak ac ap au fs y ua) (e : ExtN H H') : StM P w K H' a dx ak ac ap au fs y ua :=
  ⟨e _ _ h.ob (fun _ z => nomatch z), h.kd.extN rd_stb e, h.ct.extN rd_stb e, h.pl.extN rd_stb e, h.ua.extN ra_stb e⟩
theorem StM.set (h : StM P w K H a dx ak ac ap au fs y ua) : StM P w K (upd H a (.ins (He.ga K "State") dx fs')) a dx ak ac ap au fs' y ua :=
  ⟨upd_same, h.kd.pst rd_stb.stb h.ob, h.ct.pst rd_stb.stb h.ob, h.pl.pst rd_stb.stb h.ob, h.ua.pst ra_stb.stb h.ob⟩
theorem DM.lst {α : Type} {R : Hp → V → α → Prop} {H : Hp} {a c : Addr} {xs : List V} {o : HO} {m : Tb α} (h : DM P w K R H a m) (st : StbT R) (hc : H c = some (.lst xs)) : DM P w K R (upd H c o) a m :=
  h.moveT st (tup_lst hc) fun u e => by
    obtain ⟨es, e2, _⟩ := h
    rw [upd_ne (fun z => by rw [z, hc] at e2; cases e2)]
    exact e
theorem StM.app (h : StM P w K H a dx ak ac ap au fs y ua) {c : Addr} {xs : List V} {o : HO} (hc : H c = some (.lst xs)) : StM P w K (upd H c o) a dx ak ac ap au fs y ua :=
  ⟨by rw [upd_ne (fun z => by rw [← z, h.ob] at hc; cases hc)]; exact h.ob, h.kd.lst rd_stb hc, h.ct.lst rd_stb hc, h.pl.lst rd_stb hc, h.ua.lst ra_stb hc⟩
end
/-- the rows' cells -/
def Cells (K : PySem.W.Frag) (H : Hp) (ua : Tb Addr) (g : St2 → List St2) (N : Nat) : Prop := ∀ u c, (u, c) ∈ ua → ∃ vs, H c = some (.lst vs) ∧ vs.length ≤ N ∧ DpAll K H vs ((g u).map sD)
theorem Cells.ext {H H' : Hp} {ua : Tb Addr} {g : St2 → List St2} {N : Nat} (h : Cells K H ua g N) (e : ExtN H H') : Cells K H' ua g N := fun u c hc => by
  obtain ⟨vs, h1, h2, h3⟩ := h u c hc
  exact ⟨vs, e _ _ h1 (fun _ z => nomatch z), h2, dpa_tup (extN_tle e) (immAll_sD _) h3⟩
theorem Cells.set {H : Hp} {ua : Tb Addr} {g : St2 → List St2} {N : Nat} {a C dx : Addr} {fs : List (Str × V)} {o : HO} (h : Cells K H ua g N) (ha : H a = some (.ins C dx fs)) : Cells K (upd H a o) ua g N := fun u c hc => by
  obtain ⟨vs, h1, h2, h3⟩ := h u c hc
  refine ⟨vs, ?_, h2, dpa_tup (tup_ins ha) (immAll_sD _) h3⟩
  rw [upd_ne (fun z => by rw [z, ha] at h1; cases h1)]
  exact h1
theorem nodup_snd {ua : Tb Addr} (nd : (ua.map (·.2)).Nodup) {u u' : St2} {c : Addr} (h : (u, c) ∈ ua) (h' : (u', c) ∈ ua) : u = u' := by
  induction ua with
  | nil => simp at h
  | cons x r ih =>
    rw [List.map_cons, List.nodup_cons] at nd
    rcases List.mem_cons.mp h with h | h
    · rcases List.mem_cons.mp h' with h' | h'
      · rw [← h] at h'
        exact (Prod.mk.inj h').1.symm
      · have e : c = x.2 := by rw [← h]
        exact absurd (show x.2 ∈ r.map (·.2) from List.mem_map.mpr ⟨(u', c), h', e⟩) nd.1
    · rcases List.mem_cons.mp h' with h' | h'
      · have e : c = x.2 := by rw [← h']
        exact absurd (show x.2 ∈ r.map (·.2) from List.mem_map.mpr ⟨(u, c), h, e⟩) nd.1
      · exact ih nd.2 h h'
/-- one more in a row -/
theorem Cells.app {H : Hp} {ua : Tb Addr} {g : St2 → List St2} {N : Nat} {u : St2} {c : Addr} {vs : List V} {v : V} {t : St2} (h : Cells K H ua g N) (nd : (ua.map (·.2)).Nodup) (ndk : (ua.map (·.1)).Nodup) (hu : (u, c) ∈ ua) (hc : H c = some (.lst vs)) (hv : Dp K H v (sD t)) :
    Cells K (upd H c (.lst (vs ++ [v]))) ua (fun x => g x ++ if x = u then [t] else []) (N + 1) := fun u2 c2 h2 => by
  have tl := tup_lst (o := .lst (vs ++ [v])) hc
  obtain ⟨ws, h3, h4, h5⟩ := h u2 c2 h2
  by_cases e : c2 = c
  · subst e
    obtain rfl := nodup_snd nd h2 hu
    rw [hc] at h3
    cases h3
    refine ⟨vs ++ [v], upd_same, by simp; exact h4, ?_⟩
    show DpAll K _ _ ((g u2 ++ if u2 = u2 then [t] else []).map sD)
    rw [if_pos rfl, List.map_append]
    exact dpa_append (dpa_tup tl (immAll_sD _) h5) (.cons (dp_tup tl (imm_sD _) hv) .nil)
  · refine ⟨ws, by rw [upd_ne e]; exact h3, Nat.le_succ_of_le h4, ?_⟩
    have hne : u2 ≠ u := fun z => by
      subst z
      have e1 := lk_of_mem ndk h2
      have e2 := lk_of_mem ndk hu
      rw [e1] at e2
      exact e (Option.some.inj e2)
    show DpAll K _ _ ((g u2 ++ if u2 = u then [t] else []).map sD)
    rw [if_neg hne, List.append_nil]
    exact dpa_tup tl (immAll_sD _) h5
theorem Tabs.mut {T : List (Addr × Str)} {H : Hp} {a : Addr} {u o : HO} (h : Tabs T H) (ha : H a = some u) (n1 : ∀ ps, u ≠ .tbl ps) (n2 : ∀ φ, u ≠ .ext φ) : Tabs T (upd H a o) := fun p hp => by
  obtain ⟨ps, h1, h2, h3⟩ := h p hp
  refine ⟨ps, ?_, h2, fun pos cv hc => ?_⟩
  · rw [upd_ne (fun z => by rw [z, ha] at h1; exact n1 ps (Option.some.inj h1))]
    exact h1
  · obtain ⟨c, e1, e2⟩ := h3 pos cv hc
    refine ⟨c, e1, ?_⟩
    rw [upd_ne (fun z => by rw [z, ha] at e2; exact n2 _ (Option.some.inj e2))]
    exact e2
theorem tabs_ins {T : List (Addr × Str)} {H : Hp} {a C dx : Addr} {fs : List (Str × V)} {o : HO} (h : Tabs T H) (ha : H a = some (.ins C dx fs)) : Tabs T (upd H a o) := Tabs.mut h ha (fun _ z => nomatch z) (fun _ z => nomatch z)
theorem tabs_lst {T : List (Addr × Str)} {H : Hp} {a : Addr} {xs : List V} {o : HO} (h : Tabs T H) (ha : H a = some (.lst xs)) : Tabs T (upd H a o) := Tabs.mut h ha (fun _ z => nomatch z) (fun _ z => nomatch z)
theorem tabs_same {T : List (Addr × Str)} {H H' : Hp} (h : Tabs T H) (s : Same H H') : Tabs T H' := h.ext s
/-- the rows as a dict of lists -/
theorem cells_rls {H : Hp} {au : Addr} {kd : Tb Kd} {ua : Tb Addr} {g : St2 → List St2} {N : Nat} (h : Cells K H ua g N) (hk : ua.map (·.1) = kd.map (·.1)) (d : DM P w K RA H au ua) : DM P w K (RLs K) H au (kd.map fun x => (x.1, g x.1)) := by
  obtain ⟨es, e, hE⟩ := d
  refine ⟨es, e, ?_⟩
  have hkg : kd.map (fun x => (x.1, g x.1)) = (ua.map (·.1)).map fun k => (k, g k) := by rw [hk, List.map_map]; rfl
  rw [hkg, List.map_map]
  have : ∀ (es : List Ent) (m : Tb Addr), DE K RA H es m → (∀ x ∈ m, x ∈ ua) → DE K (RLs K) H es (m.map ((fun k => (k, g k)) ∘ fun x => x.1)) := by
    intro es m hd
    unfold DE at hd ⊢
    induction hd with
    | nil => intro _; exact .nil
    | @cons e x es m r t ih =>
      intro hm
      rw [List.map_cons]
      refine .cons ⟨r.1, r.2.1, ?_⟩ (ih fun z hz => hm z (List.mem_cons_of_mem _ hz))
      obtain ⟨vs, h1, _, h3⟩ := h x.1 x.2 (hm x (List.mem_cons_self ..))
      exact ⟨x.2, vs, r.2.2, SqL.of h1, h3⟩
  exact this es ua hE fun _ h => h
def Ply.keyD (y : Ply) (k : St2) : PyData := match lk y.pl k with
  | some ⟨some (_, key), st⟩ => .tuple [.int key, sD st]
  | _ => .none
theorem dpa_zip {H : Hp} : ∀ {ks : List St2} {us : List V}, DpAll K H us (ks.map sD) → ∀ z ∈ us.zip ks, Dp K H z.1 (sD z.2)
  | [], us, h, z, hz => by simp at hz
  | k :: ks, _, .cons h t, z, hz => by
    rw [List.zip_cons_cons] at hz
    rcases List.mem_cons.mp hz with rfl | hz
    · exact h
    · exact dpa_zip t z hz
theorem dpa_of3 {H : Hp} : ∀ {es : List LE3}, (∀ e ∈ es, Dp K H e.1 (sD e.2.1)) → DpAll K H (es.map (·.1)) ((es.map (·.2.1)).map sD)
  | [], _ => .nil
  | e :: es, h => .cons (h e (List.mem_cons_self ..)) (dpa_of3 fun x hx => h x (List.mem_cons_of_mem _ hx))
/-- what is sorted -/
def Ply.rows (y : Ply) (us : List V) : List LE3 := (us.zip y.placed).map fun z => (z.1, z.2, y.keyD z.2)
theorem Ply.rows_fst {y : Ply} {us : List V} (h : us.length = y.placed.length) : (y.rows us).map (·.1) = us := by
  unfold Ply.rows
  rw [List.map_map]
  exact List.map_fst_zip (by omega)
theorem Ply.rows_snd {y : Ply} {us : List V} (h : us.length = y.placed.length) : (y.rows us).map (·.2.1) = y.placed := by
  unfold Ply.rows
  rw [List.map_map]
  exact List.map_snd_zip (by omega)
theorem Ply.rows_ok {y : Ply} {us : List V} {H : Hp} (hI : PInv y) (h : DpAll K H us (y.placed.map sD)) : ∀ e ∈ y.rows us, Dp K H e.1 (sD e.2.1) ∧ keyOk y.pl e := fun e he => by
  obtain ⟨z, hz, rfl⟩ := List.mem_map.mp he
  refine ⟨dpa_zip h z hz, ?_⟩
  obtain ⟨u, hu⟩ := (Ply.placed_of hI).mp (List.of_mem_zip hz).2
  obtain ⟨q, key, hq, hup⟩ := Ply.up_at hu
  obtain ⟨qu, qs⟩ := q
  obtain rfl : qu = some (u, key) := hup
  exact ⟨u, key, qs, hq, by show y.keyD z.2 = _; unfold Ply.keyD; rw [hq]⟩
end Ss
/-! Walks: a state. -/
namespace Ss
open PySem PySem.Spec PyProof.Rows L2
variable {P : Program} {w : World} {K : PySem.W.Frag} {mg : Str → Option Value} {base : Heap} {e0 : Addr}
abbrev defS : Str × Option Str := ("State", some "__init__")
theorem DfD.knC {x qual : Str} {st : Stmt} {d : Str × Option Str} {dv : V} {N ps : List Str} {k : Nat} {sp : Sp} (D : DfD K e0 x qual st (He.fAd K d) [dv]) (S : FnScope N ps (defScope st)) (n j : Nat) (hj : j ≤ 1) (hn : n + (1 - j) = ps.length)
    (h : ∀ (T : Addr) (kV doc pm : Value) (an : Option Addr) (cdv ct : Value) (us its : List Value), us.length = n → its.length = 1 →
      ∃ k, bindArgs (PySem.W.fnOf x qual (defArgs st) (defBody st) (defScope st) (.ref T) kV doc pm an cdv ct) ⟨us, []⟩ = seqItems? (.ref T) >>= k ∧ k (some its.toArray) = pure (ps.zip (us ++ its.drop j)))
    (len : ∀ vs H Q E, sp vs H Q E → vs.length = ps.length)
    (hbody : ∀ (cdv : Value) (A : Around) (outer : List Env) (s : Shared) (H : Hp) (vs : List V) (Q : VK) (E : XK), cdv = .ref (He.codeOf K d) → Room k (A.deeper (envOfC qual (defScope st) s.heap.objs.size (He.fAd K d) cdv)) → sp vs H Q E →
      ∃ t, PSs (cxOf CX0 P w K mg base N qual (defScope st) (He.fAd K d) cdv A outer s H E).nox (defBody st) t ∧ t { nx := fun _ H' => Q .non H', rt := Q } (start N vs) H) :
    KnD P w K mg base (k + 1) (He.fAd K d) ps ([dv].drop j) sp := by
  obtain ⟨fd, F⟩ := D
  obtain ⟨ds, hv, hb⟩ := F.binds1 n j (by simp) hn h
  obtain ⟨oc, od, dV, kV, doc, pm, an, cdv, ct, osl, rfl, lk, hcd, _, _⟩ := F.ex
  obtain ⟨c, rfl⟩ := He.codeIn_ref hcd
  have hc := He.codeOf_eq lk rfl
  refine ⟨⟨_, ds, fn_of lk hcd S len fun A outer s H vs Q E hr hsp => ?_, hv, hb⟩, F.kp⟩
  obtain ⟨t, h, q⟩ := hbody (.ref c) A outer s H vs Q E (by rw [hc]) hr hsp
  exact ⟨t, h.nox, q⟩
example : He.ma K (He.ga K "State") "__init__" = He.fAd K defS := rfl
abbrev lamQ : Str := (("State.__init__" : Str) ++ ".<locals>.") ++ "<lambda>"
abbrev tabP (K : PySem.W.Frag) : Addr := (He.cT K defS).2
abbrev T0 (K : PySem.W.Frag) : List (Addr × Str) := [(tabP K, lamQ)]
abbrev sf1 (ak : Addr) : List (Str × V) := [("own_kinds", .ref ak)]
abbrev sf2 (ak ac : Addr) : List (Str × V) := sf1 ak ++ [(("own_contents" : Str), V.ref ac)]
abbrev sf3 (ak ac ap : Addr) : List (Str × V) := sf2 ak ac ++ [(("own_places" : Str), V.ref ap)]
abbrev sf4 (ak ac ap au : Addr) : List (Str × V) := sf3 ak ac ap ++ [(("own_unders" : Str), V.ref au)]
abbrev sf5 (ak ac ap au al : Addr) : List (Str × V) := sf4 ak ac ap au ++ [(("own_line" : Str), V.ref al)]
abbrev sf6 (ak ac ap au al ai : Addr) : List (Str × V) := sf5 ak ac ap au al ++ [(("own_in" : Str), V.ref ai)]
/-- a state -/
structure StC (P : Program) (w : World) (K : PySem.W.Frag) (H : Hp) (a dx ak ac ap au al ai : Addr) (S : SA) : Prop where
  ob : H a = some (.ins (He.ga K "State") dx (sf6 ak ac ap au al ai))
  kd : DM P w K (RK K) H ak S.kd
  ct : DM P w K (RC K) H ac S.ct
  un : DM P w K (RLs K) H au S.un
  line : ∃ vs, SqL K H al vs ∧ DpAll K H vs (S.line.map sD)
  inn : DM P w K RYes H ai (S.line.map fun k => (k, ()))
def StAt (P : Program) (w : World) (K : PySem.W.Frag) (H : Hp) (a : Addr) (S : SA) : Prop := ∃ dx ak ac ap au al ai, StC P w K H a dx ak ac ap au al ai S
theorem KnD.kn {k : Nat} {f : Addr} {ps : List Str} {sp : Sp} (G : KnD P w K mg base k f ps [] sp) : Kn P w K mg base k f ps sp := by
  obtain ⟨⟨fd, ds, F, v, b⟩, kp⟩ := G
  cases v
  exact ⟨⟨fd, F, b⟩, kp⟩
/-- but at S and the tables all stands as it was -/
def FrN (S : List Addr) (H H' : Hp) : Prop := ∀ a u, a ∉ S → (∀ ps, u ≠ .tbl ps) → H a = some u → H' a = some u
theorem Fr.n {S : List Addr} {H H' : Hp} (h : Fr S H H') : FrN S H H' := fun a u n _ e => h a u n e
theorem FrN.ext {S : List Addr} {H H1 H2 : Hp} (h : FrN S H H1) (e : LamX.ExtN H1 H2) : FrN S H H2 := fun a u n t q => e a u (h a u n t q) t
theorem FrN.same {S : List Addr} {H H1 H2 : Hp} (h : FrN S H H1) (s : Same H1 H2) : FrN S H H2 := fun a u n t q => s a u (h a u n t q)
theorem FrN.at {S : List Addr} {H H1 : Hp} {a : Addr} {o : HO} (h : FrN S H H1) (m : a ∈ S) : FrN S H (upd H1 a o) := fun b u n t e => by
  rw [upd_ne (fun z => n (by rw [z]; exact m))]
  exact h b u n t e
theorem FrN.young {S : List Addr} {H H1 : Hp} {a : Addr} {o : HO} (h : FrN S H H1) (n : H a = none) : FrN S H (upd H1 a o) := fun b u m t e => by
  rw [upd_ne (ne_of_none e n)]
  exact h b u m t e
def sp_State_init (P : Program) (w : World) (K : PySem.W.Frag) (e0 : Addr) : Sp := fun vs H Q _ => vs.length = 3 ∧ ∃ (a b dx : Addr) (ds : List Dd), vs = [.ref a, .ref b, .ref e0] ∧ H a = some (.ins (He.ga K "State") dx []) ∧ BookAt P w K H b ds ∧ LamX.Tabs (T0 K) H ∧
  ∀ (S : SA) (H' : Hp), SInv S → S.kd.length ≤ 61 → FrN [a] H H' → LamX.Tabs (T0 K) H' → StAt P w K H' a S → Q .non H'
theorem ok_State_init (T : Tx w K mg e0) (TB : LamX.TabB base mg (He.cT K defS).1 (He.cT K defS).2) : KnD P w K mg base 90 (He.fAd K defS) ["self", "book", "without"] [.ref e0] (sp_State_init P w K e0) := by
  have G_check_book : Kn P w K mg base 1 _ _ _ := ok_check_book T
  have G_play_through : Kn P w K mg base 6 (He.ga K "play_through") ["book", "without"] (sp_play_through P w K e0) := (ok_play_through T).kn
  have G_State_all_below : Kn P w K mg base 65 _ _ _ := ok_all_below T 64
  refine DfD.knC (d := defS) T.d_State_init sc_State_init 2 0 (by decide) (by rfl) (fun _ _ _ _ _ _ _ us its hl hi => match us, its, hl, hi with | [_, _], [_], _, _ => ⟨_, rfl, rfl⟩) (fun vs H Q E h => h.1) (fun cdv A outer s H vs Q E hcd hr h => ?_)
  subst hcd
  have hu := hu65 hr
  have hu1 := hu_of hr
  obtain ⟨_, a, b, dx, ds, rfl, ha, hB, hT, q⟩ := h
  obtain ⟨bdx, ba, hb, _, bk⟩ := id hB
  refine ⟨_, (pss_cons (ps_expr (pe_fn G_check_book (hr.mono (by first | decide | exact Nat.le_refl _ | exact Nat.le_add_right_of_le (by decide) | omega)) T.g_check_book (pa_cons (pv 1) pa_nil)))
    (pss_cons (ps_set (i := 3) sc_State_init.nd rfl (Or.inl rfl) (pe_fn G_play_through (hr.mono (by first | decide | exact Nat.le_refl _ | exact Nat.le_add_right_of_le (by decide) | omega)) T.g_play_through (pa_cons (pv 1) (pa_cons (pv 2) pa_nil))))
    (pss_cons (ps_fld (pv 0) (pe_fld (pv 3) rfl) rfl)
    (pss_cons (ps_fld (pv 0) (pe_fld (pv 3) rfl) rfl)
    (pss_cons (ps_fld (pv 0) (pe_fld (pv 3) rfl) rfl)
    (pss_cons (ps_fld (pv 0) (pe_lock (pe_dk (own := [("thing", 4)]) (dkT_ok hu1) (by rfl) sc_State_init.nd (pi_kd (pe_fld (pv 0) rfl)) (blkOk_by (N := n_State_init) (sc := defScope s_State_init) (by decide +kernel)) (fun _ _ _ _ _ => (pg_name (i := 4) sc_State_init.nd rfl (Or.inl rfl))) (fun _ _ _ _ _ => pts_nil) (fun _ _ _ _ _ => (pv 4)) (fun _ _ _ _ _ => (pe_lst pa_nil)))) rfl)
    (pss_cons (ps_lock (ps_setLc (i := 5) (own := [("thing", 4), ("place", 6)]) (by rfl) sc_State_init.nd rfl rfl (sw_true rfl rfl rfl (by decide +kernel)) (pi_id (pe_fld (pv 0) rfl)) (blkOk_by (N := n_State_init) (sc := defScope s_State_init) (by decide +kernel)) (fun _ _ _ _ _ => (show PG _ _ (gTup K 2 _) from pg_tup (by rfl) (pgs_cons (pg_name (i := 4) sc_State_init.nd rfl (Or.inl rfl)) (pgs_cons (pg_name (i := 6) sc_State_init.nd rfl (Or.inl rfl)) pgs_nil)))) (fun _ _ _ _ _ => pts_one (pt_cmpR op_notN (pe_ix (show IxR _ (rIxA P w K) from (ix_any hu)) (pv 6) pe_int (fun _ _ => rfl)) pe_non (nomark _))) (fun _ _ _ _ _ => (pv 4))))
    (pss_cons (ps_for PassesOwn.never rfl (pi_list (pe_sortlamB (c := He.codeOf K defS) (P0 := tabP K) (T := T0 K) (i := 0) rfl (pa_cons (pv 5) pa_nil) (by rfl) T.b_sorted TB rfl (show (tabP K, lamQ) ∈ T0 K from List.mem_cons_self ..) (fun p hp _ => by rw [List.mem_singleton.mp hp]; rfl) (hr.mono (by first | decide | omega)) rfl rfl rfl (by rfl) rfl rfl (by rfl) rfl rfl (fun _ _ _ _ _ _ => rfl))) (pg_name (i := 4) sc_State_init.nd rfl (Or.inl rfl)) (pss_one (ps_expr (pe_bm PySem.F.plainAttrs_list PySem.F.slot_list_append PySem.F.type_list_append mt_append (pe_ix (ix_any hu) (pe_fld (pv 0) rfl) (pe_ix (ix_any hu) (pe_ix (ix_any hu) (pe_fld (pv 0) rfl) (pv 4) (fun _ _ => rfl)) pe_int (fun _ _ => rfl)) (fun _ _ => rfl)) (pa_cons (pv 4) pa_nil)))))
    (pss_cons (ps_fld (pv 0) (pe_lst (pa_cons (pe_globR rfl T.g_ROOT) (StX.pa_star (pe_mt (pv 0) T.cls_State T.me_State_all_below G_State_all_below (hr.mono (by first | decide | exact Nat.le_refl _ | exact Nat.le_add_right_of_le (by decide) | omega)) (pa_cons (pe_globR rfl T.g_ROOT) pa_nil)) pa_nil))) rfl)
    (pss_one (ps_fld (pv 0) (pe_dk (own := [("thing", 4)]) (dkT_ok hu1) (by rfl) sc_State_init.nd (pi_list (pe_fld (pv 0) rfl)) (blkOk_by (N := n_State_init) (sc := defScope s_State_init) (by decide +kernel)) (fun _ _ _ _ _ => (pg_name (i := 4) sc_State_init.nd rfl (Or.inl rfl))) (fun _ _ _ _ _ => pts_nil) (fun _ _ _ _ _ => (pv 4)) (fun _ _ _ _ _ => pe_bl)) rfl))))))))))), ?_⟩
  refine ⟨_, rfl, rfl, b, bdx, _, rfl, hb, ?_⟩
  refine ⟨_, rfl, _, rfl, rfl, b, ds, rfl, hB, fun p dxp ak ac ap ar y H1 s1 hI hle hC => ?_⟩
  have ha1 := s1 _ _ ha
  have hpa : p ≠ a := fun z => by
    have := hC.ob
    rw [z, ha1] at this
    exact absurd (HO.ins.inj (Option.some.inj this)).2.2 (by simp)
  refine ⟨_, rfl, p, _, dxp, _, _, rfl, hC.ob, T.cls_Playing, T.na_Playing_own_kinds, rfl, _, rfl, a, _, dx, _, rfl, ha1, T.cls_State, T.na_State_own_kinds, by simp, ?_⟩
  have hp2 : ∀ o, (upd H1 a o) p = some (plO K dxp ak ac ap ar) := fun o => by rw [upd_ne hpa]; exact hC.ob
  refine ⟨_, rfl, p, _, dxp, _, _, rfl, hp2 _, T.cls_Playing, T.na_Playing_own_contents, rfl, _, rfl, a, _, dx, _, rfl, upd_same, T.cls_State, T.na_State_own_contents, by simp [putF], ?_⟩
  rw [upd_upd]
  have e2 : putF "own_contents" (.ref ac) (putF "own_kinds" (.ref ak) []) = sf2 ak ac := putF_new (fs := sf1 ak) (ks := ["own_kinds"]) rfl (by decide +kernel)
  rw [e2]
  refine ⟨_, rfl, p, _, dxp, _, _, rfl, hp2 _, T.cls_Playing, T.na_Playing_own_places, rfl, _, rfl, a, _, dx, _, rfl, upd_same, T.cls_State, T.na_State_own_places, by simp, ?_⟩
  rw [upd_upd]
  have e3 : putF "own_places" (.ref ap) (sf2 ak ac) = sf3 ak ac ap := putF_new (fs := sf2 ak ac) (ks := ["own_kinds", "own_contents"]) rfl (by decide +kernel)
  rw [e3]
  have hkd4 := hC.kd.pst rd_stb.stb ha1 (o := .ins (He.ga K "State") dx (sf3 ak ac ap))
  have hct4 := hC.ct.pst rd_stb.stb ha1 (o := .ins (He.ga K "State") dx (sf3 ak ac ap))
  have hpl4 := hC.pl.pst rd_stb.stb ha1 (o := .ins (He.ga K "State") dx (sf3 ak ac ap))
  have ha4 : (upd H1 a (.ins (He.ga K "State") dx (sf3 ak ac ap))) a = some (.ins (He.ga K "State") dx (sf3 ak ac ap)) := upd_same
  have f4 : Fr [a] H (upd H1 a (.ins (He.ga K "State") dx (sf3 ak ac ap))) := (Same.fr s1).at (by simp)
  have T4 := tabs_ins (o := .ins (He.ga K "State") dx (sf3 ak ac ap)) (tabs_same hT s1) ha1
  have hN60 : ds.length ≤ 60 := bk.len
  show tSeq _ _ _ _ (upd H1 a (.ins (He.ga K "State") dx (sf3 ak ac ap)))
  revert hkd4 hct4 hpl4 ha4 f4 T4
  generalize upd H1 a (.ins (He.ga K "State") dx (sf3 ak ac ap)) = H4
  intro hkd4 hct4 hpl4 ha4 f4 T4
  clear hp2 hC
  -- own_unders
  obtain ⟨ek, hek, hEk⟩ := id hkd4
  have hek60 : ek.length ≤ 61 := by rw [hEk.len]; have := hle.1; omega
  refine ⟨ak, _, hek, trivial, fun od => ?_⟩
  have hLL : LTLe H4 (upd H4 ak (.frz od (DO P w ak ek))) := frz_tup hek
  have hEL : DE K (RK K) (upd H4 ak (.frz od (DO P w ak ek))) ek y.kd := hEk.mono hLL.1 fun v x r => rd_stb _ _ v x hLL.1 r
  have hak : a ≠ ak := fun z => by rw [z, hek] at ha4; cases ha4
  refine ⟨_, rfl, a, _, dx, _, _, rfl, by rw [upd_ne hak]; exact ha4, T.cls_State, T.na_State_own_kinds, rfl, ak, od, ek, rfl, upd_same, fun D hD => ?_⟩
  have hDk : D ≠ ak := fun z => by rw [z, upd_same] at hD; cases hD
  have hD4 : H4 D = none := by rwa [upd_ne hDk] at hD
  refine dk_it (K := K) walk_kd (fun i H2 => Same (upd H4 ak (.frz od (DO P w ak ek))) H2 ∧ ∃ ua : Tb Addr, ua.map (·.1) = (y.kd.take i).map (·.1) ∧ DM P w K RA H2 D ua ∧ (ua.map (·.2)).Nodup ∧ ∀ c ∈ ua.map (·.2), H4 c = none ∧ H2 c = some (.lst [])) ⟨same_new hD, [], rfl, ⟨[], upd_same, .nil⟩, List.nodup_nil, by simp⟩ (fun i H2 _ p => p.1 _ _ upd_same) (fun i x H2 H3 hi p yy => ?_) (fun H2 p => ?_)
  · obtain ⟨s2, ua, hua, dm2, ndu, hcs⟩ := p
    obtain ⟨rfl, e, he, rfl⟩ := yy
    obtain ⟨x, hx, e1, e2', _⟩ := hEL.at he
    refine ⟨rfl, ?_⟩
    refine iteT (B := Same (upd H4 ak (.frz od (DO P w ak ek))) H3 ∧ ∃ ua : Tb Addr, ua.map (·.1) = (y.kd.take (i + 1)).map (·.1) ∧ DM P w K RA H3 D ua ∧ (ua.map (·.2)).Nodup ∧ ∀ c ∈ ua.map (·.2), H4 c = none ∧ H3 c = some (.lst [])) ?_
    refine ⟨_, rfl, szL, fun l hl => ?_⟩
    have s3 := same_new (o := .lst []) hl
    have hk : Dp K H3 (.ref e.2.1) (sD x.1) := dp_same s2 (dp_stamp (show SqT K _ e.2.1 (sval x.1) by rw [← e1]; exact e2'))
    have hual : ua.length ≤ 61 := by
      have h1 : ua.length = (y.kd.take i).length := by rw [← List.length_map (f := fun x : St2 × Addr => x.1), hua, List.length_map]
      rw [h1, List.length_take]
      have := hle.1
      omega
    have hnew : lk ua x.1 = none := by
      rw [lk_none, hua]
      have := take_keys hI.ndk hx
      rw [lk_none, List.map_map] at this
      exact this
    have lD : H3 D ≠ none := by obtain ⟨_, e, _⟩ := dm2; rw [e]; simp
    refine dk_put (x := l) (dm2.same ra_stb.stb s3) ra_stb.stb (dp_same s3 hk) rfl (Nat.lt_of_le_of_lt hual (by decide)) fun es2 dm3 l3 => ⟨same_mut (s2.trans s3) hD, _, ?_, dm3, ?_, ?_⟩
    · rw [putM_new hnew, List.map_append, hua, List.take_add_one, hx, List.map_append]
      rfl
    · rw [putM_new hnew, List.map_append, List.nodup_append]
      refine ⟨ndu, by simp, fun c hc c2 hc2 z => ?_⟩
      simp at hc2
      subst hc2 z
      have := (hcs c hc).2
      rw [hl] at this
      cases this
    · intro c hc
      rw [putM_new hnew, List.map_append] at hc
      have hcD : ∀ {o : HO}, (upd H3 l (.lst [])) c = some (.lst []) → (upd (upd H3 l (.lst [])) D o) c = some (.lst []) := fun {o} h => by
        rw [upd_ne (fun z => by
          obtain ⟨_, e, _⟩ := dm2
          have := s3 _ _ e
          rw [z, this] at h
          cases h)]
        exact h
      rcases List.mem_append.mp hc with hc | hc
      · exact ⟨(hcs c hc).1, hcD (s3 _ _ (hcs c hc).2)⟩
      · simp at hc
        subst hc
        refine ⟨?_, hcD upd_same⟩
        have h1 := same_none s2 hl
        rwa [upd_ne (fun z => by rw [z, upd_same] at h1; cases h1)] at h1
  · obtain ⟨s2, ua, hua, dm2, ndu, hcs⟩ := p
    refine ⟨s2 _ _ upd_same, ?_⟩
    have s5 : Same H4 (upd H2 ak (DO P w ak ek)) := same_unlock hek s2
    have l5 : LTLe H2 (upd H2 ak (DO P w ak ek)) := lt_upd (nl_fdo (s2 _ _ upd_same))
    have hua : ua.map (·.1) = y.kd.map (·.1) := by rw [hua, List.take_of_length_le (by rw [hEk.len]; exact Nat.le_refl _)]
    have dm5 : DM P w K RA (upd H2 ak (DO P w ak ek)) D ua := dm2.moveL ra_stb.stb l5 fun u e => by rw [upd_ne hDk]; exact e
    have cell5 : Cells K (upd H2 ak (DO P w ak ek)) ua (fun _ => []) 0 := fun u c hc => by
      have h1 := hcs c (List.mem_map_of_mem (f := fun x : St2 × Addr => x.2) hc)
      refine ⟨[], ?_, Nat.le_refl _, .nil⟩
      rw [upd_ne (fun z => by rw [z, s2 _ _ upd_same] at h1; cases h1.2)]
      exact h1.2
    have young : ∀ c ∈ ua.map (·.2), H c = none := fun c hc => fr_none f4 (by
      have := hcs c hc
      intro z
      simp at z
      rw [z, ha4] at this
      cases this.1) (hcs c hc).1
    clear hcs s2
    have ha5 := s5 _ _ ha4
    refine ⟨_, rfl, a, _, dx, _, rfl, ha5, T.cls_State, T.na_State_own_unders, by simp, ?_⟩
    have e4 : putF "own_unders" (.ref D) (sf3 ak ac ap) = sf4 ak ac ap D := putF_new (fs := sf3 ak ac ap) (ks := ["own_kinds", "own_contents", "own_places"]) rfl (by decide +kernel)
    rw [e4]
    have M5 : StM P w K (upd H2 ak (DO P w ak ek)) a dx ak ac ap D (sf3 ak ac ap) y ua := ⟨ha5, hkd4.same rd_stb.stb s5, hct4.same rd_stb.stb s5, hpl4.same rd_stb.stb s5, dm5⟩
    have M6 := M5.set (fs' := sf4 ak ac ap D)
    have cell6 := cell5.set (o := .ins (He.ga K "State") dx (sf4 ak ac ap D)) ha5
    have f6 : Fr [a] H _ := (f4.trans (Same.fr s5)).at (a := a) (o := .ins (He.ga K "State") dx (sf4 ak ac ap D)) (by simp)
    have T6 := tabs_ins (o := .ins (He.ga K "State") dx (sf4 ak ac ap D)) (tabs_same T4 s5) ha5
    show tSeq _ _ _ _ (upd (upd H2 ak (DO P w ak ek)) a (.ins (He.ga K "State") dx (sf4 ak ac ap D)))
    revert M6 cell6 f6 T6
    generalize upd (upd H2 ak (DO P w ak ek)) a (.ins (He.ga K "State") dx (sf4 ak ac ap D)) = H6
    intro M6 cell6 f6 T6
    clear M5 cell5 dm5 l5 dm2 hEL hLL hEk s5 hkd4 hct4 hpl4 ha5
    -- placed
    obtain ⟨ep, hep, hEp⟩ := M6.pl
    refine ⟨ap, _, hep, trivial, fun od2 => ?_⟩
    have hLL : LTLe H6 (upd H6 ap (.frz od2 (DO P w ap ep))) := frz_tup hep
    have hEL : DE K (RP K) (upd H6 ap (.frz od2 (DO P w ap ep))) ep y.pl := hEp.mono hLL.1 fun v x r => rd_stb _ _ v x hLL.1 r
    have hap : a ≠ ap := fun z => by have := M6.ob; rw [z, hep] at this; cases this
    refine ⟨_, rfl, a, _, dx, _, _, rfl, by rw [upd_ne hap]; exact M6.ob, T.cls_State, T.na_State_own_places, rfl, ap, od2, ep, rfl, upd_same, fun D2 hD2 => ?_⟩
    have hplen : y.pl.length ≤ 61 := by have := hle.2.2; omega
    refine lc_dp (K := K) walk_id hD2 (fun i => (y.pl[i]?).bind fun x => x.2.up.map fun _ => sD x.1) (by rw [hEp.len]; exact Nat.lt_of_le_of_lt hplen (by decide)) ?_ (fun H s => s _ _ upd_same) (fun i x H7 H8 Q2 R hi s7 yy q1 q2 => ?_) (fun H7 us s7 hus hdp => ?_)
    · intro i d _ e
      cases hx : y.pl[i]? with
      | none => rw [hx] at e; cases e
      | some x =>
        rw [hx] at e
        cases hu2 : x.2.up with
        | none => simp [hu2] at e
        | some z =>
          simp [hu2] at e
          subst e
          exact imm_sD _
    · obtain ⟨T1, e, he, rfl, hT1, rfl⟩ := yy
      obtain ⟨x, hx, e1, e2', e3'⟩ := hEL.at he
      rw [hx] at q1 q2
      have s8 := s7.trans (same_new (o := .tup [.ref e.2.1, e.2.2]) hT1)
      have hk : Dp K _ (.ref e.2.1) (sD x.1) := dp_same s8 (dp_stamp (show SqT K _ e.2.1 (sval x.1) by rw [← e1]; exact e2'))
      have hv := dp_same s8 e3'.1
      refine ⟨T1, _, rfl, SqT.of upd_same, rfl, _, _, rfl, _, _, rfl, rfl, rfl, ?_⟩
      obtain ⟨xk, ⟨xu, xs⟩⟩ := x
      cases xu with
      | none =>
        refine ⟨_, rfl, ixD (d := .none) 0 hv fun v0 h0 => ?_⟩
        obtain rfl := dp_non h0
        exact ⟨rfl, _, rfl, iteF (q2 _ rfl (same_new hT1))⟩
      | some z =>
        refine ⟨_, rfl, ixD (d := sD z.1) 0 hv fun v0 h0 => ?_⟩
        obtain ⟨a0, rfl, _⟩ := stamp_dp h0
        exact ⟨rfl, _, rfl, iteT ⟨_, rfl, q1 _ _ _ rfl hk (same_new hT1)⟩⟩
    · refine ⟨s7 _ _ upd_same, ?_⟩
      have hDa : D2 ≠ ap := fun z => by rw [z, upd_same] at hD2; cases hD2
      have s7u : Same H6 (upd H7 ap (DO P w ap ep)) := same_unlock hep s7
      have l7 : LTLe H7 (upd H7 ap (DO P w ap ep)) := lt_upd (nl_fdo (s7 _ _ upd_same))
      have hdp : DpAll K (upd H7 ap (DO P w ap ep)) us (y.placed.map sD) := by
        refine dpa_tup l7.1 (immAll_sD _) ?_
        rw [hEp.len, range_bind] at hdp
        unfold Ply.placed
        rw [List.map_filterMap]
        have e : (fun x : St2 × Pl => Option.map sD (x.2.up.map fun _ => x.1)) = fun x => x.2.up.map fun _ => sD x.1 := by
          funext x
          cases x.2.up <;> rfl
        rw [e]
        exact hdp
      have hus : (upd H7 ap (DO P w ap ep)) D2 = some (.lst us) := by rw [upd_ne hDa]; exact hus
      have M7 := M6.same s7u
      have cell7 := cell6.ext (LamX.ExtN.of s7u)
      have f7 := f6.trans (Same.fr s7u)
      have T7 := tabs_same T6 s7u
      show tSeq _ _ _ _ (upd H7 ap (DO P w ap ep))
      revert hdp hus M7 cell7 f7 T7
      generalize upd H7 ap (DO P w ap ep) = H7
      intro hdp hus M7 cell7 f7 T7
      clear s7 s7u l7 hEL hLL hD2 hDa M6 cell6 f6 T6
      have hlu : us.length = y.placed.length := by rw [dpa_len hdp, List.length_map]
      refine ⟨_, rfl, T7, D2, y.rows us, a, _, dx, ap, _, y.pl, rfl, by rw [Ply.rows_fst hlu]; exact SqL.of hus, Ply.rows_ok hI hdp, rfl, M7.ob, T.cls_State, T.na_State_own_places, rfl, M7.pl, fun es' H8 ql hperm eN T8 hql => ⟨ql, rfl, ⟨_, SqL.of upd_same⟩, ?_⟩⟩
      have hcq : ∀ c ∈ ua.map (·.2), c ≠ ql := fun c hc z => by
        obtain ⟨x, hx, rfl⟩ := List.mem_map.mp hc
        obtain ⟨vs, h1, _⟩ := cell7 x.1 x.2 hx
        have := eN _ _ h1 (fun _ z => nomatch z)
        rw [z, hql] at this
        cases this
      have hlp : (es'.map (·.2.1)).Perm y.placed := by
        rw [← Ply.rows_snd hlu]
        exact hperm.map _
      have hes : DpAll K H8 (es'.map (·.1)) ((es'.map (·.2.1)).map sD) := dpa_of3 fun e he => dp_tup (extN_tle eN) (imm_sD _) ((Ply.rows_ok hI hdp) e (hperm.mem_iff.mp he)).1
      have s9 := same_new (o := .lst (es'.map (·.1))) hql
      have M9 := (M7.extN eN).same s9
      have cell9 := (cell7.ext eN).ext (LamX.ExtN.of s9)
      have f9 := ((Fr.n f7).ext eN).same s9
      have T9 := tabs_same T8 s9
      have hes9 := dpa_same s9 hes
      have hq9 : (upd H8 ql (.lst (es'.map (·.1)))) ql = some (.lst (es'.map (·.1))) := upd_same
      revert M9 cell9 f9 T9 hes9 hq9
      generalize upd H8 ql (.lst (es'.map (·.1))) = H9
      intro M9 cell9 f9 T9 hes9 hq9
      clear s9 hes
      generalize es'.map (·.1) = vs' at hes9 hq9
      generalize hl' : es'.map (·.2.1) = l' at hes9 hlp
      have hvl : vs'.length = l'.length := by rw [dpa_len hes9, List.length_map]
      have hl61 : l'.length ≤ 61 := by
        rw [hlp.length_eq]
        exact Nat.le_trans (List.length_filterMap_le _ _) hplen
      have ndk : (ua.map (·.1)).Nodup := by rw [hua]; exact hI.ndk
      refine for_it walk_list (fun i σ Hi => (∃ o4 o6, σ = [some (.ref a), some (.ref b), some (.ref e0), some (.ref p), o4, some (.ref D2), o6]) ∧ Hi ql = some (.lst vs') ∧ StM P w K Hi a dx ak ac ap D (sf4 ak ac ap D) y ua ∧ Cells K Hi ua (fun u => (l'.take i).filter fun t => decide (y.upOf t = some u)) i ∧ FrN [a] H Hi ∧ LamX.Tabs (T0 K) Hi ∧ TupLe H9 Hi)
        ⟨⟨_, _, rfl⟩, hq9, M9, cell9, f9, T9, TupLe.refl _⟩ (fun _ _ _ _ p => SqL.of p.2.1) (fun i v σ Hi Hi' hi pp yy => ?_) (fun σ Hi pp => ?_)
      · obtain ⟨⟨o4, o6, rfl⟩, hqi, Mi, celli, fi, Ti, ti⟩ := pp
        obtain ⟨rfl, hx⟩ := yy
        obtain ⟨k, hk, hv⟩ := dpa_mem hes9 hx
        have hv := dp_tup ti (imm_sD k) hv
        obtain ⟨u, hup⟩ := (Ply.placed_of hI).mp (hlp.mem_iff.mp (List.mem_of_getElem? hk))
        obtain ⟨⟨qu, qs⟩, key, hqk, hqu⟩ := Ply.up_at hup
        obtain rfl : qu = some (u, key) := hqu
        obtain ⟨ku, hku, _⟩ := Ply.holds_kd (hI.up k _ u key hqk rfl)
        obtain ⟨c, hc⟩ : ∃ c, lk ua u = some c := Option.isSome_iff_exists.mp (lk_some.mpr (by rw [hua]; exact lk_some.mp (by rw [hku]; rfl)))
        obtain ⟨ws, hw1, hw2, hw3⟩ := celli u c (lk_mem hc)
        have hcm : c ∈ ua.map (·.2) := List.mem_map_of_mem (f := fun x : St2 × Addr => x.2) (lk_mem hc)
        refine ⟨_, rfl, a, _, dx, _, _, rfl, Mi.ob, T.cls_State, T.na_State_own_unders, rfl, _, rfl, a, _, dx, _, _, rfl, Mi.ob, T.cls_State, T.na_State_own_places, rfl, _, rfl, dgetR Mi.pl.r hv hqk fun vp hvp => ?_⟩
        refine ixD (d := sD u) 0 hvp.1 fun vu hvu => dgetR Mi.ua.r hvu hc fun vc hvc => ?_
        obtain rfl : vc = .ref c := hvc
        refine ⟨.inl ⟨rfl, ws, SqL.of hw1⟩, _, rfl, c, ws, v, rfl, rfl, hw1, Nat.lt_of_le_of_lt (show ws.length ≤ 61 by omega) (by decide), ⟨_, _, rfl⟩, ?_, Mi.app hw1, ?_, fi.young (young c hcm), tabs_lst Ti hw1, ti.trans (tup_lst hw1)⟩
        · rw [upd_ne (Ne.symm (hcq c hcm))]
          exact hqi
        · have := celli.app ndu ndk (lk_mem hc) hw1 hv
          have e : (fun x => (l'.take i).filter (fun t => decide (y.upOf t = some x)) ++ if x = u then [k] else []) = fun x => (l'.take (i + 1)).filter fun t => decide (y.upOf t = some x) := by
            funext x
            rw [List.take_add_one, hk, List.filter_append]
            congr 1
            by_cases e : x = u
            · subst e
              simp [hup]
            · rw [if_neg e]
              simp [hup, fun z => e (Option.some.inj z).symm]
              exact fun z => e z.symm
          rw [e] at this
          exact this
      · obtain ⟨⟨o4, o6, rfl⟩, hqi, Mi, celli, fi, Ti, ti⟩ := pp
        rw [List.take_of_length_le (by rw [hvl]; exact Nat.le_refl _)] at celli
        have un10 : DM P w K (RLs K) Hi D (y.un l') := cells_rls celli hua Mi.ua
        have hS := Ply.sinv hI hlp hle hN60
        have hun := Ply.un_ok hI hlp hle hN60
        have hbl := below_nodup hun.k 64 ROOT
        have hbl2 := below_len hun.k 64 ROOT
        have hkl : (y.kd.map (·.1)).length ≤ 61 := by rw [List.length_map]; have := hle.1; omega
        have hroot : ROOT ∈ y.kd.map (·.1) := lk_some.mp (by rw [hI.root]; rfl)
        refine ⟨_, rfl, a, dx, _, rfl, Mi.ob, rfl, rfl, a, dx, D, _, y.un l', y.kd.map (·.1), y.rk, _, ROOT, rfl, Mi.ob, rfl, rfl, un10, hun, hroot, hS.ht, dp_stamp (k := ROOT) (T.tu_ROOT _), fun p2 us2 H11 s11 hp2 hp2' hus2 => ⟨p2, us2, rfl, .inr (SqL.of hp2'), ?_, fun al hal => ?_⟩⟩
        · have : us2.length ≤ 61 := by rw [dpa_len hus2, List.length_map]; omega
          simp
          exact Nat.le_trans (show us2.length + 1 ≤ 62 by omega) (by decide)
        have s12 := s11.trans (same_new (o := .lst (.ref (He.ga K "ROOT") :: (us2 ++ []))) hal)
        have M12 := Mi.same s12
        have un12 := un10.same rls_stb s12
        have line12 : DpAll K (upd H11 al (.lst (.ref (He.ga K "ROOT") :: (us2 ++ [])))) (.ref (He.ga K "ROOT") :: us2) ((ROOT :: below (kidsT (y.un l')) 64 ROOT).map sD) := .cons (dp_stamp (k := ROOT) (T.tu_ROOT _)) (dpa_same (same_new hal) hus2)
        have hal12 : (upd H11 al (.lst (.ref (He.ga K "ROOT") :: (us2 ++ [])))) al = some (.lst (.ref (He.ga K "ROOT") :: us2)) := by rw [upd_same, List.append_nil]
        have f12 := fi.same s12
        have T12 := tabs_same Ti s12
        refine ⟨_, rfl, a, _, dx, _, rfl, M12.ob, T.cls_State, T.na_State_own_line, by simp, ?_⟩
        have e5 : putF "own_line" (.ref al) (sf4 ak ac ap D) = sf5 ak ac ap D al := putF_new (fs := sf4 ak ac ap D) (ks := ["own_kinds", "own_contents", "own_places", "own_unders"]) rfl (by decide +kernel)
        rw [e5]
        have M13 := M12.set (fs' := sf5 ak ac ap D al)
        have un13 := un12.pst rls_stb M12.ob (o := .ins (He.ga K "State") dx (sf5 ak ac ap D al))
        have ala : al ≠ a := fun z => by have := M12.ob; rw [← z, hal12] at this; cases this
        have hal13 : (upd (upd H11 al (.lst (.ref (He.ga K "ROOT") :: (us2 ++ [])))) a (.ins (He.ga K "State") dx (sf5 ak ac ap D al))) al = some (.lst (.ref (He.ga K "ROOT") :: us2)) := by rw [upd_ne ala]; exact hal12
        have line13 := dpa_tup (tup_ins M12.ob (o := .ins (He.ga K "State") dx (sf5 ak ac ap D al))) (immAll_sD _) line12
        have f13 := f12.at (a := a) (o := .ins (He.ga K "State") dx (sf5 ak ac ap D al)) (by simp)
        have T13 := tabs_ins (o := .ins (He.ga K "State") dx (sf5 ak ac ap D al)) T12 M12.ob
        revert M13 un13 hal13 line13 f13 T13
        generalize hH13 : upd (upd H11 al (.lst (.ref (He.ga K "ROOT") :: (us2 ++ [])))) a (.ins (He.ga K "State") dx (sf5 ak ac ap D al)) = H13
        intro M13 un13 hal13 line13 f13 T13
        generalize hline : ROOT :: below (kidsT (y.un l')) 64 ROOT = line at line13
        have hlnd : line.Nodup := by
          rw [← hline]
          refine List.nodup_cons.mpr ⟨fun z => ?_, hbl.1⟩
          have := (hbl.2 ROOT z).2
          omega
        have hll : line.length ≤ 62 := by rw [← hline]; simp; omega
        have hlu2 : (V.ref (He.ga K "ROOT") :: us2).length = line.length := by rw [dpa_len line13, List.length_map]
        refine ⟨_, rfl, a, _, dx, _, _, rfl, M13.ob, T.cls_State, T.na_State_own_line, rfl, al, rfl, ⟨_, SqL.of hal13⟩, fun D3 hD3 => ?_⟩
        refine dk_it (K := K) walk_list (fun i H14 => Same H13 H14 ∧ DM P w K RYes H14 D3 ((line.take i).map fun k => (k, ()))) ⟨same_new hD3, [], upd_same, .nil⟩ (fun i H14 _ p => p.1.seq (SqL.of hal13)) (fun i x H14 H15 hi p yy => ?_) (fun H14 p => ?_)
        · obtain ⟨s14, dm14⟩ := p
          obtain ⟨rfl, hx⟩ := yy
          obtain ⟨k, hk, hv⟩ := dpa_mem line13 hx
          have hnew : lk ((line.take i).map fun k => (k, ())) k = none := by
            rw [lk_none, List.map_map]
            intro z
            obtain ⟨k2, hk2, e⟩ := List.mem_map.mp z
            obtain rfl : k2 = k := e
            rw [← List.take_append_drop i line, List.nodup_append] at hlnd
            refine absurd rfl (hlnd.2.2 k2 hk2 k2 ?_)
            refine List.mem_of_getElem? (i := 0) ?_
            rw [List.getElem?_drop]
            exact hk
          refine ⟨rfl, ?_⟩
          refine iteT (B := Same H13 H15 ∧ DM P w K RYes H15 D3 ((line.take (i + 1)).map fun k => (k, ()))) ?_
          refine ⟨_, rfl, dk_put (x := ()) dm14 ryes_stb (dp_same s14 hv) rfl ?_ fun es2 dm15 l15 => ⟨same_mut s14 hD3, ?_⟩⟩
          · rw [List.length_map, List.length_take]
            exact Nat.lt_of_le_of_lt (Nat.le_trans (Nat.min_le_right _ _) hll) (by decide)
          · rw [putM_new hnew] at dm15
            rw [List.take_add_one, hk, List.map_append]
            exact dm15
        · obtain ⟨s14, dm14⟩ := p
          rw [List.take_of_length_le (by rw [hlu2]; exact Nat.le_refl _)] at dm14
          have M14 := M13.same s14
          refine ⟨_, rfl, a, _, dx, _, rfl, M14.ob, T.cls_State, T.na_State_own_in, by simp, ?_⟩
          have e6 : putF "own_in" (.ref D3) (sf5 ak ac ap D al) = sf6 ak ac ap D al D3 := putF_new (fs := sf5 ak ac ap D al) (ks := ["own_kinds", "own_contents", "own_places", "own_unders", "own_line"]) rfl (by decide +kernel)
          rw [e6]
          have M15 := M14.set (fs' := sf6 ak ac ap D al D3)
          refine q ⟨y.kd, y.ct, y.un l'⟩ _ hS (by rw [← List.length_map (f := fun x : St2 × Kd => x.1)]; exact hkl) ((f13.same s14).at (by simp)) (tabs_ins (tabs_same T13 s14) M14.ob) ⟨dx, ak, ac, ap, D, al, D3, M15.ob, M15.kd, M15.ct, (un13.same rls_stb s14).pst rls_stb M14.ob, ⟨_, SqL.of (by rw [upd_ne (fun z => by rw [z] at hal13; rw [M13.ob] at hal13; cases hal13)]; exact s14 _ _ hal13), ?_⟩, ?_⟩
          · have := dpa_tup (tup_ins M14.ob (o := .ins (He.ga K "State") dx (sf6 ak ac ap D al D3))) (immAll_sD _) (dpa_same s14 line13)
            rw [← hline] at this
            exact this
          · have := dm14.pst ryes_stb M14.ob (o := .ins (He.ga K "State") dx (sf6 ak ac ap D al D3))
            rw [← hline] at this
            exact this
end Ss
/-! Walks: a state's methods. -/
namespace Ss
open PySem PySem.Spec PyProof.Rows L2
variable {P : Program} {w : World} {K : PySem.W.Frag} {mg : Str → Option Value} {base : Heap} {e0 : Addr}
/-- a state that holds together -/
def StF (P : Program) (w : World) (K : PySem.W.Frag) (H : Hp) (a : Addr) (S : SA) : Prop := StAt P w K H a S ∧ SInv S ∧ S.kd.length ≤ 61
theorem StF.same {H H' : Hp} {a : Addr} {S : SA} (h : StF P w K H a S) (s : Same H H') : StF P w K H' a S := by
  obtain ⟨⟨dx, ak, ac, ap, au, al, ai, ob, kd, ct, un, ⟨vs, l1, l2⟩, inn⟩, hS, hl⟩ := h
  exact ⟨⟨dx, ak, ac, ap, au, al, ai, s _ _ ob, kd.same rd_stb.stb s, ct.same rd_stb.stb s, un.same rls_stb s, ⟨vs, s.seq l1, dpa_same s l2⟩, inn.same ryes_stb s⟩, hS, hl⟩
theorem SInv.line_kd {S : SA} (h : SInv S) {k : St2} (hk : k ∈ S.line) : ∃ kk, lk S.kd k = some kk := by
  refine Option.isSome_iff_exists.mp (lk_some.mpr ?_)
  obtain ⟨rk, hun⟩ := h.un
  rcases List.mem_cons.mp hk with rfl | hk
  · exact lk_some.mp (by rw [h.root]; rfl)
  · exact ((below_nodup hun.k 64 ROOT).2 k hk).1
theorem SInv.line_nd {S : SA} (h : SInv S) : S.line.Nodup := by
  obtain ⟨rk, hun⟩ := h.un
  refine List.nodup_cons.mpr ⟨fun z => ?_, (below_nodup hun.k 64 ROOT).1⟩
  have := ((below_nodup hun.k 64 ROOT).2 ROOT z).2
  omega
theorem SInv.line_len {S : SA} (h : SInv S) (hl : S.kd.length ≤ 61) : S.line.length ≤ 62 := by
  obtain ⟨rk, hun⟩ := h.un
  have h1 : (below S.kids 64 ROOT).length ≤ (S.kd.map (·.1)).length := below_len hun.k 64 ROOT
  rw [List.length_map] at h1
  show (below S.kids 64 ROOT).length + 1 ≤ 62
  omega
theorem SInv.un_at {S : SA} (h : SInv S) {k : St2} {kk : Kd} (hk : lk S.kd k = some kk) : lk S.un k = some (S.kids k) := by
  obtain ⟨rk, hun⟩ := h.un
  obtain ⟨l, hl⟩ := hun.has k (lk_some.mp (by rw [hk]; rfl))
  rw [hl, show S.kids k = l from kids_at hl]
theorem SInv.kid_line {S : SA} (h : SInv S) {x y : St2} (hx : x ∈ S.line) (hy : y ∈ S.kids x) : y ∈ S.line := by
  have hb : ∀ z, z ∈ S.line ↔ Anc S.kids ROOT z := fun z => by
    constructor
    · intro hz
      rcases List.mem_cons.mp hz with rfl | hz
      · exact .refl
      · obtain ⟨y, hy, a⟩ := below_anc hz
        exact a.top hy
    · intro a
      rcases anc_below h.ht a with e | e
      · rw [e]; exact List.mem_cons_self ..
      · exact List.mem_cons_of_mem _ e
  exact (hb y).mpr (.step hy ((hb x).mp hx))
theorem placeB_sD {d : PyData} (h : placeB d = true) : ∃ k, d = sD k := by
  have two : ∀ a b c1 c2 c3 c4, (numB a c1 c2 && numB b c3 c4) = true → ∃ k, PyData.tuple [a, b] = sD k := fun a b c1 c2 c3 c4 h => by
    rw [Bool.and_eq_true] at h
    cases a with
    | int i =>
      cases b with
      | int j => exact ⟨(i, j), rfl⟩
      | _ => exact absurd h.2 (by simp [numB])
    | _ => exact absurd h.1 (by simp [numB])
  unfold placeB at h
  rcases Bool.or_eq_true_iff.mp h with h | h
  · unfold stampB at h
    split at h
    · exact two _ _ _ _ _ _ h
    · cases h
  · unfold zeroB at h
    split at h
    · exact two _ _ _ _ _ _ h
    · cases h
/-- a thing of the tree, as data -/
def SA.isIn (S : SA) (d : PyData) : Bool := placeB d && (match unB d with | some k => decide (k ∈ S.line) | none => false)
theorem SInv.isIn_sD {S : SA} (h : SInv S) (k : St2) : S.isIn (sD k) = decide (k ∈ S.line) := by
  unfold SA.isIn
  show (placeB (sD k) && decide (k ∈ S.line)) = _
  by_cases hk : k ∈ S.line
  · obtain ⟨kk, hkk⟩ := h.line_kd hk
    rw [placeB_ok (h.ok k kk hkk)]
    rfl
  · simp [hk]
def sp_is_there (P : Program) (w : World) (K : PySem.W.Frag) : Sp := fun vs H Q _ => vs.length = 2 ∧ ∃ (a : Addr) (S : SA) (v : V) (k : St2) (kk : Kd), vs = [.ref a, v] ∧ StF P w K H a S ∧ Dp K H v (sD k) ∧ lk S.kd k = some kk ∧ Q (.bl true) H
theorem ok_is_there (T : Tx w K mg e0) : Kn P w K mg base 5 (He.ma K (He.ga K "State") "is_there") ["self", "value"] (sp_is_there P w K) := by
  have G_is_place_name : Kn P w K mg base 4 _ _ _ := ok_is_place_name T
  refine T.d_State_is_there.kn sc_State_is_there (fun _ _ _ _ _ _ us hl => match us, hl with | [_, _], _ => rfl) (fun vs H Q E h => h.1) (fun cdv A outer s H vs Q E hr h => ?_)
  have hu := hu65 hr
  obtain ⟨_, a, S, v, k, kk, rfl, ⟨⟨dx, ak, ac, ap, au, al, ai, C⟩, hS, _⟩, hv, hk, q⟩ := h
  refine ⟨_, (pss_one (ps_ret (pe_and (pe_fn G_is_place_name (hr.mono (by first | decide | exact Nat.le_refl _ | exact Nat.le_add_right_of_le (by decide) | omega)) T.g_is_place_name (pa_cons (pv 1) pa_nil)) (pe_one (pe_cmpR (op_inA hu) (pv 1) (pe_fld (pv 0) rfl) (by rfl)))))), ?_⟩
  refine ⟨_, rfl, v, _, rfl, hv, ?_⟩
  rw [placeB_ok (hS.ok k kk hk)]
  refine ⟨_, rfl, iteT ⟨_, rfl, _, rfl, a, _, dx, _, _, rfl, C.ob, T.cls_State, T.na_State_own_kinds, rfl, dinR C.kd.r hv ?_⟩⟩
  rw [hk]
  exact q
def sp_is_in (P : Program) (w : World) (K : PySem.W.Frag) : Sp := fun vs H Q _ => vs.length = 2 ∧ ∃ (a : Addr) (S : SA) (v : V) (d : PyData), vs = [.ref a, v] ∧ StF P w K H a S ∧ Dp K H v d ∧ Q (.bl (S.isIn d)) H
theorem lk_line {l : List St2} {k : St2} : (lk (l.map fun k => (k, ())) k).isSome = decide (k ∈ l) := by
  have h := lk_some (m := l.map fun k => (k, ())) (k := k)
  rw [List.map_map, show l.map ((fun x : St2 × Unit => x.1) ∘ fun k => (k, ())) = l from by simp [Function.comp_def]] at h
  by_cases c : k ∈ l
  · rw [decide_eq_true c]; exact h.mpr c
  · rw [decide_eq_false c]
    cases e : (lk (l.map fun k => (k, ())) k).isSome with
    | false => rfl
    | true => exact absurd (h.mp e) c
theorem ok_is_in (T : Tx w K mg e0) : Kn P w K mg base 5 (He.ma K (He.ga K "State") "is_in") ["self", "value"] (sp_is_in P w K) := by
  have G_is_place_name : Kn P w K mg base 4 _ _ _ := ok_is_place_name T
  refine T.d_State_is_in.kn sc_State_is_in (fun _ _ _ _ _ _ us hl => match us, hl with | [_, _], _ => rfl) (fun vs H Q E h => h.1) (fun cdv A outer s H vs Q E hr h => ?_)
  have hu := hu65 hr
  obtain ⟨_, a, S, v, d, rfl, ⟨⟨dx, ak, ac, ap, au, al, ai, C⟩, hS, _⟩, hv, q⟩ := h
  refine ⟨_, (pss_one (ps_ret (pe_and (pe_fn G_is_place_name (hr.mono (by first | decide | exact Nat.le_refl _ | exact Nat.le_add_right_of_le (by decide) | omega)) T.g_is_place_name (pa_cons (pv 1) pa_nil)) (pe_one (pe_cmpR (op_inA hu) (pv 1) (pe_fld (pv 0) rfl) (by rfl)))))), ?_⟩
  refine ⟨_, rfl, v, _, rfl, hv, ?_⟩
  refine ⟨_, rfl, ite2 (fun c => ?_) (fun c => ?_)⟩
  · obtain ⟨k, rfl⟩ := placeB_sD c
    refine ⟨_, rfl, _, rfl, a, _, dx, _, _, rfl, C.ob, T.cls_State, T.na_State_own_in, rfl, dinR C.inn.r hv ?_⟩
    rw [hS.isIn_sD] at q
    rw [lk_line]
    exact q
  · have e : S.isIn d = false := by unfold SA.isIn; rw [Bool.eq_false_iff.mpr c]; rfl
    rw [e] at q
    exact q
def spThing (P : Program) (w : World) (K : PySem.W.Frag) (R : SA → St2 → Kd → Hp → VK → Prop) : Sp := fun vs H Q _ => vs.length = 2 ∧ ∃ (a : Addr) (S : SA) (v : V) (k : St2) (kk : Kd), vs = [.ref a, v] ∧ StF P w K H a S ∧ Dp K H v (sD k) ∧ lk S.kd k = some kk ∧ R S k kk H Q
theorem ok_look_there (T : Tx w K mg e0) : Kn P w K mg base 6 (He.ma K (He.ga K "State") "look_there") ["self", "thing"] (spThing P w K fun _ _ _ H Q => Q .non H) := by
  have G_State_is_there : Kn P w K mg base 5 _ _ _ := ok_is_there T
  refine T.d_State_look_there.kn sc_State_look_there (fun _ _ _ _ _ _ us hl => match us, hl with | [_, _], _ => rfl) (fun vs H Q E h => h.1) (fun cdv A outer s H vs Q E hr h => ?_)
  have hu := hu65 hr
  obtain ⟨_, a, S, v, k, kk, rfl, hF, hv, hk, q⟩ := h
  obtain ⟨⟨dx, ak, ac, ap, au, al, ai, C⟩, hS, _⟩ := id hF
  refine ⟨_, (pss_one (ps_if (pt_not (pt_val (pe_mt (pv 0) T.cls_State T.me_State_is_there G_State_is_there (hr.mono (by first | decide | exact Nat.le_refl _ | exact Nat.le_add_right_of_le (by decide) | omega)) (pa_cons (pv 1) pa_nil)))) (pss_one ps_never) pss_nil)), ?_⟩
  exact ⟨_, rfl, a, dx, _, rfl, C.ob, rfl, _, rfl, rfl, a, S, v, k, kk, rfl, hF, hv, hk, ⟨_, rfl, iteF q⟩⟩
theorem ok_look_in (T : Tx w K mg e0) : Kn P w K mg base 6 (He.ma K (He.ga K "State") "look_in") ["self", "thing"] (spThing P w K fun S k _ H Q => k ∈ S.line ∧ Q .non H) := by
  have G_State_is_in : Kn P w K mg base 5 _ _ _ := ok_is_in T
  refine T.d_State_look_in.kn sc_State_look_in (fun _ _ _ _ _ _ us hl => match us, hl with | [_, _], _ => rfl) (fun vs H Q E h => h.1) (fun cdv A outer s H vs Q E hr h => ?_)
  have hu := hu65 hr
  obtain ⟨_, a, S, v, k, kk, rfl, hF, hv, hk, hl, q⟩ := h
  obtain ⟨⟨dx, ak, ac, ap, au, al, ai, C⟩, hS, _⟩ := id hF
  refine ⟨_, (pss_one (ps_if (pt_not (pt_val (pe_mt (pv 0) T.cls_State T.me_State_is_in G_State_is_in (hr.mono (by first | decide | exact Nat.le_refl _ | exact Nat.le_add_right_of_le (by decide) | omega)) (pa_cons (pv 1) pa_nil)))) (pss_one ps_never) pss_nil)), ?_⟩
  refine ⟨_, rfl, a, dx, _, rfl, C.ob, rfl, _, rfl, rfl, a, S, v, _, rfl, hF, hv, ?_⟩
  rw [hS.isIn_sD, decide_eq_true hl]
  exact ⟨_, rfl, iteF q⟩
def sp_look_in_of (P : Program) (w : World) (K : PySem.W.Frag) : Sp := fun vs H Q _ => vs.length = 3 ∧ ∃ (a : Addr) (S : SA) (v : V) (k : St2) (kk : Kd), vs = [.ref a, v, .str kk.s] ∧ StF P w K H a S ∧ Dp K H v (sD k) ∧ k ∈ S.line ∧ lk S.kd k = some kk ∧ Q .non H
theorem ok_look_in_of (T : Tx w K mg e0) : Kn P w K mg base 6 (He.ma K (He.ga K "State") "look_in_of") ["self", "thing", "kind"] (sp_look_in_of P w K) := by
  have G_State_is_in : Kn P w K mg base 5 _ _ _ := ok_is_in T
  refine T.d_State_look_in_of.kn sc_State_look_in_of (fun _ _ _ _ _ _ us hl => match us, hl with | [_, _, _], _ => rfl) (fun vs H Q E h => h.1) (fun cdv A outer s H vs Q E hr h => ?_)
  have hu := hu65 hr
  obtain ⟨_, a, S, v, k, kk, rfl, hF, hv, hl, hk, q⟩ := h
  obtain ⟨⟨dx, ak, ac, ap, au, al, ai, C⟩, hS, _⟩ := id hF
  refine ⟨_, (pss_one (ps_if (PW.pt (pw_or (pt_not (pt_val (pe_mt (pv 0) T.cls_State T.me_State_is_in G_State_is_in (hr.mono (by first | decide | exact Nat.le_refl _ | exact Nat.le_add_right_of_le (by decide) | omega)) (pa_cons (pv 1) pa_nil)))) (pw_or1 (pt_cmpR (op_neA hu) (pe_ix (ix_any hu) (pe_fld (pv 0) rfl) (pv 1) (fun _ _ => rfl)) (pv 2) (nomark _))))) (pss_one ps_never) pss_nil)), ?_⟩
  refine ⟨_, rfl, a, dx, _, rfl, C.ob, rfl, _, rfl, rfl, a, S, v, _, rfl, hF, hv, ?_⟩
  rw [hS.isIn_sD, decide_eq_true hl]
  refine ⟨_, rfl, iteF ⟨_, rfl, a, _, dx, _, _, rfl, C.ob, T.cls_State, T.na_State_own_kinds, rfl, _, rfl, dgetR C.kd.r hv hk fun x hx => ?_⟩⟩
  obtain rfl := rk_v hx
  refine ⟨_, rfl, neS ⟨_, rfl, ?_⟩⟩
  rw [show (!decide (kk.s = kk.s)) = false by simp]
  exact iteF q
theorem ok_kind (T : Tx w K mg e0) : Kn P w K mg base 7 (He.ma K (He.ga K "State") "kind") ["self", "thing"] (spThing P w K fun _ _ kk H Q => Q (.str kk.s) H) := by
  have G_State_look_there : Kn P w K mg base 6 _ _ _ := ok_look_there T
  refine T.d_State_kind.kn sc_State_kind (fun _ _ _ _ _ _ us hl => match us, hl with | [_, _], _ => rfl) (fun vs H Q E h => h.1) (fun cdv A outer s H vs Q E hr h => ?_)
  have hu := hu65 hr
  obtain ⟨_, a, S, v, k, kk, rfl, hF, hv, hk, q⟩ := h
  obtain ⟨⟨dx, ak, ac, ap, au, al, ai, C⟩, hS, _⟩ := id hF
  refine ⟨_, (pss_cons (ps_expr (pe_mt (pv 0) T.cls_State T.me_State_look_there G_State_look_there (hr.mono (by first | decide | exact Nat.le_refl _ | exact Nat.le_add_right_of_le (by decide) | omega)) (pa_cons (pv 1) pa_nil)))
    (pss_one (ps_ret (pe_ix (ix_any hu) (pe_fld (pv 0) rfl) (pv 1) (fun _ _ => rfl))))), ?_⟩
  refine ⟨_, rfl, a, dx, _, rfl, C.ob, rfl, _, rfl, rfl, a, S, v, k, kk, rfl, hF, hv, hk, ?_⟩
  refine ⟨_, rfl, a, _, dx, _, _, rfl, C.ob, T.cls_State, T.na_State_own_kinds, rfl, _, rfl, dgetR C.kd.r hv hk fun x hx => ?_⟩
  obtain rfl := rk_v hx
  exact q
theorem ok_content (T : Tx w K mg e0) : Kn P w K mg base 7 (He.ma K (He.ga K "State") "content") ["self", "thing"] (spThing P w K fun S k kk H Q => k ≠ ROOT ∧ ∀ v c, lk S.ct k = some c → okC kk c → Dp K H v c → Q v H) := by
  have G_State_look_there : Kn P w K mg base 6 _ _ _ := ok_look_there T
  refine T.d_State_content.kn sc_State_content (fun _ _ _ _ _ _ us hl => match us, hl with | [_, _], _ => rfl) (fun vs H Q E h => h.1) (fun cdv A outer s H vs Q E hr h => ?_)
  have hu := hu65 hr
  have hu1 := hu_of hr
  obtain ⟨_, a, S, v, k, kk, rfl, hF, hv, hk, hne, q⟩ := h
  obtain ⟨⟨dx, ak, ac, ap, au, al, ai, C⟩, hS, _⟩ := id hF
  refine ⟨_, (pss_cons (ps_expr (pe_mt (pv 0) T.cls_State T.me_State_look_there G_State_look_there (hr.mono (by first | decide | exact Nat.le_refl _ | exact Nat.le_add_right_of_le (by decide) | omega)) (pa_cons (pv 1) pa_nil)))
    (pss_one (ps_ret (pe_dg1 hu1 (pe_fld (pv 0) rfl) (pv 1) ⟨rfl, rfl, rfl, rfl⟩)))), ?_⟩
  refine ⟨_, rfl, a, dx, _, rfl, C.ob, rfl, _, rfl, rfl, a, S, v, k, kk, rfl, hF, hv, hk, ?_⟩
  obtain ⟨c, hc, hcok⟩ := hS.ct k kk hk hne
  obtain ⟨es, he, hE⟩ := C.ct
  obtain ⟨b, rfl, hb⟩ := stamp_dp hv
  refine ⟨_, rfl, a, _, dx, _, _, rfl, C.ob, T.cls_State, T.na_State_own_contents, rfl, ac, es, rfl, ⟨.inl he, hE.ks⟩, _, rfl, b, k, es, rfl, ⟨.inl he, hE.ks⟩, hb, ?_⟩
  rcases hE.look k with ⟨_, n⟩ | ⟨z, c', g1, g2, g3⟩
  · rw [hc] at n; cases n
  · rw [hc] at g2
    cases g2
    rw [g1]
    exact q z c hc hcok g3.1
theorem ok_under (T : Tx w K mg e0) : Kn P w K mg base 7 (He.ma K (He.ga K "State") "under") ["self", "thing"] (spThing P w K fun S k _ H Q => ∀ p us, H p = none → DpAll K H us ((S.kids k).map sD) → Q (.ref p) (upd H p (.lst us))) := by
  have G_State_look_there : Kn P w K mg base 6 _ _ _ := ok_look_there T
  refine T.d_State_under.kn sc_State_under (fun _ _ _ _ _ _ us hl => match us, hl with | [_, _], _ => rfl) (fun vs H Q E h => h.1) (fun cdv A outer s H vs Q E hr h => ?_)
  have hu := hu65 hr
  obtain ⟨_, a, S, v, k, kk, rfl, hF, hv, hk, q⟩ := h
  obtain ⟨⟨dx, ak, ac, ap, au, al, ai, C⟩, hS, _⟩ := id hF
  refine ⟨_, (pss_cons (ps_expr (pe_mt (pv 0) T.cls_State T.me_State_look_there G_State_look_there (hr.mono (by first | decide | exact Nat.le_refl _ | exact Nat.le_add_right_of_le (by decide) | omega)) (pa_cons (pv 1) pa_nil)))
    (pss_one (ps_ret (pe_callTy (cb_list hu) (by rfl) T.b_list (by decide +kernel) (pa_cons (pe_ix (ix_any hu) (pe_fld (pv 0) rfl) (pv 1) (fun _ _ => rfl)) pa_nil))))), ?_⟩
  refine ⟨_, rfl, a, dx, _, rfl, C.ob, rfl, _, rfl, rfl, a, S, v, k, kk, rfl, hF, hv, hk, ?_⟩
  refine ⟨_, rfl, a, _, dx, _, _, rfl, C.ob, T.cls_State, T.na_State_own_unders, rfl, _, rfl, dgetR C.un.r hv (hS.un_at hk) fun x hx => ?_⟩
  obtain ⟨b, us, rfl, hb, hus⟩ := hx
  exact .inl ⟨b, us, rfl, .inl hb, fun l hl => q l us hl hus⟩
def sp_line (P : Program) (w : World) (K : PySem.W.Frag) : Sp := fun vs H Q _ => vs.length = 1 ∧ ∃ (a : Addr) (S : SA), vs = [.ref a] ∧ StF P w K H a S ∧ ∀ p us, H p = none → DpAll K H us (S.line.map sD) → Q (.ref p) (upd H p (.lst us))
theorem ok_line (T : Tx w K mg e0) : Kn P w K mg base 1 (He.ma K (He.ga K "State") "line") ["self"] (sp_line P w K) := by
  refine T.d_State_line.kn sc_State_line (fun _ _ _ _ _ _ us hl => match us, hl with | [_], _ => rfl) (fun vs H Q E h => h.1) (fun cdv A outer s H vs Q E hr h => ?_)
  have hu := hu65 hr
  obtain ⟨_, a, S, rfl, ⟨⟨dx, ak, ac, ap, au, al, ai, C⟩, hS, _⟩, q⟩ := h
  refine ⟨_, (pss_one (ps_ret (pe_callTy (cb_list hu) (by rfl) T.b_list (by decide +kernel) (pa_cons (pe_fld (pv 0) rfl) pa_nil)))), ?_⟩
  obtain ⟨vs, h1, h2⟩ := C.line
  exact ⟨_, rfl, a, _, dx, _, _, rfl, C.ob, T.cls_State, T.na_State_own_line, rfl, .inl ⟨al, vs, rfl, .inl h1, fun l hl => q l vs hl h2⟩⟩
end Ss
/-! Walks: the order of ends. -/
namespace Ss
open PySem PySem.Spec PyProof.Rows L2
variable {P : Program} {w : World} {K : PySem.W.Frag} {mg : Str → Option Value} {base : Heap} {e0 : Addr}
def sp_ends_below (P : Program) (w : World) (K : PySem.W.Frag) (n : Nat) : Sp := fun vs H Q _ => vs.length = 2 ∧ ∃ (a : Addr) (S : SA) (v : V) (x : St2) (kk : Kd), vs = [.ref a, v] ∧ StF P w K H a S ∧ lk S.kd x = some kk ∧ Ht S.kids n x ∧ Dp K H v (sD x) ∧
  ∀ (p : Addr) (us : List V) (H' : Hp), Same H H' → H p = none → H' p = some (.lst us) → DpAll K H' us ((ends S.kids n x).map sD) → Q (.ref p) H'
theorem ends_len {S : SA} (h : SInv S) (hl : S.kd.length ≤ 61) {n : Nat} {x : St2} (ht : Ht S.kids n x) : (ends S.kids n x).length ≤ 62 := by
  obtain ⟨rk, hun⟩ := h.un
  have h1 : (below S.kids n x).length ≤ (S.kd.map (·.1)).length := below_len hun.k n x
  rw [List.length_map] at h1
  rw [(ends_perm ht).length_eq]
  show (below S.kids n x).length + 1 ≤ 62
  omega
theorem kid_kd {S : SA} (h : SInv S) {x y : St2} (hy : y ∈ S.kids x) : ∃ kk, lk S.kd y = some kk := by
  obtain ⟨rk, hun⟩ := h.un
  exact Option.isSome_iff_exists.mp (lk_some.mpr (hun.k.mem x y hy))
theorem ok_ends_below (T : Tx w K mg e0) (n : Nat) : Kn P w K mg base (8 + n) (He.ga K "ends_below") ["state", "thing"] (sp_ends_below P w K n) := by
  have G_State_under : Kn P w K mg base 7 _ _ _ := ok_under T
  induction n with
  | zero =>
    have G_ends_below : Kn P w K mg base 8 (He.ga K "ends_below") ["state", "thing"] (fun vs H Q _ => vs.length = 2 ∧ False) := by
      refine T.d_ends_below.kn sc_ends_below (fun _ _ _ _ _ _ us hl => match us, hl with | [_, _], _ => rfl) (fun vs H Q E h => h.1) (fun cdv A outer s H vs Q E hr h => h.2.elim)
    obtain ⟨⟨fd, F, b⟩, kp⟩ := G_ends_below
    refine ⟨⟨fd, ⟨fun vs H Q E h => F.len vs H Q E ?_, fun A outer s H args us vs Q E hr e0 hb r h => ?_⟩, b⟩, kp⟩
    all_goals
      obtain ⟨_, a, S, v, x, kk, _, _, _, hz, _⟩ := h
      exact hz.elim
  | succ n ih =>
  have G_ends_below : Kn P w K mg base (8 + n) _ _ _ := ih
  refine (show 8 + (n + 1) = (8 + n) + 1 by omega) ▸ T.d_ends_below.kn sc_ends_below (fun _ _ _ _ _ _ us hl => match us, hl with | [_, _], _ => rfl) (fun vs H Q E h => h.1) (fun cdv A outer s H vs Q E hr h => ?_)
  have hu := hu65 hr
  obtain ⟨_, a, S, v, x, kk, rfl, hF, hk, hH, hv, q⟩ := h
  obtain ⟨⟨dx, ak, ac, ap, au, al, ai, C⟩, hS, hSl⟩ := id hF
  refine ⟨_, (pss_cons (ps_set (i := 2) sc_ends_below.nd rfl (Or.inl rfl) (pe_lst pa_nil))
    (pss_cons (ps_for PassesOwn.never rfl (pi_list (pe_mt (pv 0) T.cls_State T.me_State_under G_State_under (hr.mono (by first | decide | exact Nat.le_refl _ | exact Nat.le_add_right_of_le (by decide) | omega)) (pa_cons (pv 1) pa_nil))) (pg_name (i := 3) sc_ends_below.nd rfl (Or.inl rfl)) (pss_one (ps_expr (pe_bm PySem.F.plainAttrs_list PySem.F.slot_list_extend PySem.F.type_list_extend mt_extend (pv 2) (pa_cons (pe_fn G_ends_below (hr.mono (by first | decide | exact Nat.le_refl _ | exact Nat.le_add_right_of_le (by decide) | omega)) T.g_ends_below (pa_cons (pv 0) (pa_cons (pv 3) pa_nil))) pa_nil)))))
    (pss_one (ps_ret (pe_lst (StX.pa_star (pv 2) (pa_cons (pv 1) pa_nil))))))), ?_⟩
  refine ⟨szL, fun fl hfl => ?_⟩
  have s1 := same_new (o := .lst []) hfl
  refine ⟨_, rfl, a, dx, _, rfl, s1 _ _ C.ob, rfl, _, rfl, rfl, a, S, v, x, kk, rfl, hF.same s1, dp_same s1 hv, hk, fun b us hb hus => ⟨b, rfl, ⟨us, SqL.of upd_same⟩, ?_⟩⟩
  have hlen : us.length = (S.kids x).length := by rw [dpa_len hus, List.length_map]
  have s2 := s1.trans (same_new (o := .lst us) hb)
  have hbH : H b = none := same_none s1 hb
  have hfb : fl ≠ b := fun z => by rw [← z, upd_same] at hb; cases hb
  have hA : Same (upd H b (.lst us)) (upd (upd H fl (.lst [])) b (.lst us)) := fun c o e => by
    by_cases hc : c = b
    · rw [hc] at e ⊢
      rw [upd_same] at e ⊢
      exact e
    · rw [upd_ne hc] at e ⊢
      exact s1 _ _ e
  have hle : ∀ i, ((((S.kids x).take i).flatMap fun y => ends S.kids n y)).length ≤ 62 := fun i => by
    have h1 : (((S.kids x).take i).flatMap fun y => ends S.kids n y).Sublist (ends S.kids (n + 1) x) := by
      show List.Sublist _ (((S.kids x).flatMap fun y => ends S.kids n y) ++ [x])
      conv => rhs; rw [← List.take_append_drop i (S.kids x), List.flatMap_append, List.append_assoc]
      exact List.sublist_append_left _ _
    exact Nat.le_trans h1.length_le (ends_len hS hSl hH)
  have hA0 : Same H (upd H b (.lst us)) := same_new hbH
  have hflA : (upd H b (.lst us)) fl = none := by rw [upd_ne hfb]; exact hfl
  refine for_it walk_list (fun i σ H2 => Same (upd H b (.lst us)) H2 ∧ (∃ o3, σ = [some (.ref a), some v, some (.ref fl), o3]) ∧ TupLe (upd H fl (.lst [])) H2 ∧ ∃ ws, H2 fl = some (.lst ws) ∧ DpAll K H2 ws ((((S.kids x).take i).flatMap fun y => ends S.kids n y).map sD)) ⟨hA, ⟨_, rfl⟩, tup_new hb, [], by rw [upd_ne hfb]; exact upd_same, .nil⟩ (fun _ _ _ _ p => p.1.seq (SqL.of upd_same)) (fun i vv σ H2 H3 hi pp yy => ?_) (fun σ H2 pp => ?_)
  · obtain ⟨s3, ⟨o3, rfl⟩, t3, ws, hfl2, hws⟩ := pp
    obtain ⟨rfl, hxx⟩ := yy
    obtain ⟨y, hy, hyv⟩ := dpa_mem hus hxx
    have hyk : y ∈ S.kids x := List.mem_of_getElem? hy
    obtain ⟨ky, hky⟩ := kid_kd hS hyk
    have hyv2 := dp_tup t3 (imm_sD y) hyv
    refine ⟨_, rfl, .inl ⟨rfl, ws, SqL.of hfl2⟩, _, rfl, _, rfl, rfl, a, S, vv, y, ky, rfl, hF.same (hA0.trans s3), hky, hH y hyk, hyv2, fun p2 us2 H4 s4 hp2 hp2' hus2 => ?_⟩
    have hl2 : us2.length ≤ 62 := by
      rw [dpa_len hus2, List.length_map]
      exact ends_len hS hSl (hH y hyk)
    have hlw : ws.length ≤ 62 := by
      rw [dpa_len hws, List.length_map]
      exact hle i
    refine ⟨fl, p2, ws, us2, rfl, rfl, s4 _ _ hfl2, hp2', ?_, same_mut (s3.trans s4) hflA, ⟨_, rfl⟩, (t3.trans (Same.tup s4)).trans (tup_lst (s4 _ _ hfl2)), _, upd_same, ?_⟩
    · exact Nat.le_trans (show ws.length + us2.length ≤ 124 by omega) (by decide)
    · rw [List.take_add_one, hy, List.flatMap_append, List.map_append]
      have t6 := tup_lst (o := .lst (ws ++ us2)) (s4 _ _ hfl2)
      refine dpa_append (dpa_tup ((Same.tup s4).trans t6) (immAll_sD _) hws) ?_
      have e : (((some y).toList.flatMap fun y => ends S.kids n y).map sD) = (ends S.kids n y).map sD := by simp
      rw [e]
      exact dpa_tup t6 (immAll_sD _) hus2
  · obtain ⟨s3, ⟨o3, rfl⟩, t3, ws, hfl2, hws⟩ := pp
    rw [List.take_of_length_le (by rw [hlen]; exact Nat.le_refl _)] at hws
    have hlw : ws.length ≤ 62 := by
      rw [dpa_len hws, List.length_map]
      have := hle (S.kids x).length
      rwa [List.take_length] at this
    refine ⟨_, rfl, fl, ws, rfl, .inr (SqL.of hfl2), _, rfl, ?_, fun p3 hp3 => ?_⟩
    · simp
      exact Nat.le_trans (show ws.length + 1 ≤ 63 by omega) (by decide)
    · have s5 := same_new (o := .lst (ws ++ [v])) hp3
      refine q p3 _ _ ((hA0.trans s3).trans s5) (same_none (hA0.trans s3) hp3) upd_same ?_
      show DpAll K _ _ ((((S.kids x).flatMap fun y => ends S.kids n y) ++ [x]).map sD)
      rw [List.map_append]
      exact dpa_append (dpa_same s5 hws) (.cons (dp_same ((hA0.trans s3).trans s5) hv) .nil)
def sp_ends_of (P : Program) (w : World) (K : PySem.W.Frag) : Sp := fun vs H Q _ => vs.length = 1 ∧ ∃ (a : Addr) (S : SA), vs = [.ref a] ∧ StF P w K H a S ∧ ∀ (p : Addr) (us : List V) (H' : Hp), Same H H' → H p = none → H' p = some (.lst us) → DpAll K H' us (S.ends.map sD) → Q (.ref p) H'
theorem ok_ends_of (T : Tx w K mg e0) : Kn P w K mg base 73 (He.ga K "ends_of") ["state"] (sp_ends_of P w K) := by
  have G_check_state : Kn P w K mg base 1 _ _ _ := ok_check_state T
  have G_ends_below : Kn P w K mg base 72 _ _ _ := ok_ends_below T 64
  refine T.d_ends_of.kn sc_ends_of (fun _ _ _ _ _ _ us hl => match us, hl with | [_], _ => rfl) (fun vs H Q E h => h.1) (fun cdv A outer s H vs Q E hr h => ?_)
  have hu := hu65 hr
  obtain ⟨_, a, S, rfl, hF, q⟩ := h
  obtain ⟨⟨dx, ak, ac, ap, au, al, ai, C⟩, hS, hSl⟩ := id hF
  refine ⟨_, (pss_cons (ps_expr (pe_fn G_check_state (hr.mono (by first | decide | exact Nat.le_refl _ | exact Nat.le_add_right_of_le (by decide) | omega)) T.g_check_state (pa_cons (pv 0) pa_nil)))
    (pss_one (ps_ret (pe_fn G_ends_below (hr.mono (by first | decide | exact Nat.le_refl _ | exact Nat.le_add_right_of_le (by decide) | omega)) T.g_ends_below (pa_cons (pv 0) (pa_cons (pe_globR rfl T.g_ROOT) pa_nil)))))), ?_⟩
  exact ⟨_, rfl, rfl, a, dx, _, rfl, C.ob, _, rfl, rfl, a, S, _, ROOT, .block, rfl, hF, hS.root, hS.ht, dp_stamp (k := ROOT) (T.tu_ROOT _), q⟩
end Ss
/-! Views: parents and spots. -/
namespace Ss
open PySem PySem.Spec PyProof.Rows L2
/-- where a thing stands: under what, at which place -/
def SA.spot (S : SA) (z : St2) : Option (St2 × Nat) := (S.un.find? fun e => decide (z ∈ e.2)).map fun e => (e.1, e.2.idxOf z)
theorem SInv.spot_at {S : SA} (h : SInv S) {u z : St2} {i : Nat} (hz : (S.kids u)[i]? = some z) : S.spot z = some (u, i) := by
  obtain ⟨rk, hun⟩ := h.un
  have hmem : z ∈ S.kids u := List.mem_of_getElem? hz
  obtain ⟨l, hl⟩ : ∃ l, lk S.un u = some l := by
    cases e : lk S.un u with
    | none => unfold SA.kids kidsT at hmem; rw [e] at hmem; simp at hmem
    | some l => exact ⟨l, rfl⟩
  have hkl : S.kids u = l := kids_at hl
  unfold SA.spot
  cases hf : S.un.find? fun e => decide (z ∈ e.2) with
  | none =>
    have := List.find?_eq_none.mp hf (u, l) (lk_mem hl)
    rw [← hkl] at this
    exact absurd (decide_eq_true hmem) this
  | some e =>
    have h1 := List.find?_some (p := fun e : St2 × List St2 => decide (z ∈ e.2)) hf
    have h2 := List.mem_of_find?_eq_some hf
    have h1 : z ∈ e.2 := of_decide_eq_true h1
    have h3 : S.kids e.1 = e.2 := kids_at (lk_of_mem h.ndu h2)
    have h4 : e.1 = u := hun.k.one e.1 u z (by rw [show kidsT S.un e.1 = e.2 from h3]; exact h1) hmem
    show some (e.1, e.2.idxOf z) = some (u, i)
    rw [← h3, h4]
    have hnd : (S.kids u).Nodup := hun.k.nd u
    obtain ⟨hi, he⟩ := List.getElem?_eq_some_iff.mp hz
    congr 2
    rw [← he]
    exact hnd.idxOf_getElem i hi
end Ss
/-! Walks: a view of the tree. -/
namespace Ss
open PySem PySem.Spec PyProof.Rows L2
variable {P : Program} {w : World} {K : PySem.W.Frag} {mg : Str → Option Value} {base : Heap} {e0 : Addr}
/-- values that are lists of stamps, none of them at l -/
def RLx (K : PySem.W.Frag) (l : Addr) : Hp → V → List St2 → Prop := fun H v ks => ∃ b vs, v = .ref b ∧ b ≠ l ∧ SqL K H b vs ∧ DpAll K H vs (ks.map sD)
theorem rlx_stb {l : Addr} : Stb (RLx K l) := fun _ _ _ _ t ⟨b, vs, e, n, h, d⟩ => ⟨b, vs, e, n, t.2 _ _ _ h, dpa_tup t.1 (immAll_sD _) d⟩
theorem rlx_app {l : Addr} {H : Hp} {ws us : List V} {v : V} {ks : List St2} (hl : H l = some (.lst ws)) (h : RLx K l H v ks) : RLx K l (upd H l (.lst us)) v ks := by
  obtain ⟨b, vs, e, n, h, d⟩ := h
  exact ⟨b, vs, e, n, (Fr.at (S := [l]) Fr.refl (by simp)).sql (by simpa using n) h, dpa_tup (tup_lst hl) (immAll_sD _) d⟩
def spotD (x : St2 × Nat) : PyData := .tuple [sD x.1, .int x.2]
theorem imm_spot (x : St2 × Nat) : imm (spotD x) = true := by simp [spotD, imm, immAll, imm_sD]
abbrev RS (K : PySem.W.Frag) : Hp → V → St2 × Nat → Prop := RD K spotD
abbrev vwO (K : PySem.W.Frag) (dx a l k sp : Addr) : HO := .ins (He.ga K "TreeView") dx [("own_state", .ref a), ("own_line", .ref l), ("own_kids", .ref k), ("own_spots", .ref sp)]
structure VwC (P : Program) (w : World) (K : PySem.W.Frag) (H : Hp) (v dx a l k sp : Addr) (vk : Tb (List St2)) (vs : Tb (St2 × Nat)) (Bk Bs : Nat) : Prop where
  ob : H v = some (vwO K dx a l k sp)
  line : ∃ ws, H l = some (.lst ws) ∧ ws.length ≤ Bk
  kids : DM P w K (RLx K l) H k vk
  spots : DM P w K (RS K) H sp vs
  lk : vk.length ≤ Bk
  ls : vs.length ≤ Bs
  ne : k ≠ sp
section
variable {H H' : Hp} {v dx a l k sp : Addr} {vk : Tb (List St2)} {vs : Tb (St2 × Nat)} {Bk Bs : Nat}
theorem VwC.same (h : VwC P w K H v dx a l k sp vk vs Bk Bs) (s : Same H H') : VwC P w K H' v dx a l k sp vk vs Bk Bs :=
  ⟨s _ _ h.ob, let ⟨ws, e, z⟩ := h.line; ⟨ws, s _ _ e, z⟩, h.kids.same rlx_stb s, h.spots.same rd_stb.stb s, h.lk, h.ls, h.ne⟩
theorem VwC.apart (h : VwC P w K H v dx a l k sp vk vs Bk Bs) : v ≠ l ∧ v ≠ k ∧ v ≠ sp ∧ l ≠ k ∧ l ≠ sp := by
  have h0 := h.ob
  obtain ⟨ws, h1, _⟩ := h.line
  obtain ⟨_, h2, _⟩ := h.kids
  obtain ⟨_, h3, _⟩ := h.spots
  refine ⟨fun z => ?_, fun z => ?_, fun z => ?_, fun z => ?_, fun z => ?_⟩
  · rw [z, h1] at h0; cases h0
  · rw [z, h2] at h0; cases h0
  · rw [z, h3] at h0; cases h0
  · rw [z, h2] at h1; cases h1
  · rw [z, h3] at h1; cases h1
theorem VwC.app (h : VwC P w K H v dx a l k sp vk vs Bk Bs) {ws : List V} {x : V} (e : H l = some (.lst ws)) (hl : ws.length ≤ Bk) : VwC P w K (upd H l (.lst (ws ++ [x]))) v dx a l k sp vk vs (Bk + 1) Bs := by
  obtain ⟨h1, h2, h3, h4, h5⟩ := h.apart
  obtain ⟨es, e2, hE⟩ := h.kids
  exact ⟨by rw [upd_ne h1]; exact h.ob, ⟨_, upd_same, by simp; exact hl⟩, ⟨es, by rw [upd_ne (Ne.symm h4)]; exact e2, hE.mono (tup_lst e) fun v x r => rlx_app e r⟩, h.spots.lst rd_stb e, Nat.le_succ_of_le h.lk, h.ls, h.ne⟩
theorem VwC.setK (h : VwC P w K H v dx a l k sp vk vs Bk Bs) {o : HO} {m : Tb (List St2)} (d : DM P w K (RLx K l) (upd H k o) k m) (t : LTLe H (upd H k o)) (hm : m.length ≤ Bk) : VwC P w K (upd H k o) v dx a l k sp m vs Bk Bs := by
  obtain ⟨h1, h2, h3, h4, h5⟩ := h.apart
  exact ⟨by rw [upd_ne h2]; exact h.ob, let ⟨ws, e, z⟩ := h.line; ⟨ws, by rw [upd_ne h4]; exact e, z⟩, d, h.spots.keep rd_stb.stb t (Ne.symm h.ne), hm, h.ls, h.ne⟩
theorem VwC.setS (h : VwC P w K H v dx a l k sp vk vs Bk Bs) {o : HO} {m : Tb (St2 × Nat)} {B : Nat} (d : DM P w K (RS K) (upd H sp o) sp m) (t : LTLe H (upd H sp o)) (hm : m.length ≤ B) : VwC P w K (upd H sp o) v dx a l k sp vk m Bk B := by
  obtain ⟨h1, h2, h3, h4, h5⟩ := h.apart
  exact ⟨by rw [upd_ne h3]; exact h.ob, let ⟨ws, e, z⟩ := h.line; ⟨ws, by rw [upd_ne h5]; exact e, z⟩, h.kids.keep rlx_stb t h.ne, d, h.lk, hm, h.ne⟩
end
def sp_take_in (P : Program) (w : World) (K : PySem.W.Frag) (n : Nat) : Sp := fun us H Q _ => us.length = 3 ∧ ∃ (v dx a l k sp : Addr) (vk : Tb (List St2)) (vs : Tb (St2 × Nat)) (Bk Bs : Nat) (A : Hp) (S : SA) (x : St2) (kk : Kd) (xv : V), us = [.ref v, xv, .non] ∧ VwC P w K H v dx a l k sp vk vs Bk Bs ∧
  StF P w K A a S ∧ Same A H ∧ A l = none ∧ A k = none ∧ A sp = none ∧ lk S.kd x = some kk ∧ Ht S.kids n x ∧ Dp K H xv (sD x) ∧ Bk + 1 + (below S.kids n x).length ≤ 200 ∧ Bs + (below S.kids n x).length ≤ 200 ∧
  ∀ (H' : Hp) (vk' : Tb (List St2)) (vs' : Tb (St2 × Nat)), Fr [l, k, sp] H H' → VwC P w K H' v dx a l k sp vk' vs' (Bk + 1 + (below S.kids n x).length) (Bs + (below S.kids n x).length) →
    (∀ z, lk vk' z = if z = x ∨ z ∈ below S.kids n x then some (S.kids z) else lk vk z) → (∀ z, lk vs' z = if z ∈ below S.kids n x then S.spot z else lk vs z) → Q .non H'
theorem ok_take_in (T : Tx w K mg e0) (n : Nat) : Kn P w K mg base (8 + n) (He.ma K (He.ga K "TreeView") "take_in") ["self", "thing", "left_out"] (sp_take_in P w K n) := by
  have G_State_under : Kn P w K mg base 7 _ _ _ := ok_under T
  induction n with
  | zero =>
    have G_TreeView_take_in : Kn P w K mg base 8 (He.ma K (He.ga K "TreeView") "take_in") ["self", "thing", "left_out"] (fun vs H Q _ => vs.length = 3 ∧ False) := by
      refine T.d_TreeView_take_in.kn sc_TreeView_take_in (fun _ _ _ _ _ _ us hl => match us, hl with | [_, _, _], _ => rfl) (fun vs H Q E h => h.1) (fun cdv A outer s H vs Q E hr h => h.2.elim)
    obtain ⟨⟨fd, F, b⟩, kp⟩ := G_TreeView_take_in
    refine ⟨⟨fd, ⟨fun vs H Q E h => F.len vs H Q E ?_, fun A outer s H args us vs Q E hr e0 hb r h => ?_⟩, b⟩, kp⟩
    all_goals
      obtain ⟨_, v, dx, a, l, k, sp, vk, vs, Bk, Bs, A, S, x, kk, xv, _, _, _, _, _, _, _, _, hz, _⟩ := h
      exact hz.elim
  | succ n ih =>
  have G_TreeView_take_in : Kn P w K mg base (8 + n) _ _ _ := ih
  refine (show 8 + (n + 1) = (8 + n) + 1 by omega) ▸ T.d_TreeView_take_in.kn sc_TreeView_take_in (fun _ _ _ _ _ _ us hl => match us, hl with | [_, _, _], _ => rfl) (fun vs H Q E h => h.1) (fun cdv A0 outer s H us Q E hr h => ?_)
  have hu := hu65 hr
  obtain ⟨_, v, dx, a, l, k, sp, vk, vs, Bk, Bs, A, S, x, kk, xv, rfl, hV, hF, sA, hAl, hAk, hAsp, hk, hH, hx, hB1, hB2, q⟩ := h
  obtain ⟨⟨sdx, ak, ac, ap, au, al, ai, C⟩, hS, hSl⟩ := id hF
  refine ⟨_, (pss_cons (ps_setLc (i := 3) (own := [("kid", 4)]) (g := _) (by rfl) sc_TreeView_take_in.nd rfl rfl (sw_true rfl rfl rfl (by decide +kernel)) (pi_list (pe_mt (pe_fld (pv 0) rfl) T.cls_State T.me_State_under G_State_under (hr.mono (by first | decide | exact Nat.le_refl _ | exact Nat.le_add_right_of_le (by decide) | omega)) (pa_cons (pv 1) pa_nil))) (blkOk_by (N := n_TreeView_take_in) (sc := defScope s_TreeView_take_in) (by decide +kernel)) (fun _ _ _ _ _ => (pg_name (i := 4) sc_TreeView_take_in.nd rfl (Or.inl rfl))) (fun _ _ _ _ _ => pts_one (pt_cmpR (show OpR _ _ (rNeA K) from (op_neA hu)) (pv 4) (pv 2) (nomark _))) (fun _ _ _ _ _ => (pv 4)))
    (pss_cons (ps_expr (pe_bm PySem.F.plainAttrs_list PySem.F.slot_list_append PySem.F.type_list_append mt_append (pe_fld (pv 0) rfl) (pa_cons (pv 1) pa_nil)))
    (pss_cons (ps_asg (pv 3) (pg_sub (pe_fld (pv 0) rfl) (pv 1) (set_any hu)))
    (pss_one (ps_for PassesOwn.never rfl (pi_enum (by rfl) T.b_enumerate (pa_cons (pv 3) pa_nil)) (pg_tup (by rfl) (pgs_cons (pg_name (i := 5) sc_TreeView_take_in.nd rfl (Or.inl rfl)) (pgs_cons (pg_name (i := 4) sc_TreeView_take_in.nd rfl (Or.inl rfl)) pgs_nil))) (pss_cons (ps_asg (pe_tup (pa_cons (pv 1) (pa_cons (pv 5) pa_nil))) (pg_sub (pe_fld (pv 0) rfl) (pv 4) (set_any hu)))
    (pss_one (ps_expr (pe_mt (pv 0) T.cls_TreeView T.me_TreeView_take_in G_TreeView_take_in (hr.mono (by first | decide | exact Nat.le_refl _ | exact Nat.le_add_right_of_le (by decide) | omega)) (pa_cons (pv 4) (pa_cons (pv 2) pa_nil))))))))))), ?_⟩
  have hob := hV.ob
  have hFH := hF.same sA
  obtain ⟨⟨sdx2, ak2, ac2, ap2, au2, al2, ai2, CH⟩, _, _⟩ := id hFH
  refine ⟨_, rfl, v, _, dx, _, _, rfl, hob, T.cls_TreeView, T.na_TreeView_own_state, rfl, a, sdx2, _, rfl, CH.ob, rfl, _, rfl, rfl, a, S, xv, x, kk, rfl, hFH, hx, hk, fun p us hp hus => ⟨p, rfl, ⟨us, SqL.of upd_same⟩, fun D hD => ?_⟩⟩
  have s1 := same_new (o := .lst us) hp
  have hkl : (S.kids x).length ≤ 61 := by
    obtain ⟨rk, hun⟩ := hS.un
    have := nodup_le (hun.k.nd x) (fun y hy => hun.k.mem x y hy)
    rw [List.length_map] at this
    exact Nat.le_trans this hSl
  refine lc_src (K := K) walk_list (fun _ s => s.seq (SqL.of upd_same)) (S.kids x) sD (fun y => some (sD y)) (dpa_same s1 hus) hD (Nat.lt_of_le_of_lt hkl (by decide)) (fun y _ d e => by cases e; exact imm_sD y) (fun y v2 H2 Q2 R hm s2 hv q1 q2 => ?_) (fun H2 zs s2 hD2 hzs => ?_)
  · refine ⟨rfl, ?_⟩
    refine ⟨_, rfl, _, rfl, neD hv .non ⟨_, rfl, iteT ⟨_, rfl, q1 _ _ _ rfl hv (Same.refl _)⟩⟩ (shaped_sD _) rfl⟩
  rw [show (S.kids x).filterMap (fun y => some (sD y)) = (S.kids x).map sD by simp] at hzs
  have s3 := s1.trans s2
  have hDH : H D = none := same_none s1 hD
  have V2 := hV.same s3
  have hx2 := dp_same s3 hx
  obtain ⟨ws, hws, hwl⟩ := V2.line
  have f2 : Fr [l, k, sp] H H2 := Same.fr s3
  have hDl : D ≠ l := fun z => by
    obtain ⟨ws0, h0, _⟩ := hV.line
    rw [z, h0] at hDH
    cases hDH
  -- own_line.append(thing)
  refine ⟨_, rfl, v, _, dx, _, _, rfl, V2.ob, T.cls_TreeView, T.na_TreeView_own_line, rfl, .inl ⟨rfl, ws, SqL.of hws⟩, _, rfl, l, ws, xv, rfl, rfl, hws, Nat.lt_of_le_of_lt (show ws.length ≤ 200 by omega) (by decide), ?_⟩
  have V3 := V2.app (x := xv) hws hwl
  have hx3 := dp_tup (tup_lst (o := .lst (ws ++ [xv])) hws) (imm_sD x) hx2
  have hzs3 := dpa_tup (tup_lst (o := .lst (ws ++ [xv])) hws) (immAll_sD _) hzs
  have hD3 : (upd H2 l (.lst (ws ++ [xv]))) D = some (.lst zs) := by rw [upd_ne hDl]; exact hD2
  have f3 : Fr [l, k, sp] H (upd H2 l (.lst (ws ++ [xv]))) := f2.at (by simp)
  revert V3 hx3 hzs3 hD3 f3
  generalize upd H2 l (.lst (ws ++ [xv])) = H3
  intro V3 hx3 hzs3 hD3 f3
  -- own_kids[thing] = kids
  refine ⟨_, rfl, _, rfl, v, _, dx, _, _, rfl, V3.ob, T.cls_TreeView, T.na_TreeView_own_kids, rfl, _, rfl, ?_⟩
  refine V3.kids.put (x := S.kids x) rlx_stb hx3 ⟨D, zs, rfl, hDl, SqL.of hD3, hzs3⟩ (Nat.lt_of_le_of_lt (show vk.length ≤ 200 by have := hV.lk; omega) (by decide)) fun es3 d4 t4 => ?_
  have V4 := V3.setK d4 t4 (Nat.le_trans putM_len (Nat.succ_le_succ hV.lk))
  have hx4 := dp_tup t4.1 (imm_sD x) hx3
  have hzs4 := dpa_tup t4.1 (immAll_sD _) hzs3
  have hDk : D ≠ k := fun z => by
    obtain ⟨_, h0, _⟩ := hV.kids
    rw [z, h0] at hDH
    cases hDH
  have hDsp : D ≠ sp := fun z => by
    obtain ⟨_, h0, _⟩ := hV.spots
    rw [z, h0] at hDH
    cases hDH
  have hD4 : (upd H3 k (DO P w k es3)) D = some (.lst zs) := by rw [upd_ne hDk]; exact hD3
  have f4 : Fr [l, k, sp] H (upd H3 k (DO P w k es3)) := f3.at (by simp)
  revert V4 hx4 hzs4 hD4 f4
  generalize upd H3 k (DO P w k es3) = H4
  intro V4 hx4 hzs4 hD4 f4
  clear V3 d4 t4 V2
  have hzl : zs.length = (S.kids x).length := by rw [dpa_len hzs4, List.length_map]
  have hflat : ∀ j, (((S.kids x).take j).flatMap fun y => y :: below S.kids n y).length ≤ (below S.kids (n + 1) x).length := fun j => by
    show _ ≤ ((S.kids x).flatMap fun y => y :: below S.kids n y).length
    conv => rhs; rw [← List.take_append_drop j (S.kids x), List.flatMap_append, List.length_append]
    omega
  have hfin : (((S.kids x).take zs.length).flatMap fun y => y :: below S.kids n y) = below S.kids (n + 1) x := by
    rw [hzl, List.take_length]
    rfl
  refine ⟨_, rfl, D, zs, rfl, SqL.of hD4, ?_⟩
  refine for_it walk_enum (fun i σ Hi => (∃ o4 o5, σ = [some (.ref v), some xv, some .non, some (.ref D), o4, o5]) ∧ Fr [l, k, sp] H Hi ∧ TupLe H4 Hi ∧ Hi D = some (.lst zs) ∧ ∃ (vki : Tb (List St2)) (vsi : Tb (St2 × Nat)),
      VwC P w K Hi v dx a l k sp vki vsi (Bk + 1 + (((S.kids x).take i).flatMap fun y => y :: below S.kids n y).length) (Bs + (((S.kids x).take i).flatMap fun y => y :: below S.kids n y).length) ∧
      (∀ z, lk vki z = if z = x ∨ z ∈ (((S.kids x).take i).flatMap fun y => y :: below S.kids n y) then some (S.kids z) else lk vk z) ∧ (∀ z, lk vsi z = if z ∈ (((S.kids x).take i).flatMap fun y => y :: below S.kids n y) then S.spot z else lk vs z))
    ⟨⟨_, _, rfl⟩, f4, TupLe.refl _, hD4, _, vs, V4, fun z => ?_, fun z => by simp⟩ (fun _ _ _ _ p => SqL.of p.2.2.2.1) (fun i vv σ Hi H5 hi pp yy => ?_) (fun σ Hi pp => ?_)
  · rw [lk_put]
    by_cases e : z = x
    · simp [e]
    · simp [e]
  · obtain ⟨⟨o4, o5, rfl⟩, fi, ti, hDi, vki, vsi, Vi, hk1, hk2⟩ := pp
    obtain ⟨T1, e1, e2, rfl, hT1, rfl, he1, he2⟩ := yy
    cases he1
    obtain ⟨y, hy, hyv⟩ := dpa_mem hzs4 he2
    have hyk : y ∈ S.kids x := List.mem_of_getElem? hy
    obtain ⟨ky, hky⟩ := kid_kd hS hyk
    have hspot := hS.spot_at hy
    have s5 := same_new (o := .tup [.int (i : Nat), e2]) hT1
    have hx5 := dp_same s5 (dp_tup ti (imm_sD x) hx4)
    have hy5 := dp_same s5 (dp_tup ti (imm_sD y) hyv)
    have V5 := Vi.same s5
    have hfl : (((S.kids x).take (i + 1)).flatMap fun y => y :: below S.kids n y) = (((S.kids x).take i).flatMap fun y => y :: below S.kids n y) ++ (y :: below S.kids n y) := by
      rw [List.take_add_one, hy, List.flatMap_append]
      simp
    have hfll := hflat (i + 1)
    rw [hfl, List.length_append, List.length_cons] at hfll
    refine ⟨T1, _, rfl, SqT.of upd_same, rfl, _, _, rfl, _, _, rfl, rfl, ?_⟩
    -- own_spots[kid] = (thing, place)
    refine ⟨_, rfl, _, rfl, szL, fun p6 hp6 => ?_⟩
    have s6 := same_new (o := .tup [xv, .int (i : Nat)]) hp6
    have V6 := V5.same s6
    have hsp6 : RS K (upd (upd Hi T1 (.tup [.int (i : Nat), e2])) p6 (.tup [xv, .int (i : Nat)])) (.ref p6) (x, i) := ⟨.tup (SqT.of upd_same) (.cons (dp_same s6 hx5) (.cons (.int _) .nil)), imm_spot _⟩
    refine ⟨_, rfl, v, _, dx, _, _, rfl, V6.ob, T.cls_TreeView, T.na_TreeView_own_spots, rfl, _, rfl, ?_⟩
    refine V6.spots.put (x := (x, i)) rd_stb.stb (dp_same s6 hy5) hsp6 (Nat.lt_of_le_of_lt (show vsi.length ≤ 200 by have := Vi.ls; omega) (by decide)) fun es7 d7 t7 => ?_
    have V7 := V6.setS d7 t7 (Nat.le_trans putM_len (Nat.succ_le_succ V6.ls))
    have f7 : Fr [l, k, sp] H (upd (upd (upd Hi T1 (.tup [.int (i : Nat), e2])) p6 (.tup [xv, .int (i : Nat)])) sp (DO P w sp es7)) := ((fi.trans (Same.fr s5)).trans (Same.fr s6)).at (by simp)
    have hy7 := dp_tup t7.1 (imm_sD y) (dp_same s6 hy5)
    have ti7 := ((ti.trans (Same.tup s5)).trans (Same.tup s6)).trans t7.1
    have hD7 : (upd (upd (upd Hi T1 (.tup [.int (i : Nat), e2])) p6 (.tup [xv, .int (i : Nat)])) sp (DO P w sp es7)) D = some (.lst zs) := by
      rw [upd_ne hDsp]
      exact s6 _ _ (s5 _ _ hDi)
    revert V7 f7 hy7 ti7 hD7
    generalize upd (upd (upd Hi T1 (.tup [.int (i : Nat), e2])) p6 (.tup [xv, .int (i : Nat)])) sp (DO P w sp es7) = H7
    intro V7 f7 hy7 ti7 hD7
    have sA7 : Same A H7 := same_fr sA f7 (by
      intro z hz
      simp only [List.mem_cons, List.not_mem_nil, or_false] at hz
      rcases hz with rfl | rfl | rfl
      · exact hAl
      · exact hAk
      · exact hAsp)
    refine ⟨_, rfl, v, dx, _, rfl, V7.ob, rfl, _, rfl, _, rfl, rfl, v, dx, a, l, k, sp, vki, _, _, _, A, S, y, ky, e2, rfl, V7, hF, sA7, hAl, hAk, hAsp, hky, hH y hyk, hy7, by omega, by omega, fun H8 vk8 vs8 f8 V8 hk8 hs8 => ?_⟩
    refine ⟨⟨_, _, rfl⟩, f7.trans f8, ti7.trans (f8.tup ?_), f8.get hD7 (by simp [hDl, hDk, hDsp]), vk8, vs8, ?_, fun z => ?_, fun z => ?_⟩
    · intro z hz
      simp only [List.mem_cons, List.not_mem_nil, or_false] at hz
      rcases hz with rfl | rfl | rfl
      · obtain ⟨_, e, _⟩ := V7.line; exact nt_lst e
      · obtain ⟨_, e, _⟩ := V7.kids; exact nt_do e
      · obtain ⟨_, e, _⟩ := V7.spots; exact nt_do e
    · rw [hfl, List.length_append, List.length_cons]
      have e1 : Bk + 1 + ((((S.kids x).take i).flatMap fun y => y :: below S.kids n y).length + ((below S.kids n y).length + 1)) = Bk + 1 + (((S.kids x).take i).flatMap fun y => y :: below S.kids n y).length + 1 + (below S.kids n y).length := by omega
      have e2 : Bs + ((((S.kids x).take i).flatMap fun y => y :: below S.kids n y).length + ((below S.kids n y).length + 1)) = Bs + (((S.kids x).take i).flatMap fun y => y :: below S.kids n y).length + 1 + (below S.kids n y).length := by omega
      rw [e1, e2]
      exact V8
    · rw [hk8, hk1, hfl]
      by_cases c1 : z = y ∨ z ∈ below S.kids n y
      · rw [if_pos c1, if_pos (.inr (List.mem_append_right _ (by simpa using c1)))]
      · rw [if_neg c1]
        have c2 : (z ∈ (((S.kids x).take i).flatMap fun y => y :: below S.kids n y) ++ (y :: below S.kids n y)) ↔ z ∈ (((S.kids x).take i).flatMap fun y => y :: below S.kids n y) := by
          rw [List.mem_append, List.mem_cons]
          exact ⟨fun h => h.elim id fun h => absurd h c1, .inl⟩
        simp only [c2]
    · rw [hs8, lk_put, hk2, hfl]
      by_cases c1 : z ∈ below S.kids n y
      · rw [if_pos c1, if_pos (List.mem_append_right _ (List.mem_cons_of_mem _ c1))]
      · rw [if_neg c1]
        by_cases c2 : z = y
        · rw [if_pos c2, c2, if_pos (List.mem_append_right _ (List.mem_cons_self ..)), hspot]
        · rw [if_neg c2]
          have c3 : (z ∈ (((S.kids x).take i).flatMap fun y => y :: below S.kids n y) ++ (y :: below S.kids n y)) ↔ z ∈ (((S.kids x).take i).flatMap fun y => y :: below S.kids n y) := by
            rw [List.mem_append, List.mem_cons]
            exact ⟨fun h => h.elim id fun h => (h.elim c2 c1).elim, .inl⟩
          simp only [c3]
  · obtain ⟨⟨o4, o5, rfl⟩, fi, ti, hDi, vki, vsi, Vi, hk1, hk2⟩ := pp
    rw [hfin] at Vi hk1 hk2
    exact q Hi vki vsi fi Vi hk1 hk2
end Ss
/-! Walks: a view made and asked. -/
namespace Ss
open PySem PySem.Spec PyProof.Rows L2
variable {P : Program} {w : World} {K : PySem.W.Frag} {mg : Str → Option Value} {base : Heap} {e0 : Addr}
def SA.sp (S : SA) (z : St2) : Option (St2 × Nat) := if z ∈ below S.kids 64 ROOT then S.spot z else none
/-- a view of the whole tree -/
def VwF (P : Program) (w : World) (K : PySem.W.Frag) (H : Hp) (v a : Addr) (S : SA) : Prop := ∃ dx l k sp vk vs Bk Bs, VwC P w K H v dx a l k sp vk vs Bk Bs ∧ (∀ z ∈ S.line, lk vk z = some (S.kids z)) ∧ ∀ z, lk vs z = S.sp z
theorem VwF.same {H H' : Hp} {v a : Addr} {S : SA} (h : VwF P w K H v a S) (s : Same H H') : VwF P w K H' v a S := by
  obtain ⟨dx, l, k, sp, vk, vs, Bk, Bs, hV, h1, h2⟩ := h
  exact ⟨dx, l, k, sp, vk, vs, Bk, Bs, hV.same s, h1, h2⟩
abbrev vf1 (a : Addr) : List (Str × V) := [("own_state", .ref a)]
abbrev vf2 (a l : Addr) : List (Str × V) := vf1 a ++ [(("own_line" : Str), V.ref l)]
abbrev vf3 (a l k : Addr) : List (Str × V) := vf2 a l ++ [(("own_kids" : Str), V.ref k)]
def sp_TreeView_init (P : Program) (w : World) (K : PySem.W.Frag) : Sp := fun us H Q _ => us.length = 3 ∧ ∃ (v dx a : Addr) (S : SA), us = [.ref v, .ref a, .non] ∧ H v = some (.ins (He.ga K "TreeView") dx []) ∧ StF P w K H a S ∧
  ∀ H', Fr [v] H H' → VwF P w K H' v a S → Q .non H'
theorem ok_TreeView_init (T : Tx w K mg e0) : KnD P w K mg base 73 (He.ma K (He.ga K "TreeView") "__init__") ["self", "state", "left_out"] [.non] (sp_TreeView_init P w K) := by
  have G_TreeView_take_in : Kn P w K mg base 72 _ _ _ := ok_take_in T 64
  refine T.d_TreeView_init.kn sc_TreeView_init 2 0 (by decide) (by rfl) (fun _ _ _ _ _ _ _ us its hl hi => match us, its, hl, hi with | [_, _], [_], _, _ => ⟨_, rfl, rfl⟩) (fun vs H Q E h => h.1) (fun cdv A outer s H us Q E hr h => ?_)
  have hu := hu65 hr
  have hu1 := hu_of hr
  obtain ⟨_, v, dx, a, S, rfl, hv, hF, q⟩ := h
  obtain ⟨⟨sdx, ak, ac, ap, au, al, ai, C⟩, hS, hSl⟩ := id hF
  refine ⟨_, (pss_cons (ps_fld (pv 0) (pv 1) rfl)
    (pss_cons (ps_fld (pv 0) (pe_lst pa_nil) rfl)
    (pss_cons (ps_fld (pv 0) pe_dnew rfl)
    (pss_cons (ps_fld (pv 0) pe_dnew rfl)
    (pss_one (ps_expr (pe_mt (pv 0) T.cls_TreeView T.me_TreeView_take_in G_TreeView_take_in (hr.mono (by first | decide | exact Nat.le_refl _ | exact Nat.le_add_right_of_le (by decide) | omega)) (pa_cons (pe_globR rfl T.g_ROOT) (pa_cons (pv 2) pa_nil))))))))), ?_⟩
  refine ⟨_, rfl, _, rfl, v, _, dx, _, rfl, hv, T.cls_TreeView, T.na_TreeView_own_state, by simp, ?_⟩
  have hnv : ∀ {H2 : Hp} {c : Addr} {o : HO}, H2 v = some o → H2 c = none → c ≠ v := fun h n z => by rw [z, h] at n; cases n
  have g1 : (upd H v (.ins (He.ga K "TreeView") dx (vf1 a))) v = some (.ins (He.ga K "TreeView") dx (vf1 a)) := upd_same
  have f1 : Fr [v] H (upd H v (.ins (He.ga K "TreeView") dx (vf1 a))) := Fr.refl.at (by simp)
  show tSeq _ _ _ _ (upd H v (.ins (He.ga K "TreeView") dx (vf1 a)))
  revert g1 f1
  generalize upd H v (.ins (He.ga K "TreeView") dx (vf1 a)) = H1
  intro g1 f1
  refine ⟨szL, fun l hl => ?_⟩
  have s2 := same_new (o := .lst []) hl
  refine ⟨_, rfl, v, _, dx, _, rfl, s2 _ _ g1, T.cls_TreeView, T.na_TreeView_own_line, by simp, ?_⟩
  rw [putF_new (ks := ["own_state"]) rfl (by decide +kernel)]
  have hlH := fr_none f1 (by simpa using hnv g1 hl) hl
  have l2 : (upd (upd H1 l (.lst [])) v (.ins (He.ga K "TreeView") dx (vf2 a l))) l = some (.lst []) := by rw [upd_ne (hnv g1 hl)]; exact upd_same
  have g2 : (upd (upd H1 l (.lst [])) v (.ins (He.ga K "TreeView") dx (vf2 a l))) v = some (.ins (He.ga K "TreeView") dx (vf2 a l)) := upd_same
  have f2 : Fr [v] H (upd (upd H1 l (.lst [])) v (.ins (He.ga K "TreeView") dx (vf2 a l))) := (f1.trans (Same.fr s2)).at (by simp)
  show tSeq _ _ _ _ (upd (upd H1 l (.lst [])) v (.ins (He.ga K "TreeView") dx (vf2 a l)))
  revert g2 f2 l2
  generalize upd (upd H1 l (.lst [])) v (.ins (He.ga K "TreeView") dx (vf2 a l)) = H2
  intro l2 g2 f2
  intro k hk
  have s3 := same_new (o := DO P w k []) hk
  refine ⟨_, rfl, v, _, dx, _, rfl, s3 _ _ g2, T.cls_TreeView, T.na_TreeView_own_kids, by simp, ?_⟩
  rw [putF_new (ks := ["own_state", "own_line"]) rfl (by decide +kernel)]
  have hkH := fr_none f2 (by simpa using hnv g2 hk) hk
  have d3 : DM P w K (RLx K l) (upd (upd H2 k (DO P w k [])) v (.ins (He.ga K "TreeView") dx (vf3 a l k))) k [] := (show DM P w K (RLx K l) (upd H2 k (DO P w k [])) k [] from ⟨[], upd_same, .nil⟩).pst rlx_stb (s3 _ _ g2)
  have l3 : (upd (upd H2 k (DO P w k [])) v (.ins (He.ga K "TreeView") dx (vf3 a l k))) l = some (.lst []) := by
    rw [upd_ne (fun z => by rw [z, g2] at l2; cases l2)]
    exact s3 _ _ l2
  have g3 : (upd (upd H2 k (DO P w k [])) v (.ins (He.ga K "TreeView") dx (vf3 a l k))) v = some (.ins (He.ga K "TreeView") dx (vf3 a l k)) := upd_same
  have f3 : Fr [v] H (upd (upd H2 k (DO P w k [])) v (.ins (He.ga K "TreeView") dx (vf3 a l k))) := (f2.trans (Same.fr s3)).at (by simp)
  show tSeq _ _ _ _ (upd (upd H2 k (DO P w k [])) v (.ins (He.ga K "TreeView") dx (vf3 a l k)))
  revert g3 f3 l3 d3
  generalize upd (upd H2 k (DO P w k [])) v (.ins (He.ga K "TreeView") dx (vf3 a l k)) = H3
  intro d3 l3 g3 f3
  intro sp hsp
  have s4 := same_new (o := DO P w sp []) hsp
  refine ⟨_, rfl, v, _, dx, _, rfl, s4 _ _ g3, T.cls_TreeView, T.na_TreeView_own_spots, by simp, ?_⟩
  rw [putF_new (ks := ["own_state", "own_line", "own_kids"]) rfl (by decide +kernel)]
  have hspH := fr_none f3 (by simpa using hnv g3 hsp) hsp
  have d4 : DM P w K (RS K) (upd (upd H3 sp (DO P w sp [])) v (vwO K dx a l k sp)) sp [] := (show DM P w K (RS K) (upd H3 sp (DO P w sp [])) sp [] from ⟨[], upd_same, .nil⟩).pst rd_stb.stb (s4 _ _ g3)
  have k4 : DM P w K (RLx K l) (upd (upd H3 sp (DO P w sp [])) v (vwO K dx a l k sp)) k [] := (d3.same rlx_stb s4).pst rlx_stb (s4 _ _ g3)
  have l4 : (upd (upd H3 sp (DO P w sp [])) v (vwO K dx a l k sp)) l = some (.lst []) := by
    rw [upd_ne (fun z => by rw [z, g3] at l3; cases l3)]
    exact s4 _ _ l3
  have hks : k ≠ sp := fun z => by
    obtain ⟨_, e, _⟩ := d3
    rw [z, hsp] at e
    cases e
  have V4 : VwC P w K (upd (upd H3 sp (DO P w sp [])) v (vwO K dx a l k sp)) v dx a l k sp [] [] 0 0 := ⟨upd_same, ⟨[], l4, Nat.le_refl _⟩, k4, d4, Nat.le_refl _, Nat.le_refl _, hks⟩
  have f4 : Fr [v] H (upd (upd H3 sp (DO P w sp [])) v (vwO K dx a l k sp)) := (f3.trans (Same.fr s4)).at (by simp)
  -- the anchor: all of H but the view itself
  have hva : v ≠ a := fun z => by
    have := C.ob
    rw [← z, hv] at this
    exact absurd (HO.ins.inj (Option.some.inj this)).2.2 (by simp)
  have hF0 : StF P w K (fun c => if c = v then none else H c) a S := by
    have s : ∀ {c : Addr} {u : HO}, H c = some u → (∀ x y z, u ≠ .ins x y z) ∨ c ≠ v → (if c = v then none else H c) = some u := fun {c u} e h => by
      rw [if_neg (fun z => by
        rcases h with h | h
        · rw [z, hv] at e; exact h _ _ _ (Option.some.inj e).symm
        · exact h z)]
      exact e
    have tl : ∀ (K : PySem.W.Frag) (b : Addr) (xs : List V), SqT K H b xs → SqT K (fun c => if c = v then none else H c) b xs := fun K b xs h => by
      rcases h with (h | ⟨o, h⟩) | h
      · exact .inl (.inl (s h (.inl fun _ _ _ z => nomatch z)))
      · exact .inl (.inr ⟨o, s h (.inl fun _ _ _ z => nomatch z)⟩)
      · exact .inr h
    have ll : ∀ (K : PySem.W.Frag) (b : Addr) (xs : List V), SqL K H b xs → SqL K (fun c => if c = v then none else H c) b xs := fun K b xs h => by
      rcases h with (h | ⟨o, h⟩) | h
      · exact .inl (.inl (s h (.inl fun _ _ _ z => nomatch z)))
      · exact .inl (.inr ⟨o, s h (.inl fun _ _ _ z => nomatch z)⟩)
      · exact .inr h
    have dm : ∀ {α : Type} {R : Hp → V → α → Prop} {c : Addr} {m : Tb α}, Stb R → DM P w K R H c m → DM P w K R (fun c => if c = v then none else H c) c m := fun {α R c m} st h => h.moveL st ⟨tl, ll⟩ fun u e => by
      obtain ⟨es, e2, _⟩ := h
      rw [e2] at e
      cases e
      exact s e2 (.inl fun _ _ _ z => nomatch z)
    obtain ⟨vs, h1, h2⟩ := C.line
    exact ⟨⟨sdx, ak, ac, ap, au, al, ai, s C.ob (.inr (Ne.symm hva)), dm rd_stb.stb C.kd, dm rd_stb.stb C.ct, dm rls_stb C.un, ⟨vs, ll _ _ _ h1, dpa_tup tl (immAll_sD _) h2⟩, dm ryes_stb C.inn⟩, hS, hSl⟩
  have sA : Same (fun c => if c = v then none else H c) (upd (upd H3 sp (DO P w sp [])) v (vwO K dx a l k sp)) := fun c u e => by
    have e : (if c = v then none else H c) = some u := e
    by_cases hc : c = v
    · rw [if_pos hc] at e; cases e
    · rw [if_neg hc] at e
      exact f4 c u (by simpa using hc) e
  have nA : ∀ {c : Addr}, H c = none → (fun c => if c = v then none else H c) c = none := fun {c} h => by
    show (if c = v then none else H c) = none
    by_cases hc : c = v
    · rw [if_pos hc]
    · rw [if_neg hc]; exact h
  obtain ⟨rk, hun⟩ := hS.un
  have hbl : (below S.kids 64 ROOT).length ≤ 61 := by
    have := below_len hun.k 64 ROOT
    rw [List.length_map] at this
    exact Nat.le_trans this hSl
  refine ⟨_, rfl, v, dx, _, rfl, V4.ob, rfl, _, rfl, rfl, v, dx, a, l, k, sp, [], [], 0, 0, _, S, ROOT, .block, _, rfl, V4, hF0, sA, nA hlH, nA hkH, nA hspH, hS.root, hS.ht, dp_stamp (k := ROOT) (T.tu_ROOT _), by omega, by omega, fun H5 vk' vs' f5 V5 hk5 hs5 => ?_⟩
  refine q H5 ?_ ⟨dx, l, k, sp, vk', vs', _, _, V5, fun z hz => ?_, fun z => ?_⟩
  · exact fun c u n e => f5 c u (by
      simp only [List.mem_cons, List.not_mem_nil, or_false, not_or]
      refine ⟨fun z => ?_, fun z => ?_, fun z => ?_⟩
      · rw [z, hlH] at e; cases e
      · rw [z, hkH] at e; cases e
      · rw [z, hspH] at e; cases e) (f4 c u n e)
  · rw [hk5]
    rcases List.mem_cons.mp hz with e | e
    · rw [if_pos (.inl e)]
    · rw [if_pos (.inr e)]
  · rw [hs5]
    unfold SA.sp
    rfl
end Ss
/-! Views: what is seen from a thing. -/
namespace Ss
open PySem PySem.Spec PyProof.Rows L2
def SA.isLet (S : SA) (k : St2) : Bool := decide (lk S.kd k = some .lt)
def SA.lastLet (S : SA) (u : St2) (p : Nat) : Option St2 := ((S.kids u).take p).reverse.find? S.isLet
def SA.nearF (S : SA) : Nat → St2 → Nat → Option St2
  | 0, _, _ => none
  | n + 1, u, p => match S.lastLet u p with
    | some k => some k
    | none => match S.sp u with
      | none => none
      | some x => SA.nearF S n x.1 x.2
def SA.nearW (S : SA) (z : St2) : Option St2 := match S.sp z with
  | none => none
  | some x => S.nearF 64 x.1 x.2
def SA.chainF (S : SA) : Nat → Option St2 → List St2
  | _, none => []
  | 0, some _ => []
  | n + 1, some k => k :: SA.chainF S n (S.nearW k)
def SA.visible (S : SA) (z : St2) : List St2 := S.chainF 64 (S.nearW z)
def SA.pos (S : SA) (z : St2) : Nat := S.ends.idxOf z
theorem idx_lt {α : Type} [BEq α] [LawfulBEq α] {p q : List α} {a b : α} (nd : (p ++ q).Nodup) (ha : a ∈ p) (hb : b ∈ q) : (p ++ q).idxOf a < (p ++ q).idxOf b := by
  have hbp : b ∉ p := fun h => (List.nodup_append.mp nd).2.2 b h b hb rfl
  rw [List.idxOf_append, if_pos ha, List.idxOf_append, if_neg hbp]
  have := List.idxOf_lt_length_of_mem ha
  omega
section
variable {S : SA}
theorem SInv.line_anc (h : SInv S) {z : St2} : z ∈ S.line ↔ Anc S.kids ROOT z := by
  constructor
  · intro hz
    rcases List.mem_cons.mp hz with rfl | hz
    · exact .refl
    · obtain ⟨y, hy, a⟩ := below_anc hz
      exact a.top hy
  · intro a
    rcases anc_below h.ht a with e | e
    · rw [e]; exact List.mem_cons_self ..
    · exact List.mem_cons_of_mem _ e
theorem SInv.ends_perm (h : SInv S) : S.ends.Perm S.line := Ss.ends_perm h.ht
theorem SInv.ends_nd (h : SInv S) : S.ends.Nodup := h.ends_perm.nodup_iff.mpr h.line_nd
theorem seg {kids : St2 → List St2} {m : Nat} {x y : St2} (hy : y ∈ kids x) : ∃ a b, ends kids (m + 1) x = a ++ ends kids m y ++ b ++ [x] := by
  obtain ⟨a, b, e⟩ := List.append_of_mem hy
  refine ⟨a.flatMap fun y => ends kids m y, b.flatMap fun y => ends kids m y, ?_⟩
  show ((kids x).flatMap fun y => ends kids m y) ++ [x] = _
  rw [e, List.flatMap_append, List.flatMap_cons]
  simp [List.append_assoc]
theorem SInv.segment (h : SInv S) {x : St2} (a : Anc S.kids ROOT x) : ∃ m l1 l3, Ht S.kids m x ∧ S.ends = l1 ++ Ss.ends S.kids m x ++ l3 := by
  induction a with
  | refl => exact ⟨64, [], [], h.ht, by simp [SA.ends]⟩
  | @step p z hz _ ih =>
    obtain ⟨m, l1, l3, hm, e⟩ := ih
    cases m with
    | zero => exact hm.elim
    | succ m =>
      obtain ⟨a, b, e2⟩ := seg (kids := S.kids) (m := m) hz
      refine ⟨m, l1 ++ a, b ++ [p] ++ l3, hm z hz, ?_⟩
      rw [e, e2]
      simp [List.append_assoc]
theorem self_ends {kids : St2 → List St2} {m : Nat} {x : St2} (h : Ht kids m x) : x ∈ ends kids m x := (ends_perm h).mem_iff.mpr (List.mem_cons_self ..)
theorem anc_ends {kids : St2 → List St2} {m : Nat} {x z : St2} (h : Ht kids m x) (a : Anc kids x z) : z ∈ ends kids m x := (ends_perm h).mem_iff.mpr (by
  rcases anc_below h a with e | e
  · rw [e]; exact List.mem_cons_self ..
  · exact List.mem_cons_of_mem _ e)
/-- children end before -/
theorem SInv.pos_kid (h : SInv S) {x y : St2} (hx : x ∈ S.line) (hy : y ∈ S.kids x) : S.pos y < S.pos x := by
  obtain ⟨m, l1, l3, hm, e⟩ := h.segment (h.line_anc.mp hx)
  cases m with
  | zero => exact hm.elim
  | succ m =>
    obtain ⟨a, b, e2⟩ := seg (kids := S.kids) (m := m) hy
    have e3 : S.ends = (l1 ++ a ++ Ss.ends S.kids m y ++ b) ++ (x :: l3) := by rw [e, e2]; simp [List.append_assoc]
    unfold SA.pos
    have nd := h.ends_nd
    rw [e3] at nd ⊢
    exact idx_lt (a := y) (b := x) nd (by simp [self_ends (hm y hy)]) (by simp)
/-- an earlier child ends before all that stands at a later one -/
theorem SInv.pos_sib (h : SInv S) {u k y z : St2} {i j : Nat} (hu : u ∈ S.line) (hi : (S.kids u)[i]? = some k) (hj : (S.kids u)[j]? = some y) (hij : i < j) (hz : Anc S.kids y z) : S.pos k < S.pos z := by
  obtain ⟨m, l1, l3, hm, e⟩ := h.segment (h.line_anc.mp hu)
  cases m with
  | zero => exact hm.elim
  | succ m =>
    have hk : k ∈ (S.kids u).take j := by
      refine List.mem_of_getElem? (i := i) ?_
      rw [List.getElem?_take, if_pos hij]
      exact hi
    have hy : y ∈ (S.kids u).drop j := by
      refine List.mem_of_getElem? (i := 0) ?_
      rw [List.getElem?_drop]
      exact hj
    have hku : k ∈ S.kids u := List.mem_of_getElem? hi
    have hyu : y ∈ S.kids u := List.mem_of_getElem? hj
    have e2 : Ss.ends S.kids (m + 1) u = ((S.kids u).take j).flatMap (fun y => Ss.ends S.kids m y) ++ (((S.kids u).drop j).flatMap (fun y => Ss.ends S.kids m y) ++ [u]) := by
      show ((S.kids u).flatMap fun y => Ss.ends S.kids m y) ++ [u] = _
      conv => lhs; rw [← List.take_append_drop j (S.kids u), List.flatMap_append]
      rw [List.append_assoc]
    have e3 : S.ends = (l1 ++ ((S.kids u).take j).flatMap (fun y => Ss.ends S.kids m y)) ++ ((((S.kids u).drop j).flatMap (fun y => Ss.ends S.kids m y) ++ [u]) ++ l3) := by rw [e, e2]; simp [List.append_assoc]
    unfold SA.pos
    have nd := h.ends_nd
    rw [e3] at nd ⊢
    refine idx_lt nd (List.mem_append_right _ (List.mem_flatMap.mpr ⟨k, hk, self_ends (hm k hku)⟩)) ?_
    exact List.mem_append_left _ (List.mem_append_left _ (List.mem_flatMap.mpr ⟨y, hy, anc_ends (hm y hyu) hz⟩))
theorem SInv.sp_at (h : SInv S) {z : St2} {x : St2 × Nat} (e : S.sp z = some x) : x.1 ∈ S.line ∧ (S.kids x.1)[x.2]? = some z ∧ z ∈ S.line := by
  unfold SA.sp at e
  by_cases hz : z ∈ below S.kids 64 ROOT
  · rw [if_pos hz] at e
    have hzl : z ∈ S.line := List.mem_cons_of_mem _ hz
    have a := h.line_anc.mp hzl
    cases a with
    | refl => 
      obtain ⟨rk, hun⟩ := h.un
      exact absurd ((below_nodup hun.k 64 ROOT).2 ROOT hz).2 (Nat.lt_irrefl _)
    | @step p z hzp a =>
      obtain ⟨i, hi, hiz⟩ := List.getElem_of_mem hzp
      have hi2 : (S.kids p)[i]? = some z := by rw [List.getElem?_eq_getElem hi, hiz]
      rw [h.spot_at hi2] at e
      cases e
      exact ⟨h.line_anc.mpr a, hi2, hzl⟩
  · rw [if_neg hz] at e; cases e
theorem SInv.sp_root (h : SInv S) : S.sp ROOT = none := by
  cases e : S.sp ROOT with
  | none => rfl
  | some x =>
    unfold SA.sp at e
    by_cases hz : ROOT ∈ below S.kids 64 ROOT
    · obtain ⟨rk, hun⟩ := h.un
      exact absurd ((below_nodup hun.k 64 ROOT).2 ROOT hz).2 (Nat.lt_irrefl _)
    · rw [if_neg hz] at e; cases e
theorem SInv.sp_in (h : SInv S) {z : St2} : (S.sp z).isSome = true ↔ z ∈ below S.kids 64 ROOT := by
  unfold SA.sp
  by_cases hz : z ∈ below S.kids 64 ROOT
  · rw [if_pos hz]
    have a := h.line_anc.mp (List.mem_cons_of_mem _ hz)
    cases a with
    | refl =>
      obtain ⟨rk, hun⟩ := h.un
      exact absurd ((below_nodup hun.k 64 ROOT).2 ROOT hz).2 (Nat.lt_irrefl _)
    | @step p z hzp a =>
      obtain ⟨i, hi, hiz⟩ := List.getElem_of_mem hzp
      rw [h.spot_at (u := p) (i := i) (by rw [List.getElem?_eq_getElem hi, hiz])]
      exact ⟨fun _ => hz, fun _ => rfl⟩
  · rw [if_neg hz]
    exact ⟨fun z => (by cases z), fun z => absurd z hz⟩
theorem SInv.lastLet_at (h : SInv S) {u k : St2} {p : Nat} (e : S.lastLet u p = some k) : S.isLet k = true ∧ ∃ i, i < p ∧ (S.kids u)[i]? = some k := by
  refine ⟨List.find?_some e, ?_⟩
  have hm := List.mem_of_find?_eq_some e
  rw [List.mem_reverse] at hm
  obtain ⟨i, hi, hk⟩ := List.getElem_of_mem hm
  rw [List.length_take] at hi
  rw [List.getElem_take] at hk
  exact ⟨i, by omega, by rw [List.getElem?_eq_getElem (by omega), hk]⟩
theorem SInv.nearF_at (h : SInv S) : ∀ {n : Nat} {u y z k : St2} {p : Nat}, u ∈ S.line → (S.kids u)[p]? = some y → Anc S.kids y z → S.nearF n u p = some k → k ∈ S.line ∧ S.isLet k = true ∧ S.pos k < S.pos z
  | 0, _, _, _, _, _, _, _, _, e => by cases e
  | n + 1, u, y, z, k, p, hu, hy, hz, e => by
    unfold SA.nearF at e
    cases hl : S.lastLet u p with
    | some k' =>
      rw [hl] at e
      cases e
      obtain ⟨h1, i, hi, hk⟩ := h.lastLet_at hl
      exact ⟨h.kid_line hu (List.mem_of_getElem? hk), h1, h.pos_sib hu hk hy hi hz⟩
    | none =>
      rw [hl] at e
      cases hs : S.sp u with
      | none => rw [hs] at e; cases e
      | some x =>
        rw [hs] at e
        obtain ⟨h1, h2, _⟩ := h.sp_at hs
        exact h.nearF_at h1 h2 (hz.top (List.mem_of_getElem? hy)) e
theorem SInv.nearW_at (h : SInv S) {z k : St2} (e : S.nearW z = some k) : k ∈ S.line ∧ S.isLet k = true ∧ S.pos k < S.pos z := by
  unfold SA.nearW at e
  cases hs : S.sp z with
  | none => rw [hs] at e; cases e
  | some x =>
    rw [hs] at e
    obtain ⟨h1, h2, _⟩ := h.sp_at hs
    exact h.nearF_at h1 h2 .refl e
theorem SInv.chainF_at (h : SInv S) : ∀ {n : Nat} {z : St2} {o : Option St2}, (∀ k, o = some k → k ∈ S.line ∧ S.isLet k = true ∧ S.pos k < S.pos z) → ∀ b ∈ S.chainF n o, b ∈ S.line ∧ S.isLet b = true ∧ S.pos b < S.pos z
  | n, z, none, _, b, hb => by cases n <;> simp [SA.chainF] at hb
  | 0, z, some k, _, b, hb => by simp [SA.chainF] at hb
  | n + 1, z, some k, ho, b, hb => by
    obtain ⟨h1, h2, h3⟩ := ho k rfl
    rcases List.mem_cons.mp hb with rfl | hb
    · exact ⟨h1, h2, h3⟩
    · have := h.chainF_at (n := n) (z := k) (fun k' e => h.nearW_at e) b hb
      exact ⟨this.1, this.2.1, Nat.lt_trans this.2.2 h3⟩
theorem SInv.visible_at (h : SInv S) {z b : St2} (hb : b ∈ S.visible z) : b ∈ S.line ∧ S.isLet b = true ∧ S.pos b < S.pos z := h.chainF_at (fun _ e => h.nearW_at e) b hb
theorem SInv.pos_lt (h : SInv S) (hl : S.kd.length ≤ 61) {z : St2} (hz : z ∈ S.line) : S.pos z < 62 := by
  have := List.idxOf_lt_length_of_mem (h.ends_perm.mem_iff.mpr hz)
  have h2 := h.line_len hl
  rw [← h.ends_perm.length_eq] at h2
  unfold SA.pos
  omega
/-- less than 64 steps up -/
theorem depth_lt {kids : St2 → List St2} {U : List St2} {rk : St2 → Nat} (K : Kds kids U rk) : ∀ {n : Nat} {x z : St2}, Ht kids n x → z ∈ below kids n x → rk z < rk x + n
  | 0, x, z, h, _ => h.elim
  | n + 1, x, z, h, hz => by
    obtain ⟨y, hy, hm⟩ := List.mem_flatMap.mp hz
    have h1 := K.rk _ _ hy
    have h2 := h y hy
    rcases List.mem_cons.mp hm with rfl | hm
    · cases n with
      | zero => exact h2.elim
      | succ n => omega
    · have := depth_lt K h2 hm
      omega
/-- what a use is bound to, as it stands -/
def SA.bind (S : SA) (use : St2) : Option St2 := unB ((lk S.ct use).getD .none)
/-- what is told of a use -/
inductive Told where
  | none | gone | out
  | bound (b : St2)
def SA.told (S : SA) (use : St2) : Told := match S.bind use with
  | .none => .none
  | some b => if (S.sp b).isSome && S.isLet b then (if b ∈ S.visible use then .bound b else .out) else .gone
def Told.d : Told → PyData
  | .none => .tuple [.str "none"]
  | .gone => .tuple [.str "gone"]
  | .out => .tuple [.str "out"]
  | .bound b => .tuple [.str "bound", sD b]
theorem SInv.told_at (h : SInv S) {use b : St2} (e : S.told use = .bound b) : b ∈ S.line ∧ S.isLet b = true ∧ S.pos b < S.pos use := by
  unfold SA.told at e
  cases hb : S.bind use with
  | none => rw [hb] at e; cases e
  | some b' =>
    rw [hb] at e
    by_cases c1 : ((S.sp b').isSome && S.isLet b') = true
    · simp only [c1, if_true] at e
      by_cases c2 : b' ∈ S.visible use
      · simp only [c2, if_true] at e
        cases e
        exact h.visible_at c2
      · simp only [c2, if_false] at e
        cases e
    · simp only [c1, if_false] at e
      cases e
end
end Ss
/-! Parts, values, rows: plain. -/
namespace Ss
open PySem PySem.Spec PyProof.Rows L2
def SA.others (S : SA) (z : St2) : List St2 := (S.kids z).filter fun y => !S.isLet y
def SA.parts (S : SA) (z : St2) : List St2 := match lk S.kd z with
  | some .number => []
  | some .use => match S.told z with
    | .bound b => [b]
    | _ => []
  | some .sum => S.others z
  | some .product => S.others z
  | some _ => (S.others z).drop ((S.others z).length - 1)
  | none => []
def allS : List (Option Int) → Option (List Int)
  | [] => some []
  | none :: _ => none
  | some i :: r => (allS r).map (i :: ·)
def Kd.joinI (k : Kd) (ns : List Int) : Option Int := match k with
  | .sum => some (ns.sum % 9973)
  | .product => some (ns.foldl (fun a b => a * b % 9973) 1)
  | k => match ns.getLast? with
    | none => if k = .use then none else some 0
    | some x => some x
def Kd.join (k : Kd) (vs : List (Option Int)) : Option Int := match allS vs with
  | none => none
  | some ns => k.joinI ns
def SA.num (S : SA) (z : St2) : Option Int := match lk S.ct z with
  | some (.int n) => some n
  | _ => none
def SA.valF (S : SA) : Nat → St2 → Option Int
  | 0, _ => none
  | n + 1, z => match lk S.kd z with
    | some .number => S.num z
    | some k => k.join ((S.parts z).map (SA.valF S n))
    | none => none
def SA.val (S : SA) (z : St2) : Option Int := S.valF 64 z
theorem allS_none {vs : List (Option Int)} : allS vs = none ↔ none ∈ vs := by
  induction vs with
  | nil => simp [allS]
  | cons v r ih =>
    cases v with
    | none => simp [allS]
    | some i =>
      simp only [allS, List.mem_cons, reduceCtorEq, false_or]
      rw [← ih]
      cases allS r <;> simp
theorem allS_some {vs : List (Option Int)} {ns : List Int} (h : allS vs = some ns) : vs = ns.map some := by
  induction vs generalizing ns with
  | nil => cases h; rfl
  | cons v r ih =>
    cases v with
    | none => cases h
    | some i =>
      simp only [allS] at h
      cases hr : allS r with
      | none => rw [hr] at h; cases h
      | some ms =>
        rw [hr] at h
        cases h
        rw [List.map_cons, ih hr]
section
variable {S : SA}
theorem SA.others_kid {z y : St2} (h : y ∈ S.others z) : y ∈ S.kids z := (List.mem_filter.mp h).1
theorem SInv.parts_at (h : SInv S) {z y : St2} (hz : z ∈ S.line) (hy : y ∈ S.parts z) : y ∈ S.line ∧ S.pos y < S.pos z := by
  have kid : y ∈ S.others z → y ∈ S.line ∧ S.pos y < S.pos z := fun hy => ⟨h.kid_line hz (SA.others_kid hy), h.pos_kid hz (SA.others_kid hy)⟩
  have use : ∀ b, S.told z = .bound b → y = b → y ∈ S.line ∧ S.pos y < S.pos z := fun b e1 e2 => by
    obtain ⟨h1, _, h3⟩ := h.told_at e1
    exact e2 ▸ ⟨h1, h3⟩
  unfold SA.parts at hy
  cases hk : lk S.kd z with
  | none => rw [hk] at hy; simp at hy
  | some k =>
    rw [hk] at hy
    cases k with
    | number => simp at hy
    | use =>
      cases ht : S.told z with
      | bound b => simp [ht] at hy; exact use b ht hy
      | none => simp [ht] at hy
      | gone => simp [ht] at hy
      | out => simp [ht] at hy
    | sum => exact kid hy
    | product => exact kid hy
    | block => exact kid (List.mem_of_mem_drop hy)
    | lt => exact kid (List.mem_of_mem_drop hy)
theorem SInv.valF_same (h : SInv S) : ∀ {n m : Nat} {z : St2}, z ∈ S.line → S.pos z < n → S.pos z < m → S.valF n z = S.valF m z
  | 0, _, _, _, e, _ => absurd e (Nat.not_lt_zero _)
  | _, 0, _, _, _, e => absurd e (Nat.not_lt_zero _)
  | n + 1, m + 1, z, hz, h1, h2 => by
    unfold SA.valF
    cases hk : lk S.kd z with
    | none => rfl
    | some k =>
      have e : (S.parts z).map (SA.valF S n) = (S.parts z).map (SA.valF S m) := by
        refine List.map_congr_left fun y hy => ?_
        obtain ⟨h3, h4⟩ := h.parts_at hz hy
        exact h.valF_same h3 (by omega) (by omega)
      cases k <;> simp only [e]
theorem SInv.val_eq (h : SInv S) (hl : S.kd.length ≤ 61) {z : St2} {k : Kd} (hz : z ∈ S.line) (hk : lk S.kd z = some k) : S.val z = if k = .number then S.num z else k.join ((S.parts z).map S.val) := by
  have hp := h.pos_lt hl hz
  have e : (S.parts z).map (SA.valF S 63) = (S.parts z).map S.val := by
    refine List.map_congr_left fun y hy => ?_
    obtain ⟨h3, h4⟩ := h.parts_at hz hy
    exact h.valF_same h3 (by omega) (by omega)
  show SA.valF S (63 + 1) z = _
  unfold SA.valF
  rw [hk]
  cases k <;> simp only [e] <;> simp
theorem SInv.num_some (h : SInv S) {z : St2} (hk : lk S.kd z = some .number) (hz : z ≠ ROOT) : ∃ n, S.num z = some n ∧ lk S.ct z = some (.int n) := by
  obtain ⟨c, hc, n, rfl, _⟩ := h.ct z _ hk hz
  refine ⟨n, ?_, hc⟩
  unfold SA.num
  rw [hc]
/-- a lost use: no value, no parts -/
def SA.lost (S : SA) (z : St2) : Bool := decide (lk S.kd z = some .use) && (S.parts z).isEmpty
theorem join_none {k : Kd} {vs : List (Option Int)} (h : none ∈ vs) : k.join vs = none := by
  unfold Kd.join
  rw [allS_none.mpr h]
theorem join_nil {k : Kd} (hk : k ≠ .use) : k.join [] ≠ none := by
  cases k <;> simp [Kd.join, Kd.joinI, allS] <;> exact hk rfl
theorem join_some {k : Kd} {vs : List (Option Int)} (h : none ∉ vs) (hne : vs ≠ []) : k.join vs ≠ none := by
  cases hs : allS vs with
  | none => exact absurd (allS_none.mp hs) h
  | some ns =>
    have e := allS_some hs
    unfold Kd.join
    rw [hs]
    have hn : ns ≠ [] := fun z => hne (by rw [e, z]; rfl)
    show k.joinI ns ≠ none
    unfold Kd.joinI
    cases k <;> simp only [ne_eq, reduceCtorEq, not_false_eq_true] <;>
    · rw [List.getLast?_eq_some_getLast hn]
      simp
theorem SInv.val_part (h : SInv S) (hl : S.kd.length ≤ 61) {z y : St2} (hz : z ∈ S.line) (hy : y ∈ S.parts z) (hv : S.val y = none) : S.val z = none := by
  obtain ⟨k, hk⟩ := h.line_kd hz
  rw [h.val_eq hl hz hk]
  by_cases e : k = .number
  · subst e
    unfold SA.parts at hy
    rw [hk] at hy
    simp at hy
  · rw [if_neg e]
    exact join_none (by rw [← hv]; exact List.mem_map_of_mem hy)
theorem SInv.val_lost (h : SInv S) (hl : S.kd.length ≤ 61) {z : St2} (hz : z ∈ S.line) (he : S.lost z = true) : S.val z = none := by
  unfold SA.lost at he
  rw [Bool.and_eq_true] at he
  have hk := of_decide_eq_true he.1
  rw [h.val_eq hl hz hk, List.isEmpty_iff.mp he.2]
  rfl
theorem SInv.none_lost (h : SInv S) (hl : S.kd.length ≤ 61) {z : St2} (hz : z ∈ S.line) (hv : S.val z = none) (hp : S.parts z = []) : S.lost z = true := by
  obtain ⟨k, hk⟩ := h.line_kd hz
  rw [h.val_eq hl hz hk] at hv
  unfold SA.lost
  rw [hp, hk]
  by_cases e : k = .number
  · subst e
    have hr : z ≠ ROOT := fun e => by rw [e, h.root] at hk; cases hk
    obtain ⟨n, hn, _⟩ := h.num_some hk hr
    rw [if_pos rfl, hn] at hv
    cases hv
  · rw [if_neg e, hp] at hv
    by_cases e2 : k = .use
    · subst e2; rfl
    · exact absurd hv (join_nil e2)
def SA.nextF (S : SA) (z : St2) : Option St2 := (S.parts z).find? fun y => (S.val y).isNone
theorem SInv.next_some (h : SInv S) (hl : S.kd.length ≤ 61) {z : St2} (hz : z ∈ S.line) (hv : S.val z = none) (hp : S.parts z ≠ []) : ∃ y, S.nextF z = some y ∧ y ∈ S.parts z ∧ S.val y = none := by
  cases hn : S.nextF z with
  | some y => exact ⟨y, rfl, List.mem_of_find?_eq_some hn, by simpa using List.find?_some (p := fun y => (S.val y).isNone) hn⟩
  | none =>
    exfalso
    have hall := List.find?_eq_none.mp hn
    obtain ⟨k, hk⟩ := h.line_kd hz
    rw [h.val_eq hl hz hk] at hv
    by_cases e : k = .number
    · subst e
      refine hp ?_
      unfold SA.parts
      rw [hk]
    · rw [if_neg e] at hv
      refine join_some (fun hm => ?_) (fun z => hp (List.map_eq_nil_iff.mp z)) hv
      obtain ⟨y, hy, e2⟩ := List.mem_map.mp hm
      exact hall y hy (by rw [e2]; rfl)
def SA.rowF (S : SA) : Nat → St2 → List St2
  | 0, _ => []
  | n + 1, z => z :: (match S.nextF z with | none => [] | some y => SA.rowF S n y)
def SA.row (S : SA) (z : St2) : List St2 := S.rowF 64 z
theorem SA.rowF_len : ∀ {n : Nat} {z : St2}, (S.rowF n z).length ≤ n
  | 0, z => Nat.le_refl _
  | n + 1, z => by
    unfold SA.rowF
    rw [List.length_cons]
    refine Nat.succ_le_succ ?_
    cases S.nextF z with
    | none => exact Nat.zero_le _
    | some y => exact SA.rowF_len
theorem SInv.next_at (h : SInv S) {z y : St2} (hz : z ∈ S.line) (e : S.nextF z = some y) : y ∈ S.line ∧ S.pos y < S.pos z := h.parts_at hz (List.mem_of_find?_eq_some e)
theorem SInv.rowF_line (h : SInv S) : ∀ {n : Nat} {z : St2}, z ∈ S.line → ∀ y ∈ S.rowF n z, y ∈ S.line
  | 0, z, _, y, hy => by simp [SA.rowF] at hy
  | n + 1, z, hz, y, hy => by
    unfold SA.rowF at hy
    rcases List.mem_cons.mp hy with rfl | hy
    · exact hz
    · cases e : S.nextF z with
      | none => rw [e] at hy; simp at hy
      | some x =>
        rw [e] at hy
        exact h.rowF_line (h.next_at hz e).1 y hy
/-! ### papers as data -/
def SA.chainB (S : SA) : List St2 → Bool
  | [] => true
  | [_] => true
  | a :: b :: r => decide (b ∈ S.parts a) && SA.chainB S (b :: r)
def SA.rowB (S : SA) (z : St2) (ks : List St2) : Bool := decide (ks.head? = some z) && (S.chainB ks && (match ks.getLast? with | none => false | some k => S.lost k))
/-- what a value has to be -/
def SA.paperB (S : SA) (z : St2) (d : PyData) : Bool := match d with
  | .tuple [.str n, .tuple ds] => decide (n = "none") && (!ds.isEmpty && (ds.all S.isIn && S.rowB z (ds.filterMap unB)))
  | _ => false
theorem SInv.rowB_none (h : SInv S) (hl : S.kd.length ≤ 61) : ∀ {ks : List St2} {z : St2}, (∀ k ∈ ks, k ∈ S.line) → S.chainB ks = true → (∃ k, ks.getLast? = some k ∧ S.lost k = true) → ks.head? = some z → S.val z = none
  | [], z, _, _, _, e => by cases e
  | [a], z, hks, _, hlast, e => by
    cases e
    obtain ⟨k, e, hk⟩ := hlast
    cases e
    exact h.val_lost hl (hks a (by simp)) hk
  | a :: b :: r, z, hks, hch, hlast, e => by
    cases e
    unfold SA.chainB at hch
    rw [Bool.and_eq_true] at hch
    refine h.val_part hl (hks a (by simp)) (of_decide_eq_true hch.1) ?_
    refine h.rowB_none hl (ks := b :: r) (fun k hk => hks k (List.mem_cons_of_mem _ hk)) hch.2 ?_ rfl
    obtain ⟨k, e, hk⟩ := hlast
    exact ⟨k, by rw [← e, List.getLast?_cons_cons], hk⟩
theorem SA.isIn_at {d : PyData} (h : S.isIn d = true) : ∃ k, d = sD k ∧ k ∈ S.line := by
  unfold SA.isIn at h
  rw [Bool.and_eq_true] at h
  obtain ⟨k, rfl⟩ := placeB_sD h.1
  exact ⟨k, rfl, of_decide_eq_true h.2⟩
theorem SInv.paper_none (h : SInv S) (hl : S.kd.length ≤ 61) {z : St2} {d : PyData} (hd : S.paperB z d = true) : S.val z = none := by
  unfold SA.paperB at hd
  split at hd
  · rename_i n ds
    rw [Bool.and_eq_true, Bool.and_eq_true, Bool.and_eq_true] at hd
    obtain ⟨_, _, h3, h4⟩ := hd
    unfold SA.rowB at h4
    rw [Bool.and_eq_true, Bool.and_eq_true] at h4
    obtain ⟨h5, h6, h7⟩ := h4
    refine h.rowB_none hl (fun k hk => ?_) h6 ?_ (of_decide_eq_true h5)
    · obtain ⟨e, he, hk⟩ := List.mem_filterMap.mp hk
      obtain ⟨k', rfl, hk'⟩ := SA.isIn_at (List.all_eq_true.mp h3 e he)
      cases hk
      exact hk'
    · split at h7
      · cases h7
      · rename_i k e
        exact ⟨k, e, h7⟩
  · cases hd
end
end Ss
/-! Walks: what is seen from a thing. -/
namespace Ss
open PySem PySem.Spec PyProof.Rows L2
variable {P : Program} {w : World} {K : PySem.W.Frag} {mg : Str → Option Value} {base : Heap} {e0 : Addr}
theorem lay_stamps (l : List St2) : PyData.canLayAll0 (l.map sD) = true := canAll_of fun d hd => by
  obtain ⟨k, _, rfl⟩ := List.mem_map.mp hd
  exact (lay_sD k).1
theorem any_stamps (l : List St2) (k : St2) : ((l.map sD).any fun z => PyData.eqv z (sD k)) = decide (k ∈ l) := by
  rw [List.any_map]
  have : (((fun z => PyData.eqv z (sD k)) ∘ sD) : St2 → Bool) = fun z => decide (z = k) := by
    funext z
    exact eqv_sD z k
  rw [this]
  by_cases h : k ∈ l
  · rw [decide_eq_true h]
    exact List.any_eq_true.mpr ⟨k, h, by simp⟩
  · rw [decide_eq_false h]
    refine List.any_eq_false.mpr fun z hz => ?_
    simp
    exact fun e => h (e ▸ hz)
/-- k in, not in, a list of stamps -/
theorem inSt {H : Hp} {v : V} {a : Addr} {us : List V} {k : St2} {l : List St2} {Q : VK} (hv : Dp K H v (sD k)) (ha : SqL K H a us) (hl : DpAll K H us (l.map sD)) (q : Q (.bl (decide (k ∈ l))) H) : rInA P w K false v (.ref a) H Q :=
  .inr (.inl ⟨_, _, hv, .inl (.lst ha hl), shaped_sD k, lay_stamps l, by
    rw [any_stamps]
    exact q⟩)
theorem ninSt {H : Hp} {v : V} {a : Addr} {us : List V} {k : St2} {l : List St2} {Q : VK} (hv : Dp K H v (sD k)) (ha : SqL K H a us) (hl : DpAll K H us (l.map sD)) (q : Q (.bl (!decide (k ∈ l))) H) : rInA P w K true v (.ref a) H Q :=
  .inr (.inl ⟨_, _, hv, .inl (.lst ha hl), shaped_sD k, lay_stamps l, by
    rw [any_stamps]
    exact q⟩)
theorem cut_to (us : List V) (p : Nat) : cutV us none (some (p : Int)) = us.take p := by
  unfold cutV
  rw [HT.sIx_none, HT.sIx_nat, List.drop_zero, Nat.sub_zero]
  by_cases h : p ≤ us.length
  · rw [Nat.min_eq_left h]
  · rw [Nat.min_eq_right (by omega), List.take_of_length_le (Nat.le_refl _), List.take_of_length_le (by omega)]
theorem cut_from (us : List V) (p : Nat) : cutV us (some (p : Int)) none = us.drop p := by
  unfold cutV
  rw [HT.sIx_none, HT.sIx_nat]
  by_cases h : p ≤ us.length
  · rw [Nat.min_eq_left h, List.take_of_length_le (by rw [List.length_drop]; exact Nat.le_refl _)]
  · rw [Nat.min_eq_right (by omega), List.drop_of_length_le (Nat.le_refl _), List.drop_of_length_le (by omega)]
    simp
theorem dpa_take {H : Hp} : ∀ {ds : List PyData} {vs : List V} (n : Nat), DpAll K H vs ds → DpAll K H (vs.take n) (ds.take n)
  | _, _, 0, _ => by simp; exact .nil
  | _, _, n + 1, .nil => by simp; exact .nil
  | _, _, n + 1, .cons a t => by
    rw [List.take_succ_cons, List.take_succ_cons]
    exact .cons a (dpa_take n t)
theorem dpa_drop {H : Hp} : ∀ {ds : List PyData} {vs : List V} (n : Nat), DpAll K H vs ds → DpAll K H (vs.drop n) (ds.drop n)
  | _, _, 0, h => by simpa using h
  | _, _, n + 1, .nil => by simp; exact .nil
  | _, _, n + 1, .cons a t => by
    rw [List.drop_succ_cons, List.drop_succ_cons]
    exact dpa_drop n t
theorem dpa_reverse {H : Hp} : ∀ {ds : List PyData} {vs : List V}, DpAll K H vs ds → DpAll K H vs.reverse ds.reverse
  | _, _, .nil => .nil
  | _, _, .cons a t => by
    rw [List.reverse_cons, List.reverse_cons]
    exact dpa_append (dpa_reverse t) (.cons a .nil)
/-- a view of a state -/
def VwS (P : Program) (w : World) (K : PySem.W.Frag) (H : Hp) (v : Addr) (S : SA) : Prop := ∃ a, VwF P w K H v a S ∧ StF P w K H a S
theorem VwS.same {H H' : Hp} {v : Addr} {S : SA} (h : VwS P w K H v S) (s : Same H H') : VwS P w K H' v S := let ⟨a, h1, h2⟩ := h; ⟨a, h1.same s, h2.same s⟩
theorem SA.isLet_kd {S : SA} {k : St2} {kk : Kd} (h : lk S.kd k = some kk) : S.isLet k = decide (kk = .lt) := by
  unfold SA.isLet
  rw [h]
  simp
def sp_is_let_within (P : Program) (w : World) (K : PySem.W.Frag) : Sp := fun us H Q _ => us.length = 2 ∧ ∃ (v : Addr) (S : SA) (kv : V) (k : St2) (kk : Kd), us = [.ref v, kv] ∧ VwS P w K H v S ∧ Dp K H kv (sD k) ∧ lk S.kd k = some kk ∧ Q (.bl (S.isLet k)) H
theorem ok_is_let_within (T : Tx w K mg e0) : Kn P w K mg base 8 (He.ga K "is_let_within") ["view", "thing"] (sp_is_let_within P w K) := by
  have G_State_kind : Kn P w K mg base 7 _ _ _ := ok_kind T
  refine T.d_is_let_within.kn sc_is_let_within (fun _ _ _ _ _ _ us hl => match us, hl with | [_, _], _ => rfl) (fun vs H Q E h => h.1) (fun cdv A outer s H vs Q E hr h => ?_)
  have hu := hu65 hr
  obtain ⟨_, v, S, kv, k, kk, rfl, ⟨a, ⟨dx, l, ka, sp, vk, vs, Bk, Bs, Vw, hk, hs⟩, hF⟩, hkv, hkk, q⟩ := h
  obtain ⟨⟨sdx, ak, ac, ap, au, al, ai, C⟩, hS, hSl⟩ := id hF
  refine ⟨_, (pss_one (ps_ret (pe_cmpR (op_eqA hu) (pe_mt (pe_fld (pv 0) rfl) T.cls_State T.me_State_kind G_State_kind (hr.mono (by first | decide | exact Nat.le_refl _ | exact Nat.le_add_right_of_le (by decide) | omega)) (pa_cons (pv 1) pa_nil)) pe_str (nomark _)))), ?_⟩
  refine ⟨_, rfl, v, _, dx, _, _, rfl, Vw.ob, T.cls_TreeView, T.na_TreeView_own_state, rfl, a, sdx, _, rfl, C.ob, rfl, _, rfl, rfl, a, S, kv, k, kk, rfl, hF, hkv, hkk, eqS ?_⟩
  rw [show decide (kk.s = "let") = decide (kk = .lt) from Kd.s_eq kk .lt, ← SA.isLet_kd hkk]
  exact q
def sp_last_let (P : Program) (w : World) (K : PySem.W.Frag) : Sp := fun us H Q _ => us.length = 3 ∧ ∃ (v : Addr) (S : SA) (uv : V) (u : St2) (p : Nat), us = [.ref v, uv, .int p] ∧ VwS P w K H v S ∧ Dp K H uv (sD u) ∧ u ∈ S.line ∧
  ∀ (r : V) (H' : Hp), Same H H' → Dp K H' r (bD (S.lastLet u p)) → Q r H'
theorem find_take {α : Type} {l : List α} {f : α → Bool} {i : Nat} {x : α} (h : ∀ y ∈ l.take i, f y = false) (e : l[i]? = some x) (hx : f x = true) : l.find? f = some x := by
  obtain ⟨hi, he⟩ := List.getElem?_eq_some_iff.mp e
  rw [← List.take_append_drop i l, List.find?_append, List.find?_eq_none.mpr (fun y hy => by rw [h y hy]; simp), List.drop_eq_getElem_cons hi, he]
  simp [hx]
theorem ok_last_let (T : Tx w K mg e0) : Kn P w K mg base 9 (He.ga K "last_let") ["view", "under", "place"] (sp_last_let P w K) := by
  have G_is_let_within : Kn P w K mg base 8 _ _ _ := ok_is_let_within T
  refine T.d_last_let.kn sc_last_let (fun _ _ _ _ _ _ us hl => match us, hl with | [_, _, _], _ => rfl) (fun vs H Q E h => h.1) (fun cdv A outer s H vs Q E hr h => ?_)
  have hu := hu65 hr
  obtain ⟨_, v, S, uv, u, p, rfl, hV, huv, hul, q⟩ := h
  obtain ⟨a, ⟨dx, l, ka, sp, vk, vs, Bk, Bs, Vw, hk, hs⟩, hF⟩ := id hV
  obtain ⟨_, hS, hSl⟩ := id hF
  refine ⟨_, (pss_cons (ps_for PassesOwn.never rfl (pi_list (pe_rev (pe_slice sl_any (pe_ix (ix_any hu) (pe_fld (pv 0) rfl) (pv 1) (fun _ _ => rfl)) po_none (po_some (pv 2))))) (pg_name (i := 3) sc_last_let.nd rfl (Or.inl rfl)) (pss_one (ps_if (pt_val (pe_fn G_is_let_within (hr.mono (by first | decide | exact Nat.le_refl _ | exact Nat.le_add_right_of_le (by decide) | omega)) T.g_is_let_within (pa_cons (pv 0) (pa_cons (pv 3) pa_nil)))) (pss_one (ps_ret (pv 3))) pss_nil)))
    (pss_one (ps_ret pe_non))), ?_⟩
  refine ⟨_, rfl, v, _, dx, _, _, rfl, Vw.ob, T.cls_TreeView, T.na_TreeView_own_kids, rfl, _, rfl, dgetR Vw.kids.r huv (hk u hul) fun x hx => ?_⟩
  obtain ⟨b, zs, rfl, _, hb, hzs⟩ := hx
  refine ⟨_, rfl, p, rfl, .inl ⟨b, zs, rfl, hb, fun p1 hp1 => ⟨p1, _, rfl, SqL.of upd_same, fun p2 hp2 => ⟨p2, rfl, ⟨_, SqL.of upd_same⟩, ?_⟩⟩⟩⟩
  rw [cut_to] at hp2 ⊢
  have s1 := same_new (o := .lst (zs.take p)) hp1
  have s2 := s1.trans (same_new (o := .lst (zs.take p).reverse) hp2)
  have hz : DpAll K H (zs.take p).reverse (((S.kids u).take p).reverse.map sD) := by
    have := dpa_reverse (dpa_take p hzs)
    rwa [← List.map_take, ← List.map_reverse] at this
  have hl2 : (upd (upd H p1 (.lst (zs.take p))) p2 (.lst (zs.take p).reverse)) p2 = some (.lst (zs.take p).reverse) := upd_same
  revert s2 hl2
  generalize upd (upd H p1 (.lst (zs.take p))) p2 (.lst (zs.take p).reverse) = H2
  intro s2 hl2
  refine for_it walk_list (fun i σ Hi => (∃ o3, σ = [some (.ref v), some uv, some (.int p), o3]) ∧ Same H2 Hi ∧ ∀ y ∈ ((S.kids u).take p).reverse.take i, S.isLet y = false) ⟨⟨_, rfl⟩, Same.refl _, by simp⟩ (fun _ _ _ _ pp => pp.2.1.seq (SqL.of hl2)) (fun i vv σ Hi H3 hi pp yy => ?_) (fun σ Hi pp => ?_)
  · obtain ⟨⟨o3, rfl⟩, si, hn⟩ := pp
    obtain ⟨rfl, hxx⟩ := yy
    obtain ⟨y, hy, hyv⟩ := dpa_mem hz hxx
    have hyk : y ∈ S.kids u := List.mem_of_mem_take (List.mem_reverse.mp (List.mem_of_getElem? hy))
    obtain ⟨ky, hky⟩ := kid_kd hS hyk
    have sH := s2.trans si
    refine ⟨_, rfl, _, rfl, rfl, v, S, vv, y, ky, rfl, hV.same sH, dp_same sH hyv, hky, ⟨_, rfl, ?_⟩⟩
    cases hc : S.isLet y with
    | true =>
      refine iteT ⟨_, rfl, q _ _ sH ?_⟩
      have : S.lastLet u p = some y := find_take hn hy hc
      rw [this]
      exact dp_same sH hyv
    | false =>
      refine iteF ⟨⟨_, rfl⟩, si, fun z hz => ?_⟩
      rw [List.take_add_one, hy] at hz
      rcases List.mem_append.mp hz with hz | hz
      · exact hn z hz
      · simp at hz
        rw [hz]
        exact hc
  · obtain ⟨⟨o3, rfl⟩, si, hn⟩ := pp
    have : S.lastLet u p = none := by
      refine List.find?_eq_none.mpr fun y hy => ?_
      have hlen : ((S.kids u).take p).reverse.length = (zs.take p).reverse.length := by
        have := dpa_len hz
        rw [List.length_map] at this
        exact this.symm
      rw [← hlen, List.take_length] at hn
      rw [hn y hy]
      simp
    refine q _ _ (s2.trans si) ?_
    rw [this]
    exact .non
theorem SA.nearF_succ {S : SA} {n : Nat} {u : St2} {p : Nat} : S.nearF (n + 1) u p = match S.lastLet u p with | some k => some k | none => match S.sp u with | none => none | some x => S.nearF n x.1 x.2 := rfl
theorem SInv.rk_lo {S : SA} (h : SInv S) {rk : St2 → Nat} (hun : UnOk S.un (S.kd.map (·.1)) rk) {z : St2} (hz : z ∈ S.line) : rk ROOT ≤ rk z := by
  rcases List.mem_cons.mp hz with rfl | hz
  · exact Nat.le_refl _
  · exact Nat.le_of_lt ((below_nodup hun.k 64 ROOT).2 z hz).2
theorem SInv.rk_hi {S : SA} (h : SInv S) {rk : St2 → Nat} (hun : UnOk S.un (S.kd.map (·.1)) rk) {z : St2} (hz : z ∈ S.line) : rk z < rk ROOT + 64 := by
  rcases List.mem_cons.mp hz with rfl | hz
  · omega
  · exact depth_lt hun.k h.ht hz
def sp_nearest_at (P : Program) (w : World) (K : PySem.W.Frag) : Sp := fun us H Q _ => us.length = 3 ∧ ∃ (v : Addr) (S : SA) (uv : V) (u : St2) (p : Nat), us = [.ref v, uv, .int p] ∧ VwS P w K H v S ∧ Dp K H uv (sD u) ∧ u ∈ S.line ∧
  ∀ (r : V) (H' : Hp), Same H H' → Dp K H' r (bD (S.nearF 64 u p)) → Q r H'
theorem ok_nearest_at (T : Tx w K mg e0) : Kn P w K mg base 10 (He.ga K "nearest_at") ["view", "under", "place"] (sp_nearest_at P w K) := by
  have G_last_let : Kn P w K mg base 9 _ _ _ := ok_last_let T
  refine T.d_nearest_at.kn sc_nearest_at (fun _ _ _ _ _ _ us hl => match us, hl with | [_, _, _], _ => rfl) (fun vs H Q E h => h.1) (fun cdv A outer s H vs Q E hr h => ?_)
  have hu := hu65 hr
  obtain ⟨_, v, S, uv, u, p, rfl, hV, huv, hul, q⟩ := h
  obtain ⟨a, ⟨dx, l, ka, sp, vk, vs, Bk, Bs, Vw, hk, hs⟩, hF⟩ := id hV
  obtain ⟨_, hS, hSl⟩ := id hF
  obtain ⟨rk, hun⟩ := hS.un
  refine ⟨_, (pss_cons (ps_set (i := 3) sc_nearest_at.nd rfl (Or.inl rfl) (pe_fn G_last_let (hr.mono (by first | decide | exact Nat.le_refl _ | exact Nat.le_add_right_of_le (by decide) | omega)) T.g_last_let (pa_cons (pv 0) (pa_cons (pv 1) (pa_cons (pv 2) pa_nil)))))
    (pss_cons (ps_while PassesOwn.never (PW.pt (pw_and (pt_cmpR op_isN (pv 3) pe_non (nomark _)) (pw_and1 (pt_cmpR (op_inA hu) (pv 1) (pe_fld (pv 0) rfl) (by rfl))))) (pss_cons (ps_asg (pe_ix (ix_any hu) (pe_fld (pv 0) rfl) (pv 1) (fun _ _ => rfl)) (pg_tup (by rfl) (pgs_cons (pg_name (i := 1) sc_nearest_at.nd rfl (Or.inl rfl)) (pgs_cons (pg_name (i := 2) sc_nearest_at.nd rfl (Or.inl rfl)) pgs_nil))))
    (pss_one (ps_set (i := 3) sc_nearest_at.nd rfl (Or.inl rfl) (pe_fn G_last_let (hr.mono (by first | decide | exact Nat.le_refl _ | exact Nat.le_add_right_of_le (by decide) | omega)) T.g_last_let (pa_cons (pv 0) (pa_cons (pv 1) (pa_cons (pv 2) pa_nil))))))))
    (pss_one (ps_ret (pv 3))))), ?_⟩
  refine ⟨_, rfl, _, rfl, _, rfl, rfl, v, S, uv, u, p, rfl, hV, huv, hul, fun r H1 s1 hr1 => ?_⟩
  refine ⟨fun m σ H2 => ∃ (u' : St2) (p' : Nat) (v1 v3 : V), σ = [some (.ref v), some v1, some (.int p'), some v3] ∧ Same H H2 ∧ Dp K H2 v1 (sD u') ∧ u' ∈ S.line ∧ Dp K H2 v3 (bD (S.lastLet u' p')) ∧ S.nearF m u' p' = S.nearF 64 u p ∧ rk u' < rk ROOT + m, ?_, ?_⟩
  · exact ⟨64, u, p, uv, r, rfl, s1, dp_same s1 huv, hul, hr1, rfl, hS.rk_hi hun hul⟩
  · rintro m σ H2 ⟨u', p', v1, v3, rfl, s2, hv1, hu', hv3, hnf, hrk⟩
    have hlo := hS.rk_lo hun hu'
    obtain ⟨m, rfl⟩ : ∃ k, m = k + 1 := ⟨m - 1, by omega⟩
    rw [SA.nearF_succ (n := m) (u := u') (p := p')] at hnf
    cases hl : S.lastLet u' p' with
    | some k' =>
      rw [hl] at hnf hv3
      obtain ⟨va, rfl, hva⟩ := stamp_dp hv3
      refine ⟨_, rfl, rfl, _, rfl, iteF (iteF ⟨_, rfl, q _ _ s2 ?_⟩)⟩
      rw [← hnf]
      exact hv3
    | none =>
      rw [hl] at hnf hv3
      obtain rfl := dp_non hv3
      refine ⟨_, rfl, rfl, _, rfl, iteT ⟨_, rfl, _, rfl, v, _, dx, _, _, rfl, s2 _ _ Vw.ob, T.cls_TreeView, T.na_TreeView_own_spots, rfl, dinR (Vw.spots.same rd_stb.stb s2).r hv1 ⟨_, rfl, ?_⟩⟩⟩
      rw [hs]
      cases hsp : S.sp u' with
      | none =>
        rw [hsp] at hnf
        refine iteF ⟨_, rfl, q _ _ s2 ?_⟩
        rw [← hnf]
        exact hv3
      | some x =>
        rw [hsp] at hnf
        obtain ⟨hx1, hx2, _⟩ := hS.sp_at hsp
        have hrx := hun.k.rk x.1 u' (List.mem_of_getElem? hx2)
        refine iteT ⟨fun σ' H' => ∃ m', m' < m + 1 ∧ _, fun σ' H' h => h, ?_⟩
        refine ⟨_, rfl, v, _, dx, _, _, rfl, s2 _ _ Vw.ob, T.cls_TreeView, T.na_TreeView_own_spots, rfl, _, rfl, dgetR (Vw.spots.same rd_stb.stb s2).r hv1 (by rw [hs]; exact hsp) fun y hy => ?_⟩
        obtain ⟨ya, y1, y2, rfl, hya, hy1, hy2⟩ := tup2 hy.1
        obtain rfl := dp_int hy2
        refine ⟨ya, _, rfl, hya, rfl, _, _, rfl, _, _, rfl, rfl, ?_⟩
        refine ⟨_, rfl, _, rfl, _, rfl, rfl, v, S, y1, x.1, x.2, rfl, hV.same s2, hy1, hx1, fun r3 H3 s3 hr3 => ?_⟩
        exact ⟨m, Nat.lt_succ_self _, x.1, x.2, y1, r3, rfl, s2.trans s3, dp_same s3 hy1, hx1, hr3, hnf, by omega⟩
def sp_nearest_within (P : Program) (w : World) (K : PySem.W.Frag) : Sp := fun us H Q _ => us.length = 2 ∧ ∃ (v : Addr) (S : SA) (zv : V) (z : St2), us = [.ref v, zv] ∧ VwS P w K H v S ∧ Dp K H zv (sD z) ∧
  ∀ (r : V) (H' : Hp), Same H H' → Dp K H' r (bD (S.nearW z)) → Q r H'
theorem ok_nearest_within (T : Tx w K mg e0) : Kn P w K mg base 11 (He.ga K "nearest_within") ["view", "thing"] (sp_nearest_within P w K) := by
  have G_nearest_at : Kn P w K mg base 10 _ _ _ := ok_nearest_at T
  refine T.d_nearest_within.kn sc_nearest_within (fun _ _ _ _ _ _ us hl => match us, hl with | [_, _], _ => rfl) (fun vs H Q E h => h.1) (fun cdv A outer s H vs Q E hr h => ?_)
  have hu := hu65 hr
  obtain ⟨_, v, S, zv, z, rfl, hV, hzv, q⟩ := h
  obtain ⟨a, ⟨dx, l, ka, sp, vk, vs, Bk, Bs, Vw, hk, hs⟩, hF⟩ := id hV
  obtain ⟨_, hS, hSl⟩ := id hF
  refine ⟨_, (pss_cons (ps_if (pt_cmpR (op_ninA hu) (pv 1) (pe_fld (pv 0) rfl) (by rfl)) (pss_one (ps_ret pe_non)) pss_nil)
    (pss_cons (ps_asg (pe_ix (ix_any hu) (pe_fld (pv 0) rfl) (pv 1) (fun _ _ => rfl)) (pg_tup (by rfl) (pgs_cons (pg_name (i := 2) sc_nearest_within.nd rfl (Or.inl rfl)) (pgs_cons (pg_name (i := 3) sc_nearest_within.nd rfl (Or.inl rfl)) pgs_nil))))
    (pss_one (ps_ret (pe_fn G_nearest_at (hr.mono (by first | decide | exact Nat.le_refl _ | exact Nat.le_add_right_of_le (by decide) | omega)) T.g_nearest_at (pa_cons (pv 0) (pa_cons (pv 2) (pa_cons (pv 3) pa_nil)))))))), ?_⟩
  refine ⟨_, rfl, _, rfl, v, _, dx, _, _, rfl, Vw.ob, T.cls_TreeView, T.na_TreeView_own_spots, rfl, dninR Vw.spots.r hzv ⟨_, rfl, ?_⟩⟩
  rw [hs]
  cases hsp : S.sp z with
  | none =>
    refine iteT (q _ _ (Same.refl _) ?_)
    unfold SA.nearW
    rw [hsp]
    exact .non
  | some x =>
    obtain ⟨hx1, hx2, _⟩ := hS.sp_at hsp
    refine iteF ⟨_, rfl, v, _, dx, _, _, rfl, Vw.ob, T.cls_TreeView, T.na_TreeView_own_spots, rfl, _, rfl, dgetR Vw.spots.r hzv (by rw [hs]; exact hsp) fun y hy => ?_⟩
    obtain ⟨ya, y1, y2, rfl, hya, hy1, hy2⟩ := tup2 hy.1
    obtain rfl := dp_int hy2
    refine ⟨ya, _, rfl, hya, rfl, _, _, rfl, _, _, rfl, rfl, ?_⟩
    refine ⟨_, rfl, _, rfl, _, rfl, rfl, v, S, y1, x.1, x.2, rfl, hV, hy1, hx1, fun r3 H3 s3 hr3 => q _ _ s3 ?_⟩
    unfold SA.nearW
    rw [hsp]
    exact hr3
def sp_chain_from (P : Program) (w : World) (K : PySem.W.Frag) : Sp := fun us H Q _ => us.length = 2 ∧ ∃ (v : Addr) (S : SA) (zv : V) (o : Option St2), us = [.ref v, zv] ∧ VwS P w K H v S ∧ Dp K H zv (bD o) ∧ (∀ k, o = some k → k ∈ S.line) ∧
  ∀ (p : Addr) (ws : List V) (H' : Hp), Same H H' → H' p = some (.lst ws) → DpAll K H' ws ((S.chainF 64 o).map sD) → Q (.ref p) H'
theorem ok_chain_from (T : Tx w K mg e0) : Kn P w K mg base 12 (He.ga K "chain_from") ["view", "let"] (sp_chain_from P w K) := by
  have G_nearest_within : Kn P w K mg base 11 _ _ _ := ok_nearest_within T
  refine T.d_chain_from.kn sc_chain_from (fun _ _ _ _ _ _ us hl => match us, hl with | [_, _], _ => rfl) (fun vs H Q E h => h.1) (fun cdv A outer s H vs Q E hr h => ?_)
  have hu := hu65 hr
  obtain ⟨_, v, S, zv, o, rfl, hV, hzv, hol, q⟩ := h
  obtain ⟨a, ⟨dx, l, ka, sp, vk, vs, Bk, Bs, Vw, hk, hs⟩, hF⟩ := id hV
  obtain ⟨_, hS, hSl⟩ := id hF
  refine ⟨_, (pss_cons (ps_set (i := 2) sc_chain_from.nd rfl (Or.inl rfl) (pe_lst pa_nil))
    (pss_cons (ps_while PassesOwn.never (pt_cmpR op_notN (pv 1) pe_non (nomark _)) (pss_cons (ps_expr (pe_bm PySem.F.plainAttrs_list PySem.F.slot_list_append PySem.F.type_list_append mt_append (pv 2) (pa_cons (pv 1) pa_nil)))
    (pss_one (ps_set (i := 1) sc_chain_from.nd rfl (Or.inl rfl) (pe_fn G_nearest_within (hr.mono (by first | decide | exact Nat.le_refl _ | exact Nat.le_add_right_of_le (by decide) | omega)) T.g_nearest_within (pa_cons (pv 0) (pa_cons (pv 1) pa_nil)))))))
    (pss_one (ps_ret (pv 2))))), ?_⟩
  refine ⟨szL, fun fl hfl => ?_⟩
  refine ⟨fun m σ H2 => ∃ (o' : Option St2) (v1 : V) (ws : List V) (ks : List St2), σ = [some (.ref v), some v1, some (.ref fl)] ∧ Same H H2 ∧ H2 fl = some (.lst ws) ∧ DpAll K H2 ws (ks.map sD) ∧ Dp K H2 v1 (bD o') ∧ ks ++ S.chainF m o' = S.chainF 64 o ∧ ks.length + m = 64 ∧ (∀ k, o' = some k → k ∈ S.line ∧ S.pos k < m), ?_, ?_⟩
  · exact ⟨64, o, zv, [], [], rfl, same_new hfl, upd_same, .nil, dp_same (same_new hfl) hzv, rfl, rfl, fun k e => ⟨hol k e, by have := hS.pos_lt hSl (hol k e); omega⟩⟩
  · rintro m σ H2 ⟨o', v1, ws, ks, rfl, s2, hf2, hws, hv1, hch, hm, hpos⟩
    cases o' with
    | none =>
      obtain rfl := dp_non hv1
      refine ⟨_, rfl, rfl, _, rfl, iteF ⟨_, rfl, q _ _ _ s2 hf2 ?_⟩⟩
      rw [← hch]
      have : S.chainF m none = [] := by cases m <;> rfl
      rw [this, List.append_nil]
      exact hws
    | some k =>
      obtain ⟨hkl, hkp⟩ := hpos k rfl
      obtain ⟨m, rfl⟩ : ∃ j, m = j + 1 := ⟨m - 1, by omega⟩
      have hv1 : Dp K H2 v1 (sD k) := hv1
      obtain ⟨va, rfl, hva⟩ := stamp_dp hv1
      have hlw : ws.length = ks.length := by rw [dpa_len hws, List.length_map]
      refine ⟨_, rfl, rfl, _, rfl, iteT ⟨fun σ' H' => ∃ m', m' < m + 1 ∧ _, fun σ' H' h => h, ?_⟩⟩
      have t3 := tup_lst (o := .lst (ws ++ [.ref va])) hf2
      have s3 : Same H (upd H2 fl (.lst (ws ++ [.ref va]))) := same_mut s2 hfl
      refine ⟨_, rfl, .inl ⟨rfl, ws, SqL.of hf2⟩, _, rfl, fl, ws, _, rfl, rfl, hf2, Nat.lt_of_le_of_lt (show ws.length ≤ 64 by omega) (by decide), ?_⟩
      refine ⟨_, rfl, _, rfl, rfl, v, S, .ref va, k, rfl, hV.same s3, dp_tup t3 (imm_sD k) hv1, fun r H4 s4 hr4 => ?_⟩
      refine ⟨m, Nat.lt_succ_self _, S.nearW k, r, ws ++ [.ref va], ks ++ [k], rfl, s3.trans s4, s4 _ _ upd_same, ?_, hr4, ?_, ?_, fun k' e => ?_⟩
      · rw [List.map_append]
        exact dpa_append (dpa_same s4 (dpa_tup t3 (immAll_sD _) hws)) (.cons (dp_same s4 (dp_tup t3 (imm_sD k) hv1)) .nil)
      · rw [← hch, List.append_assoc]
        rfl
      · rw [List.length_append]
        simp
        omega
      · obtain ⟨h1, _, h3⟩ := hS.nearW_at e
        exact ⟨h1, by omega⟩
def sp_visible_within (P : Program) (w : World) (K : PySem.W.Frag) : Sp := fun us H Q _ => us.length = 2 ∧ ∃ (v : Addr) (S : SA) (zv : V) (z : St2), us = [.ref v, zv] ∧ VwS P w K H v S ∧ Dp K H zv (sD z) ∧
  ∀ (p : Addr) (ws : List V) (H' : Hp), Same H H' → H' p = some (.lst ws) → DpAll K H' ws ((S.visible z).map sD) → Q (.ref p) H'
theorem ok_visible_within (T : Tx w K mg e0) : Kn P w K mg base 13 (He.ga K "visible_within") ["view", "thing"] (sp_visible_within P w K) := by
  have G_nearest_within : Kn P w K mg base 11 _ _ _ := ok_nearest_within T
  have G_chain_from : Kn P w K mg base 12 _ _ _ := ok_chain_from T
  refine T.d_visible_within.kn sc_visible_within (fun _ _ _ _ _ _ us hl => match us, hl with | [_, _], _ => rfl) (fun vs H Q E h => h.1) (fun cdv A outer s H vs Q E hr h => ?_)
  have hu := hu65 hr
  obtain ⟨_, v, S, zv, z, rfl, hV, hzv, q⟩ := h
  obtain ⟨a, _, hF⟩ := id hV
  obtain ⟨_, hS, hSl⟩ := id hF
  refine ⟨_, (pss_one (ps_ret (pe_fn G_chain_from (hr.mono (by first | decide | exact Nat.le_refl _ | exact Nat.le_add_right_of_le (by decide) | omega)) T.g_chain_from (pa_cons (pv 0) (pa_cons (pe_fn G_nearest_within (hr.mono (by first | decide | exact Nat.le_refl _ | exact Nat.le_add_right_of_le (by decide) | omega)) T.g_nearest_within (pa_cons (pv 0) (pa_cons (pv 1) pa_nil))) pa_nil))))), ?_⟩
  refine ⟨_, rfl, _, rfl, _, rfl, rfl, v, S, zv, z, rfl, hV, hzv, fun r H1 s1 hr1 => ?_⟩
  refine ⟨rfl, v, S, r, S.nearW z, rfl, hV.same s1, hr1, fun k e => (hS.nearW_at e).1, fun p ws H2 s2 hp hws => q p ws H2 (s1.trans s2) hp hws⟩
def sp_told_within (P : Program) (w : World) (K : PySem.W.Frag) : Sp := fun us H Q _ => us.length = 2 ∧ ∃ (v : Addr) (S : SA) (zv : V) (z : St2), us = [.ref v, zv] ∧ VwS P w K H v S ∧ Dp K H zv (sD z) ∧ lk S.kd z = some .use ∧
  ∀ (r : V) (H' : Hp), Same H H' → Dp K H' r (S.told z).d → Q r H'
theorem ok_told_within (T : Tx w K mg e0) : Kn P w K mg base 14 (He.ga K "told_within") ["view", "use"] (sp_told_within P w K) := by
  have G_State_kind : Kn P w K mg base 7 _ _ _ := ok_kind T
  have G_State_content : Kn P w K mg base 7 _ _ _ := ok_content T
  have G_visible_within : Kn P w K mg base 13 _ _ _ := ok_visible_within T
  refine T.d_told_within.kn sc_told_within (fun _ _ _ _ _ _ us hl => match us, hl with | [_, _], _ => rfl) (fun vs H Q E h => h.1) (fun cdv A outer s H vs Q E hr h => ?_)
  have hu := hu65 hr
  obtain ⟨_, v, S, zv, z, rfl, hV, hzv, hz, q⟩ := h
  obtain ⟨a, ⟨dx, l, ka, sp, vk, vs, Bk, Bs, Vw, hk, hs⟩, hF⟩ := id hV
  obtain ⟨⟨sdx, ak, ac, ap, au, al, ai, C⟩, hS, hSl⟩ := id hF
  refine ⟨_, (pss_cons (ps_set (i := 2) sc_told_within.nd rfl (Or.inl rfl) (pe_fld (pv 0) rfl))
    (pss_cons (ps_set (i := 3) sc_told_within.nd rfl (Or.inl rfl) (pe_mt (pv 2) T.cls_State T.me_State_content G_State_content (hr.mono (by first | decide | exact Nat.le_refl _ | exact Nat.le_add_right_of_le (by decide) | omega)) (pa_cons (pv 1) pa_nil)))
    (pss_cons (ps_if (pt_cmpR op_isN (pv 3) pe_non (nomark _)) (pss_one (ps_ret (pe_tup (pa_cons pe_str pa_nil)))) pss_nil)
    (pss_cons (ps_if (PW.pt (pw_or (pt_cmpR (op_ninA hu) (pv 3) (pe_fld (pv 0) rfl) (by rfl)) (pw_or1 (pt_cmpR (op_neA hu) (pe_mt (pv 2) T.cls_State T.me_State_kind G_State_kind (hr.mono (by first | decide | exact Nat.le_refl _ | exact Nat.le_add_right_of_le (by decide) | omega)) (pa_cons (pv 3) pa_nil)) pe_str (nomark _))))) (pss_one (ps_ret (pe_tup (pa_cons pe_str pa_nil)))) pss_nil)
    (pss_one (ps_ret (pe_ifExp (pt_cmpR (op_inA hu) (pv 3) (pe_fn G_visible_within (hr.mono (by first | decide | exact Nat.le_refl _ | exact Nat.le_add_right_of_le (by decide) | omega)) T.g_visible_within (pa_cons (pv 0) (pa_cons (pv 1) pa_nil))) (by rfl)) (pe_tup (pa_cons pe_str (pa_cons (pv 3) pa_nil))) (pe_tup (pa_cons pe_str pa_nil))))))))), ?_⟩
  refine ⟨_, rfl, v, _, dx, _, _, rfl, Vw.ob, T.cls_TreeView, T.na_TreeView_own_state, rfl, ?_⟩
  have hzr : z ≠ ROOT := fun e => by
    rw [e, hS.root] at hz
    cases hz
  refine ⟨_, rfl, a, sdx, _, rfl, C.ob, rfl, _, rfl, rfl, a, S, zv, z, .use, rfl, hF, hzv, hz, hzr, fun bv c hc hck hbv => ?_⟩
  obtain ⟨b, rfl, hb⟩ := hck
  have hbd : S.bind z = b := by
    unfold SA.bind
    rw [hc]
    exact unB_bD b
  have fin : ∀ {t : Told} {o : HO} {H1 : Hp} {p : Addr}, Same H H1 → S.told z = t → H1 p = none → Dp K (upd H1 p o) (.ref p) t.d → Q (.ref p) (upd H1 p o) := fun {t o H1 p} s1 e hp hd => q _ _ (s1.trans (same_new hp)) (e ▸ hd)
  cases b with
  | none =>
    obtain rfl := dp_non hbv
    refine ⟨_, rfl, rfl, _, rfl, iteT ⟨szL, fun p hp => fin (t := .none) (Same.refl _) ?_ hp (.tup (SqT.of upd_same) (.cons (.str _) .nil))⟩⟩
    unfold SA.told
    rw [hbd]
  | some b =>
    have hbv : Dp K H bv (sD b) := hbv
    obtain ⟨va, rfl, hva⟩ := stamp_dp hbv
    refine ⟨_, rfl, rfl, _, rfl, iteF ⟨_, rfl, _, rfl, v, _, dx, _, _, rfl, Vw.ob, T.cls_TreeView, T.na_TreeView_own_spots, rfl, dninR Vw.spots.r hbv ⟨_, rfl, ?_⟩⟩⟩
    rw [hs]
    have gone : ((S.sp b).isSome && S.isLet b) = false → ∀ p, H p = none → Q (.ref p) (upd H p (.tup [.str "gone"])) := fun e p hp => by
      refine fin (t := .gone) (Same.refl _) ?_ hp (.tup (SqT.of upd_same) (.cons (.str _) .nil))
      unfold SA.told
      rw [hbd]
      simp only [e]
      rfl
    cases hsp : (S.sp b).isSome with
    | false => exact iteT (iteT ⟨szL, fun p hp => gone (by rw [hsp]; rfl) p hp⟩)
    | true =>
      obtain ⟨kb, hkb⟩ := hS.line_kd (List.mem_cons_of_mem _ (hS.sp_in.mp hsp))
      have hlet := SA.isLet_kd hkb
      refine iteF ⟨_, rfl, a, sdx, _, rfl, C.ob, rfl, _, rfl, rfl, a, S, _, b, kb, rfl, hF, hbv, hkb, neS ⟨_, rfl, ?_⟩⟩
      rw [show decide (kb.s = "let") = decide (kb = .lt) from Kd.s_eq kb .lt, ← hlet]
      cases hl : S.isLet b with
      | false => exact iteT ⟨szL, fun p hp => gone (by rw [hsp, hl]; rfl) p hp⟩
      | true =>
        refine iteF ⟨_, rfl, _, rfl, _, rfl, rfl, v, S, zv, z, rfl, hV, hzv, fun p ws H1 s1 hp hws => inSt (dp_same s1 hbv) (SqL.of hp) hws ⟨_, rfl, ?_⟩⟩
        have ht : S.told z = if b ∈ S.visible z then .bound b else .out := by
          unfold SA.told
          rw [hbd]
          simp only [hsp, hl]
          rfl
        refine ite2 (fun c => ?_) (fun c => ?_)
        · have c := of_decide_eq_true c
          rw [if_pos c] at ht
          refine ⟨_, rfl, szL, fun p2 hp2 => fin s1 ht hp2 (.tup (SqT.of upd_same) (.cons (.str _) (.cons (dp_same (s1.trans (same_new hp2)) hbv) .nil)))⟩
        · have c := of_decide_eq_false (by simpa using c : decide (b ∈ S.visible z) = false)
          rw [if_neg c] at ht
          refine ⟨szL, fun p2 hp2 => fin s1 ht hp2 (.tup (SqT.of upd_same) (.cons (.str _) .nil))⟩
def sp_check_scope_thing (P : Program) (w : World) (K : PySem.W.Frag) : Sp := fun us H Q _ => us.length = 2 ∧ ∃ (a : Addr) (S : SA) (zv : V) (z : St2), us = [.ref a, zv] ∧ StF P w K H a S ∧ Dp K H zv (sD z) ∧ z ∈ S.line ∧ Q .non H
theorem ok_check_scope_thing (T : Tx w K mg e0) : Kn P w K mg base 7 (He.ga K "check_scope_thing") ["state", "thing"] (sp_check_scope_thing P w K) := by
  have G_check_state : Kn P w K mg base 1 _ _ _ := ok_check_state T
  have G_State_look_in : Kn P w K mg base 6 _ _ _ := ok_look_in T
  refine T.d_check_scope_thing.kn sc_check_scope_thing (fun _ _ _ _ _ _ us hl => match us, hl with | [_, _], _ => rfl) (fun vs H Q E h => h.1) (fun cdv A outer s H vs Q E hr h => ?_)
  have hu := hu65 hr
  obtain ⟨_, a, S, zv, z, rfl, hF, hzv, hz, q⟩ := h
  obtain ⟨⟨sdx, ak, ac, ap, au, al, ai, C⟩, hS, hSl⟩ := id hF
  obtain ⟨kk, hkk⟩ := hS.line_kd hz
  refine ⟨_, (pss_cons (ps_expr (pe_fn G_check_state (hr.mono (by first | decide | exact Nat.le_refl _ | exact Nat.le_add_right_of_le (by decide) | omega)) T.g_check_state (pa_cons (pv 0) pa_nil)))
    (pss_one (ps_expr (pe_mt (pv 0) T.cls_State T.me_State_look_in G_State_look_in (hr.mono (by first | decide | exact Nat.le_refl _ | exact Nat.le_add_right_of_le (by decide) | omega)) (pa_cons (pv 1) pa_nil))))), ?_⟩
  exact ⟨_, rfl, rfl, a, sdx, _, rfl, C.ob, _, rfl, a, sdx, _, rfl, C.ob, rfl, _, rfl, rfl, a, S, zv, z, kk, rfl, hF, hzv, hkk, hz, q⟩
def sp_check_scope_kind (P : Program) (w : World) (K : PySem.W.Frag) : Sp := fun us H Q _ => us.length = 3 ∧ ∃ (a : Addr) (S : SA) (zv : V) (z : St2) (kk : Kd), us = [.ref a, zv, .str kk.s] ∧ StF P w K H a S ∧ Dp K H zv (sD z) ∧ z ∈ S.line ∧ lk S.kd z = some kk ∧ Q .non H
theorem ok_check_scope_kind (T : Tx w K mg e0) : Kn P w K mg base 7 (He.ga K "check_scope_kind") ["state", "thing", "kind"] (sp_check_scope_kind P w K) := by
  have G_check_state : Kn P w K mg base 1 _ _ _ := ok_check_state T
  have G_State_look_in_of : Kn P w K mg base 6 _ _ _ := ok_look_in_of T
  refine T.d_check_scope_kind.kn sc_check_scope_kind (fun _ _ _ _ _ _ us hl => match us, hl with | [_, _, _], _ => rfl) (fun vs H Q E h => h.1) (fun cdv A outer s H vs Q E hr h => ?_)
  have hu := hu65 hr
  obtain ⟨_, a, S, zv, z, kk, rfl, hF, hzv, hz, hkk, q⟩ := h
  obtain ⟨⟨sdx, ak, ac, ap, au, al, ai, C⟩, hS, hSl⟩ := id hF
  refine ⟨_, (pss_cons (ps_expr (pe_fn G_check_state (hr.mono (by first | decide | exact Nat.le_refl _ | exact Nat.le_add_right_of_le (by decide) | omega)) T.g_check_state (pa_cons (pv 0) pa_nil)))
    (pss_one (ps_expr (pe_mt (pv 0) T.cls_State T.me_State_look_in_of G_State_look_in_of (hr.mono (by first | decide | exact Nat.le_refl _ | exact Nat.le_add_right_of_le (by decide) | omega)) (pa_cons (pv 1) (pa_cons (pv 2) pa_nil)))))), ?_⟩
  exact ⟨_, rfl, rfl, a, sdx, _, rfl, C.ob, _, rfl, a, sdx, _, rfl, C.ob, rfl, _, rfl, _, rfl, rfl, a, S, zv, z, kk, rfl, hF, hzv, hz, hkk, q⟩
def sp_told_use (P : Program) (w : World) (K : PySem.W.Frag) : Sp := fun us H Q _ => us.length = 2 ∧ ∃ (a : Addr) (S : SA) (zv : V) (z : St2), us = [.ref a, zv] ∧ StF P w K H a S ∧ Dp K H zv (sD z) ∧ z ∈ S.line ∧ lk S.kd z = some .use ∧
  ∀ (r : V) (H' : Hp), Same H H' → Dp K H' r (S.told z).d → Q r H'
theorem ok_told_use (T : Tx w K mg e0) : Kn P w K mg base 76 (He.ga K "told_use") ["state", "use"] (sp_told_use P w K) := by
  have G_check_scope_kind : Kn P w K mg base 7 _ _ _ := ok_check_scope_kind T
  have G_told_within : Kn P w K mg base 14 _ _ _ := ok_told_within T
  have G_TreeView_init : KnD P w K mg base 73 _ _ _ _ := ok_TreeView_init T
  refine T.d_told_use.kn sc_told_use (fun _ _ _ _ _ _ us hl => match us, hl with | [_, _], _ => rfl) (fun vs H Q E h => h.1) (fun cdv A outer s H vs Q E hr h => ?_)
  have hu := hu65 hr
  obtain ⟨_, a, S, zv, z, rfl, hF, hzv, hz, hkk, q⟩ := h
  refine ⟨_, (pss_cons (ps_expr (pe_fn G_check_scope_kind (hr.mono (by first | decide | exact Nat.le_refl _ | exact Nat.le_add_right_of_le (by decide) | omega)) T.g_check_scope_kind (pa_cons (pv 0) (pa_cons (pv 1) (pa_cons pe_str pa_nil)))))
    (pss_one (ps_ret (pe_fn G_told_within (hr.mono (by first | decide | exact Nat.le_refl _ | exact Nat.le_add_right_of_le (by decide) | omega)) T.g_told_within (pa_cons (pe_mk T.mk_TreeView G_TreeView_init (hr.mono (by first | decide | exact Nat.le_refl _ | exact Nat.le_add_right_of_le (by decide) | omega)) T.g_TreeView (pa_cons (pv 0) pa_nil)) (pa_cons (pv 1) pa_nil)))))), ?_⟩
  refine ⟨_, rfl, _, rfl, rfl, a, S, zv, z, .use, rfl, hF, hzv, hz, hkk, ?_⟩
  refine ⟨_, rfl, fun x dx nx ndx nex => ?_⟩
  have s1 := same_new (o := .own x) ndx
  have nx1 : (upd H dx (.own x)) x = none := by rw [upd_ne (Ne.symm nex)]; exact nx
  have s2 := s1.trans (same_new (o := .ins (He.ga K "TreeView") dx []) nx1)
  refine ⟨rfl, x, dx, a, S, rfl, upd_same, hF.same s2, fun H2 f2 V => ⟨rfl, ?_⟩⟩
  have s3 : Same H H2 := same_fr s2 f2 (by
    intro z hz
    obtain rfl := List.mem_singleton.mp hz
    exact nx)
  exact ⟨_, rfl, rfl, x, S, zv, z, rfl, ⟨a, V, hF.same s3⟩, dp_same s3 hzv, hkk, fun r H4 s4 hr4 => q r H4 (s3.trans s4) hr4⟩
end Ss
/-! Walks: parts and values. -/
namespace Ss
open PySem PySem.Spec PyProof.Rows L2
variable {P : Program} {w : World} {K : PySem.W.Frag} {mg : Str → Option Value} {base : Heap} {e0 : Addr}
/-- the heap without one place -/
def less (H : Hp) (v : Addr) : Hp := fun c => if c = v then none else H c
theorem less_fr {H H' : Hp} {v : Addr} (f : Fr [v] H H') : Same (less H v) H' := fun c u e => by
  have e : (if c = v then none else H c) = some u := e
  by_cases hc : c = v
  · rw [if_pos hc] at e; cases e
  · rw [if_neg hc] at e
    exact f c u (by simpa using hc) e
theorem less_none {H : Hp} {v c : Addr} (h : H c = none) : less H v c = none := by
  unfold less
  by_cases hc : c = v
  · rw [if_pos hc]
  · rw [if_neg hc]; exact h
theorem less_at {H : Hp} {v : Addr} : less H v v = none := if_pos rfl
theorem less_same {H : Hp} {v : Addr} : Same (less H v) H := fun c u e => by
  have e : (if c = v then none else H c) = some u := e
  by_cases hc : c = v
  · rw [if_pos hc] at e; cases e
  · rw [if_neg hc] at e; exact e
/-- without an instance: tuples and lists stay -/
theorem less_lt {H : Hp} {v : Addr} (nl : NL H v) : LTLe H (less H v) := by
  have s : ∀ {c : Addr} {u : HO}, H c = some u → c ≠ v → less H v c = some u := fun {c u} e h => by
    unfold less
    rw [if_neg h]
    exact e
  refine ⟨fun K b xs h => ?_, fun K b xs h => ?_⟩
  · rcases h with h | h
    · have hb : b ≠ v := fun z => nl.1 xs (z ▸ h)
      rcases h with h | ⟨o, h⟩
      · exact .inl (.inl (s h hb))
      · exact .inl (.inr ⟨o, s h hb⟩)
    · exact .inr h
  · rcases h with h | h
    · have hb : b ≠ v := fun z => nl.2 xs (z ▸ h)
      rcases h with h | ⟨o, h⟩
      · exact .inl (.inl (s h hb))
      · exact .inl (.inr ⟨o, s h hb⟩)
    · exact .inr h
theorem StF.less {H : Hp} {v a C dx : Addr} {fs : List (Str × V)} {S : SA} (h : StF P w K H a S) (hv : H v = some (.ins C dx fs)) (hva : v ≠ a) : StF P w K (less H v) a S := by
  obtain ⟨⟨sdx, ak, ac, ap, au, al, ai, C⟩, hS, hSl⟩ := h
  have l := less_lt (nl_ins hv)
  have s : ∀ {c : Addr} {u : HO}, H c = some u → c ≠ v → Ss.less H v c = some u := fun {c u} e h => by
    unfold Ss.less
    rw [if_neg h]
    exact e
  have dm : ∀ {α : Type} {R : Hp → V → α → Prop} {c : Addr} {m : Tb α}, Stb R → DM P w K R H c m → DM P w K R (Ss.less H v) c m := fun {α R c m} st h => h.moveL st l fun u e => by
    obtain ⟨es, e2, _⟩ := h
    rw [e2] at e
    cases e
    exact s e2 (fun z => by rw [z, hv] at e2; cases e2)
  obtain ⟨vs, h1, h2⟩ := C.line
  exact ⟨⟨sdx, ak, ac, ap, au, al, ai, s C.ob (Ne.symm hva), dm rd_stb.stb C.kd, dm rd_stb.stb C.ct, dm rls_stb C.un, ⟨vs, l.2 _ _ _ h1, dpa_tup l.1 (immAll_sD _) h2⟩, dm ryes_stb C.inn⟩, hS, hSl⟩
def strB (d : PyData) (n : Str) : Bool := match d with
  | .str x => decide (x = n)
  | _ => false
def sp_is_word (K : PySem.W.Frag) : Sp := fun us H Q _ => us.length = 2 ∧ ∃ (v : V) (d : PyData) (n : Str), us = [v, .str n] ∧ Dp K H v d ∧ Q (.bl (strB d n)) H
theorem ok_is_word (T : Tx w K mg e0) : Kn P w K mg base 1 (He.ga K "is_word") ["value", "word"] (sp_is_word K) := by
  refine T.d_is_word.kn sc_is_word (fun _ _ _ _ _ _ us hl => match us, hl with | [_, _], _ => rfl) (fun vs H Q E h => h.1) (fun cdv A outer s H vs Q E hr h => ?_)
  have hu := hu65 hr
  obtain ⟨_, v, d, n, rfl, hv, q⟩ := h
  refine ⟨_, (pss_one (ps_ret (pe_and (pe_callB (cb_isinstance hu) (by rfl) T.b_isinstance (by decide +kernel) (pa_cons (pv 0) (pa_cons (pe_bltn (v := .ty "str") (by rfl) T.b_str PyProof.Rows.boot_str rfl) pa_nil))) (pe_one (pe_cmpR (op_eqA hu) (pv 0) (pv 1) (nomark _)))))), ?_⟩
  refine ⟨_, rfl, isi_d hv (kit_str d) ⟨_, rfl, ?_⟩⟩
  cases d with
  | str x =>
    obtain rfl := dp_str hv
    exact iteT ⟨_, rfl, _, rfl, eqS q⟩
  | _ => exact iteF q
theorem kd_eq {kk : Kd} {x : Str} {k : Kd} (h : k.s = x) : decide (kk.s = x) = decide (kk = k) := by rw [← h]; exact Kd.s_eq kk k
def sp_parts_in (P : Program) (w : World) (K : PySem.W.Frag) : Sp := fun us H Q _ => us.length = 2 ∧ ∃ (a : Addr) (S : SA) (zv : V) (z : St2), us = [.ref a, zv] ∧ StF P w K H a S ∧ Dp K H zv (sD z) ∧ z ∈ S.line ∧
  ∀ (p : Addr) (ws : List V) (H' : Hp), Same H H' → H p = none → H' p = some (.lst ws) → DpAll K H' ws ((S.parts z).map sD) → Q (.ref p) H'
theorem kids_le {S : SA} (h : SInv S) (hl : S.kd.length ≤ 61) (x : St2) : (S.kids x).length ≤ 61 := by
  obtain ⟨rk, hun⟩ := h.un
  have := nodup_le (hun.k.nd x) (fun y hy => hun.k.mem x y hy)
  rw [List.length_map] at this
  exact Nat.le_trans this hl
theorem cut_last (us : List V) : cutV us (some (-1)) none = us.drop (us.length - 1) := by
  unfold cutV
  have e : HT.sIx us.length 0 (some (-1)) = us.length - 1 := by
    show (if (-1 : Int) < 0 then ((-1 : Int) + (us.length : Int)).toNat else min (-1 : Int).toNat us.length) = _
    rw [if_pos (by decide)]
    omega
  rw [HT.sIx_none, e, List.take_of_length_le (by rw [List.length_drop]; exact Nat.le_refl _)]
theorem filterMap_if {α β : Type} {l : List α} {c : α → Bool} {f : α → β} : l.filterMap (fun y => if c y = true then some (f y) else none) = (l.filter c).map f := by
  induction l with
  | nil => rfl
  | cons x l ih =>
    rw [List.filterMap_cons, List.filter_cons]
    by_cases h : c x = true
    · rw [if_pos h, if_pos h, List.map_cons, ih]
    · rw [if_neg h, if_neg h, ih]
theorem parts_of_kind {S : SA} {z : St2} {k : Kd} (h : lk S.kd z = some k) (h1 : k ≠ .number) (h2 : k ≠ .use) : S.parts z = if k = .sum ∨ k = .product then S.others z else (S.others z).drop ((S.others z).length - 1) := by
  unfold SA.parts
  rw [h]
  cases k <;> simp at h1 h2 ⊢
theorem ok_parts_in (T : Tx w K mg e0) : Kn P w K mg base 77 (He.ga K "parts_in") ["state", "thing"] (sp_parts_in P w K) := by
  have G_State_kind : Kn P w K mg base 7 _ _ _ := ok_kind T
  have G_State_under : Kn P w K mg base 7 _ _ _ := ok_under T
  have G_told_use : Kn P w K mg base 76 _ _ _ := ok_told_use T
  refine T.d_parts_in.kn sc_parts_in (fun _ _ _ _ _ _ us hl => match us, hl with | [_, _], _ => rfl) (fun vs H Q E h => h.1) (fun cdv A outer s H vs Q E hr h => ?_)
  have hu := hu65 hr
  obtain ⟨_, a, S, zv, z, rfl, hF, hzv, hz, q⟩ := h
  obtain ⟨⟨dx, ak, ac, ap, au, al, ai, C⟩, hS, hSl⟩ := id hF
  obtain ⟨kk, hkk⟩ := hS.line_kd hz
  refine ⟨_, (pss_cons (ps_set (i := 2) sc_parts_in.nd rfl (Or.inl rfl) (pe_mt (pv 0) T.cls_State T.me_State_kind G_State_kind (hr.mono (by first | decide | exact Nat.le_refl _ | exact Nat.le_add_right_of_le (by decide) | omega)) (pa_cons (pv 1) pa_nil)))
    (pss_cons (ps_if (pt_cmpR (op_eqA hu) (pv 2) pe_str (nomark _)) (pss_one (ps_ret (pe_lst pa_nil))) pss_nil)
    (pss_cons (ps_if (pt_cmpR (op_eqA hu) (pv 2) pe_str (nomark _)) (pss_cons (ps_set (i := 3) sc_parts_in.nd rfl (Or.inl rfl) (pe_fn G_told_use (hr.mono (by first | decide | exact Nat.le_refl _ | exact Nat.le_add_right_of_le (by decide) | omega)) T.g_told_use (pa_cons (pv 0) (pa_cons (pv 1) pa_nil))))
    (pss_one (ps_ret (pe_ifExp (pt_cmpR (op_eqA hu) (pe_ix (ix_any hu) (pv 3) pe_int (fun _ _ => rfl)) pe_str (nomark _)) (pe_lst (pa_cons (pe_ix (ix_any hu) (pv 3) pe_int (fun _ _ => rfl)) pa_nil)) (pe_lst pa_nil))))) pss_nil)
    (pss_cons (ps_setLc (i := 4) (own := [("one", 5)]) (g := _) (by rfl) sc_parts_in.nd rfl rfl (sw_true rfl rfl rfl (by decide +kernel)) (pi_list (pe_mt (pv 0) T.cls_State T.me_State_under G_State_under (hr.mono (by first | decide | exact Nat.le_refl _ | exact Nat.le_add_right_of_le (by decide) | omega)) (pa_cons (pv 1) pa_nil))) (blkOk_by (N := n_parts_in) (sc := defScope s_parts_in) (by decide +kernel)) (fun _ _ _ _ _ => (pg_name (i := 5) sc_parts_in.nd rfl (Or.inl rfl))) (fun _ _ _ _ _ => pts_one (pt_cmpR (show OpR _ _ (rNeA K) from (op_neA hu)) (pe_mt (pv 0) T.cls_State T.me_State_kind G_State_kind (hr.mono (by first | decide | exact Nat.le_refl _ | exact Nat.le_add_right_of_le (by decide) | omega)) (pa_cons (pv 5) pa_nil)) pe_str (nomark _))) (fun _ _ _ _ _ => (pv 5)))
    (pss_one (ps_ret (pe_ifExp (pt_cmpR (op_inA hu) (pv 2) (pe_tup (pa_cons pe_str (pa_cons pe_str pa_nil))) (by rfl)) (pv 4) (pe_slice sl_any (pv 4) (po_some (pe_un un_neg pe_int)) po_none)))))))), ?_⟩
  refine ⟨_, rfl, a, dx, _, rfl, C.ob, rfl, _, rfl, rfl, a, S, zv, z, kk, rfl, hF, hzv, hkk, ?_⟩
  have nil : S.parts z = [] → ∀ {H1 : Hp} {p : Addr}, Same H H1 → H1 p = none → Q (.ref p) (upd H1 p (.lst [])) := fun e H1 p s1 hp => by
    refine q p [] _ (s1.trans (same_new hp)) (same_none s1 hp) upd_same ?_
    rw [e]
    exact .nil
  refine ⟨_, rfl, eqS ⟨_, rfl, ?_⟩⟩
  rw [show decide (kk.s = "number") = decide (kk = Kd.number) from Kd.s_eq kk Kd.number]
  by_cases h1 : kk = .number
  · subst h1
    refine iteT ⟨szL, fun p hp => nil ?_ (Same.refl _) hp⟩
    unfold SA.parts
    rw [hkk]
  rw [decide_eq_false h1]
  refine iteF ⟨_, rfl, eqS ⟨_, rfl, ?_⟩⟩
  rw [show decide (kk.s = "use") = decide (kk = Kd.use) from Kd.s_eq kk Kd.use]
  by_cases h2 : kk = .use
  · subst h2
    refine iteT ⟨_, rfl, _, rfl, rfl, a, S, zv, z, rfl, hF, hzv, hz, hkk, fun r H1 s1 hr1 => ?_⟩
    have hp : S.parts z = match S.told z with | .bound b => [b] | _ => [] := by
      unfold SA.parts
      rw [hkk]
      all_goals rfl
    cases ht : S.told z with
    | bound b =>
      rw [ht] at hr1 hp
      refine ⟨_, rfl, ixD (d := .str "bound") 0 hr1 fun u hu1 => ?_⟩
      obtain rfl := dp_str hu1
      refine eqS ⟨_, rfl, iteT ⟨_, rfl, ixD (d := sD b) 1 hr1 fun u2 hu2 => ⟨szL, fun p hp2 => q p _ _ (s1.trans (same_new hp2)) (same_none s1 hp2) upd_same ?_⟩⟩⟩
      rw [hp]
      exact .cons (dp_same (same_new hp2) hu2) .nil
    | none =>
      rw [ht] at hr1 hp
      refine ⟨_, rfl, ixD (d := .str "none") 0 hr1 fun u hu1 => ?_⟩
      obtain rfl := dp_str hu1
      exact eqS ⟨_, rfl, iteF ⟨szL, fun p hp2 => nil hp s1 hp2⟩⟩
    | gone =>
      rw [ht] at hr1 hp
      refine ⟨_, rfl, ixD (d := .str "gone") 0 hr1 fun u hu1 => ?_⟩
      obtain rfl := dp_str hu1
      exact eqS ⟨_, rfl, iteF ⟨szL, fun p hp2 => nil hp s1 hp2⟩⟩
    | out =>
      rw [ht] at hr1 hp
      refine ⟨_, rfl, ixD (d := .str "out") 0 hr1 fun u hu1 => ?_⟩
      obtain rfl := dp_str hu1
      exact eqS ⟨_, rfl, iteF ⟨szL, fun p hp2 => nil hp s1 hp2⟩⟩
  rw [decide_eq_false h2]
  refine iteF ⟨_, rfl, a, dx, _, rfl, C.ob, rfl, _, rfl, rfl, a, S, zv, z, kk, rfl, hF, hzv, hkk, fun b us hb hus => ⟨b, rfl, ⟨us, SqL.of upd_same⟩, fun D hD => ?_⟩⟩
  have s1 := same_new (o := .lst us) hb
  have hkl := kids_le hS hSl z
  refine lc_src (K := K) walk_list (fun _ s => s.seq (SqL.of upd_same)) (S.kids z) sD (fun y => if (!S.isLet y) = true then some (sD y) else none) (dpa_same s1 hus) hD (Nat.lt_of_le_of_lt hkl (by decide)) (fun y _ d e => by
      by_cases c : (!S.isLet y) = true
      · rw [if_pos c] at e; cases e; exact imm_sD y
      · rw [if_neg c] at e; cases e) (fun y v2 H2 Q2 R hm s2 hv q1 q2 => ?_) (fun H2 zs s2 hD2 hzs => ?_)
  · obtain ⟨ky, hky⟩ := kid_kd hS hm
    have s3 := s1.trans s2
    refine ⟨rfl, _, rfl, a, dx, _, rfl, s3 _ _ C.ob, rfl, _, rfl, rfl, a, S, v2, y, ky, rfl, hF.same s3, hv, hky, neS ⟨_, rfl, ?_⟩⟩
    rw [show decide (ky.s = "let") = decide (ky = Kd.lt) from Kd.s_eq ky Kd.lt, ← SA.isLet_kd hky]
    cases c : S.isLet y with
    | true => exact iteF (q2 _ (by rw [c]; rfl) (Same.refl _))
    | false => exact iteT ⟨_, rfl, q1 _ (sD y) _ (by rw [c]; rfl) hv (Same.refl _)⟩
  rw [filterMap_if] at hzs
  have s3 := s1.trans s2
  have hDH : H D = none := same_none s1 hD
  have hpk := parts_of_kind hkk h1 h2
  refine ⟨_, rfl, szL, fun p hp => inNewT (SqT.of upd_same) rfl rfl (show _ = decide (kk = .sum ∨ kk = .product) by cases kk <;> decide +kernel) ⟨_, rfl, ?_⟩⟩
  have s4 := s3.trans (same_new (o := .tup [.str "sum", .str "product"]) hp)
  have hp2 := same_new (o := .tup [.str "sum", .str "product"]) hp
  by_cases c : kk = .sum ∨ kk = .product
  · rw [decide_eq_true c]
    rw [if_pos c] at hpk
    refine iteT ⟨_, rfl, q D zs _ s4 hDH (hp2 _ _ hD2) ?_⟩
    rw [hpk]
    exact dpa_same hp2 hzs
  · rw [decide_eq_false c]
    rw [if_neg c] at hpk
    refine iteF ⟨_, rfl, _, rfl, _, rfl, .inl ⟨D, zs, rfl, SqL.of (hp2 _ _ hD2), fun p5 hp5 => ?_⟩⟩
    rw [cut_last]
    have hzl : zs.length = (S.others z).length := by rw [dpa_len hzs, List.length_map]; rfl
    refine q p5 _ _ (s4.trans (same_new hp5)) (same_none s4 hp5) upd_same ?_
    rw [hpk, hzl, List.map_drop]
    exact dpa_drop _ (dpa_same (hp2.trans (same_new hp5)) hzs)
/-! ### values -/
def oV : Option Int → V
  | none => .non
  | some i => .int i
def oD : Option Int → PyData
  | none => .none
  | some i => .int i
theorem dp_oD {H : Hp} {v : V} {o : Option Int} (h : Dp K H v (oD o)) : v = oV o := by
  cases o with
  | none => exact dp_non h
  | some i => exact dp_int h
theorem oD_dp {H : Hp} {o : Option Int} : Dp K H (oV o) (oD o) := by
  cases o with
  | none => exact .non
  | some i => exact .int i
theorem imm_oD (o : Option Int) : imm (oD o) = true := by cases o <;> rfl
theorem flat_oV (vs : List (Option Int)) : (vs.map oV).all flatV = true := by
  rw [List.all_map]
  exact List.all_eq_true.mpr fun o _ => by cases o <;> rfl
theorem in_oV (vs : List (Option Int)) : inV .non (vs.map oV) = decide (none ∈ vs) := by
  induction vs with
  | nil => rfl
  | cons o r ih =>
    show (eqV _ _ || inV .non (r.map oV)) = _
    rw [ih]
    cases o with
    | none => simp [oV, eqV]
    | some i => simp [oV, eqV]
theorem dpa_ofInts {H : Hp} : ∀ (ns : List Int), DpAll K H (ns.map V.int) (ns.map .int)
  | [] => .nil
  | n :: r => .cons (.int n) (dpa_ofInts r)
theorem fmod_prime (i : Int) : i.fmod 9973 = i % 9973 := Int.fmod_eq_emod_of_nonneg i (by decide)
theorem fold_bound : ∀ (ns : List Int) (a : Int), 0 ≤ a ∧ a ≤ 9972 → 0 ≤ ns.foldl (fun a b => a * b % 9973) a ∧ ns.foldl (fun a b => a * b % 9973) a ≤ 9972
  | [], a, h => h
  | n :: r, a, h => fold_bound r (a * n % 9973) ⟨Int.emod_nonneg _ (by decide), by have := Int.emod_lt_of_pos (a * n) (show (0 : Int) < 9973 by decide); omega⟩
def sp_joined_value (K : PySem.W.Frag) : Sp := fun us H Q _ => us.length = 2 ∧ ∃ (a : Addr) (kk : Kd) (vs : List (Option Int)), us = [.str kk.s, .ref a] ∧ SqL K H a (vs.map oV) ∧ vs.length ≤ 100 ∧ ∀ (H' : Hp), Same H H' → Q (oV (kk.join vs)) H'
theorem ok_joined_value (T : Tx w K mg e0) : Kn P w K mg base 1 (He.ga K "joined_value") ["kind", "values"] (sp_joined_value K) := by
  refine T.d_joined_value.kn sc_joined_value (fun _ _ _ _ _ _ us hl => match us, hl with | [_, _], _ => rfl) (fun vs H Q E h => h.1) (fun cdv A outer s H vs Q E hr h => ?_)
  have hu := hu65 hr
  obtain ⟨_, a, kk, vs, rfl, ha, hl, q⟩ := h
  refine ⟨_, (pss_cons (ps_if (pt_cmpR (op_inA hu) pe_non (pv 1) (by rfl)) (pss_one (ps_ret pe_non)) pss_nil)
    (pss_cons (ps_if (pt_cmpR (op_eqA hu) (pv 0) pe_str (nomark _)) (pss_one (ps_ret (pe_op op_modN (pe_callB (cb_sum hu) (by rfl) T.b_sum (by decide +kernel) (pa_cons (pe_lc (own := [("value", 2)]) (by rfl) sc_joined_value.nd (pi_list (pv 1)) (blkOk_by (N := n_joined_value) (sc := defScope s_joined_value) (by decide +kernel)) (fun _ _ _ _ _ => (pg_name (i := 2) sc_joined_value.nd rfl (Or.inl rfl))) (fun _ _ _ _ _ => pts_nil) (fun _ _ _ _ _ => (pe_callTy (show CallR _ _ rIntA from (cb_int hu)) (by rfl) T.b_int (by decide +kernel) (pa_cons (pv 2) pa_nil)))) pa_nil)) (pe_globI rfl T.i_PRIME)))) pss_nil)
    (pss_cons (ps_if (pt_cmpR (op_eqA hu) (pv 0) pe_str (nomark _)) (pss_cons (ps_set (i := 3) sc_joined_value.nd rfl (Or.inl rfl) pe_int)
    (pss_cons (ps_for PassesOwn.never rfl (pi_list (pv 1)) (pg_name (i := 2) sc_joined_value.nd rfl (Or.inl rfl)) (pss_one (ps_set (i := 3) sc_joined_value.nd rfl (Or.inl rfl) (pe_op op_modN (pe_op op_mul (pv 3) (pv 2)) (pe_globI rfl T.i_PRIME)))))
    (pss_one (ps_ret (pv 3))))) pss_nil)
    (pss_cons (ps_if (pt_not (pt_truth (pv 1) (by intro _; rfl))) (pss_one (ps_ret (pe_ifExp (pt_cmpR (op_eqA hu) (pv 0) pe_str (nomark _)) pe_non pe_int))) pss_nil)
    (pss_one (ps_ret (pe_ix (ix_any hu) (pv 1) (pe_un un_neg pe_int) (fun _ _ => rfl)))))))), ?_⟩
  refine ⟨_, rfl, inNewL ha rfl (flat_oV vs) (in_oV vs) ⟨_, rfl, ?_⟩⟩
  cases hs : allS vs with
  | none =>
    rw [decide_eq_true (allS_none.mp hs)]
    refine iteT ?_
    have e : kk.join vs = none := by unfold Kd.join; rw [hs]
    have := q H (Same.refl _)
    rw [e] at this
    exact this
  | some ns =>
    have hn : none ∉ vs := fun z => by rw [allS_none.mpr z] at hs; cases hs
    rw [decide_eq_false hn]
    have hj : kk.join vs = kk.joinI ns := by unfold Kd.join; rw [hs]
    have ev : vs.map oV = ns.map V.int := by
      rw [allS_some hs, List.map_map]
      rfl
    rw [ev] at ha
    have hnl : ns.length ≤ 100 := by rw [allS_some hs, List.length_map] at hl; exact hl
    refine iteF ⟨_, rfl, eqS ⟨_, rfl, ?_⟩⟩
    rw [show decide (kk.s = "sum") = decide (kk = Kd.sum) from Kd.s_eq kk Kd.sum]
    by_cases h1 : kk = .sum
    · subst h1
      refine iteT ⟨_, rfl, a, rfl, ⟨_, ha⟩, fun D hD => ?_⟩
      refine lc_src (K := K) walk_list (fun _ s => s.seq ha) ns .int (fun n => some (.int n)) (dpa_ofInts ns) hD (Nat.lt_of_le_of_lt hnl (by decide)) (fun n _ d e => by cases e; rfl) (fun n v H2 Q2 R hm s2 hv q1 q2 => ?_) (fun H2 ws s2 hD2 hws => ?_)
      · obtain rfl := dp_int hv
        exact ⟨rfl, iteT (B := R H2) ⟨_, rfl, .inl ⟨n, rfl, q1 _ _ _ rfl (.int n) (Same.refl _)⟩⟩⟩
      · rw [show ns.filterMap (fun n => some (PyData.int n)) = ns.map .int by simp] at hws
        obtain rfl := dpa_ints hws
        refine ⟨D, ns, rfl, SqL.of hD2, _, _, rfl, rfl, (by show (9973 : Int) ≠ 0; decide), ?_⟩
        have := q H2 s2
        rw [hj] at this
        exact (show Q (.int (ns.sum.fmod 9973)) H2 by rw [fmod_prime]; exact this)
    rw [decide_eq_false h1]
    refine iteF ⟨_, rfl, eqS ⟨_, rfl, ?_⟩⟩
    rw [show decide (kk.s = "product") = decide (kk = Kd.product) from Kd.s_eq kk Kd.product]
    by_cases h2 : kk = .product
    · subst h2
      refine iteT ⟨_, rfl, a, rfl, ⟨_, ha⟩, ?_⟩
      refine for_it walk_list (fun i σ H2 => (∃ o2, σ = [some (.str Kd.product.s), some (.ref a), o2, some (.int ((ns.take i).foldl (fun a b => a * b % 9973) 1))]) ∧ H2 = H) ⟨⟨_, rfl⟩, rfl⟩ (fun _ _ _ _ p => p.2 ▸ ha) (fun i vv σ H2 H3 hi pp yy => ?_) (fun σ H2 pp => ?_)
      · obtain ⟨⟨o2, rfl⟩, rfl⟩ := pp
        obtain ⟨rfl, hx⟩ := yy
        rw [List.getElem?_map] at hx
        cases hx2 : ns[i]? with
        | none => rw [hx2] at hx; cases hx
        | some n =>
          rw [hx2] at hx
          obtain rfl : V.int n = vv := Option.some.inj hx
          have hb := fold_bound (ns.take i) 1 ⟨by decide, by decide⟩
          refine ⟨_, rfl, _, rfl, _, _, rfl, rfl, .inl ⟨by omega, by omega⟩, _, _, rfl, rfl, (by show (9973 : Int) ≠ 0; decide), ⟨some (.int n), ?_⟩, rfl⟩
          rw [List.take_add_one, hx2, List.foldl_append]
          show [some (V.str Kd.product.s), some (.ref a), some (.int n), some (.int ((((ns.take i).foldl (fun a b => a * b % 9973) 1) * n).fmod 9973))] = _
          rw [fmod_prime]
          rfl
      · obtain ⟨⟨o2, rfl⟩, rfl⟩ := pp
        rw [List.length_map, List.take_length]
        have := q _ (Same.refl _)
        rw [hj] at this
        exact ⟨_, rfl, this⟩
    rw [decide_eq_false h2]
    refine iteF ⟨_, rfl, _, .inl ⟨_, ha, rfl⟩, ?_⟩
    have hj2 : kk.join vs = match ns.getLast? with | none => if kk = .use then none else some 0 | some x => some x := by
      rw [hj]
      cases kk <;> first | rfl | exact absurd rfl h1 | exact absurd rfl h2
    have q2 := q H (Same.refl _)
    rw [hj2] at q2
    cases hg : ns.getLast? with
    | none =>
      obtain rfl := List.getLast?_eq_none_iff.mp hg
      refine iteT ⟨_, rfl, eqS ⟨_, rfl, ?_⟩⟩
      rw [show decide (kk.s = "use") = decide (kk = Kd.use) from Kd.s_eq kk Kd.use]
      by_cases h3 : kk = .use
      · rw [decide_eq_true h3]
        refine iteT ?_
        simp only [List.getLast?_nil, if_pos h3] at q2
        exact q2
      · rw [decide_eq_false h3]
        refine iteF ?_
        simp only [List.getLast?_nil, if_neg h3] at q2
        exact q2
    | some x =>
      rw [hg] at q2
      cases ns with
      | nil => cases hg
      | cons n r =>
        refine iteF ⟨_, rfl, _, rfl, ixLl ha (by rw [List.getLast?_map, hg]; rfl) q2⟩
/-! ### what hangs -/
abbrev hgO (K : PySem.W.Frag) (dx a o p : Addr) : HO := .ins (He.ga K "Hanging") dx [("state", .ref a), ("order", .ref o), ("parts", .ref p)]
abbrev hf1 (a : Addr) : List (Str × V) := [("state", .ref a)]
abbrev hf2 (a o : Addr) : List (Str × V) := hf1 a ++ [(("order" : Str), V.ref o)]
def SA.partsT (S : SA) : Tb (List St2) := S.ends.map fun z => (z, S.parts z)
structure HgC (P : Program) (w : World) (K : PySem.W.Frag) (H : Hp) (h dx a o p : Addr) (S : SA) : Prop where
  ob : H h = some (hgO K dx a o p)
  st : StF P w K H a S
  ord : ∃ us, H o = some (.lst us) ∧ DpAll K H us (S.ends.map sD)
  pts : DM P w K (RLs K) H p S.partsT
def HgF (P : Program) (w : World) (K : PySem.W.Frag) (H : Hp) (h : Addr) (S : SA) : Prop := ∃ dx a o p, HgC P w K H h dx a o p S
theorem HgF.same {H H' : Hp} {h : Addr} {S : SA} (g : HgF P w K H h S) (s : Same H H') : HgF P w K H' h S := by
  obtain ⟨dx, a, o, p, h1, h2, ⟨us, h3, h4⟩, h5⟩ := g
  exact ⟨dx, a, o, p, s _ _ h1, h2.same s, ⟨us, s _ _ h3, dpa_same s h4⟩, h5.same rls_stb s⟩
theorem SA.partsT_keys (S : SA) : S.partsT.map (·.1) = S.ends := by
  unfold SA.partsT
  rw [List.map_map]
  simp [Function.comp_def]
theorem SInv.partsT_at {S : SA} (h : SInv S) {z : St2} (hz : z ∈ S.line) : lk S.partsT z = some (S.parts z) := by
  refine lk_of_mem (by rw [SA.partsT_keys]; exact h.ends_nd) ?_
  exact List.mem_map_of_mem (f := fun z => (z, S.parts z)) (h.ends_perm.mem_iff.mpr hz)
theorem take_new {l : List St2} (nd : l.Nodup) {i : Nat} {k : St2} (h : l[i]? = some k) : k ∉ l.take i := fun z => by
  rw [← List.take_append_drop i l, List.nodup_append] at nd
  refine absurd rfl (nd.2.2 k z k ?_)
  refine List.mem_of_getElem? (i := 0) ?_
  rw [List.getElem?_drop]
  exact h
def sp_Hanging_init (P : Program) (w : World) (K : PySem.W.Frag) : Sp := fun us H Q _ => us.length = 2 ∧ ∃ (h dx a : Addr) (S : SA), us = [.ref h, .ref a] ∧ H h = some (.ins (He.ga K "Hanging") dx []) ∧ StF P w K H a S ∧
  ∀ H', Fr [h] H H' → HgF P w K H' h S → Q .non H'
theorem ok_Hanging_init (T : Tx w K mg e0) : Kn P w K mg base 78 (He.ma K (He.ga K "Hanging") "__init__") ["self", "state"] (sp_Hanging_init P w K) := by
  have G_ends_of : Kn P w K mg base 73 _ _ _ := ok_ends_of T
  have G_parts_in : Kn P w K mg base 77 _ _ _ := ok_parts_in T
  refine T.d_Hanging_init.kn sc_Hanging_init (fun _ _ _ _ _ _ us hl => match us, hl with | [_, _], _ => rfl) (fun vs H Q E h => h.1) (fun cdv A outer s H vs Q E hr h => ?_)
  have hu := hu65 hr
  have hu1 := hu_of hr
  obtain ⟨_, v, dx, a, S, rfl, hv, hF, q⟩ := h
  have hva : v ≠ a := fun z => by
    obtain ⟨⟨_, _, _, _, _, _, _, C⟩, _⟩ := hF
    have := C.ob
    rw [← z, hv] at this
    exact absurd (HO.ins.inj (Option.some.inj this)).2.2 (by simp)
  have hF0 := hF.less hv hva
  obtain ⟨_, hS, hSl⟩ := id hF
  refine ⟨_, (pss_cons (ps_fld (pv 0) (pv 1) rfl)
    (pss_cons (ps_fld (pv 0) (pe_fn G_ends_of (hr.mono (by first | decide | exact Nat.le_refl _ | exact Nat.le_add_right_of_le (by decide) | omega)) T.g_ends_of (pa_cons (pv 1) pa_nil)) rfl)
    (pss_one (ps_fld (pv 0) (pe_dk (own := [("thing", 2)]) (dkT_ok hu1) (by rfl) sc_Hanging_init.nd (pi_list (pe_fld (pv 0) rfl)) (blkOk_by (N := n_Hanging_init) (sc := defScope s_Hanging_init) (by decide +kernel)) (fun _ _ _ _ _ => (pg_name (i := 2) sc_Hanging_init.nd rfl (Or.inl rfl))) (fun _ _ _ _ _ => pts_nil) (fun _ _ _ _ _ => (pv 2)) (fun _ _ _ _ _ => (pe_fn G_parts_in (hr.mono (by first | decide | exact Nat.le_refl _ | exact Nat.le_add_right_of_le (by decide) | omega)) T.g_parts_in (pa_cons (pv 1) (pa_cons (pv 2) pa_nil))))) rfl)))), ?_⟩
  refine ⟨_, rfl, _, rfl, v, _, dx, _, rfl, hv, T.cls_Hanging, T.na_Hanging_state, by simp, ?_⟩
  have g1 : (upd H v (.ins (He.ga K "Hanging") dx (hf1 a))) v = some (.ins (He.ga K "Hanging") dx (hf1 a)) := upd_same
  have f1 : Fr [v] H (upd H v (.ins (He.ga K "Hanging") dx (hf1 a))) := Fr.refl.at (by simp)
  show tSeq _ _ _ _ (upd H v (.ins (He.ga K "Hanging") dx (hf1 a)))
  revert g1 f1
  generalize upd H v (.ins (He.ga K "Hanging") dx (hf1 a)) = H1
  intro g1 f1
  refine ⟨_, rfl, rfl, a, S, rfl, hF0.same (less_fr f1), fun o us H2 s2 ho ho2 hus => ?_⟩
  refine ⟨_, rfl, v, _, dx, _, rfl, s2 _ _ g1, T.cls_Hanging, T.na_Hanging_order, by simp, ?_⟩
  rw [putF_new (ks := ["state"]) rfl (by decide +kernel)]
  have hov : o ≠ v := fun z => by rw [z, g1] at ho; cases ho
  have g2 : (upd H2 v (.ins (He.ga K "Hanging") dx (hf2 a o))) v = some (.ins (He.ga K "Hanging") dx (hf2 a o)) := upd_same
  have f2 : Fr [v] H (upd H2 v (.ins (He.ga K "Hanging") dx (hf2 a o))) := (f1.trans (Same.fr s2)).at (by simp)
  have o2 : (upd H2 v (.ins (He.ga K "Hanging") dx (hf2 a o))) o = some (.lst us) := by rw [upd_ne hov]; exact ho2
  have us2 := dpa_tup (tup_ins (s2 _ _ g1) (o := .ins (He.ga K "Hanging") dx (hf2 a o))) (immAll_sD _) hus
  show tSeq _ _ _ _ (upd H2 v (.ins (He.ga K "Hanging") dx (hf2 a o)))
  revert g2 f2 o2 us2
  generalize upd H2 v (.ins (He.ga K "Hanging") dx (hf2 a o)) = H3
  intro g2 f2 o2 us2
  have hlen : us.length = S.ends.length := by rw [dpa_len us2, List.length_map]
  have hel : S.ends.length ≤ 62 := by rw [hS.ends_perm.length_eq]; exact hS.line_len hSl
  refine ⟨_, rfl, v, _, dx, _, _, rfl, g2, T.cls_Hanging, T.na_Hanging_order, rfl, o, rfl, ⟨_, SqL.of o2⟩, fun D hD => ?_⟩
  refine dk_it (K := K) walk_list (fun i H4 => Same H3 H4 ∧ DM P w K (RLs K) H4 D ((S.ends.take i).map fun z => (z, S.parts z))) ⟨same_new hD, [], upd_same, .nil⟩ (fun i H4 _ p => p.1.seq (SqL.of o2)) (fun i x H4 H5 hi p yy => ?_) (fun H4 p => ?_)
  · obtain ⟨s4, dm4⟩ := p
    obtain ⟨rfl, hx⟩ := yy
    obtain ⟨z, hz, hzv⟩ := dpa_mem us2 hx
    have hzl : z ∈ S.line := hS.ends_perm.mem_iff.mp (List.mem_of_getElem? hz)
    refine ⟨rfl, ?_⟩
    refine iteT (B := Same H3 H5 ∧ DM P w K (RLs K) H5 D ((S.ends.take (i + 1)).map fun z => (z, S.parts z))) ?_
    refine ⟨_, rfl, _, rfl, _, rfl, rfl, a, S, x, z, rfl, hF0.same ((less_fr f2).trans s4), dp_same s4 hzv, hzl, fun p ws H6 s6 hp hp6 hws => ?_⟩
    refine dk_put (x := S.parts z) (dm4.same rls_stb s6) rls_stb (dp_same (s4.trans s6) hzv) ⟨p, ws, rfl, SqL.of hp6, hws⟩ ?_ fun es7 dm7 l7 => ⟨same_mut (s4.trans s6) hD, ?_⟩
    · rw [List.length_map, List.length_take]
      exact Nat.lt_of_le_of_lt (Nat.le_trans (Nat.min_le_right _ _) hel) (by decide)
    · rw [putM_new (by
        rw [lk_none, List.map_map]
        simpa [Function.comp_def] using take_new hS.ends_nd hz)] at dm7
      rw [List.take_add_one, hz, List.map_append]
      exact dm7
  · obtain ⟨s4, dm4⟩ := p
    rw [hlen, List.take_length] at dm4
    refine ⟨_, rfl, v, _, dx, _, rfl, s4 _ _ g2, T.cls_Hanging, T.na_Hanging_parts, by simp, ?_⟩
    rw [putF_new (ks := ["state", "order"]) rfl (by decide +kernel)]
    have t5 := tup_ins (s4 _ _ g2) (o := hgO K dx a o D)
    refine q _ ((f2.trans (Same.fr s4)).at (by simp)) ⟨dx, a, o, D, upd_same, hF0.same (less_fr ((f2.trans (Same.fr s4)).at (by simp))), ⟨us, ?_, ?_⟩, dm4.pst rls_stb (s4 _ _ g2)⟩
    · rw [upd_ne hov]
      exact s4 _ _ o2
    · exact dpa_tup t5 (immAll_sD _) (dpa_same s4 us2)
def sp_is_lost (P : Program) (w : World) (K : PySem.W.Frag) : Sp := fun us H Q _ => us.length = 2 ∧ ∃ (h : Addr) (S : SA) (zv : V) (z : St2), us = [.ref h, zv] ∧ HgF P w K H h S ∧ Dp K H zv (sD z) ∧ z ∈ S.line ∧ Q (.bl (S.lost z)) H
theorem ok_is_lost (T : Tx w K mg e0) : Kn P w K mg base 8 (He.ma K (He.ga K "Hanging") "is_lost") ["self", "thing"] (sp_is_lost P w K) := by
  have G_State_kind : Kn P w K mg base 7 _ _ _ := ok_kind T
  refine T.d_Hanging_is_lost.kn sc_Hanging_is_lost (fun _ _ _ _ _ _ us hl => match us, hl with | [_, _], _ => rfl) (fun vs H Q E h => h.1) (fun cdv A outer s H vs Q E hr h => ?_)
  have hu := hu65 hr
  obtain ⟨_, h, S, zv, z, rfl, ⟨dx, a, o, p, G⟩, hzv, hz, q⟩ := h
  obtain ⟨⟨sdx, ak, ac, ap, au, al, ai, C⟩, hS, hSl⟩ := id G.st
  obtain ⟨kk, hkk⟩ := hS.line_kd hz
  refine ⟨_, (pss_one (ps_ret (pe_and (pe_cmpR (op_eqA hu) (pe_mt (pe_fld (pv 0) rfl) T.cls_State T.me_State_kind G_State_kind (hr.mono (by first | decide | exact Nat.le_refl _ | exact Nat.le_add_right_of_le (by decide) | omega)) (pa_cons (pv 1) pa_nil)) pe_str (nomark _)) (pe_one (pe_notT (pe_ix (ix_any hu) (pe_fld (pv 0) rfl) (pv 1) (fun _ _ => rfl))))))), ?_⟩
  refine ⟨_, rfl, h, _, dx, _, _, rfl, G.ob, T.cls_Hanging, T.na_Hanging_state, rfl, a, sdx, _, rfl, C.ob, rfl, _, rfl, rfl, a, S, zv, z, kk, rfl, G.st, hzv, hkk, eqS ⟨_, rfl, ?_⟩⟩
  rw [show decide (kk.s = "use") = decide (kk = Kd.use) from Kd.s_eq kk Kd.use]
  have e : S.lost z = (decide (kk = .use) && (S.parts z).isEmpty) := by
    unfold SA.lost
    rw [hkk]
    simp
  rw [e] at q
  by_cases h1 : kk = .use
  · rw [decide_eq_true h1] at q ⊢
    refine iteT ⟨_, rfl, h, _, dx, _, _, rfl, G.ob, T.cls_Hanging, T.na_Hanging_parts, rfl, _, rfl, dgetR G.pts.r hzv (hS.partsT_at hz) fun x hx => ?_⟩
    obtain ⟨b, vs, rfl, hb, hvs⟩ := hx
    refine ⟨_, .inl ⟨_, hb, rfl⟩, ?_⟩
    have e2 : vs.isEmpty = (S.parts z).isEmpty := by
      have := dpa_len hvs
      rw [List.length_map] at this
      cases vs <;> cases hp : S.parts z <;> rw [hp] at this <;> simp at this ⊢
    rw [e2]
    simpa using q
  · rw [decide_eq_false h1] at q ⊢
    exact iteF q
end Ss
/-! Walks: values reckoned, papers. -/
namespace Ss
open PySem PySem.Spec PyProof.Rows L2
open RZ (pi_zipA)
variable {P : Program} {w : World} {K : PySem.W.Frag} {mg : Str → Option Value} {base : Heap} {e0 : Addr}
abbrev RO (K : PySem.W.Frag) : Hp → V → Option Int → Prop := RD K oD
theorem ro_of {H : Hp} {o : Option Int} : RO K H (oV o) o := ⟨oD_dp, imm_oD o⟩
theorem ro_v {H : Hp} {v : V} {o : Option Int} (h : RO K H v o) : v = oV o := dp_oD h.1
theorem dpa_oD {H : Hp} : ∀ {vs : List (Option Int)} {us : List V}, DpAll K H us (vs.map oD) → us = vs.map oV
  | [], _, .nil => rfl
  | v :: vs, _, .cons h t => by rw [dp_oD h, dpa_oD t]; rfl
def SA.valT (S : SA) : Tb (Option Int) := S.ends.map fun z => (z, S.val z)
theorem SInv.valT_at {S : SA} (h : SInv S) {z : St2} (hz : z ∈ S.line) : lk S.valT z = some (S.val z) := by
  refine lk_of_mem (by unfold SA.valT; rw [List.map_map]; simpa [Function.comp_def] using h.ends_nd) ?_
  exact List.mem_map_of_mem (f := fun z => (z, S.val z)) (h.ends_perm.mem_iff.mpr hz)
theorem SInv.pos_at {S : SA} (h : SInv S) {z : St2} {i : Nat} (e : S.ends[i]? = some z) : S.pos z = i := by
  obtain ⟨hi, he⟩ := List.getElem?_eq_some_iff.mp e
  unfold SA.pos
  rw [← he]
  exact h.ends_nd.idxOf_getElem i hi
theorem SInv.take_pos {S : SA} (h : SInv S) {y : St2} {i : Nat} (hy : y ∈ S.line) (hp : S.pos y < i) : y ∈ S.ends.take i := by
  have hm := h.ends_perm.mem_iff.mpr hy
  have hl := List.idxOf_lt_length_of_mem hm
  refine List.mem_of_getElem? (i := S.pos y) ?_
  rw [List.getElem?_take, if_pos hp]
  unfold SA.pos
  rw [List.getElem?_eq_getElem hl, List.getElem_idxOf hl]
theorem lk_vals {S : SA} {l : List St2} (nd : l.Nodup) {y : St2} (hy : y ∈ l) : lk (l.map fun z => (z, S.val z)) y = some (S.val y) := by
  refine lk_of_mem (by rw [List.map_map]; simpa [Function.comp_def] using nd) ?_
  exact List.mem_map_of_mem (f := fun z => (z, S.val z)) hy
theorem lk_new {α : Type} {l : List St2} {f : St2 → α} {k : St2} (h : k ∉ l) : lk (l.map fun z => (z, f z)) k = none := by
  rw [lk_none, List.map_map]
  simpa [Function.comp_def] using h
theorem parts_le {S : SA} (h : SInv S) (hl : S.kd.length ≤ 61) (z : St2) : (S.parts z).length ≤ 61 := by
  have ho : (S.others z).length ≤ 61 := Nat.le_trans (List.length_filter_le _ _) (kids_le h hl z)
  unfold SA.parts
  cases lk S.kd z with
  | none => simp
  | some k =>
    cases k with
    | use => cases S.told z <;> simp
    | number => simp
    | sum => exact ho
    | product => exact ho
    | block => exact Nat.le_trans (by rw [List.length_drop]; exact Nat.sub_le _ _) ho
    | lt => exact Nat.le_trans (by rw [List.length_drop]; exact Nat.sub_le _ _) ho
def sp_reckoned (P : Program) (w : World) (K : PySem.W.Frag) : Sp := fun us H Q _ => us.length = 2 ∧ ∃ (h c : Addr) (S : SA), us = [.ref h, .ref c] ∧ HgF P w K H h S ∧ H c = some (DO P w c []) ∧
  ∀ (p : Addr) (H' : Hp), Same H H' → DM P w K (RO K) H' p S.valT → Q (.ref p) H'
theorem ok_reckoned (T : Tx w K mg e0) : Kn P w K mg base 8 (He.ma K (He.ga K "Hanging") "reckoned") ["self", "contents"] (sp_reckoned P w K) := by
  have G_State_kind : Kn P w K mg base 7 _ _ _ := ok_kind T
  have G_State_content : Kn P w K mg base 7 _ _ _ := ok_content T
  have G_joined_value : Kn P w K mg base 1 _ _ _ := ok_joined_value T
  refine T.d_Hanging_reckoned.kn sc_Hanging_reckoned (fun _ _ _ _ _ _ us hl => match us, hl with | [_, _], _ => rfl) (fun vs H Q E h => h.1) (fun cdv A outer s H vs Q E hr h => ?_)
  have hu := hu65 hr
  have hu1 := hu_of hr
  obtain ⟨_, h, c, S, rfl, ⟨dx, a, o, p, G⟩, hc, q⟩ := h
  obtain ⟨⟨sdx, ak, ac, ap, au, al, ai, C⟩, hS, hSl⟩ := id G.st
  obtain ⟨us, ho, hus⟩ := G.ord
  refine ⟨_, (pss_cons (ps_set (i := 2) sc_Hanging_reckoned.nd rfl (Or.inr rfl) pe_dnew)
    (pss_cons (ps_for PassesOwn.never rfl (pi_list (pe_fld (pv 0) rfl)) (pg_name (i := 3) sc_Hanging_reckoned.nd rfl (Or.inl rfl)) (pss_cons (ps_set (i := 4) sc_Hanging_reckoned.nd rfl (Or.inl rfl) (pe_mt (pe_fld (pv 0) rfl) T.cls_State T.me_State_kind G_State_kind (hr.mono (by first | decide | exact Nat.le_refl _ | exact Nat.le_add_right_of_le (by decide) | omega)) (pa_cons (pv 3) pa_nil)))
    (pss_one (ps_if (pt_cmpR (op_eqA hu) (pv 4) pe_str (nomark _)) (pss_one (ps_asg (pe_dg2 hu1 (pv 1) (pv 3) (pe_mt (pe_fld (pv 0) rfl) T.cls_State T.me_State_content G_State_content (hr.mono (by first | decide | exact Nat.le_refl _ | exact Nat.le_add_right_of_le (by decide) | omega)) (pa_cons (pv 3) pa_nil)) ⟨rfl, rfl, rfl, rfl⟩) (pg_sub (pv 2) (pv 3) (set_any hu)))) (pss_one (ps_asg (pe_fn G_joined_value (hr.mono (by first | decide | exact Nat.le_refl _ | exact Nat.le_add_right_of_le (by decide) | omega)) T.g_joined_value (pa_cons (pv 4) (pa_cons (pe_lc (own := [("part", 5)]) (by rfl) sc_Hanging_reckoned.nd (pi_list (pe_ix (ix_any hu) (pe_fld (pv 0) rfl) (pv 3) (fun _ _ => rfl))) (blkOk_by (N := n_Hanging_reckoned) (sc := defScope s_Hanging_reckoned) (by decide +kernel)) (fun _ _ _ _ _ => (pg_name (i := 5) sc_Hanging_reckoned.nd rfl (Or.inl rfl))) (fun _ _ _ _ _ => pts_nil) (fun _ _ _ _ _ => (pe_ix (show IxR _ (rIxA P w K) from (ix_any hu)) (pv 2) (pv 5) (fun _ _ => rfl)))) pa_nil))) (pg_sub (pv 2) (pv 3) (set_any hu))))))))
    (pss_one (ps_ret (pv 2))))), ?_⟩
  refine fun fd hfd => ?_
  have s1 := same_new (o := DO P w fd []) hfd
  refine ⟨_, rfl, h, _, dx, _, _, rfl, s1 _ _ G.ob, T.cls_Hanging, T.na_Hanging_order, rfl, o, rfl, ⟨_, SqL.of (s1 _ _ ho)⟩, ?_⟩
  have hlen : us.length = S.ends.length := by rw [dpa_len hus, List.length_map]
  have hel : S.ends.length ≤ 62 := by rw [hS.ends_perm.length_eq]; exact hS.line_len hSl
  refine for_it walk_list (fun i σ Hi => (∃ o3 o4 o5, σ = [some (.ref h), some (.ref c), some (.ref fd), o3, o4, o5]) ∧ Same H Hi ∧ DM P w K (RO K) Hi fd ((S.ends.take i).map fun z => (z, S.val z))) ⟨⟨_, _, _, rfl⟩, s1, [], upd_same, .nil⟩ (fun _ _ _ _ p => SqL.of (p.2.1 _ _ ho)) (fun i vv σ Hi H3 hi pp yy => ?_) (fun σ Hi pp => ?_)
  · obtain ⟨⟨o3, o4, o5, rfl⟩, si, dmi⟩ := pp
    obtain ⟨rfl, hx⟩ := yy
    obtain ⟨z, hz, hzv⟩ := dpa_mem hus hx
    have hzl : z ∈ S.line := hS.ends_perm.mem_iff.mp (List.mem_of_getElem? hz)
    have hzi := dp_same si hzv
    obtain ⟨kk, hkk⟩ := hS.line_kd hzl
    have Fi := G.st.same si
    have hval := hS.val_eq hSl hzl hkk
    have hnew : lk ((S.ends.take i).map fun z => (z, S.val z)) z = none := lk_new (take_new hS.ends_nd hz)
    have hml : ((S.ends.take i).map fun z => (z, S.val z)).length < sizeLine := by
      rw [List.length_map, List.length_take]
      exact Nat.lt_of_le_of_lt (Nat.le_trans (Nat.min_le_right _ _) hel) (by decide)
    have fin : ∀ {H4 : Hp} {v : V}, Same H3 H4 → v = oV (S.val z) → ∃ x y, True := fun _ _ => ⟨0, 0, trivial⟩
    refine ⟨_, rfl, h, _, dx, _, _, rfl, si _ _ G.ob, T.cls_Hanging, T.na_Hanging_state, rfl, a, sdx, _, rfl, si _ _ C.ob, rfl, _, rfl, rfl, a, S, vv, z, kk, rfl, Fi, hzi, hkk, ?_⟩
    refine ⟨_, rfl, eqS ⟨_, rfl, ?_⟩⟩
    rw [show decide (kk.s = "number") = decide (kk = Kd.number) from Kd.s_eq kk Kd.number]
    by_cases h1 : kk = .number
    · rw [decide_eq_true h1]
      subst h1
      have hzr : z ≠ ROOT := fun e => by rw [e, hS.root] at hkk; cases hkk
      rw [if_pos rfl] at hval
      obtain ⟨n, hn, hct⟩ := hS.num_some hkk hzr
      rw [hn] at hval
      obtain ⟨b, rfl, hb⟩ := stamp_dp hzi
      refine iteT ⟨_, rfl, c, [], rfl, ⟨.inl (si _ _ hc), fun _ h => by simp at h⟩, _, rfl, _, rfl, h, _, dx, _, _, rfl, si _ _ G.ob, T.cls_Hanging, T.na_Hanging_state, rfl, a, sdx, _, rfl, si _ _ C.ob, rfl, _, rfl, rfl, a, S, _, z, .number, rfl, Fi, hzi, hkk, hzr, fun v2 c2 hc2 hck hv2 => ?_⟩
      rw [hct] at hc2
      cases hc2
      obtain rfl := dp_int hv2
      refine ⟨b, z, [], rfl, ⟨.inl (si _ _ hc), fun _ h => by simp at h⟩, hb, ?_⟩
      refine ⟨_, rfl, _, rfl, dmi.put (x := S.val z) rd_stb.stb hzi (by rw [hval]; exact ro_of (o := some n)) hml fun es4 d4 t4 => ⟨⟨_, _, _, rfl⟩, same_mut si hfd, ?_⟩⟩
      rw [putM_new hnew] at d4
      rw [List.take_add_one, hz, List.map_append]
      exact d4
    · rw [decide_eq_false h1]
      rw [if_neg h1] at hval
      refine iteF ⟨_, rfl, _, rfl, h, _, dx, _, _, rfl, si _ _ G.ob, T.cls_Hanging, T.na_Hanging_parts, rfl, _, rfl, dgetR (G.pts.same rls_stb si).r hzi (hS.partsT_at hzl) fun x hx => ?_⟩
      obtain ⟨b, vs, rfl, hb, hvs⟩ := hx
      refine ⟨b, rfl, ⟨_, hb⟩, fun D hD => ?_⟩
      have hpl := parts_le hS hSl z
      refine lc_src (K := K) walk_list (fun _ s => s.seq hb) (S.parts z) sD (fun y => some (oD (S.val y))) hvs hD (Nat.lt_of_le_of_lt hpl (by decide)) (fun y _ d e => by cases e; exact imm_oD _) (fun y v2 H4 Q2 R hm s4 hv q1 q2 => ?_) (fun H4 ws s4 hD4 hws => ?_)
      · obtain ⟨hyl, hyp⟩ := hS.parts_at hzl hm
        rw [hS.pos_at hz] at hyp
        refine ⟨rfl, iteT (B := R H4) ⟨_, rfl, _, rfl, dgetR (dmi.same rd_stb.stb s4).r hv (lk_vals (List.Nodup.sublist (List.take_sublist _ _) hS.ends_nd) (hS.take_pos hyl hyp)) fun v3 hv3 => ?_⟩⟩
        exact q1 _ _ _ rfl hv3.1 (Same.refl _)
      · rw [show (S.parts z).filterMap (fun y => some (oD (S.val y))) = ((S.parts z).map S.val).map oD by simp [List.filterMap_eq_map, Function.comp_def]] at hws
        obtain rfl := dpa_oD hws
        refine ⟨rfl, D, kk, (S.parts z).map S.val, rfl, SqL.of hD4, by rw [List.length_map]; omega, fun H5 s5 => ?_⟩
        have s6 := si.trans (s4.trans s5)
        refine ⟨_, rfl, _, rfl, (dmi.same rd_stb.stb (s4.trans s5)).put (x := S.val z) rd_stb.stb (dp_same (s4.trans s5) hzi) (by rw [hval]; exact ro_of) hml fun es4 d4 t4 => ⟨⟨_, _, _, rfl⟩, same_mut s6 hfd, ?_⟩⟩
        rw [putM_new hnew] at d4
        rw [List.take_add_one, hz, List.map_append]
        exact d4
  · obtain ⟨⟨o3, o4, o5, rfl⟩, si, dmi⟩ := pp
    rw [hlen, List.take_length] at dmi
    exact ⟨_, rfl, q fd _ si dmi⟩
/-- the told paper -/
def SA.paperD (S : SA) (z : St2) : PyData := match S.val z with
  | some _ => .none
  | none => .tuple [.str "none", .tuple ((S.row z).map sD)]
def sp_none_paper (P : Program) (w : World) (K : PySem.W.Frag) : Sp := fun us H Q _ => us.length = 2 ∧ ∃ (a : Addr) (S : SA) (zv : V) (z : St2), us = [.ref a, zv] ∧ StF P w K H a S ∧ Dp K H zv (sD z) ∧ z ∈ S.line ∧
  ∀ (r : V) (H' : Hp), Same H H' → Dp K H' r (S.paperD z) → Q r H'
theorem ok_none_paper (T : Tx w K mg e0) : Kn P w K mg base 80 (He.ga K "none_paper") ["state", "thing"] (sp_none_paper P w K) := by
  have G_check_scope_thing : Kn P w K mg base 7 _ _ _ := ok_check_scope_thing T
  have G_Hanging_init : KnD P w K mg base 78 _ _ _ _ := (ok_Hanging_init T).d
  have G_Hanging_reckoned : Kn P w K mg base 8 _ _ _ := ok_reckoned T
  refine T.d_none_paper.kn sc_none_paper (fun _ _ _ _ _ _ us hl => match us, hl with | [_, _], _ => rfl) (fun vs H Q E h => h.1) (fun cdv A outer s H vs Q E hr h => ?_)
  have hu := hu65 hr
  have hu1 := hu_of hr
  obtain ⟨_, a, S, zv, z, rfl, hF, hzv, hz, q⟩ := h
  obtain ⟨_, hS, hSl⟩ := id hF
  refine ⟨_, (pss_cons (ps_expr (pe_fn G_check_scope_thing (hr.mono (by first | decide | exact Nat.le_refl _ | exact Nat.le_add_right_of_le (by decide) | omega)) T.g_check_scope_thing (pa_cons (pv 0) (pa_cons (pv 1) pa_nil))))
    (pss_cons (ps_set (i := 2) sc_none_paper.nd rfl (Or.inl rfl) (pe_mk T.mk_Hanging G_Hanging_init (hr.mono (by first | decide | exact Nat.le_refl _ | exact Nat.le_add_right_of_le (by decide) | omega)) T.g_Hanging (pa_cons (pv 0) pa_nil)))
    (pss_cons (ps_set (i := 3) sc_none_paper.nd rfl (Or.inr rfl) (pe_mt (pv 2) T.cls_Hanging T.me_Hanging_reckoned G_Hanging_reckoned (hr.mono (by first | decide | exact Nat.le_refl _ | exact Nat.le_add_right_of_le (by decide) | omega)) (pa_cons pe_dnew pa_nil)))
    (pss_cons (ps_if (pt_cmpR op_notN (pe_ix (ix_any hu) (pv 3) (pv 1) (fun _ _ => rfl)) pe_non (nomark _)) (pss_one (ps_ret pe_non)) pss_nil)
    (pss_cons (ps_set (i := 4) sc_none_paper.nd rfl (Or.inl rfl) (pe_lst (pa_cons (pv 1) pa_nil)))
    (pss_cons (ps_while PassesOwn.never (pt_truth (pe_ix (ix_any hu) (pe_fld (pv 2) rfl) (pe_ix (ix_any hu) (pv 4) (pe_un un_neg pe_int) (fun _ _ => rfl)) (fun _ _ => rfl)) (by intro _; rfl)) (pss_one (ps_expr (pe_bm PySem.F.plainAttrs_list PySem.F.slot_list_append PySem.F.type_list_append mt_append (pv 4) (pa_cons (pe_ix (ix_any hu) (pe_lc (own := [("part", 5)]) (by rfl) sc_none_paper.nd (pi_list (pe_ix (ix_any hu) (pe_fld (pv 2) rfl) (pe_ix (ix_any hu) (pv 4) (pe_un un_neg pe_int) (fun _ _ => rfl)) (fun _ _ => rfl))) (blkOk_by (N := n_none_paper) (sc := defScope s_none_paper) (by decide +kernel)) (fun _ _ _ _ _ => (pg_name (i := 5) sc_none_paper.nd rfl (Or.inl rfl))) (fun _ _ _ _ _ => pts_one (pt_cmpR op_isN (pe_ix (show IxR _ (rIxA P w K) from (ix_any hu)) (pv 3) (pv 5) (fun _ _ => rfl)) pe_non (nomark _))) (fun _ _ _ _ _ => (pv 5))) pe_int (fun _ _ => rfl)) pa_nil)))))
    (pss_one (ps_ret (pe_tup (pa_cons pe_str (pa_cons (pe_callTy (cb_tuple hu) (by rfl) T.b_tuple (by decide +kernel) (pa_cons (pv 4) pa_nil)) pa_nil))))))))))), ?_⟩
  refine ⟨_, rfl, _, rfl, rfl, a, S, zv, z, rfl, hF, hzv, hz, ?_⟩
  refine ⟨_, rfl, fun x dx nx ndx nex => ?_⟩
  have s1 := same_new (o := .own x) ndx
  have nx1 : (upd H dx (.own x)) x = none := by rw [upd_ne (Ne.symm nex)]; exact nx
  have s2 := s1.trans (same_new (o := .ins (He.ga K "Hanging") dx []) nx1)
  refine ⟨rfl, x, dx, a, S, rfl, upd_same, hF.same s2, fun H3 f3 G3 => ⟨rfl, ?_⟩⟩
  have s3 : Same H H3 := same_fr s2 f3 (by
    intro z hz
    obtain rfl := List.mem_singleton.mp hz
    exact nx)
  clear f3 s2 nx1 s1 nex ndx nx
  obtain ⟨hdx, ha2, ho2, hp2, G⟩ := id G3
  refine ⟨_, rfl, x, hdx, _, rfl, G.ob, rfl, fun c hc => ?_⟩
  have s4 := s3.trans (same_new (o := DO P w c []) hc)
  refine ⟨rfl, x, c, S, rfl, G3.same (same_new hc), upd_same, fun vt H5 s5' hvt => ?_⟩
  have s5 := s4.trans s5'
  have G5 := G3.same ((same_new (o := DO P w c []) hc).trans s5')
  clear G s5' s4 hc G3 s3 hdx ha2 ho2 hp2
  obtain ⟨hdx, ha2, ho2, hp2, G⟩ := G5
  refine ⟨_, rfl, _, rfl, dgetR hvt.r (dp_same s5 hzv) (hS.valT_at hz) fun v hv => ?_⟩
  have hv := ro_v hv
  have hpd : S.paperD z = match S.val z with | some _ => .none | none => .tuple [.str "none", .tuple ((S.row z).map sD)] := rfl
  cases hval : S.val z with
  | some n =>
    rw [hval] at hv hpd
    subst hv
    refine ⟨rfl, _, rfl, iteT (q _ _ s5 ?_)⟩
    rw [hpd]
    exact .non
  | none =>
    rw [hval] at hv hpd
    subst hv
    refine ⟨rfl, _, rfl, iteF ⟨_, rfl, szL, fun rl hrl => ?_⟩⟩
    have s6 := same_new (o := .lst [zv]) hrl
    have hrlH : H rl = none := same_none s5 hrl
    refine ⟨fun m σ H2 => ∃ (cur : St2) (pre : List St2) (us : List V) (o5 : Option V), σ = [some (.ref a), some zv, some (.ref x), some (.ref vt), some (.ref rl), o5] ∧ Same H5 H2 ∧ H2 rl = some (.lst us) ∧ DpAll K H2 us ((pre ++ [cur]).map sD) ∧ cur ∈ S.line ∧ S.val cur = none ∧ S.pos cur < m ∧ pre ++ S.rowF m cur = S.row z ∧ pre.length + m = 64, ?_, ?_⟩
    · exact ⟨64, z, [], [zv], _, rfl, s6, upd_same, .cons (dp_same (s5.trans s6) hzv) .nil, hz, hval, by have := hS.pos_lt hSl hz; omega, rfl, rfl⟩
    · rintro m σ H2 ⟨cur, pre, us, o5, rfl, si, hrl2, hus, hcl, hcv, hcp, hrow, hpm⟩
      obtain ⟨m, rfl⟩ : ∃ j, m = j + 1 := ⟨m - 1, by omega⟩
      have hlast : ((pre ++ [cur]).map sD).getLast? = some (sD cur) := by simp
      have hul : us.length = pre.length + 1 := by rw [dpa_len hus, List.length_map, List.length_append]; rfl
      have G2 := si _ _ G.ob
      have P2 := G.pts.same rls_stb si
      refine ⟨_, rfl, x, _, hdx, _, _, rfl, G2, T.cls_Hanging, T.na_Hanging_parts, rfl, _, rfl, _, rfl, ixLd (SqL.of hrl2) hus hlast fun cv hcv2 => dgetR P2.r hcv2 (hS.partsT_at hcl) fun y hy => ?_⟩
      obtain ⟨b, vs, rfl, hb, hvs⟩ := hy
      refine ⟨_, .inl ⟨_, hb, rfl⟩, ?_⟩
      have hvl : vs.length = (S.parts cur).length := by rw [dpa_len hvs, List.length_map]
      by_cases hpe : S.parts cur = []
      · have : vs = [] := List.length_eq_zero_iff.mp (by rw [hvl, hpe]; rfl)
        subst this
        refine iteF ⟨_, rfl, .inl ⟨rl, us, rfl, SqL.of hrl2, fun l hl => ⟨szL, fun p hp => ?_⟩⟩⟩
        have s7 := same_new (o := .tup us) hl
        have s8 := s7.trans (same_new (o := .tup [.str "none", .ref l]) hp)
        refine q _ _ ((s5.trans si).trans s8) ?_
        rw [hpd]
        have hn : S.nextF cur = none := by unfold SA.nextF; rw [hpe]; rfl
        have hr2 : S.row z = pre ++ [cur] := by
          rw [← hrow]
          unfold SA.rowF
          rw [hn]
        rw [hr2]
        exact .tup (SqT.of upd_same) (.cons (.str _) (.cons (dp_same (same_new hp) (.tup (SqT.of upd_same) (dpa_same s7 hus))) .nil))
      · have hne : (!vs.isEmpty) = true := by
          cases vs with
          | nil => exact absurd (List.length_eq_zero_iff.mp (by rw [← hvl]; rfl)) hpe
          | cons _ _ => rfl
        rw [hne]
        obtain ⟨y, hy1, hy2, hy3⟩ := hS.next_some hSl hcl hcv hpe
        obtain ⟨hyl, hyp⟩ := hS.next_at hcl hy1
        refine iteT ⟨fun σ' H' => ∃ m', m' < m + 1 ∧ _, fun σ' H' h => h, ?_⟩
        refine ⟨_, rfl, .inl ⟨rfl, us, SqL.of hrl2⟩, ?_⟩
        refine ⟨_, rfl, x, _, hdx, _, _, rfl, G2, T.cls_Hanging, T.na_Hanging_parts, rfl, _, rfl, _, rfl, ixLd (SqL.of hrl2) hus hlast fun cv2 hcv3 => dgetR P2.r hcv3 (hS.partsT_at hcl) fun y' hy' => ?_⟩
        obtain ⟨b2, vs2, rfl, hb2, hvs2⟩ := hy'
        refine ⟨b2, rfl, ⟨_, hb2⟩, fun D hD => ?_⟩
        refine lc_src (K := K) walk_list (fun _ s => s.seq hb2) (S.parts cur) sD (fun y => if ((S.val y).isNone) = true then some (sD y) else none) hvs2 hD (Nat.lt_of_le_of_lt (parts_le hS hSl cur) (by decide)) (fun y _ d e => by
            by_cases c : ((S.val y).isNone) = true
            · rw [if_pos c] at e; cases e; exact imm_sD y
            · rw [if_neg c] at e; cases e) (fun y2 v2 H4 Q2 R hm s4 hv q1 q2 => ?_) (fun H4 ws s4 hD4 hws => ?_)
        · obtain ⟨hyl2, _⟩ := hS.parts_at hcl hm
          refine ⟨rfl, _, rfl, _, rfl, dgetR (hvt.same rd_stb.stb (si.trans s4)).r hv (hS.valT_at hyl2) fun v3 hv3 => ?_⟩
          have hv3 := ro_v hv3
          cases hvy : S.val y2 with
          | none =>
            rw [hvy] at hv3
            subst hv3
            exact ⟨rfl, _, rfl, iteT ⟨_, rfl, q1 _ (sD y2) _ (by rw [hvy]; rfl) hv (Same.refl _)⟩⟩
          | some n =>
            rw [hvy] at hv3
            subst hv3
            exact ⟨rfl, _, rfl, iteF (q2 _ (by rw [hvy]; rfl) (Same.refl _))⟩
        · rw [filterMap_if] at hws
          have hh : ((S.parts cur).filter fun y => (S.val y).isNone)[0]? = some y := by
            rw [← List.head?_eq_getElem?, List.head?_filter]
            exact hy1
          obtain ⟨d, hd, hdv⟩ : ∃ v, ws[0]? = some v ∧ Dp K H4 v (sD y) := dpa_get hws (by rw [List.getElem?_map, hh]; rfl)
          have hrl4 := s4 _ _ hrl2
          have t5 := tup_lst (o := .lst (us ++ [d])) hrl4
          refine ixL 0 (SqL.of hD4) hd ⟨rl, us, d, rfl, rfl, hrl4, Nat.lt_of_le_of_lt (show us.length ≤ 65 by omega) (by decide), ?_⟩
          refine ⟨m, Nat.lt_succ_self _, y, pre ++ [cur], us ++ [d], _, rfl, same_mut (si.trans s4) hrl, upd_same, ?_, hyl, hy3, by omega, ?_, ?_⟩
          · rw [List.map_append]
            exact dpa_append (dpa_tup t5 (immAll_sD _) (dpa_same s4 hus)) (.cons (dp_tup t5 (imm_sD y) hdv) .nil)
          · rw [← hrow, List.append_assoc]
            congr 1
            show [cur] ++ S.rowF m y = S.rowF (m + 1) cur
            conv => rhs; unfold SA.rowF
            rw [hy1]
            rfl
          · rw [List.length_append]
            simp
            omega
theorem walk_zipT {xs ys : List V} {a b : Addr} {n : Nat} (hn : n = min xs.length ys.length) : Walk (RZ.ItzT K a b) n (fun H => SqT K H a xs ∧ SqT K H b ys) (YPair (fun i => xs[i]?) (fun i => ys[i]?)) := by
  subst hn
  refine ⟨fun i _ hi q => ?_, fun _ q => ⟨xs, ys, q.1, q.2, by omega⟩, fun i H v H' _ q y => ?_⟩
  · have h1 : i < xs.length := by omega
    have h2 : i < ys.length := by omega
    exact ⟨xs, ys, xs[i], ys[i], q.1, q.2, by simp [h1], by simp [h2]⟩
  · obtain ⟨T, x, z, h1, h2, h3, h4, h5⟩ := y
    exact ⟨T, x, z, h1, h2, h3, h4 xs q.1, h5 ys q.2⟩
theorem SA.chain_take {S : SA} : ∀ {ks : List St2} (h : ∀ (i : Nat) (a b : St2), ks[i]? = some a → ks[i + 1]? = some b → b ∈ S.parts a), S.chainB ks = true
  | [], _ => rfl
  | [_], _ => rfl
  | a :: b :: r, h => by
    unfold SA.chainB
    rw [Bool.and_eq_true]
    exact ⟨decide_eq_true (h 0 a b rfl rfl), SA.chain_take (ks := b :: r) fun i x y h1 h2 => h (i + 1) x y h1 h2⟩
theorem SA.chain_not {S : SA} : ∀ {ks : List St2} {i : Nat} {a b : St2}, ks[i]? = some a → ks[i + 1]? = some b → b ∉ S.parts a → S.chainB ks = false
  | [], _, _, _, e, _, _ => by simp at e
  | [_], _, _, _, _, e, _ => by simp at e
  | a :: b :: r, 0, _, _, e1, e2, h => by
    cases e1
    cases e2
    unfold SA.chainB
    rw [decide_eq_false h]
    rfl
  | a :: b :: r, i + 1, _, _, e1, e2, h => by
    unfold SA.chainB
    rw [SA.chain_not (ks := b :: r) (i := i) e1 e2 h, Bool.and_false]
def SA.lastLost (S : SA) (ks : List St2) : Bool := match ks.getLast? with | none => false | some k => S.lost k
def sp_is_none_row (P : Program) (w : World) (K : PySem.W.Frag) : Sp := fun us H Q _ => us.length = 2 ∧ ∃ (h ra : Addr) (S : SA) (vs : List V) (ks : List St2), us = [.ref h, .ref ra] ∧ HgF P w K H h S ∧ SqT K H ra vs ∧ DpAll K H vs (ks.map sD) ∧ ks ≠ [] ∧ (∀ k ∈ ks, k ∈ S.line) ∧
  ∀ (H' : Hp), Same H H' → Q (.bl (S.chainB ks && S.lastLost ks)) H'
theorem ok_is_none_row (T : Tx w K mg e0) : Kn P w K mg base 9 (He.ga K "is_none_row") ["hanging", "row"] (sp_is_none_row P w K) := by
  have G_Hanging_is_lost : Kn P w K mg base 8 _ _ _ := ok_is_lost T
  refine T.d_is_none_row.kn sc_is_none_row (fun _ _ _ _ _ _ us hl => match us, hl with | [_, _], _ => rfl) (fun vs H Q E h => h.1) (fun cdv A outer s H vs Q E hr h => ?_)
  have hu := hu65 hr
  obtain ⟨_, h, ra, S, vs, ks, rfl, hG, hra, hvs, hne, hks, q⟩ := h
  obtain ⟨hdx, ha2, ho2, hp2, G⟩ := id hG
  obtain ⟨_, hS, hSl⟩ := id G.st
  have hvl : vs.length = ks.length := by rw [dpa_len hvs, List.length_map]
  have hk0 : ks.length ≠ 0 := fun z => hne (List.length_eq_zero_iff.mp z)
  refine ⟨_, (pss_cons (ps_for PassesOwn.never rfl (pi_zipA (by rfl) T.b_zip (pa_cons (pv 1) (pa_cons (pe_slice sl_any (pv 1) (po_some pe_int) po_none) pa_nil))) (pg_tup (by rfl) (pgs_cons (pg_name (i := 2) sc_is_none_row.nd rfl (Or.inl rfl)) (pgs_cons (pg_name (i := 3) sc_is_none_row.nd rfl (Or.inl rfl)) pgs_nil))) (pss_one (ps_if (pt_cmpR (op_ninA hu) (pv 3) (pe_ix (ix_any hu) (pe_fld (pv 0) rfl) (pv 2) (fun _ _ => rfl)) (by rfl)) (pss_one (ps_ret pe_bl)) pss_nil)))
    (pss_one (ps_ret (pe_mt (pv 0) T.cls_Hanging T.me_Hanging_is_lost G_Hanging_is_lost (hr.mono (by first | decide | exact Nat.le_refl _ | exact Nat.le_add_right_of_le (by decide) | omega)) (pa_cons (pe_ix (ix_any hu) (pv 1) (pe_un un_neg pe_int) (fun _ _ => rfl)) pa_nil))))), ?_⟩
  refine ⟨_, rfl, _, rfl, _, rfl, .inr ⟨ra, vs, rfl, hra, fun z => ?_, fun _ p1 hp1 => ?_⟩⟩
  · exfalso
    have z : HT.sIx vs.length 0 (some ((1 : Nat) : Int)) = 0 := z.1
    rw [HT.sIx_nat] at z
    omega
  rw [show cutV vs (some 1) none = vs.drop 1 from cut_from vs 1]
  have s1 := same_new (o := .tup (vs.drop 1)) hp1
  refine ⟨ra, p1, vs, vs.drop 1, rfl, .inr ⟨same_sqt s1 hra, SqT.of upd_same, ?_⟩⟩
  have hn : vs.length - 1 = min vs.length (vs.drop 1).length := by rw [List.length_drop]; omega
  refine for_it (walk_zipT hn) (fun i σ Hi => (∃ o2 o3, σ = [some (.ref h), some (.ref ra), o2, o3]) ∧ Same (upd H p1 (.tup (vs.drop 1))) Hi ∧ ∀ j, j < i → ∀ a b, ks[j]? = some a → ks[j + 1]? = some b → b ∈ S.parts a) ⟨⟨_, _, rfl⟩, Same.refl _, fun _ hj => absurd hj (Nat.not_lt_zero _)⟩ (fun i σ Hi _ p => ⟨same_sqt (s1.trans p.2.1) hra, same_sqt p.2.1 (SqT.of upd_same)⟩) (fun i vv σ Hi H3 hi pp yy => ?_) (fun σ Hi pp => ?_)
  · obtain ⟨⟨o2, o3, rfl⟩, si, hch⟩ := pp
    obtain ⟨T1, e1, e2, rfl, hT1, rfl, he1, he2⟩ := yy
    have he2 : (vs.drop 1)[i]? = some e2 := he2
    rw [List.getElem?_drop, Nat.add_comm] at he2
    obtain ⟨x, hx, hxv⟩ := dpa_mem hvs he1
    obtain ⟨y, hy, hyv⟩ := dpa_mem hvs he2
    have s5 := (s1.trans si).trans (same_new (o := .tup [e1, e2]) hT1)
    refine ⟨T1, _, rfl, SqT.of upd_same, rfl, _, _, rfl, _, _, rfl, rfl, ?_⟩
    refine ⟨_, rfl, _, rfl, h, _, hdx, _, _, rfl, s5 _ _ G.ob, T.cls_Hanging, T.na_Hanging_parts, rfl, _, rfl, dgetR (G.pts.same rls_stb s5).r (dp_same s5 hxv) (hS.partsT_at (hks x (List.mem_of_getElem? hx))) fun z hz => ?_⟩
    obtain ⟨b, us, rfl, hb, hus⟩ := hz
    refine ninSt (dp_same s5 hyv) hb hus ⟨_, rfl, ?_⟩
    by_cases c : y ∈ S.parts x
    · rw [decide_eq_true c]
      refine iteF ⟨⟨_, _, rfl⟩, si.trans (same_new hT1), fun j hj a b ha hb2 => ?_⟩
      rcases Nat.lt_succ_iff_lt_or_eq.mp hj with hj | rfl
      · exact hch j hj a b ha hb2
      · rw [hx] at ha
        rw [hy] at hb2
        cases ha
        cases hb2
        exact c
    · rw [decide_eq_false c]
      have := q _ s5
      rw [SA.chain_not hx hy c] at this
      exact iteT this
  · obtain ⟨⟨o2, o3, rfl⟩, si, hch⟩ := pp
    have s2 := s1.trans si
    have hc : S.chainB ks = true := SA.chain_take fun i a b ha hb => hch i (by
      have := (List.getElem?_eq_some_iff.mp hb).1
      omega) a b ha hb
    have hlast : (ks.map sD).getLast? = some (sD (ks.getLast hne)) := by rw [List.getLast?_map, List.getLast?_eq_some_getLast hne]; rfl
    refine ⟨_, rfl, h, hdx, _, rfl, s2 _ _ G.ob, rfl, _, rfl, _, rfl, ?_⟩
    obtain ⟨u, hu1, hu2⟩ := dpa_last hvs hlast
    refine ixTl (same_sqt s2 hra) hu1 ⟨rfl, h, S, u, ks.getLast hne, rfl, hG.same s2, dp_same s2 hu2, hks _ (List.getLast_mem hne), ?_⟩
    have := q _ s2
    rw [hc] at this
    unfold SA.lastLost at this
    rw [List.getLast?_eq_some_getLast hne] at this
    exact this
def rowLen (d : PyData) : Nat := match d with
  | .tuple [_, .tuple ds] => ds.length
  | _ => 0
def sp_accepts_none (P : Program) (w : World) (K : PySem.W.Frag) : Sp := fun us H Q _ => us.length = 3 ∧ ∃ (a : Addr) (S : SA) (zv dv : V) (z : St2) (d : PyData), us = [.ref a, zv, dv] ∧ StF P w K H a S ∧ Dp K H zv (sD z) ∧ z ∈ S.line ∧ Dp K H dv d ∧ rowLen d ≤ 1000 ∧
  ∀ (H' : Hp), Same H H' → Q (.bl (S.paperB z d)) H'
theorem in_all {S : SA} : ∀ {ds : List PyData}, ds.all S.isIn = true → ∃ ks : List St2, ds = ks.map sD ∧ ds.filterMap unB = ks ∧ ∀ k ∈ ks, k ∈ S.line
  | [], _ => ⟨[], rfl, rfl, by simp⟩
  | d :: ds, h => by
    rw [List.all_cons, Bool.and_eq_true] at h
    obtain ⟨k, rfl, hk⟩ := SA.isIn_at h.1
    obtain ⟨ks, rfl, h2, h3⟩ := in_all h.2
    refine ⟨k :: ks, rfl, ?_, fun x hx => ?_⟩
    · rw [List.filterMap_cons]
      show k :: _ = _
      rw [h2]
    · rcases List.mem_cons.mp hx with rfl | hx
      · exact hk
      · exact h3 x hx
theorem paper_two {S : SA} {z : St2} {a b : PyData} : S.paperB z (.tuple [a, b]) = (strB a "none" && (isTupD b && (match b with | .tuple ds => !ds.isEmpty && (ds.all S.isIn && S.rowB z (ds.filterMap unB)) | _ => false))) := by
  cases a <;> cases b <;> simp [SA.paperB, strB, isTupD]
theorem paper_not {S : SA} {z : St2} {d : PyData} (h : tupB d 2 = false) : S.paperB z d = false := by
  unfold SA.paperB
  split
  · simp [tupB] at h
  · rfl
theorem ok_accepts_none (T : Tx w K mg e0) : Kn P w K mg base 80 (He.ga K "accepts_none") ["state", "thing", "value"] (sp_accepts_none P w K) := by
  have G_check_scope_thing : Kn P w K mg base 7 _ _ _ := ok_check_scope_thing T
  have G_is_tuple_of : Kn P w K mg base 1 _ _ _ := ok_is_tuple_of T
  have G_is_word : Kn P w K mg base 1 _ _ _ := ok_is_word T
  have G_State_is_in : Kn P w K mg base 5 _ _ _ := ok_is_in T
  have G_Hanging_init : KnD P w K mg base 78 _ _ _ _ := (ok_Hanging_init T).d
  have G_is_none_row : Kn P w K mg base 9 _ _ _ := ok_is_none_row T
  refine T.d_accepts_none.kn sc_accepts_none (fun _ _ _ _ _ _ us hl => match us, hl with | [_, _, _], _ => rfl) (fun vs H Q E h => h.1) (fun cdv A outer s H vs Q E hr h => ?_)
  have hu := hu65 hr
  obtain ⟨_, a, S, zv, dv, z, d, rfl, hF, hzv, hz, hdv, hrl, q⟩ := h
  obtain ⟨⟨sdx, ak, ac, ap, au, al, ai, C⟩, hS, hSl⟩ := id hF
  refine ⟨_, (pss_cons (ps_expr (pe_fn G_check_scope_thing (hr.mono (by first | decide | exact Nat.le_refl _ | exact Nat.le_add_right_of_le (by decide) | omega)) T.g_check_scope_thing (pa_cons (pv 0) (pa_cons (pv 1) pa_nil))))
    (pss_cons (ps_if (PW.pt (pw_or (pt_not (pt_val (pe_fn G_is_tuple_of (hr.mono (by first | decide | exact Nat.le_refl _ | exact Nat.le_add_right_of_le (by decide) | omega)) T.g_is_tuple_of (pa_cons (pv 2) (pa_cons pe_int pa_nil))))) (pw_or1 (pt_not (pt_val (pe_fn G_is_word (hr.mono (by first | decide | exact Nat.le_refl _ | exact Nat.le_add_right_of_le (by decide) | omega)) T.g_is_word (pa_cons (pe_ix (ix_any hu) (pv 2) pe_int (fun _ _ => rfl)) (pa_cons pe_str pa_nil)))))))) (pss_one (ps_ret pe_bl)) pss_nil)
    (pss_cons (ps_set (i := 3) sc_accepts_none.nd rfl (Or.inl rfl) (pe_ix (ix_any hu) (pv 2) pe_int (fun _ _ => rfl)))
    (pss_cons (ps_if (PW.pt (pw_or (pt_not (pt_val (pe_callB (cb_isinstance hu) (by rfl) T.b_isinstance (by decide +kernel) (pa_cons (pv 3) (pa_cons (pe_bltn (v := .ty "tuple") (by rfl) T.b_tuple PyProof.Rows.boot_tuple rfl) pa_nil))))) (pw_or (pt_not (pt_truth (pv 3) (by intro _; rfl))) (pw_or1 (pt_not (pt_val (pe_callB (cb_all hu) (by rfl) T.b_all (by decide +kernel) (pa_cons (pe_lc (own := [("one", 4)]) (by rfl) sc_accepts_none.nd (pi_tup (pv 3)) (blkOk_by (N := n_accepts_none) (sc := defScope s_accepts_none) (by decide +kernel)) (fun _ _ _ _ _ => (pg_name (i := 4) sc_accepts_none.nd rfl (Or.inl rfl))) (fun _ _ _ _ _ => pts_nil) (fun _ _ _ _ _ => (pe_mt (pv 0) T.cls_State T.me_State_is_in G_State_is_in (hr.mono (by first | decide | exact Nat.le_refl _ | exact Nat.le_add_right_of_le (by decide) | omega)) (pa_cons (pv 4) pa_nil)))) pa_nil)))))))) (pss_one (ps_ret pe_bl)) pss_nil)
    (pss_one (ps_ret (pe_and (pe_cmpR (op_eqA hu) (pe_ix (ix_any hu) (pv 3) pe_int (fun _ _ => rfl)) (pv 1) (nomark _)) (pe_one (pe_fn G_is_none_row (hr.mono (by first | decide | exact Nat.le_refl _ | exact Nat.le_add_right_of_le (by decide) | omega)) T.g_is_none_row (pa_cons (pe_mk T.mk_Hanging G_Hanging_init (hr.mono (by first | decide | exact Nat.le_refl _ | exact Nat.le_add_right_of_le (by decide) | omega)) T.g_Hanging (pa_cons (pv 0) pa_nil)) (pa_cons (pv 3) pa_nil))))))))))), ?_⟩
  refine ⟨_, rfl, _, rfl, rfl, a, S, zv, z, rfl, hF, hzv, hz, ?_⟩
  have no : S.paperB z d = false → ∀ {H1 : Hp}, Same H H1 → Q (.bl false) H1 := fun e H1 s1 => by
    have := q _ s1
    rw [e] at this
    exact this
  refine ⟨_, rfl, dv, d, 2, rfl, hdv, ⟨_, rfl, ?_⟩⟩
  cases htb : tupB d 2 with
  | false => exact iteT (iteT (no (paper_not htb) (Same.refl _)))
  | true =>
  obtain ⟨ds, rfl⟩ : ∃ ds, d = .tuple ds := by cases d <;> simp [tupB] at htb; exact ⟨_, rfl⟩
  obtain ⟨x0, x1, rfl⟩ := two_of htb
  have hp := paper_two (S := S) (z := z) (a := x0) (b := x1)
  refine iteF ⟨_, rfl, ixD 0 hdv fun v0 h0 => ⟨rfl, v0, x0, "none", rfl, h0, ⟨_, rfl, ?_⟩⟩⟩
  cases hsb : strB x0 "none" with
  | false => exact iteT (no (by rw [hp, hsb]; rfl) (Same.refl _))
  | true =>
  rw [hsb, Bool.true_and] at hp
  refine iteF ⟨_, rfl, ixD 1 hdv fun v1 h1 => ?_⟩
  refine ⟨_, rfl, isi_d h1 (kit_tuple x1) ⟨_, rfl, ?_⟩⟩
  cases htd : isTupD x1 with
  | false => exact iteT (iteT (no (by rw [hp, htd]; rfl) (Same.refl _)))
  | true =>
  rw [htd, Bool.true_and] at hp
  obtain ⟨es, rfl⟩ : ∃ ds, x1 = .tuple ds := by cases x1 <;> simp [isTupD] at htd; exact ⟨_, rfl⟩
  cases h1 with
  | @tup ra us _ hra hus =>
  have hul : us.length = es.length := dpa_len hus
  refine iteF ⟨_, rfl, _, .inr (.inl ⟨_, hra, rfl⟩), ?_⟩
  cases es with
  | nil =>
    obtain rfl : us = [] := List.length_eq_zero_iff.mp hul
    exact iteT (iteT (no (by rw [hp]; rfl) (Same.refl _)))
  | cons e1 er =>
  have hemp : us.isEmpty = false := by cases us with | nil => cases hul | cons _ _ => rfl
  rw [hemp]
  refine iteF ⟨_, rfl, ra, rfl, ⟨_, hra⟩, fun D hD => ?_⟩
  have hd1 : Dp K H (.ref ra) (.tuple (e1 :: er)) := .tup hra hus
  have hrl : (e1 :: er).length ≤ 1000 := hrl
  generalize hes : e1 :: er = es at hp hd1 hrl hus hul no q
  refine lc_src (K := K) walk_tup (fun _ s => same_sqt s hra) es id (fun d => some (.bool (S.isIn d))) (by rw [List.map_id]; exact hus) hD (Nat.lt_of_le_of_lt hrl (by decide)) (fun y _ d e => by cases e; rfl) (fun y v2 H2 Q2 R hm s2 hv q1 q2 => ?_) (fun H2 ws s2 hD2 hws => ?_)
  · exact ⟨rfl, iteT (B := R H2) ⟨_, rfl, a, sdx, _, rfl, s2 _ _ C.ob, rfl, _, rfl, rfl, a, S, v2, y, rfl, hF.same s2, hv, q1 _ _ _ rfl (.bl _) (Same.refl _)⟩⟩
  rw [show es.filterMap (fun d => some (PyData.bool (S.isIn d))) = (es.map S.isIn).map .bool by simp [List.filterMap_eq_map, Function.comp_def]] at hws
  obtain rfl := dpa_bools hws
  refine ⟨D, es.map S.isIn, rfl, SqL.of hD2, ⟨_, rfl, ?_⟩⟩
  have hall : (es.map S.isIn).all id = es.all S.isIn := by rw [List.all_map]; rfl
  rw [hall]
  have hemp2 : es.isEmpty = false := by rw [← hes]; rfl
  have hp : S.paperB z (.tuple [x0, .tuple es]) = (!es.isEmpty && (es.all S.isIn && S.rowB z (es.filterMap unB))) := hp
  rw [hemp2] at hp
  cases ha : es.all S.isIn with
  | false => exact iteT (no (by rw [hp, ha]; rfl) s2)
  | true =>
  rw [ha] at hp
  obtain ⟨ks, hks, hun, hkl⟩ := in_all ha
  have hd2 := dp_same s2 hd1
  cases ks with
  | nil => rw [hks] at hemp2; cases hemp2
  | cons k0 kr =>
  have hp : S.paperB z (.tuple [x0, .tuple es]) = (decide (k0 = z) && (S.chainB (k0 :: kr) && S.lastLost (k0 :: kr))) := by
    rw [hp, hun]
    unfold SA.rowB SA.lastLost
    simp
    all_goals rfl
  rw [hks] at hd2
  refine iteF ⟨_, rfl, ixD 0 hd2 fun u hu2 => ⟨_, rfl, eqK hu2 (dp_same s2 hzv) ⟨_, rfl, ?_⟩⟩⟩
  by_cases c : k0 = z
  · rw [decide_eq_true c] at hp ⊢
    refine iteT ⟨_, rfl, fun x dx nx ndx nex => ?_⟩
    have s3 := same_new (o := .own x) ndx
    have nx1 : (upd H2 dx (.own x)) x = none := by rw [upd_ne (Ne.symm nex)]; exact nx
    have s4 := s2.trans (s3.trans (same_new (o := .ins (He.ga K "Hanging") dx []) nx1))
    refine ⟨rfl, x, dx, a, S, rfl, upd_same, hF.same s4, fun H3 f3 G3 => ⟨rfl, ?_⟩⟩
    have s5 : Same H H3 := same_fr s4 f3 (by
      intro z hz
      obtain rfl := List.mem_singleton.mp hz
      exact same_none s2 nx)
    refine ⟨_, rfl, rfl, x, ra, S, us, k0 :: kr, rfl, G3, same_sqt s5 hra, dpa_same s5 (hks ▸ hus), by simp, hkl, fun H6 s6 => ?_⟩
    have := q _ (s5.trans s6)
    rw [hp] at this
    exact this
  · rw [decide_eq_false c] at hp ⊢
    exact iteF (no hp s2)
end Ss
/-! Drawn worlds: plain. -/
namespace Ss
open PySem PySem.Spec PyProof.Rows L2
def snO (l : List Int) (h : Int) : Int := l.getD h.toNat 0
theorem Dd.sn_eq (d : Dd) (h : Int) : d.sn h = snO d.seen h := rfl
structure SeenS (ds : List Dd) (l : List Int) : Prop where
  len : l.length = 4
  nn : ∀ t ∈ l, 0 ≤ t
  at_ : ∀ h ∈ hands, snO l h ≠ 0 → ∃ e ∈ ds, e.st = (snO l h, h) ∧ ∀ o ∈ hands, e.sn o ≤ snO l o
structure WInv (ds : List Dd) (sns : List (List Int)) : Prop where
  bk : Bk ds
  len : sns.length = 4
  seen : ∀ l ∈ sns, SeenS ds l
  own : ∀ (n : Nat) (l : List Int), sns[n]? = some l → ∀ d ∈ ds, d.st.2 = n → d.st.1 ≤ snO l n
  tm : ∀ d ∈ ds, d.st.1 ≤ 5 * ds.length
theorem hand_nat {h : Int} (hh : h ∈ hands) : ∃ n : Nat, n < 4 ∧ h = n := by
  simp [hands] at hh
  rcases hh with rfl | rfl | rfl | rfl
  · exact ⟨0, by decide, rfl⟩
  · exact ⟨1, by decide, rfl⟩
  · exact ⟨2, by decide, rfl⟩
  · exact ⟨3, by decide, rfl⟩
theorem nat_hand {n : Nat} (h : n < 4) : (n : Int) ∈ hands := by
  have : n = 0 ∨ n = 1 ∨ n = 2 ∨ n = 3 := by omega
  rcases this with rfl | rfl | rfl | rfl <;> simp [hands]
theorem okSt_hand {s : St2} (h : okSt s) : s.2 ∈ hands := by
  obtain ⟨n, hn⟩ : ∃ n : Nat, s.2 = n := ⟨s.2.toNat, by have := h.2.2.1; omega⟩
  rw [hn]
  exact nat_hand (by have := h.2.2.2; omega)
theorem four {α : Type} {l : List α} (h : l.length = 4) : ∃ a b c d, l = [a, b, c, d] := by
  match l, h with
  | [a, b, c, d], _ => exact ⟨a, b, c, d, rfl⟩
theorem snO_nat (l : List Int) (n : Nat) : snO l n = l.getD n 0 := rfl
theorem snO_mem {l : List Int} (hl : l.length = 4) {h : Int} (hh : h ∈ hands) : snO l h ∈ l := by
  obtain ⟨n, hn, rfl⟩ := hand_nat hh
  rw [snO_nat, List.getD_eq_getElem?_getD, List.getElem?_eq_getElem (by omega)]
  exact List.getElem_mem _
/-- a row put anew -/
def upS (l : List Int) (n : Nat) (t : Int) : List Int := (List.range 4).map fun k => if k = n then t else l.getD k 0
def joinS (x y : List Int) : List Int := (List.range 4).map fun k => max (x.getD k 0) (y.getD k 0)
theorem range4 {α : Type} (f : Nat → α) : (List.range 4).map f = [f 0, f 1, f 2, f 3] := rfl
theorem map4_at (f : Nat → Int) {h : Int} {n : Nat} (hn : n < 4) (e : h = n) : snO ((List.range 4).map f) h = f n := by
  subst e
  have : n = 0 ∨ n = 1 ∨ n = 2 ∨ n = 3 := by omega
  rcases this with rfl | rfl | rfl | rfl <;> rfl
theorem upS_at {l : List Int} {m n : Nat} {t : Int} (hm : m < 4) : snO (upS l n t) m = if m = n then t else snO l m := map4_at _ hm rfl
theorem joinS_at {x y : List Int} {m : Nat} (hm : m < 4) : snO (joinS x y) m = max (snO x m) (snO y m) := map4_at _ hm rfl
theorem SeenS.nn_at {ds : List Dd} {l : List Int} (h : SeenS ds l) {o : Int} (ho : o ∈ hands) : 0 ≤ snO l o := h.nn _ (snO_mem h.len ho)
theorem SeenS.more {ds es : List Dd} {l : List Int} (h : SeenS ds l) (s : ∀ d ∈ ds, d ∈ es) : SeenS es l := ⟨h.len, h.nn, fun o ho ne => by
  obtain ⟨e, he, q⟩ := h.at_ o ho ne
  exact ⟨e, s e he, q⟩⟩
theorem SeenS.zero (ds : List Dd) : SeenS ds [0, 0, 0, 0] := ⟨rfl, by simp, fun h hh ne => by
  obtain ⟨n, hn, rfl⟩ := hand_nat hh
  have : n = 0 ∨ n = 1 ∨ n = 2 ∨ n = 3 := by omega
  rcases this with rfl | rfl | rfl | rfl <;> exact absurd rfl ne⟩
theorem SeenS.join {ds : List Dd} {x y : List Int} (hx : SeenS ds x) (hy : SeenS ds y) : SeenS ds (joinS x y) := by
  have big : ∀ o ∈ hands, snO x o ≤ snO (joinS x y) o ∧ snO y o ≤ snO (joinS x y) o := fun o ho => by
    obtain ⟨n, hn, rfl⟩ := hand_nat ho
    rw [joinS_at hn]
    omega
  refine ⟨by simp [joinS], fun t ht => ?_, fun h hh ne => ?_⟩
  · obtain ⟨k, hk, rfl⟩ := List.mem_map.mp ht
    have hk := List.mem_range.mp hk
    have := hx.nn_at (nat_hand hk)
    rw [snO_nat] at this
    omega
  · obtain ⟨n, hn, e⟩ := hand_nat hh
    have hj : snO (joinS x y) h = snO x h ∨ snO (joinS x y) h = snO y h := by
      subst e
      rw [joinS_at hn]
      omega
    rcases hj with hj | hj
    · rw [hj] at ne ⊢
      obtain ⟨e, he, h1, h2⟩ := hx.at_ h hh ne
      exact ⟨e, he, h1, fun o ho => Int.le_trans (h2 o ho) (big o ho).1⟩
    · rw [hj] at ne ⊢
      obtain ⟨e, he, h1, h2⟩ := hy.at_ h hh ne
      exact ⟨e, he, h1, fun o ho => Int.le_trans (h2 o ho) (big o ho).2⟩
/-- what a deed has seen, with itself -/
theorem Bk.seen_deed {ds : List Dd} (b : Bk ds) {d : Dd} (hd : d ∈ ds) {n : Nat} (hn : d.st.2 = n) : SeenS ds (upS d.seen n d.st.1) := by
  have ok := b.ok d hd
  have hst := ok.st
  have hn4 : n < 4 := by have := hst.2.2.2; omega
  have le1 : ∀ o ∈ hands, d.sn o ≤ d.st.1 - 1 := fun o ho => (ok.seen _ (snO_mem ok.len ho)).2
  have big : ∀ o ∈ hands, d.sn o ≤ snO (upS d.seen n d.st.1) o := fun o ho => by
    obtain ⟨m, hm, rfl⟩ := hand_nat ho
    rw [upS_at hm]
    have := le1 m ho
    by_cases e : m = n
    · rw [if_pos e]; omega
    · rw [if_neg e]; exact Int.le_refl _
  refine ⟨by simp [upS], fun t ht => ?_, fun h hh ne => ?_⟩
  · obtain ⟨k, hk, rfl⟩ := List.mem_map.mp ht
    have hk := List.mem_range.mp hk
    by_cases e : k = n
    · rw [if_pos e]; have := hst.1; omega
    · rw [if_neg e]
      exact (ok.seen _ (snO_mem ok.len (nat_hand hk))).1
  · obtain ⟨m, hm, rfl⟩ := hand_nat hh
    rw [upS_at hm] at ne ⊢
    by_cases e : m = n
    · subst e
      rw [if_pos rfl]
      exact ⟨d, hd, by rw [← hn], big⟩
    · rw [if_neg e] at ne ⊢
      obtain ⟨e, he, h1, h2⟩ := (b.closed d hd).seen m hh ne
      exact ⟨e, he, h1, fun o ho => Int.le_trans (h2 o ho) (big o ho)⟩
theorem set_get {α : Type} {l : List α} {n m : Nat} {x y : α} (h : (l.set n x)[m]? = some y) : (m = n ∧ y = x) ∨ (m ≠ n ∧ l[m]? = some y) := by
  by_cases e : m = n
  · subst e
    rw [List.getElem?_set_self'] at h
    cases hl : l[m]? with
    | none => rw [hl] at h; cases h
    | some z => rw [hl] at h; cases h; exact .inl ⟨rfl, rfl⟩
  · rw [List.getElem?_set_ne (fun z => e z.symm)] at h
    exact .inr ⟨e, h⟩
/-- a hand learns -/
theorem WInv.learn {ds : List Dd} {sns : List (List Int)} (h : WInv ds sns) {n : Nat} {l x : List Int} (hl : sns[n]? = some l) (hx : SeenS ds x) : WInv ds (sns.set n (joinS x l)) := by
  have hls := h.seen l (List.mem_of_getElem? hl)
  have hn4 : n < 4 := by rw [← h.len]; exact (List.getElem?_eq_some_iff.mp hl).1
  refine ⟨h.bk, by rw [List.length_set]; exact h.len, fun m hm => ?_, fun m k hk d hd e => ?_, h.tm⟩
  · rcases List.mem_or_eq_of_mem_set hm with hm | rfl
    · exact h.seen m hm
    · exact hx.join hls
  · rcases set_get hk with ⟨rfl, rfl⟩ | ⟨_, hk⟩
    · have := h.own m l hl d hd e
      rw [joinS_at hn4]
      omega
    · exact h.own m k hk d hd e
theorem snO_bound {ds : List Dd} {l : List Int} {B : Int} (hB : 0 ≤ B) (h : SeenS ds l) (tm : ∀ d ∈ ds, d.st.1 ≤ B) {o : Int} (ho : o ∈ hands) : snO l o ≤ B := by
  by_cases z : snO l o = 0
  · omega
  · obtain ⟨e, he, h1, _⟩ := h.at_ o ho z
    have := tm e he
    rw [h1] at this
    exact this
/-- a deed more -/
theorem WInv.act {ds : List Dd} {sns : List (List Int)} (h : WInv ds sns) {n : Nat} {l : List Int} {b : Bd} {m c : Int} (hl : sns[n]? = some l) (hb : b.ok) (hc : 0 ≤ c ∧ c ≤ 4) (hN : ds.length ≤ 30)
    (hm : m ∈ l) (hm2 : ∀ y ∈ l, y ≤ m) (hnm : ∀ k, some k ∈ b.names → k ≠ (0, 0) → k ∈ ds.map (·.st) ∧ k.1 ≤ snO l k.2) :
    WInv (ds ++ [⟨(1 + m + c, n), l, b⟩]) (sns.set n (upS l n (1 + m + c))) := by
  have hls := h.seen l (List.mem_of_getElem? hl)
  have hn4 : n < 4 := by rw [← h.len]; exact (List.getElem?_eq_some_iff.mp hl).1
  have nh := nat_hand hn4
  have hm0 : 0 ≤ m := hls.nn m hm
  have hlm : ∀ o ∈ hands, snO l o ≤ m := fun o ho => hm2 _ (snO_mem hls.len ho)
  have hmB : m ≤ 5 * ds.length := by
    obtain ⟨k, hk, e⟩ := List.getElem_of_mem hm
    rw [hls.len] at hk
    have := snO_bound (by omega) hls h.tm (nat_hand hk)
    rw [snO_nat, List.getD_eq_getElem?_getD, List.getElem?_eq_getElem (by rw [hls.len]; exact hk)] at this
    simp only [Option.getD_some] at this
    rw [e] at this
    exact this
  have hnew : ∀ d ∈ ds, d.st.2 = n → d.st.1 < 1 + m + c := fun d hd e => by
    have h1 := h.own n l hl d hd e
    have h2 := hlm n nh
    omega
  have hok : Dd.ok ⟨(1 + m + c, n), l, b⟩ := by
    refine ⟨⟨?_, ?_, ?_, ?_⟩, hls.len, fun t ht => ⟨hls.nn t ht, ?_⟩, hb⟩
    · show 1 ≤ 1 + m + c; omega
    · show 1 + m + c ≤ 999; omega
    · show 0 ≤ (n : Int); omega
    · show (n : Int) ≤ 3; omega
    · show t ≤ 1 + m + c - 1
      have := hm2 t ht
      omega
  have sub : ∀ d ∈ ds, d ∈ ds ++ [⟨(1 + m + c, n), l, b⟩] := fun d hd => List.mem_append_left _ hd
  have last : ∀ {d : Dd}, d ∈ ds ++ [⟨(1 + m + c, n), l, b⟩] → d ∈ ds ∨ d = ⟨(1 + m + c, n), l, b⟩ := fun hd => by
    rcases List.mem_append.mp hd with hd | hd
    · exact .inl hd
    · exact .inr (List.mem_singleton.mp hd)
  refine ⟨⟨fun d hd => ?_, ?_, fun d hd => ?_, fun d hd => ?_, ?_⟩, by rw [List.length_set]; exact h.len, fun k hk => ?_, fun k x hk d hd e => ?_, fun d hd => ?_⟩
  · rcases last hd with hd | rfl
    · exact h.bk.ok d hd
    · exact hok
  · rw [List.map_append, List.nodup_append]
    refine ⟨h.bk.nd, by simp, fun a ha b' hb' e => ?_⟩
    simp at hb'
    obtain ⟨d, hd, rfl⟩ := List.mem_map.mp ha
    rw [hb'] at e
    have := hnew d hd (by rw [e])
    rw [e] at this
    exact absurd this (by show ¬ (1 + m + c < 1 + m + c); omega)
  · rcases last hd with hd | rfl
    · have c0 := h.bk.closed d hd
      refine ⟨⟨?_, c0.own.nn, fun e he h1 h2 => ?_⟩, fun o ho ne => ?_⟩
      · rcases c0.own.at_ with z | ⟨e, he, q⟩
        · exact .inl z
        · exact .inr ⟨e, sub e he, q⟩
      · rcases last he with he | rfl
        · exact c0.own.top e he h1 h2
        · have h1 : (n : Int) = d.st.2 := h1
          have h2 : 1 + m + c < d.st.1 := h2
          have := hnew d hd h1.symm
          omega
      · obtain ⟨e, he, q⟩ := c0.seen o ho ne
        exact ⟨e, sub e he, q⟩
    · refine ⟨⟨?_, hls.nn_at nh, fun e he h1 h2 => ?_⟩, fun o ho ne => ?_⟩
      · by_cases z : snO l n = 0
        · exact .inl z
        · obtain ⟨e, he, h1, _⟩ := hls.at_ n nh z
          refine .inr ⟨e, sub e he, by rw [h1], ?_, by rw [h1]; rfl⟩
          exact hnew e he (by rw [h1])
      · rcases last he with he | rfl
        · exact h.own n l hl e he h1
        · exact absurd h2 (Int.lt_irrefl _)
      · obtain ⟨e, he, q⟩ := hls.at_ o ho ne
        exact ⟨e, sub e he, q⟩
  · rcases last hd with hd | rfl
    · intro k hk ne
      obtain ⟨h1, h2⟩ := h.bk.named d hd k hk ne
      exact ⟨by rw [List.map_append]; exact List.mem_append_left _ h1, h2⟩
    · intro k hk ne
      obtain ⟨h1, h2⟩ := hnm k hk ne
      exact ⟨by rw [List.map_append]; exact List.mem_append_left _ h1, h2⟩
  · rw [List.length_append]
    simp
    omega
  · rcases List.mem_or_eq_of_mem_set hk with hk | rfl
    · exact (h.seen k hk).more sub
    · have hb := Bk.seen_deed (ds := [⟨(1 + m + c, n), l, b⟩] ++ ds) (d := ⟨(1 + m + c, n), l, b⟩)
      have big : ∀ o ∈ hands, snO l o ≤ snO (upS l n (1 + m + c)) o := fun o ho => by
        obtain ⟨j, hj, rfl⟩ := hand_nat ho
        rw [upS_at hj]
        have := hlm j ho
        by_cases e : j = n
        · rw [if_pos e]; omega
        · rw [if_neg e]; exact Int.le_refl _
      refine ⟨by simp [upS], fun t ht => ?_, fun o ho ne => ?_⟩
      · obtain ⟨j, hj, rfl⟩ := List.mem_map.mp ht
        have hj := List.mem_range.mp hj
        by_cases e : j = n
        · rw [if_pos e]; omega
        · rw [if_neg e]
          exact hls.nn_at (nat_hand hj)
      · obtain ⟨j, hj, rfl⟩ := hand_nat ho
        rw [upS_at hj] at ne ⊢
        by_cases e : j = n
        · subst e
          rw [if_pos rfl]
          exact ⟨_, List.mem_append_right _ (List.mem_singleton_self _), rfl, big⟩
        · rw [if_neg e] at ne ⊢
          obtain ⟨e, he, h1, h2⟩ := hls.at_ j ho ne
          exact ⟨e, sub e he, h1, fun o ho => Int.le_trans (h2 o ho) (big o ho)⟩
  · rcases set_get hk with ⟨rfl, rfl⟩ | ⟨ne, hk⟩
    · rw [upS_at hn4, if_pos rfl]
      rcases last hd with hd | rfl
      · have := hnew d hd e; omega
      · exact Int.le_refl _
    · rcases last hd with hd | rfl
      · exact h.own k x hk d hd e
      · have e : (n : Int) = k := e
        exact absurd (Int.ofNat.inj e) (Ne.symm ne)
  · rw [List.length_append]
    rcases last hd with hd | rfl
    · have := h.tm d hd
      simp
      omega
    · show 1 + m + c ≤ _
      simp
      omega
theorem WInv.zero : WInv [] [[0, 0, 0, 0], [0, 0, 0, 0], [0, 0, 0, 0], [0, 0, 0, 0]] := by
  refine ⟨⟨by simp, List.nodup_nil, by simp, by simp, by simp⟩, rfl, fun l hl => ?_, fun n l _ d hd => by simp at hd, by simp⟩
  have : l = [0, 0, 0, 0] := by simp at hl; exact hl
  rw [this]
  exact SeenS.zero []
/-- all seen by the first hand alone: the others may take it over -/
theorem WInv.share {ds : List Dd} {sns : List (List Int)} (h : WInv ds sns) (h0 : ∀ d ∈ ds, d.st.2 = 0) {n : Nat} {l : List Int} (hl : sns[0]? = some l) : WInv ds (sns.set n l) := by
  refine ⟨h.bk, by rw [List.length_set]; exact h.len, fun m hm => ?_, fun m k hk d hd e => ?_, h.tm⟩
  · rcases List.mem_or_eq_of_mem_set hm with hm | rfl
    · exact h.seen m hm
    · exact h.seen _ (List.mem_of_getElem? hl)
  · rcases set_get hk with ⟨rfl, rfl⟩ | ⟨_, hk⟩
    · have hm : m = 0 := by rw [h0 d hd] at e; omega
      subst hm
      exact h.own 0 k hl d hd e
    · exact h.own m k hk d hd e
end Ss
/-! Walks: draws. -/
namespace Ss
open PySem PySem.Spec PyProof.Rows L2
variable {P : Program} {w : World} {K : PySem.W.Frag} {mg : Str → Option Value} {base : Heap} {e0 : Addr}
/-- a source of draws -/
def Src (H : Hp) (s : Addr) : Prop := ∃ a b : Int, H s = some (.lst [.int a, .int b]) ∧ 0 ≤ b ∧ b < 2147483647
theorem Src.same {H H' : Hp} {s : Addr} (h : Src H s) (e : Same H H') : Src H' s := let ⟨a, b, h1, h2⟩ := h; ⟨a, b, e _ _ h1, h2⟩
theorem Src.nt {H : Hp} {s : Addr} (h : Src H s) : NT H s := let ⟨_, _, h1, _⟩ := h; nt_lst h1
theorem Src.tup {H H' : Hp} {s : Addr} (h : Src H s) (f : Fr [s] H H') : TupLe H H' := f.tup (by
  intro z hz
  obtain rfl := List.mem_singleton.mp hz
  exact h.nt)
theorem setLr {H : Hp} {a : Addr} {xs : List V} {v : V} {i : Int} {N : Hp → Prop} (n : Nat) (h : H a = some (.lst xs)) (hn : n < xs.length) (q : N (upd H a (.lst (xs.set n v)))) (e : i = n := by rfl) : sAny P w K (.ref a) (.int i) v H N := by
  subst e
  refine .inl ⟨a, xs, n, n, rfl, rfl, h, ?_, q⟩
  unfold ixN
  rw [if_pos (by omega), if_pos (by omega)]
  simp
def sp_take (K : PySem.W.Frag) : Sp := fun us H Q _ => us.length = 2 ∧ ∃ (s : Addr) (n : Nat), us = [.ref s, .int n] ∧ Src H s ∧ 1 ≤ n ∧ n < 1000000 ∧ ∀ (k : Nat) (H' : Hp), Fr [s] H H' → Src H' s → k < n → Q (.int k) H'
theorem modN_nat {i : Int} {n : Nat} (hn : 1 ≤ n) : ∃ k : Nat, i.fmod n = k ∧ k < n := by
  rw [Int.fmod_eq_emod_of_nonneg _ (by omega)]
  have h1 := Int.emod_nonneg i (show (n : Int) ≠ 0 by omega)
  have h2 := Int.emod_lt_of_pos i (show (0 : Int) < n by omega)
  exact ⟨(i % n).toNat, by omega, by omega⟩
theorem ok_take (T : Tx w K mg e0) : Kn P w K mg base 1 (He.ga K "_law_take") ["_law_source", "_law_top"] (sp_take K) := by
  refine T.d_l_take.kn sc_l_take (fun _ _ _ _ _ _ us hl => match us, hl with | [_, _], _ => rfl) (fun vs H Q E h => h.1) (fun cdv A outer s H vs Q E hr h => ?_)
  have hu := hu65 hr
  obtain ⟨_, s0, n, rfl, ⟨a, b, hs, hb0, hb1⟩, hn1, hn2, q⟩ := h
  refine ⟨_, (pss_cons (ps_if (pt_cmpR op_gt (pe_ix (ix_any hu) (pv 0) pe_int (fun _ _ => rfl)) pe_int (nomark _)) (pss_cons (ps_set (i := 2) sc_l_take.nd rfl (Or.inl rfl) (pe_op op_modN (pe_callTy (cb_int hu) (by rfl) T.b_int (by decide +kernel) (pa_cons (pe_ix (ix_any hu) (pv 0) pe_int (fun _ _ => rfl)) pa_nil)) (pv 1)))
    (pss_cons (ps_asg (pe_op op_fdivN (pe_ix (ix_any hu) (pv 0) pe_int (fun _ _ => rfl)) (pv 1)) (pg_sub (pv 0) pe_int (set_any hu)))
    (pss_one (ps_ret (pv 2))))) pss_nil)
    (pss_cons (ps_asg (pe_op op_modN (pe_callTy (cb_int hu) (by rfl) T.b_int (by decide +kernel) (pa_cons (pe_op op_addA (pe_op op_mul (pe_ix (ix_any hu) (pv 0) pe_int (fun _ _ => rfl)) pe_int) pe_int) pa_nil)) pe_int) (pg_sub (pv 0) pe_int (set_any hu)))
    (pss_one (ps_ret (pe_op op_modN (pe_callTy (cb_int hu) (by rfl) T.b_int (by decide +kernel) (pa_cons (pe_op op_fdivN (pe_op op_modN (pe_callTy (cb_int hu) (by rfl) T.b_int (by decide +kernel) (pa_cons (pe_op op_mul (pe_ix (ix_any hu) (pv 0) pe_int (fun _ _ => rfl)) (pe_ix (ix_any hu) (pv 0) pe_int (fun _ _ => rfl))) pa_nil)) pe_int) pe_int) pa_nil)) (pv 1)))))), ?_⟩
  refine ⟨_, rfl, ixL 0 (SqL.of hs) rfl ⟨_, _, rfl, rfl, _, rfl, ite2 (fun c => ?_) (fun c => ?_)⟩⟩
  · obtain ⟨k, hk, hkn⟩ := modN_nat (i := a) hn1
    refine ⟨_, rfl, ixL 0 (SqL.of hs) rfl (.inl ⟨a, rfl, _, rfl, _, _, rfl, rfl, (by show (n : Int) ≠ 0; omega), ?_⟩)⟩
    refine ⟨_, rfl, ixL 0 (SqL.of hs) rfl ⟨_, rfl, _, _, rfl, rfl, ⟨by omega, by omega⟩, ?_⟩⟩
    refine ⟨_, rfl, setLr 0 hs (by simp) ?_⟩
    refine ⟨_, rfl, ?_⟩
    have := q k (upd H s0 (.lst [.int (a.fdiv n), .int b])) (Fr.refl.at (by simp)) ⟨_, _, upd_same, hb0, hb1⟩ hkn
    rw [← hk] at this
    exact this
  · refine ⟨_, rfl, ixL 1 (SqL.of hs) rfl ⟨_, _, rfl, rfl, .inr ⟨by omega, by omega⟩, addI (.inl ⟨_, rfl, _, _, rfl, rfl, (by show (2147483647 : Int) ≠ 0; decide), ?_⟩)⟩⟩
    refine ⟨_, rfl, setLr 1 hs (by simp) ?_⟩
    obtain ⟨b', hb', hb2⟩ : ∃ b' : Int, b' = (b * 39373 + 7).fmod 2147483647 ∧ 0 ≤ b' ∧ b' < 2147483647 := by
      refine ⟨_, rfl, ?_⟩
      rw [Int.fmod_eq_emod_of_nonneg _ (by decide)]
      exact ⟨Int.emod_nonneg _ (by decide), Int.emod_lt_of_pos _ (by decide)⟩
    have hs2 : (upd H s0 (.lst ([V.int a, .int b].set 1 (.int ((b * 39373 + 7).fmod 2147483647))))) s0 = some (.lst [.int a, .int b']) := by
      rw [hb']
      exact upd_same
    refine ⟨_, rfl, ixL 1 (SqL.of hs2) rfl ⟨_, rfl, ixL 1 (SqL.of hs2) rfl ⟨_, _, rfl, rfl, .inl ⟨by omega, by omega⟩, .inl ⟨_, rfl, _, _, rfl, rfl, (by show (2147483629 : Int) ≠ 0; decide), ?_⟩⟩⟩⟩
    refine ⟨_, _, rfl, rfl, ⟨(by decide), (by decide)⟩, .inl ⟨_, rfl, _, rfl, _, _, rfl, rfl, (by show (n : Int) ≠ 0; omega), ?_⟩⟩
    generalize (((b' * b').fmod 2147483629).fdiv 32) = z
    obtain ⟨k, hk, hkn⟩ := modN_nat (i := z) hn1
    have := q k _ (Fr.refl.at (S := [s0]) (by simp)) ⟨_, _, hs2, hb2.1, hb2.2⟩ hkn
    rw [← hk] at this
    exact this
def sp_one (K : PySem.W.Frag) : Sp := fun us H Q _ => us.length = 2 ∧ ∃ (s l : Addr) (xs : List V), us = [.ref s, .ref l] ∧ Src H s ∧ SqL K H l xs ∧ xs ≠ [] ∧ xs.length < 1000000 ∧ l ≠ s ∧ ∀ (i : Nat) (x : V) (H' : Hp), Fr [s] H H' → Src H' s → xs[i]? = some x → Q x H'
theorem ok_one (T : Tx w K mg e0) : Kn P w K mg base 2 (He.ga K "_law_one") ["_law_source", "_law_things"] (sp_one K) := by
  have G_l_take : Kn P w K mg base 1 _ _ _ := ok_take T
  refine T.d_l_one.kn sc_l_one (fun _ _ _ _ _ _ us hl => match us, hl with | [_, _], _ => rfl) (fun vs H Q E h => h.1) (fun cdv A outer s H vs Q E hr h => ?_)
  have hu := hu65 hr
  obtain ⟨_, s0, l, xs, rfl, hs, hl, hne, hlen, hls, q⟩ := h
  refine ⟨_, (pss_one (ps_ret (pe_ix (ix_any hu) (pv 1) (pe_fn G_l_take (hr.mono (by first | decide | exact Nat.le_refl _ | exact Nat.le_add_right_of_le (by decide) | omega)) T.g__law_take (pa_cons (pv 0) (pa_cons (pe_callB (cb_len hu) (by rfl) T.b_len (by decide +kernel) (pa_cons (pv 1) pa_nil)) pa_nil))) (fun _ _ => rfl)))), ?_⟩
  refine ⟨_, rfl, _, rfl, _, rfl, lenL hl ⟨rfl, s0, xs.length, rfl, hs, List.length_pos_iff.mpr hne, hlen, fun k H' f hs' hk => ?_⟩⟩
  have hx : xs[k]? = some xs[k] := List.getElem?_eq_getElem hk
  exact ixL k (f.sql (by simpa using hls) hl) hx (q k _ H' f hs' hx)
/-- one of some data -/
theorem one_dp {s l : Addr} {H : Hp} {us : List V} {ds : List PyData} {Q : VK} (hs : Src H s) (hl : SqL K H l us) (hd : DpAll K H us ds) (him : immAll ds = true) (hne : ds ≠ []) (hlen : ds.length < 1000000) (hls : l ≠ s)
    (q : ∀ (x : V) (d : PyData) (H' : Hp), Fr [s] H H' → Src H' s → TupLe H H' → d ∈ ds → Dp K H' x d → Q x H') : sp_one K [.ref s, .ref l] H Q E0 := by
  have hul := dpa_len hd
  refine ⟨rfl, s, l, us, rfl, hs, hl, fun z => hne (List.length_eq_zero_iff.mp (by rw [← hul, z]; rfl)), by omega, hls, fun i x H' f hs' hx => ?_⟩
  obtain ⟨d, h1, h2⟩ := dpa_getV hd hx
  have t := hs.tup f
  have hm := List.mem_of_getElem? h1
  refine q x d H' f hs' t hm (dp_tup t ?_ h2)
  have : ∀ {ds : List PyData}, immAll ds = true → ∀ d ∈ ds, imm d = true := by
    intro ds
    induction ds with
    | nil => intro _ d h; simp at h
    | cons e r ih =>
      intro h d hd
      have h := Bool.and_eq_true_iff.mp (show (imm e && immAll r) = true from h)
      rcases List.mem_cons.mp hd with rfl | hd
      · exact h.1
      · exact ih h.2 d hd
  exact this him d hm
/-- a new list is not the source -/
theorem new_ne {H : Hp} {s p : Addr} (hs : Src H s) (hp : H p = none) : p ≠ s := fun z => by
  obtain ⟨_, _, h, _⟩ := hs
  rw [z, h] at hp
  cases hp
def sp_pool (P : Program) (w : World) (K : PySem.W.Frag) : Sp := fun us H Q _ => us.length = 2 ∧ ∃ (l : Addr) (ns : List Int) (k : Nat), us = [.ref l, .int k] ∧ SqL K H l (ns.map V.int) ∧ k ≤ 3 ∧ ∀ (s : Addr) (H' : Hp), Same H H' → H s = none → Src H' s → Q (.ref s) H'
theorem ok_pool (T : Tx w K mg e0) : Kn P w K mg base 1 (He.ga K "_law_pool") ["_law_script", "_law_k"] (sp_pool P w K) := by
  refine T.d_l_pool.kn sc_l_pool (fun _ _ _ _ _ _ us hl => match us, hl with | [_, _], _ => rfl) (fun vs H Q E h => h.1) (fun cdv A outer s H vs Q E hr h => ?_)
  have hu := hu65 hr
  obtain ⟨_, l, ns, k, rfl, hl, hk, q⟩ := h
  refine ⟨_, (pss_cons (ps_set (i := 2) sc_l_pool.nd rfl (Or.inl rfl) pe_int)
    (pss_cons (ps_if (pt_cmpR op_lt (pv 1) (pe_callB (cb_len hu) (by rfl) T.b_len (by decide +kernel) (pa_cons (pv 0) pa_nil)) (nomark _)) (pss_one (ps_set (i := 2) sc_l_pool.nd rfl (Or.inl rfl) (pe_ix (ix_any hu) (pv 0) (pv 1) (fun _ _ => rfl)))) pss_nil)
    (pss_cons (ps_set (i := 3) sc_l_pool.nd rfl (Or.inl rfl) (pe_callB (cb_max hu) (by rfl) T.b_max (by decide +kernel) (pa_cons (pe_callTy (cb_int hu) (by rfl) T.b_int (by decide +kernel) (pa_cons (pv 2) pa_nil)) (pa_cons (pe_callTy (cb_int hu) (by rfl) T.b_int (by decide +kernel) (pa_cons (pe_op op_sub (pe_un un_neg pe_int) (pv 2)) pa_nil)) pa_nil))))
    (pss_cons (ps_set (i := 4) sc_l_pool.nd rfl (Or.inl rfl) (pe_op op_modN (pe_callTy (cb_int hu) (by rfl) T.b_int (by decide +kernel) (pa_cons (pe_op op_mul (pe_op op_addA (pe_op op_addA (pe_op op_addA (pe_op op_modN (pe_callTy (cb_int hu) (by rfl) T.b_int (by decide +kernel) (pa_cons (pv 3) pa_nil)) pe_int) (pe_op op_mul (pe_op op_mul pe_int (pv 1)) (pv 1))) (pe_op op_mul pe_int (pv 1))) pe_int) pe_int) pa_nil)) pe_int))
    (pss_one (ps_ret (pe_lst (pa_cons (pe_op op_mul (pv 3) (pe_callTy (cb_int hu) (by rfl) T.b_int (by decide +kernel) (pa_cons (pe_cmpR op_ge (pv 3) (pe_op op_pow pe_int pe_int) (nomark _)) pa_nil))) (pa_cons (pv 4) pa_nil))))))))), ?_⟩
  refine ⟨_, rfl, _, rfl, lenL hl ⟨_, _, rfl, rfl, _, rfl, ite2 (fun c0 => ?_) (fun c0 => ?_)⟩⟩
  · have hk2 : k < ns.length := by
      have := of_decide_eq_true c0
      rw [List.length_map] at this
      omega
    refine ⟨_, rfl, _, rfl, ixL k hl (v := .int ns[k]) (by rw [List.getElem?_map, List.getElem?_eq_getElem hk2]; rfl) ?_⟩
    generalize ns[k] = c
    refine ⟨_, rfl, .inl ⟨_, rfl, _, rfl, _, rfl, _, _, rfl, rfl, .inl ⟨_, rfl, .inl ⟨_, _, rfl, ?_⟩⟩⟩⟩
    generalize (if -1 - c > c then -1 - c else c) = big
    refine ⟨_, rfl, .inl ⟨_, rfl, _, _, rfl, rfl, (by show (2147483629 : Int) ≠ 0; decide), _, rfl, _, _, rfl, rfl, .inl ⟨by decide, by decide⟩, _, rfl, _, _, rfl, rfl, .inr ⟨by omega, by omega⟩, addI ⟨_, rfl, _, _, rfl, rfl, .inl ⟨by decide, by decide⟩, addI (addI ⟨_, _, rfl, rfl, .inr ⟨by decide, by decide⟩, .inl ⟨_, rfl, _, _, rfl, rfl, (by show (2147483647 : Int) ≠ 0; decide), ?_⟩⟩)⟩⟩⟩
    obtain ⟨mx, hmx, hm2⟩ : ∃ mx : Int, mx = ((big.fmod 2147483629 + 7919 * (k : Int) * k + 31 * k + 17) * 48271).fmod 2147483647 ∧ 0 ≤ mx ∧ mx < 2147483647 := by
      refine ⟨_, rfl, ?_⟩
      rw [Int.fmod_eq_emod_of_nonneg _ (by decide)]
      exact ⟨Int.emod_nonneg _ (by decide), Int.emod_lt_of_pos _ (by decide)⟩
    refine ⟨_, rfl, _, rfl, _, _, rfl, rfl, ⟨by decide, by decide, by decide⟩, _, _, rfl, rfl, .inr ⟨_, rfl, _, _, rfl, rfl, .inr ⟨?_, ?_⟩, _, rfl, szL, fun p hp => q p _ (same_new hp) hp ⟨_, mx, by rw [hmx]; exact upd_same, hm2.1, hm2.2⟩⟩⟩
    · split <;> decide
    · split <;> decide
  · refine ⟨_, rfl, .inl ⟨_, rfl, _, rfl, _, rfl, _, _, rfl, rfl, .inl ⟨_, rfl, .inl ⟨_, _, rfl, ?_⟩⟩⟩⟩
    generalize (if (-1 : Int) - 0 > 0 then (-1 : Int) - 0 else 0) = big
    refine ⟨_, rfl, .inl ⟨_, rfl, _, _, rfl, rfl, (by show (2147483629 : Int) ≠ 0; decide), _, rfl, _, _, rfl, rfl, .inl ⟨by decide, by decide⟩, _, rfl, _, _, rfl, rfl, .inr ⟨by omega, by omega⟩, addI ⟨_, rfl, _, _, rfl, rfl, .inl ⟨by decide, by decide⟩, addI (addI ⟨_, _, rfl, rfl, .inr ⟨by decide, by decide⟩, .inl ⟨_, rfl, _, _, rfl, rfl, (by show (2147483647 : Int) ≠ 0; decide), ?_⟩⟩)⟩⟩⟩
    obtain ⟨mx, hmx, hm2⟩ : ∃ mx : Int, mx = ((big.fmod 2147483629 + 7919 * (k : Int) * k + 31 * k + 17) * 48271).fmod 2147483647 ∧ 0 ≤ mx ∧ mx < 2147483647 := by
      refine ⟨_, rfl, ?_⟩
      rw [Int.fmod_eq_emod_of_nonneg _ (by decide)]
      exact ⟨Int.emod_nonneg _ (by decide), Int.emod_lt_of_pos _ (by decide)⟩
    refine ⟨_, rfl, _, rfl, _, _, rfl, rfl, ⟨by decide, by decide, by decide⟩, _, _, rfl, rfl, .inr ⟨_, rfl, _, _, rfl, rfl, .inr ⟨?_, ?_⟩, _, rfl, szL, fun p hp => q p _ (same_new hp) hp ⟨_, mx, by rw [hmx]; exact upd_same, hm2.1, hm2.2⟩⟩⟩
    · split <;> decide
    · split <;> decide
def sp_rounds (P : Program) (w : World) (K : PySem.W.Frag) : Sp := fun us H Q _ => us.length = 1 ∧ ∃ (l : Addr) (xs : List V), us = [.ref l] ∧ SqL K H l xs ∧ xs.length ≤ 63 ∧ ∀ (p : Addr) (n : Nat), H p = none → n ≤ 3 → Q (.ref p) (upd H p (.lst (rgV 0 n)))
theorem ok_rounds (T : Tx w K mg e0) : Kn P w K mg base 1 (He.ga K "_law_rounds") ["_law_script"] (sp_rounds P w K) := by
  refine T.d_l_rounds.kn sc_l_rounds (fun _ _ _ _ _ _ us hl => match us, hl with | [_], _ => rfl) (fun vs H Q E h => h.1) (fun cdv A outer s H vs Q E hr h => ?_)
  have hu := hu65 hr
  obtain ⟨_, l, xs, rfl, hl, hlen, q⟩ := h
  refine ⟨_, (pss_one (ps_ret (pe_listRg rfl (by rfl) T.b_list (prg_1 (by rfl) T.b_range (pe_callB (cb_max hu) (by rfl) T.b_max (by decide +kernel) (pa_cons pe_int (pa_cons (pe_callB (cb_min hu) (by rfl) T.b_min (by decide +kernel) (pa_cons (pe_callB (cb_len hu) (by rfl) T.b_len (by decide +kernel) (pa_cons (pv 0) pa_nil)) (pa_cons pe_int pa_nil))) pa_nil))))))), ?_⟩
  refine ⟨_, rfl, lenL hl (.inl ⟨_, _, rfl, .inl ⟨_, _, rfl, _, rfl, ?_, fun p hp => ?_⟩⟩)⟩
  · refine ⟨by decide, by decide, ?_, ?_, ?_⟩ <;> (repeat' split) <;> omega
  · have e : ∃ n : Nat, n ≤ 3 ∧ (if (if (3 : Int) < (xs.length : Int) then 3 else (xs.length : Int)) > 1 then (if (3 : Int) < (xs.length : Int) then 3 else (xs.length : Int)) else 1) = n := by
      by_cases h1 : (3 : Int) < (xs.length : Int)
      · rw [if_pos h1]
        exact ⟨3, by decide, by decide⟩
      · rw [if_neg h1]
        by_cases h2 : (xs.length : Int) > 1
        · rw [if_pos h2]
          exact ⟨xs.length, by omega, rfl⟩
        · rw [if_neg h2]
          exact ⟨1, by decide, rfl⟩
    obtain ⟨n, hn, e⟩ := e
    have := q p n hp hn
    rw [← e] at this
    exact this
end Ss
/-! Walks: bodies drawn. -/
namespace Ss
open PySem PySem.Spec PyProof.Rows L2
variable {P : Program} {w : World} {K : PySem.W.Frag} {mg : Str → Option Value} {base : Heap} {e0 : Addr}
/-- a beginning of a tuple -/
theorem sliceTo {H : Hp} {v : V} {ds : List PyData} {Q : VK} (n : Nat) (h : Dp K H v (.tuple ds)) (q : ∀ (u : V) (H' : Hp), Same H H' → Dp K H' u (.tuple (ds.take n)) → Q u H') : rSlX K v none (some (n : Int)) H Q := by
  cases h with
  | @tup a us _ ha hus =>
    have hl := dpa_len hus
    refine .inr ⟨a, us, rfl, ha, fun hw => ?_, fun _ p hp => ?_⟩
    · have hw := hw.2
      rw [HT.sIx_nat] at hw
      refine q _ _ (Same.refl _) ?_
      rw [List.take_of_length_le (by omega)]
      exact .tup ha hus
    · rw [cut_to]
      exact q _ _ (same_new hp) (.tup (SqT.of upd_same) (dpa_same (same_new hp) (dpa_take n hus)))
theorem sliceFrom {H : Hp} {v : V} {ds : List PyData} {Q : VK} (n : Nat) (h : Dp K H v (.tuple ds)) (q : ∀ (u : V) (H' : Hp), Same H H' → Dp K H' u (.tuple (ds.drop n)) → Q u H') : rSlX K v (some (n : Int)) none H Q := by
  cases h with
  | @tup a us _ ha hus =>
    have hl := dpa_len hus
    refine .inr ⟨a, us, rfl, ha, fun hw => ?_, fun _ p hp => ?_⟩
    · have hw := hw.1
      rw [HT.sIx_nat] at hw
      refine q _ _ (Same.refl _) ?_
      have : ds.drop n = ds := by
        by_cases h0 : n = 0
        · rw [h0, List.drop_zero]
        · have : ds = [] := List.length_eq_zero_iff.mp (by omega)
          rw [this]
          simp
      rw [this]
      exact .tup ha hus
    · rw [cut_from]
      exact q _ _ (same_new hp) (.tup (SqT.of upd_same) (dpa_same (same_new hp) (dpa_drop n hus)))
theorem lay_okName {z : Str} (h : okName z) : PyData.strOk z = true := by
  have hl : ∀ c ∈ letters.cps.toList, c < 0x110000 := by decide +kernel
  unfold PyData.strOk
  rw [Array.all_eq_true_iff_forall_mem]
  intro c hc
  exact decide_eq_true (hl c (h.2.2 c (Array.mem_toList_iff.mpr hc)))
theorem lay_c {k : Kd} {d : PyData} (h : okC k d) : PyData.canLay0 d = true ∧ d.depth ≤ 2 := by
  cases k with
  | lt =>
    obtain ⟨z, rfl, hz⟩ := h
    exact ⟨by simpa [PyData.canLay0] using lay_okName hz, by simp [PyData.depth]⟩
  | use => obtain ⟨b, rfl, _⟩ := h; exact lay_bD b
  | number => obtain ⟨n, rfl, _⟩ := h; exact ⟨by simp [PyData.canLay0], by simp [PyData.depth]⟩
  | _ => cases h; exact ⟨by simp [PyData.canLay0], by simp [PyData.depth]⟩
theorem lay_str {z : Str} (h : PyData.strOk z = true) : PyData.canLay0 (.str z) = true ∧ (PyData.str z).depth ≤ 2 := ⟨by simpa [PyData.canLay0] using h, by simp [PyData.depth]⟩
theorem lay_int {i : Int} : PyData.canLay0 (.int i) = true ∧ (PyData.int i).depth ≤ 2 := ⟨by simp [PyData.canLay0], by simp [PyData.depth]⟩
theorem lay_kd (k : Kd) : PyData.strOk k.s = true := by cases k <;> decide +kernel
theorem lay_pw (k : Pw) : PyData.strOk k.s = true := by cases k <;> decide +kernel
theorem lay_mark (k : Bool) : PyData.strOk (markS k) = true := by cases k <;> decide +kernel
theorem bd_items {b : Bd} (h : b.ok) : ∃ ds, b.d = .tuple ds ∧ ∀ d ∈ ds, PyData.canLay0 d = true ∧ d.depth ≤ 2 := by
  have cons : ∀ {d : PyData} {ds : List PyData}, (PyData.canLay0 d = true ∧ d.depth ≤ 2) → (∀ d ∈ ds, PyData.canLay0 d = true ∧ d.depth ≤ 2) → ∀ e ∈ d :: ds, PyData.canLay0 e = true ∧ e.depth ≤ 2 := fun h1 h2 e he => by
    rcases List.mem_cons.mp he with rfl | he
    · exact h1
    · exact h2 e he
  have nil : ∀ e ∈ ([] : List PyData), PyData.canLay0 e = true ∧ e.depth ≤ 2 := by simp
  cases b with
  | make k u key c => exact ⟨_, rfl, cons (lay_str (by decide +kernel)) (cons (lay_str (lay_kd k)) (cons (lay_sD u) (cons lay_int (cons (lay_c h.2.2) nil))))⟩
  | move t u key => exact ⟨_, rfl, cons (lay_str (by decide +kernel)) (cons (lay_sD t) (cons (lay_sD u) (cons lay_int nil)))⟩
  | drop t => exact ⟨_, rfl, cons (lay_str (by decide +kernel)) (cons (lay_sD t) nil)⟩
  | put p t c => exact ⟨_, rfl, cons (lay_str (lay_pw p)) (cons (lay_sD t) (cons (lay_c h.2) nil))⟩
  | mark r t => exact ⟨_, rfl, cons (lay_str (lay_mark r)) (cons (lay_sD t) nil)⟩
theorem shaped_take {ds : List PyData} (h : ∀ d ∈ ds, PyData.canLay0 d = true ∧ d.depth ≤ 2) (n : Nat) : SeqAt.shaped (.tuple (ds.take n)) = true := shaped_of fun d hd => by
  have := h d (List.mem_of_mem_take hd)
  exact ⟨this.1, by omega⟩
/-- deeds in a list -/
structure DdL (K : PySem.W.Frag) (H : Hp) (l : Addr) (us : List V) (ds : List Dd) : Prop where
  sq : SqL K H l us
  dp : DpAll K H us (ds.map Dd.d)
  ok : ∀ d ∈ ds, d.ok
  le : ds.length ≤ 30
theorem DdL.same {H H' : Hp} {l : Addr} {us : List V} {ds : List Dd} (h : DdL K H l us ds) (s : Same H H') : DdL K H' l us ds := ⟨s.seq h.sq, dpa_same s h.dp, h.ok, h.le⟩
theorem imm_dds {ds : List Dd} (h : ∀ d ∈ ds, d.ok) : immAll (ds.map Dd.d) = true := immAll_of fun e he => by
  obtain ⟨y, hy, rfl⟩ := List.mem_map.mp he
  exact imm_dd (h y hy)
theorem DdL.src {H H' : Hp} {l s : Addr} {us : List V} {ds : List Dd} (h : DdL K H l us ds) (hs : Src H s) (hl : l ≠ s) (f : Fr [s] H H') : DdL K H' l us ds := ⟨f.sql (by simpa using hl) h.sq, dpa_tup (hs.tup f) (imm_dds h.ok) h.dp, h.ok, h.le⟩
/-- the stamps of some of them -/
theorem stamps_of {α : Type} {ds : List α} {c : α → Bool} {f : α → St2} : ds.filterMap (fun d => if c d = true then some (sD (f d)) else none) = ((ds.filter c).map f).map sD := by
  rw [filterMap_if, List.map_map]
  rfl
theorem imm_if {α : Type} {c : α → Bool} {f : α → St2} : ∀ a d, (if c a = true then some (sD (f a)) else none) = some d → imm d = true := fun a d e => by
  by_cases h : c a = true
  · rw [if_pos h] at e; cases e; exact imm_sD _
  · rw [if_neg h] at e; cases e
def sp_holders (K : PySem.W.Frag) : Sp := fun us H Q _ => us.length = 1 ∧ ∃ (l : Addr) (ws : List V) (ds : List Dd), us = [.ref l] ∧ DdL K H l ws ds ∧
  ∀ (p : Addr) (us : List V) (ks : List St2) (H' : Hp), Same H H' → H p = none → H' p = some (.lst us) → DpAll K H' us (ks.map sD) → (∀ k ∈ ks, k = ROOT ∨ k ∈ ds.map (·.st)) → ks ≠ [] → ks.length ≤ 31 → Q (.ref p) H'
theorem rootT {H : Hp} {p : Addr} (h : H p = some (.tup [.int 0, .int 0])) : Dp K H (.ref p) (sD ROOT) := .tup (SqT.of h) (.cons (.int 0) (.cons (.int 0) .nil))
theorem ok_holders (T : Tx w K mg e0) : Kn P w K mg base 1 (He.ga K "_law_holders") ["_law_some"] (sp_holders K) := by
  refine T.d_l_holders.kn sc_l_holders (fun _ _ _ _ _ _ us hl => match us, hl with | [_], _ => rfl) (fun vs H Q E h => h.1) (fun cdv A outer s H vs Q E hr h => ?_)
  have hu := hu65 hr
  obtain ⟨_, l, ws, ds, rfl, hL, q⟩ := h
  refine ⟨_, (pss_cons (ps_set (i := 1) sc_l_holders.nd rfl (Or.inr rfl) (pe_lst (pa_cons pe_str (pa_cons pe_str (pa_cons pe_str (pa_cons pe_str pa_nil))))))
    (pss_one (ps_ret (pe_op op_addA (pe_lst (pa_cons (pe_tup (pa_cons pe_int (pa_cons pe_int pa_nil))) pa_nil)) (pe_lc (own := [("_law_deed", 2)]) (by rfl) sc_l_holders.nd (pi_list (pv 0)) (blkOk_by (N := n_l_holders) (sc := defScope s_l_holders) (by decide +kernel)) (fun _ _ _ _ _ => (pg_name (i := 2) sc_l_holders.nd rfl (Or.inl rfl))) (fun _ _ _ _ _ => pts_one (PW.pt (pw_and (pt_cmpR (show OpR _ _ (rEqA K) from (op_eqA hu)) (pe_ix (show IxR _ (rIxA P w K) from (ix_any hu)) (pe_ix (show IxR _ (rIxA P w K) from (ix_any hu)) (pv 2) pe_int (fun _ _ => rfl)) pe_int (fun _ _ => rfl)) pe_str (nomark _)) (pw_and1 (pt_cmpR (show OpR _ _ (rInA P w K false) from (op_inA hu)) (pe_ix (show IxR _ (rIxA P w K) from (ix_any hu)) (pe_ix (show IxR _ (rIxA P w K) from (ix_any hu)) (pv 2) pe_int (fun _ _ => rfl)) pe_int (fun _ _ => rfl)) (pv 1) (by rfl)))))) (fun _ _ _ _ _ => (pe_ix (show IxR _ (rIxA P w K) from (ix_any hu)) (pv 2) pe_int (fun _ _ => rfl)))))))), ?_⟩
  refine ⟨szL, fun kl hkl => ?_⟩
  have s1 := same_new (o := .lst [V.str "block", .str "let", .str "sum", .str "product"]) hkl
  refine ⟨szL, fun rt hrt => ⟨szL, fun rl hrl => ?_⟩⟩
  have s2 := s1.trans (same_new (o := .tup [V.int 0, .int 0]) hrt)
  have s3 := s2.trans (same_new (o := .lst [V.ref rt]) hrl)
  have hk3 : (upd (upd (upd H kl (.lst [V.str "block", .str "let", .str "sum", .str "product"])) rt (.tup [V.int 0, .int 0])) rl (.lst [V.ref rt])) kl = some (.lst [V.str "block", .str "let", .str "sum", .str "product"]) := (same_new hrl) _ _ ((same_new hrt) _ _ upd_same)
  have hr3 : (upd (upd (upd H kl (.lst [V.str "block", .str "let", .str "sum", .str "product"])) rt (.tup [V.int 0, .int 0])) rl (.lst [V.ref rt])) rt = some (.tup [V.int 0, .int 0]) := (same_new hrl) _ _ upd_same
  have hl3 : (upd (upd (upd H kl (.lst [V.str "block", .str "let", .str "sum", .str "product"])) rt (.tup [V.int 0, .int 0])) rl (.lst [V.ref rt])) rl = some (.lst [V.ref rt]) := upd_same
  clear hrl hrt hkl s1 s2
  revert s3 hk3 hr3 hl3
  generalize upd (upd (upd H kl (.lst [V.str "block", .str "let", .str "sum", .str "product"])) rt (.tup [V.int 0, .int 0])) rl (.lst [V.ref rt]) = H3
  intro s3 hk3 hr3 hl3
  have L3 := hL.same s3
  refine ⟨_, rfl, l, rfl, ⟨_, L3.sq⟩, fun D hD => ?_⟩
  let c : Dd → Bool := fun d => match d.bd with | .make k _ _ _ => k.holds | _ => false
  refine lc_src (K := K) walk_list (fun _ s => s.seq L3.sq) ds Dd.d (fun d => if c d = true then some (sD d.st) else none) L3.dp hD (Nat.lt_of_le_of_lt hL.le (by decide)) (fun d _ => imm_if d) (fun d v2 H4 Q2 R hm s4 hv q1 q2 => ?_) (fun H4 us s4 hD4 hus => ?_)
  · refine ⟨rfl, _, rfl, ixD 2 hv fun v5 h5 => bd_word h5 (eqS ⟨_, rfl, ?_⟩)⟩
    rw [word_make]
    cases hb : d.bd with
    | make k u key cc =>
      rw [hb] at h5
      refine iteT ⟨_, rfl, ixD 2 hv fun v6 h6 => ?_⟩
      rw [hb] at h6
      refine ixD 1 h6 fun v7 h7 => ⟨_, rfl, ?_⟩
      obtain rfl := dp_str h7
      refine inNewL (SqL.of (s4 _ _ hk3)) rfl rfl (holds_in k) ⟨_, rfl, ?_⟩
      have hc : c d = k.holds := by show (match d.bd with | .make k _ _ _ => k.holds | _ => false) = _; rw [hb]
      cases hk : k.holds with
      | true => exact iteT ⟨_, rfl, ixD 0 hv fun v8 h8 => q1 _ (sD d.st) _ (by rw [hc, hk]; rfl) h8 (Same.refl _)⟩
      | false => exact iteF (q2 _ (by rw [hc, hk]; rfl) (Same.refl _))
    | move => exact iteF (iteF (q2 _ (by show (if (match d.bd with | .make k _ _ _ => k.holds | _ => false) = true then _ else _) = _; rw [hb]; rfl) (Same.refl _)))
    | drop => exact iteF (iteF (q2 _ (by show (if (match d.bd with | .make k _ _ _ => k.holds | _ => false) = true then _ else _) = _; rw [hb]; rfl) (Same.refl _)))
    | put => exact iteF (iteF (q2 _ (by show (if (match d.bd with | .make k _ _ _ => k.holds | _ => false) = true then _ else _) = _; rw [hb]; rfl) (Same.refl _)))
    | mark => exact iteF (iteF (q2 _ (by show (if (match d.bd with | .make k _ _ _ => k.holds | _ => false) = true then _ else _) = _; rw [hb]; rfl) (Same.refl _)))
  · rw [stamps_of] at hus
    have hfl : (ds.filter c).length ≤ 30 := Nat.le_trans (List.length_filter_le _ _) hL.le
    have hul : us.length = (ds.filter c).length := by rw [dpa_len hus, List.length_map, List.length_map]
    refine .inr (.inr ⟨rl, D, [V.ref rt], us, rfl, rfl, s4 _ _ hl3, hD4, Nat.le_trans (show 1 + us.length ≤ 31 by omega) (by decide), fun p hp => ?_⟩)
    have s5 := s4.trans (same_new (o := .lst ([V.ref rt] ++ us)) hp)
    refine q p _ (ROOT :: (ds.filter c).map Dd.st) _ (s3.trans s5) (same_none (s3.trans s4) hp) upd_same (.cons (rootT (s5 _ _ hr3)) (dpa_same (same_new hp) hus)) (fun k hk => ?_) (by simp) (by simp; exact hfl)
    rcases List.mem_cons.mp hk with rfl | hk
    · exact .inl rfl
    · obtain ⟨d, hd, rfl⟩ := List.mem_map.mp hk
      exact .inr (List.mem_map_of_mem ((List.mem_filter.mp hd).1))
/-- names that may stand -/
def NmIn (ds : List Dd) (n : St2) : Prop := n = ROOT ∨ n ∈ ds.map (·.st)
theorem NmIn.pl {ds : List Dd} {n : St2} (ok : ∀ d ∈ ds, d.ok) (h : NmIn ds n) : okPl n := by
  rcases h with rfl | h
  · exact .inr rfl
  · obtain ⟨d, hd, rfl⟩ := List.mem_map.mp h
    exact .inl (ok d hd).st
def sp_content (K : PySem.W.Frag) : Sp := fun us H Q _ => us.length = 3 ∧ ∃ (s l : Addr) (kk : Kd) (ws : List V) (ds : List Dd), us = [.ref s, .str kk.s, .ref l] ∧ Src H s ∧ DdL K H l ws ds ∧ l ≠ s ∧
  ∀ (v : V) (d : PyData) (H' : Hp), Fr [s] H H' → Src H' s → Dp K H' v d → okC kk d → (kk = .use → ∀ n, unB d = some n → NmIn ds n) → Q v H'
theorem name_ok {z : Str} (h : z = "x" ∨ z = "y" ∨ z = "abcd") : okName z := by
  rcases h with rfl | rfl | rfl <;> exact ⟨by decide +kernel, by decide +kernel, by decide +kernel⟩
theorem imm_strs (l : List Str) : immAll (l.map .str) = true := immAll_of fun e he => by
  obtain ⟨y, hy, rfl⟩ := List.mem_map.mp he
  rfl
theorem dpa_strs {H : Hp} : ∀ (l : List Str), DpAll K H (l.map V.str) (l.map .str)
  | [] => .nil
  | z :: l => .cons (.str z) (dpa_strs l)
theorem ok_content2 (T : Tx w K mg e0) : Kn P w K mg base 3 (He.ga K "_law_content") ["_law_source", "_law_kind", "_law_some"] (sp_content K) := by
  have G_l_one : Kn P w K mg base 2 _ _ _ := ok_one T
  refine T.d_l_content.kn sc_l_content (fun _ _ _ _ _ _ us hl => match us, hl with | [_, _, _], _ => rfl) (fun vs H Q E h => h.1) (fun cdv A outer s H vs Q E hr h => ?_)
  have hu := hu65 hr
  obtain ⟨_, s0, l, kk, ws, ds, rfl, hs, hL, hls, q⟩ := h
  refine ⟨_, (pss_cons (ps_if (pt_cmpR (op_eqA hu) (pv 1) pe_str (nomark _)) (pss_one (ps_ret (pe_fn G_l_one (hr.mono (by first | decide | exact Nat.le_refl _ | exact Nat.le_add_right_of_le (by decide) | omega)) T.g__law_one (pa_cons (pv 0) (pa_cons (pe_lst (pa_cons pe_str (pa_cons pe_str (pa_cons pe_str (pa_cons pe_str pa_nil))))) pa_nil))))) pss_nil)
    (pss_cons (ps_if (pt_cmpR (op_eqA hu) (pv 1) pe_str (nomark _)) (pss_one (ps_ret (pe_fn G_l_one (hr.mono (by first | decide | exact Nat.le_refl _ | exact Nat.le_add_right_of_le (by decide) | omega)) T.g__law_one (pa_cons (pv 0) (pa_cons (pe_lst (pa_cons pe_int (pa_cons pe_int (pa_cons pe_int (pa_cons pe_int (pa_cons pe_int pa_nil)))))) pa_nil))))) pss_nil)
    (pss_cons (ps_if (pt_cmpR (op_eqA hu) (pv 1) pe_str (nomark _)) (pss_cons (ps_setLc (i := 3) (own := [("_law_deed", 4)]) (g := _) (by rfl) sc_l_content.nd rfl rfl (sw_true rfl rfl rfl (by decide +kernel)) (pi_list (pv 2)) (blkOk_by (N := n_l_content) (sc := defScope s_l_content) (by decide +kernel)) (fun _ _ _ _ _ => (pg_name (i := 4) sc_l_content.nd rfl (Or.inl rfl))) (fun _ _ _ _ _ => pts_one (pt_cmpR (show OpR _ _ (rEqA K) from (op_eqA hu)) (pe_slice (show SlR _ (rSlX K) from sl_any) (pe_ix (show IxR _ (rIxA P w K) from (ix_any hu)) (pv 4) pe_int (fun _ _ => rfl)) po_none (po_some pe_int)) (pe_tup (pa_cons pe_str (pa_cons pe_str pa_nil))) (nomark _))) (fun _ _ _ _ _ => (pe_ix (show IxR _ (rIxA P w K) from (ix_any hu)) (pv 4) pe_int (fun _ _ => rfl))))
    (pss_cons (ps_set (i := 5) sc_l_content.nd rfl (Or.inl rfl) (pe_op op_addA (pe_lst (pa_cons pe_non (pa_cons (pe_tup (pa_cons pe_int (pa_cons pe_int pa_nil))) pa_nil))) (pe_slice sl_any (pe_lc (own := [("_law_deed", 4)]) (by rfl) sc_l_content.nd (pi_list (pv 2)) (blkOk_by (N := n_l_content) (sc := defScope s_l_content) (by decide +kernel)) (fun _ _ _ _ _ => (pg_name (i := 4) sc_l_content.nd rfl (Or.inl rfl))) (fun _ _ _ _ _ => pts_nil) (fun _ _ _ _ _ => (pe_ix (show IxR _ (rIxA P w K) from (ix_any hu)) (pv 4) pe_int (fun _ _ => rfl)))) po_none (po_some pe_int))))
    (pss_one (ps_ret (pe_fn G_l_one (hr.mono (by first | decide | exact Nat.le_refl _ | exact Nat.le_add_right_of_le (by decide) | omega)) T.g__law_one (pa_cons (pv 0) (pa_cons (pe_op op_addA (pe_op op_addA (pe_op op_addA (pv 3) (pv 3)) (pv 3)) (pv 5)) pa_nil))))))) pss_nil)
    (pss_one (ps_ret pe_non))))), ?_⟩
  refine ⟨_, rfl, eqS ⟨_, rfl, ?_⟩⟩
  rw [show decide (kk.s = "let") = decide (kk = Kd.lt) from Kd.s_eq kk Kd.lt]
  by_cases h1 : kk = .lt
  · subst h1
    refine iteT ⟨_, rfl, szL, fun p hp => ?_⟩
    have s1 := same_new (o := .lst [V.str "x", .str "x", .str "y", .str "abcd"]) hp
    refine one_dp (hs.same s1) (SqL.of upd_same) (dpa_strs ["x", "x", "y", "abcd"]) (imm_strs _) (by simp) (by simp) (new_ne hs hp) fun x d H2 f2 hs2 _ hd hx => ?_
    refine q x d H2 ((Same.fr s1).trans f2) hs2 hx ?_ (fun z => by cases z)
    obtain ⟨z, hz, rfl⟩ := List.mem_map.mp hd
    refine ⟨z, rfl, name_ok ?_⟩
    simp at hz
    rcases hz with rfl | rfl | rfl
    · exact .inl rfl
    · exact .inr (.inl rfl)
    · exact .inr (.inr rfl)
  rw [decide_eq_false h1]
  refine iteF ⟨_, rfl, eqS ⟨_, rfl, ?_⟩⟩
  rw [show decide (kk.s = "number") = decide (kk = Kd.number) from Kd.s_eq kk Kd.number]
  by_cases h2 : kk = .number
  · subst h2
    refine iteT ⟨_, rfl, szL, fun p hp => ?_⟩
    have s1 := same_new (o := .lst [V.int 0, .int 1, .int 2, .int 7, .int 99]) hp
    refine one_dp (hs.same s1) (SqL.of upd_same) (dpa_ofInts [0, 1, 2, 7, 99]) (imm_ints _) (by simp) (by simp) (new_ne hs hp) fun x d H2 f2 hs2 _ hd hx => ?_
    refine q x d H2 ((Same.fr s1).trans f2) hs2 hx ?_ (fun z => by cases z)
    obtain ⟨z, hz, rfl⟩ := List.mem_map.mp hd
    refine ⟨z, rfl, ?_⟩
    simp at hz
    omega
  rw [decide_eq_false h2]
  refine iteF ⟨_, rfl, eqS ⟨_, rfl, ?_⟩⟩
  rw [show decide (kk.s = "use") = decide (kk = Kd.use) from Kd.s_eq kk Kd.use]
  by_cases h3 : kk = .use
  · subst h3
    refine iteT ⟨_, rfl, l, rfl, ⟨_, hL.sq⟩, fun D hD => ?_⟩
    let c : Dd → Bool := fun d => match d.bd.d with | .tuple es => PyData.eqv (.tuple (es.take 2)) (.tuple [.str "make", .str "let"]) | _ => false
    refine lc_src (K := K) walk_list (fun _ s => s.seq hL.sq) ds Dd.d (fun d => if c d = true then some (sD d.st) else none) hL.dp hD (Nat.lt_of_le_of_lt hL.le (by decide)) (fun d _ => imm_if d) (fun d v2 H4 Q2 R hm s4 hv q1 q2 => ?_) (fun H4 us s4 hD4 hus => ?_)
    · obtain ⟨es, he, hes⟩ := bd_items (hL.ok d hm).bd
      refine ⟨rfl, _, rfl, ixD 2 hv fun v5 h5 => ⟨2, rfl, ?_⟩⟩
      rw [he] at h5
      refine sliceTo 2 h5 fun u H5 s5 hu5 => ⟨szL, fun p hp => ?_⟩
      have s6 := s5.trans (same_new (o := .tup [V.str "make", .str "let"]) hp)
      refine eqD (dp_same (same_new hp) hu5) (.tup (SqT.of upd_same) (.cons (.str "make") (.cons (.str "let") .nil))) ⟨_, rfl, ?_⟩ (shaped_take hes 2) (by decide +kernel)
      have hc : c d = PyData.eqv (.tuple (es.take 2)) (.tuple [.str "make", .str "let"]) := by
        show (match d.bd.d with | .tuple es => PyData.eqv (.tuple (es.take 2)) (.tuple [.str "make", .str "let"]) | _ => false) = _
        rw [he]
      cases hq : PyData.eqv (.tuple (es.take 2)) (.tuple [.str "make", .str "let"]) with
      | true => exact iteT ⟨_, rfl, ixD 0 (dp_same s6 hv) fun v8 h8 => q1 _ (sD d.st) _ (by rw [hc, hq]; rfl) h8 s6⟩
      | false => exact iteF (q2 _ (by rw [hc, hq]; rfl) s6)
    · rw [stamps_of] at hus
      have hfl : (ds.filter c).length ≤ 30 := Nat.le_trans (List.length_filter_le _ _) hL.le
      have hul : us.length = (ds.filter c).length := by rw [dpa_len hus, List.length_map, List.length_map]
      have L4 := hL.same s4
      refine ⟨szL, fun rt hrt => ⟨szL, fun ol hol => ?_⟩⟩
      have s5 := same_new (o := .tup [V.int 0, .int 0]) hrt
      have s6 := s5.trans (same_new (o := .lst [V.non, V.ref rt]) hol)
      have hrt6 : (upd (upd H4 rt (.tup [V.int 0, .int 0])) ol (.lst [V.non, V.ref rt])) rt = some (.tup [V.int 0, .int 0]) := (same_new hol) _ _ upd_same
      have hol6 : (upd (upd H4 rt (.tup [V.int 0, .int 0])) ol (.lst [V.non, V.ref rt])) ol = some (.lst [V.non, V.ref rt]) := upd_same
      clear hol hrt s5
      revert s6 hrt6 hol6
      generalize upd (upd H4 rt (.tup [V.int 0, .int 0])) ol (.lst [V.non, V.ref rt]) = H6
      intro s6 hrt6 hol6
      have L6 := L4.same s6
      refine ⟨_, rfl, l, rfl, ⟨_, L6.sq⟩, fun D7 hD7 => ?_⟩
      refine lc_src (K := K) walk_list (fun _ s => s.seq L6.sq) ds Dd.d (fun d => some (sD d.st)) L6.dp hD7 (Nat.lt_of_le_of_lt hL.le (by decide)) (fun d _ e h => by cases h; exact imm_sD _) (fun d v2 H7 Q2 R hm s7 hv q1 q2 => ?_) (fun H7 us7 s7 hD8 hus7 => ?_)
      · exact ⟨rfl, iteT (B := R H7) ⟨_, rfl, ixD 0 hv fun v8 h8 => q1 _ _ _ rfl h8 (Same.refl _)⟩⟩
      · rw [show ds.filterMap (fun d => some (sD d.st)) = (ds.map (·.st)).map sD by simp [List.filterMap_eq_map, Function.comp_def]] at hus7
        have hul7 : us7.length = ds.length := by rw [dpa_len hus7, List.length_map, List.length_map]
        refine ⟨1, rfl, .inl ⟨D7, us7, rfl, SqL.of hD8, fun p9 hp9 => ?_⟩⟩
        rw [show cutV us7 none (some 1) = us7.take 1 from cut_to us7 1] at *
        have s9 := s7.trans (same_new (o := .lst (us7.take 1)) hp9)
        have ht1 : (us7.take 1).length ≤ 1 := by rw [List.length_take]; omega
        refine .inr (.inr ⟨ol, p9, [V.non, V.ref rt], us7.take 1, rfl, rfl, s9 _ _ hol6, upd_same, Nat.le_trans (show 2 + (us7.take 1).length ≤ 3 by omega) (by decide), fun od hod => ?_⟩)
        have s10 := s9.trans (same_new (o := .lst ([V.non, V.ref rt] ++ us7.take 1)) hod)
        have hod10 : (upd (upd H7 p9 (.lst (us7.take 1))) od (.lst ([V.non, V.ref rt] ++ us7.take 1))) od = some (.lst ([V.non, V.ref rt] ++ us7.take 1)) := upd_same
        have d10 : DpAll K (upd (upd H7 p9 (.lst (us7.take 1))) od (.lst ([V.non, V.ref rt] ++ us7.take 1))) ([V.non, V.ref rt] ++ us7.take 1) ((none :: some ROOT :: ((ds.map (·.st)).take 1).map some).map bD) := by
          refine .cons .non (.cons (rootT (s10 _ _ hrt6)) ?_)
          rw [List.map_map]
          have := dpa_take 1 (dpa_same ((same_new hp9).trans (same_new (o := .lst ([V.non, V.ref rt] ++ us7.take 1)) hod)) hus7)
          rw [← List.map_take] at this
          exact this
        have hD10 := (s6.trans s10) _ _ hD4
        have hus10 := dpa_same (s6.trans s10) hus
        have hs10 := hs.same (s4.trans (s6.trans s10))
        have sA := s4.trans (s6.trans s10)
        clear hod hp9 s9 s10 hD8 s7 hD7
        revert hod10 d10 hD10 hus10 hs10 sA
        generalize upd (upd H7 p9 (.lst (us7.take 1))) od (.lst ([V.non, V.ref rt] ++ us7.take 1)) = H10
        intro hod10 d10 hD10 hus10 hs10 sA
        refine ⟨_, rfl, _, rfl, _, rfl, ?_⟩
        refine .inr (.inr ⟨D, D, us, us, rfl, rfl, hD10, hD10, Nat.le_trans (show us.length + us.length ≤ 60 by omega) (by decide), fun a1 ha1 => ?_⟩)
        have t1 := same_new (o := .lst (us ++ us)) ha1
        refine ⟨_, rfl, .inr (.inr ⟨a1, D, us ++ us, us, rfl, rfl, upd_same, t1 _ _ hD10, ?_, fun a2 ha2 => ?_⟩)⟩
        · rw [List.length_append]
          exact Nat.le_trans (show us.length + us.length + us.length ≤ 90 by omega) (by decide)
        have t2 := t1.trans (same_new (o := .lst (us ++ us ++ us)) ha2)
        refine ⟨_, rfl, .inr (.inr ⟨a2, od, us ++ us ++ us, [V.non, V.ref rt] ++ us7.take 1, rfl, rfl, upd_same, t2 _ _ hod10, ?_, fun a3 ha3 => ?_⟩)⟩
        · rw [List.length_append, List.length_append]
          exact Nat.le_trans (show us.length + us.length + us.length + ([V.non, V.ref rt] ++ us7.take 1).length ≤ 93 by rw [List.length_append]; show us.length + us.length + us.length + (2 + (us7.take 1).length) ≤ 93; omega) (by decide)
        have t3 := t2.trans (same_new (o := .lst (us ++ us ++ us ++ ([V.non, V.ref rt] ++ us7.take 1))) ha3)
        let lets : List (Option St2) := ((ds.filter c).map (·.st)).map some
        have hlets : DpAll K H10 us (lets.map bD) := by
          show DpAll K H10 us ((((ds.filter c).map (·.st)).map some).map bD)
          rw [List.map_map (f := some)]
          exact hus10
        have himm : ∀ l : List (Option St2), immAll (l.map bD) = true := fun l => immAll_of fun e he => by
          obtain ⟨b, _, rfl⟩ := List.mem_map.mp he
          cases b with
          | none => rfl
          | some k => exact imm_sD k
        have hall : DpAll K (upd (upd (upd H10 a1 (.lst (us ++ us))) a2 (.lst (us ++ us ++ us))) a3 (.lst (us ++ us ++ us ++ ([V.non, V.ref rt] ++ us7.take 1)))) (us ++ us ++ us ++ ([V.non, V.ref rt] ++ us7.take 1)) ((lets ++ lets ++ lets ++ (none :: some ROOT :: ((ds.map (·.st)).take 1).map some)).map bD) := by
          rw [List.map_append, List.map_append, List.map_append]
          exact dpa_same t3 (dpa_append (dpa_append (dpa_append hlets hlets) hlets) d10)
        have hll : lets.length ≤ 30 := by show (((ds.filter c).map (·.st)).map some).length ≤ 30; rw [List.length_map, List.length_map]; exact hfl
        refine one_dp (hs10.same t3) (SqL.of upd_same) hall (himm _) (by simp) ?_ (fun z => ?_) fun x d H2 f2 hs2 _ hd hx => ?_
        · rw [List.length_map, List.length_append, List.length_append, List.length_append]
          have : (none :: some ROOT :: ((ds.map (·.st)).take 1).map some).length ≤ 3 := by simp; omega
          omega
        · subst z
          obtain ⟨_, _, e, _⟩ := hs10.same t2
          rw [ha3] at e
          cases e
        · obtain ⟨b, hb, rfl⟩ := List.mem_map.mp hd
          have hn : ∀ k, b = some k → NmIn ds k := fun k e => by
            subst e
            have inl : some k ∈ lets → NmIn ds k := fun h => by
              obtain ⟨k', hk', e⟩ := List.mem_map.mp h
              cases e
              obtain ⟨d', hd', rfl⟩ := List.mem_map.mp hk'
              exact .inr (List.mem_map_of_mem ((List.mem_filter.mp hd').1))
            rcases List.mem_append.mp hb with hb | hb
            · rcases List.mem_append.mp hb with hb | hb
              · rcases List.mem_append.mp hb with hb | hb
                · exact inl hb
                · exact inl hb
              · exact inl hb
            · rcases List.mem_cons.mp hb with hb | hb
              · cases hb
              · rcases List.mem_cons.mp hb with hb | hb
                · cases hb; exact .inl rfl
                · obtain ⟨k', hk', e⟩ := List.mem_map.mp hb
                  cases e
                  exact .inr (List.mem_of_mem_take hk')
          refine q x (bD b) H2 ((Same.fr (sA.trans t3)).trans f2) hs2 hx ⟨b, rfl, fun k e => (hn k e).pl hL.ok⟩ (fun _ n e => ?_)
          rw [unB_bD] at e
          exact hn n e
  rw [decide_eq_false h3]
  refine iteF (q _ .none _ Fr.refl hs .non ?_ (fun z => absurd z h3))
  cases kk <;> first | exact absurd rfl h1 | exact absurd rfl h2 | exact absurd rfl h3 | rfl
end Ss
/-! Walks: bodies drawn, 2. -/
namespace Ss
open PySem PySem.Spec PyProof.Rows L2
variable {P : Program} {w : World} {K : PySem.W.Frag} {mg : Str → Option Value} {base : Heap} {e0 : Addr}
def kindL : List Str := ["let", "let", "use", "use", "number", "block", "sum", "product"]
theorem kindL_kd {z : Str} (h : z ∈ kindL) : ∃ kk : Kd, z = kk.s := by
  simp [kindL] at h
  rcases h with rfl | rfl | rfl | rfl | rfl | rfl
  · exact ⟨.lt, rfl⟩
  · exact ⟨.use, rfl⟩
  · exact ⟨.number, rfl⟩
  · exact ⟨.block, rfl⟩
  · exact ⟨.sum, rfl⟩
  · exact ⟨.product, rfl⟩
theorem DdL.tup {H H' : Hp} {l s : Addr} {us : List V} {ds : List Dd} (h : DdL K H l us ds) (t : TupLe H H') (q : SqL K H' l us) : DdL K H' l us ds := ⟨q, dpa_tup t (imm_dds h.ok) h.dp, h.ok, h.le⟩
def sp_made_body (K : PySem.W.Frag) : Sp := fun us H Q _ => us.length = 2 ∧ ∃ (s l : Addr) (ws : List V) (ds : List Dd), us = [.ref s, .ref l] ∧ Src H s ∧ DdL K H l ws ds ∧ l ≠ s ∧
  ∀ (v : V) (kk : Kd) (u : St2) (key : Int) (c : PyData) (H' : Hp), Fr [s] H H' → Src H' s → Dp K H' v (Bd.make kk u key c).d → okKey key → okC kk c → NmIn ds u → (kk = .use → ∀ n, unB c = some n → NmIn ds n) → Q v H'
theorem ok_made_body (T : Tx w K mg e0) : Kn P w K mg base 4 (He.ga K "_law_made_body") ["_law_source", "_law_some"] (sp_made_body K) := by
  have G_l_one : Kn P w K mg base 2 _ _ _ := ok_one T
  have G_l_holders : Kn P w K mg base 1 _ _ _ := ok_holders T
  have G_l_content : Kn P w K mg base 3 _ _ _ := ok_content2 T
  refine T.d_l_made_body.kn sc_l_made_body (fun _ _ _ _ _ _ us hl => match us, hl with | [_, _], _ => rfl) (fun vs H Q E h => h.1) (fun cdv A outer s H vs Q E hr h => ?_)
  have hu := hu65 hr
  obtain ⟨_, s0, l, ws, ds, rfl, hs, hL, hls, q⟩ := h
  refine ⟨_, (pss_cons (ps_set (i := 2) sc_l_made_body.nd rfl (Or.inl rfl) (pe_fn G_l_one (hr.mono (by first | decide | exact Nat.le_refl _ | exact Nat.le_add_right_of_le (by decide) | omega)) T.g__law_one (pa_cons (pv 0) (pa_cons (pe_lst (pa_cons pe_str (pa_cons pe_str (pa_cons pe_str (pa_cons pe_str (pa_cons pe_str (pa_cons pe_str (pa_cons pe_str (pa_cons pe_str pa_nil))))))))) pa_nil))))
    (pss_cons (ps_set (i := 3) sc_l_made_body.nd rfl (Or.inl rfl) (pe_fn G_l_one (hr.mono (by first | decide | exact Nat.le_refl _ | exact Nat.le_add_right_of_le (by decide) | omega)) T.g__law_one (pa_cons (pv 0) (pa_cons (pe_op op_addA (pe_fn G_l_holders (hr.mono (by first | decide | exact Nat.le_refl _ | exact Nat.le_add_right_of_le (by decide) | omega)) T.g__law_holders (pa_cons (pv 1) pa_nil)) (pe_lst (pa_cons (pe_tup (pa_cons pe_int (pa_cons pe_int pa_nil))) pa_nil))) pa_nil))))
    (pss_one (ps_ret (pe_tup (pa_cons pe_str (pa_cons (pv 2) (pa_cons (pv 3) (pa_cons (pe_fn G_l_one (hr.mono (by first | decide | exact Nat.le_refl _ | exact Nat.le_add_right_of_le (by decide) | omega)) T.g__law_one (pa_cons (pv 0) (pa_cons (pe_lst (pa_cons pe_int (pa_cons pe_int (pa_cons pe_int (pa_cons pe_int (pa_cons pe_int (pa_cons pe_int pa_nil))))))) pa_nil))) (pa_cons (pe_fn G_l_content (hr.mono (by first | decide | exact Nat.le_refl _ | exact Nat.le_add_right_of_le (by decide) | omega)) T.g__law_content (pa_cons (pv 0) (pa_cons (pv 2) (pa_cons (pv 1) pa_nil)))) pa_nil)))))))))), ?_⟩
  refine ⟨_, rfl, szL, fun p hp => ?_⟩
  have s1 := same_new (o := .lst (kindL.map V.str)) hp
  refine one_dp (hs.same s1) (SqL.of (show (upd H p (.lst (kindL.map V.str))) p = _ from upd_same)) (dpa_strs kindL) (imm_strs _) (by simp [kindL]) (by simp [kindL]) (new_ne hs hp) fun x d H2 f2 hs2 t2 hd hx => ?_
  obtain ⟨z, hz, rfl⟩ := List.mem_map.mp hd
  obtain rfl := dp_str hx
  obtain ⟨kk, rfl⟩ := kindL_kd hz
  have L2 := (hL.same s1).src (hs.same s1) hls f2
  have g2 := (Same.fr (S := [s0]) s1).trans f2
  clear f2 t2 hx hd s1 hp
  refine ⟨_, rfl, _, rfl, rfl, l, ws, ds, rfl, L2, fun p us ks H3 s3 hp hp3 hus hks hkn hkl => ⟨szL, fun rt hrt => ⟨szL, fun rl hrl => ?_⟩⟩⟩
  have s4 := same_new (o := .tup [V.int 0, .int 0]) hrt
  have s5 := s4.trans (same_new (o := .lst [V.ref rt]) hrl)
  have hul : us.length = ks.length := by rw [dpa_len hus, List.length_map]
  refine .inr (.inr ⟨p, rl, us, [V.ref rt], rfl, rfl, s5 _ _ hp3, upd_same, Nat.le_trans (show us.length + 1 ≤ 32 by omega) (by decide), fun a ha => ?_⟩)
  have s6 := s5.trans (same_new (o := .lst (us ++ [V.ref rt])) ha)
  have hs6 := hs2.same (s3.trans s6)
  refine one_dp (ds := (ks ++ [ROOT]).map sD) hs6 (SqL.of upd_same) ?_ (immAll_sD _) (by simp) (by rw [List.length_map, List.length_append]; show ks.length + 1 < 1000000; omega) (new_ne (hs2.same (s3.trans s5)) ha) fun x d H7 f7 hs7 t7 hd hx => ?_
  · rw [List.map_append]
    exact dpa_append (dpa_same s6 hus) (.cons (dp_same ((same_new hrl).trans (same_new ha)) (rootT upd_same)) .nil)
  obtain ⟨u, hu', rfl⟩ := List.mem_map.mp hd
  have hnu : NmIn ds u := by
    rcases List.mem_append.mp hu' with h | h
    · exact hks u h
    · exact .inl (List.mem_singleton.mp h)
  have L7 := (L2.same (s3.trans s6)).src hs6 hls f7
  have g7 := g2.trans ((Same.fr (s3.trans s6)).trans f7)
  clear f7 t7 hs6 s6 ha s5 s4 hrl hrt hus hp3 hp s3 hs2 L2 g2 hd
  refine ⟨_, rfl, _, rfl, _, rfl, szL, fun p hp => ?_⟩
  have s8 := same_new (o := .lst (([0, 1, 2, 2, 5, 999] : List Int).map V.int)) hp
  refine one_dp (hs7.same s8) (SqL.of (show (upd H7 p (.lst (([0, 1, 2, 2, 5, 999] : List Int).map V.int))) p = _ from upd_same)) (dpa_ofInts [0, 1, 2, 2, 5, 999]) (imm_ints _) (by simp) (by simp) (new_ne hs7 hp) fun y d H9 f9 hs9 t9 hd hy => ?_
  obtain ⟨key, hkey, rfl⟩ := List.mem_map.mp hd
  obtain rfl := dp_int hy
  have L9 := (L7.same s8).src (hs7.same s8) hls f9
  have g9 := g7.trans ((Same.fr s8).trans f9)
  have hx9 := dp_tup t9 (imm_sD u) (dp_same s8 hx)
  refine ⟨_, rfl, _, rfl, _, rfl, rfl, s0, l, kk, ws, ds, rfl, hs9, L9, hls, fun v c H10 f10 hs10 hv hok hnm => ⟨szL, fun t ht => ?_⟩⟩
  have s11 := same_new (o := .tup [V.str "make", .str kk.s, x, .int key, v]) ht
  refine q _ kk u key c _ (g9.trans (f10.trans (Same.fr s11))) (hs10.same s11) (.tup (SqT.of upd_same) (.cons (.str _) (.cons (.str _) (.cons (dp_same s11 (dp_tup (hs9.tup f10) (imm_sD u) hx9)) (.cons (.int _) (.cons (dp_same s11 hv) .nil)))))) ?_ hok hnu hnm
  simp at hkey
  constructor <;> omega
/-! ### any body -/
def wordL : List Str := ["make", "make", "make", "make", "move", "move", "drop", "wish", "point", "set", "undo", "redo"]
inductive WdK : Str → Prop
  | move : WdK "move"
  | drop : WdK "drop"
  | put (p : Pw) : WdK p.s
theorem wordL_kd {z : Str} (h : z ∈ wordL) (h1 : z ≠ "make") (h2 : z ≠ "undo") (h3 : z ≠ "redo") : WdK z := by
  simp [wordL] at h
  rcases h with rfl | rfl | rfl | rfl | rfl | rfl | rfl | rfl
  · exact absurd rfl h1
  · exact .move
  · exact .drop
  · exact .put .wish
  · exact .put .point
  · exact .put .set
  · exact absurd rfl h2
  · exact absurd rfl h3
theorem wdk_kind {z : Str} (h : WdK z) : (z = "move" ∨ z = "drop") ∧ (valV putTab (.inr z)).getD .non = .non ∨ ∃ p : Pw, z = p.s ∧ (valV putTab (.inr z)).getD .non = .str p.k.s := by
  cases h with
  | move => exact .inl ⟨.inl rfl, by decide +kernel⟩
  | drop => exact .inl ⟨.inr rfl, by decide +kernel⟩
  | put p => exact .inr ⟨p, rfl, by rw [putTab_at]; rfl⟩
theorem lay_ints : ∀ l : List Int, PyData.canLayAll0 (l.map .int) = true ∧ PyData.depthAll (l.map .int) ≤ 2
  | [] => ⟨by simp [PyData.canLayAll0], by simp [PyData.depthAll]⟩
  | i :: l => by
    obtain ⟨h1, h2⟩ := lay_ints l
    exact ⟨by simp [PyData.canLayAll0, PyData.canLay0, h1], by simp [PyData.depthAll, PyData.depth]; exact h2⟩
theorem lay_dd {d : Dd} (h : d.ok) : PyData.canLay0 d.d = true ∧ d.d.depth ≤ 20 := by
  obtain ⟨es, he, hes⟩ := bd_items h.bd
  have h1 := lay_sD d.st
  have h2 := lay_ints d.seen
  have h3 : PyData.canLayAll0 es = true := canAll_of fun e he => (hes e he).1
  have h4 : PyData.depthAll es ≤ 2 := depthAll_of fun e he => (hes e he).2
  unfold Dd.d
  rw [he]
  refine ⟨by simp [PyData.canLay0, PyData.canLayAll0, h1.1, h2.1, h3], ?_⟩
  simp [PyData.depth, PyData.depthAll]
  omega
theorem shapedL_of {ds : List PyData} (h : ∀ d ∈ ds, PyData.canLay0 d = true ∧ d.depth ≤ 60) : SeqAt.shaped (.list ds) = true := by
  unfold SeqAt.shaped
  rw [Bool.and_eq_true]
  refine ⟨?_, decide_eq_true ?_⟩
  · show PyData.canLayAll0 ds = true
    exact canAll_of fun d hd => (h d hd).1
  · have := depthAll_of (n := 60) fun d hd => (h d hd).2
    simp [PyData.depth]
    omega
theorem shaped_dds {ds : List Dd} (h : ∀ d ∈ ds, d.ok) : SeqAt.shaped (.list (ds.map Dd.d)) = true := shapedL_of fun e he => by
  obtain ⟨d, hd, rfl⟩ := List.mem_map.mp he
  have := lay_dd (h d hd)
  exact ⟨this.1, by omega⟩
theorem shaped_sts (l : List St2) : SeqAt.shaped (.list (l.map sD)) = true := shapedL_of fun e he => by
  obtain ⟨d, hd, rfl⟩ := List.mem_map.mp he
  have := lay_sD d
  exact ⟨this.1, by omega⟩
theorem eqv_nil (l : List PyData) : PyData.eqv (.list l) (.list []) = l.isEmpty := by cases l <;> simp [PyData.eqv, PyData.eqvAll]
/-- a list against [] -/
theorem eqNil {H : Hp} {l e : Addr} {us : List V} {ds : List PyData} {Q : VK} (hl : SqL K H l us) (hd : DpAll K H us ds) (he : H e = some (.lst [])) (sh : SeqAt.shaped (.list ds) = true) (q : Q (.bl ds.isEmpty) H) : rEqA K (.ref l) (.ref e) H Q :=
  eqD (.lst hl hd) (.lst (SqL.of he) .nil) (by rw [eqv_nil]; exact q) sh (by decide +kernel)
theorem neNil {H : Hp} {l e : Addr} {us : List V} {ds : List PyData} {Q : VK} (hl : SqL K H l us) (hd : DpAll K H us ds) (he : H e = some (.lst [])) (sh : SeqAt.shaped (.list ds) = true) (q : Q (.bl (!ds.isEmpty)) H) : rNeA K (.ref l) (.ref e) H Q :=
  neD (.lst hl hd) (.lst (SqL.of he) .nil) (by rw [eqv_nil]; exact q) sh (by decide +kernel)
def sp_body (K : PySem.W.Frag) : Sp := fun us H Q _ => us.length = 2 ∧ ∃ (s l : Addr) (ws : List V) (ds : List Dd), us = [.ref s, .ref l] ∧ Src H s ∧ DdL K H l ws ds ∧ l ≠ s ∧
  ∀ (v : V) (b : Bd) (H' : Hp), Fr [s] H H' → Src H' s → Dp K H' v b.d → b.ok → (∀ n, some n ∈ b.names → NmIn ds n) → Q v H'
theorem made_names {kk : Kd} {u : St2} {key : Int} {c : PyData} {ds : List Dd} (hu : NmIn ds u) (hc : kk = .use → ∀ n, unB c = some n → NmIn ds n) : ∀ n, some n ∈ (Bd.make kk u key c).names → NmIn ds n := fun n hn => by
  have : some n = some u ∨ some n = (if kk = .use then unB c else none) := by simpa [Bd.names] using hn
  rcases this with e | e
  · cases e; exact hu
  · by_cases hk : kk = .use
    · rw [if_pos hk] at e; exact hc hk n e.symm
    · rw [if_neg hk] at e; cases e
theorem seq_set {te : TE} {i : Nat} {u : TS} {D : Ends} {σ : L2.St} {H : Hp} (Good : V → Hp → Prop) (h : ∀ C : VK, (∀ x H', Good x H' → C x H') → te σ H C) (hR : ∀ x H', Good x H' → u D (σ.set i (some x)) H') : tSeq (tAsg te (gName i)) u D σ H := h _ hR
theorem ok_body (T : Tx w K mg e0) : Kn P w K mg base 5 (He.ga K "_law_body") ["_law_source", "_law_some"] (sp_body K) := by
  have G_l_take : Kn P w K mg base 1 _ _ _ := ok_take T
  have G_l_one : Kn P w K mg base 2 _ _ _ := ok_one T
  have G_l_holders : Kn P w K mg base 1 _ _ _ := ok_holders T
  have G_l_content : Kn P w K mg base 3 _ _ _ := ok_content2 T
  have G_l_made_body : Kn P w K mg base 4 _ _ _ := ok_made_body T
  refine T.d_l_body.kn sc_l_body (fun _ _ _ _ _ _ us hl => match us, hl with | [_, _], _ => rfl) (fun vs H Q E h => h.1) (fun cdv A outer s H vs Q E hr h => ?_)
  have hu := hu65 hr
  have hu1 := hu_of hr
  obtain ⟨_, s0, l, ws, ds, rfl, hs, hL, hls, q⟩ := h
  refine ⟨_, (pss_cons (ps_setLc (i := 2) (own := [("_law_deed", 3)]) (g := _) (by rfl) sc_l_body.nd rfl rfl (sw_true rfl rfl rfl (by decide +kernel)) (pi_list (pv 1)) (blkOk_by (N := n_l_body) (sc := defScope s_l_body) (by decide +kernel)) (fun _ _ _ _ _ => (pg_name (i := 3) sc_l_body.nd rfl (Or.inl rfl))) (fun _ _ _ _ _ => pts_one (pt_cmpR (show OpR _ _ (rEqA K) from (op_eqA hu)) (pe_ix (show IxR _ (rIxA P w K) from (ix_any hu)) (pe_ix (show IxR _ (rIxA P w K) from (ix_any hu)) (pv 3) pe_int (fun _ _ => rfl)) pe_int (fun _ _ => rfl)) pe_str (nomark _))) (fun _ _ _ _ _ => (pv 3)))
    (pss_cons (ps_set (i := 4) sc_l_body.nd rfl (Or.inl rfl) (pe_lst (pa_cons pe_str (pa_cons pe_str (pa_cons pe_str (pa_cons pe_str (pa_cons pe_str (pa_cons pe_str (pa_cons pe_str (pa_cons pe_str (pa_cons pe_str (pa_cons pe_str (pa_cons pe_str (pa_cons pe_str pa_nil))))))))))))))
    (pss_cons (ps_set (i := 5) sc_l_body.nd rfl (Or.inl rfl) (pe_fn G_l_one (hr.mono (by first | decide | exact Nat.le_refl _ | exact Nat.le_add_right_of_le (by decide) | omega)) T.g__law_one (pa_cons (pv 0) (pa_cons (pv 4) pa_nil))))
    (pss_cons (ps_if (PW.pt (pw_or (pt_cmpR (op_eqA hu) (pv 5) pe_str (nomark _)) (pw_or1 (pt_cmpR (op_eqA hu) (pv 2) (pe_lst pa_nil) (nomark _))))) (pss_one (ps_ret (pe_fn G_l_made_body (hr.mono (by first | decide | exact Nat.le_refl _ | exact Nat.le_add_right_of_le (by decide) | omega)) T.g__law_made_body (pa_cons (pv 0) (pa_cons (pv 1) pa_nil))))) pss_nil)
    (pss_cons (ps_if (pt_cmpR (op_inA hu) (pv 5) (pe_lst (pa_cons pe_str (pa_cons pe_str pa_nil))) (by rfl)) (pss_one (ps_ret (pe_tup (pa_cons (pv 5) (pa_cons (pe_fn G_l_one (hr.mono (by first | decide | exact Nat.le_refl _ | exact Nat.le_add_right_of_le (by decide) | omega)) T.g__law_one (pa_cons (pv 0) (pa_cons (pe_lc (own := [("_law_deed", 3)]) (by rfl) sc_l_body.nd (pi_list (pv 1)) (blkOk_by (N := n_l_body) (sc := defScope s_l_body) (by decide +kernel)) (fun _ _ _ _ _ => (pg_name (i := 3) sc_l_body.nd rfl (Or.inl rfl))) (fun _ _ _ _ _ => pts_nil) (fun _ _ _ _ _ => (pe_ix (show IxR _ (rIxA P w K) from (ix_any hu)) (pv 3) pe_int (fun _ _ => rfl)))) pa_nil))) pa_nil))))) pss_nil)
    (pss_cons (ps_set (i := 6) sc_l_body.nd rfl (Or.inr rfl) (pe_dget2 hu1 (pe_disp (pps_cons pe_str pe_str (pps_cons pe_str pe_str (pps_cons pe_str pe_str pps_nil))) (by rfl) (by rfl) (fun z => by cases z) (by decide)) (pv 5) pe_non ⟨rfl, rfl, rfl, rfl⟩))
    (pss_cons (ps_setLc (i := 7) (own := [("_law_deed", 3)]) (g := _) (by rfl) sc_l_body.nd rfl rfl (sw_true rfl rfl rfl (by decide +kernel)) (pi_list (pv 2)) (blkOk_by (N := n_l_body) (sc := defScope s_l_body) (by decide +kernel)) (fun _ _ _ _ _ => (pg_name (i := 3) sc_l_body.nd rfl (Or.inl rfl))) (fun _ _ _ _ _ => pts_one (PW.pt (pw_or (pt_cmpR op_isN (pv 6) pe_non (nomark _)) (pw_or1 (pt_cmpR (show OpR _ _ (rEqA K) from (op_eqA hu)) (pe_ix (show IxR _ (rIxA P w K) from (ix_any hu)) (pe_ix (show IxR _ (rIxA P w K) from (ix_any hu)) (pv 3) pe_int (fun _ _ => rfl)) pe_int (fun _ _ => rfl)) (pv 6) (nomark _)))))) (fun _ _ _ _ _ => (pe_ix (show IxR _ (rIxA P w K) from (ix_any hu)) (pv 3) pe_int (fun _ _ => rfl))))
    (pss_cons (ps_set (i := 8) sc_l_body.nd rfl (Or.inl rfl) (pe_op op_addA (pe_lst (pa_cons (pe_tup (pa_cons pe_int (pa_cons pe_int pa_nil))) pa_nil)) (pe_lc (own := [("_law_deed", 3)]) (by rfl) sc_l_body.nd (pi_list (pv 1)) (blkOk_by (N := n_l_body) (sc := defScope s_l_body) (by decide +kernel)) (fun _ _ _ _ _ => (pg_name (i := 3) sc_l_body.nd rfl (Or.inl rfl))) (fun _ _ _ _ _ => pts_nil) (fun _ _ _ _ _ => (pe_ix (show IxR _ (rIxA P w K) from (ix_any hu)) (pv 3) pe_int (fun _ _ => rfl))))))
    (pss_cons (ps_set (i := 9) sc_l_body.nd rfl (Or.inl rfl) (pe_fn G_l_one (hr.mono (by first | decide | exact Nat.le_refl _ | exact Nat.le_add_right_of_le (by decide) | omega)) T.g__law_one (pa_cons (pv 0) (pa_cons (pe_ifExp (PW.pt (pw_and (pt_cmpR (op_neA hu) (pv 7) (pe_lst pa_nil) (nomark _)) (pw_and1 (pt_cmpR op_gt (pe_fn G_l_take (hr.mono (by first | decide | exact Nat.le_refl _ | exact Nat.le_add_right_of_le (by decide) | omega)) T.g__law_take (pa_cons (pv 0) (pa_cons pe_int pa_nil))) pe_int (nomark _))))) (pv 7) (pv 8)) pa_nil))))
    (pss_cons (ps_if (pt_cmpR (op_eqA hu) (pv 5) pe_str (nomark _)) (pss_one (ps_ret (pe_tup (pa_cons (pv 5) (pa_cons (pv 9) pa_nil))))) pss_nil)
    (pss_cons (ps_if (pt_cmpR (op_eqA hu) (pv 5) pe_str (nomark _)) (pss_cons (ps_set (i := 10) sc_l_body.nd rfl (Or.inl rfl) (pe_fn G_l_one (hr.mono (by first | decide | exact Nat.le_refl _ | exact Nat.le_add_right_of_le (by decide) | omega)) T.g__law_one (pa_cons (pv 0) (pa_cons (pe_ifExp (pt_cmpR op_gt (pe_fn G_l_take (hr.mono (by first | decide | exact Nat.le_refl _ | exact Nat.le_add_right_of_le (by decide) | omega)) T.g__law_take (pa_cons (pv 0) (pa_cons pe_int pa_nil))) pe_int (nomark _)) (pe_fn G_l_holders (hr.mono (by first | decide | exact Nat.le_refl _ | exact Nat.le_add_right_of_le (by decide) | omega)) T.g__law_holders (pa_cons (pv 1) pa_nil)) (pv 8)) pa_nil))))
    (pss_one (ps_ret (pe_tup (pa_cons (pv 5) (pa_cons (pv 9) (pa_cons (pv 10) (pa_cons (pe_fn G_l_one (hr.mono (by first | decide | exact Nat.le_refl _ | exact Nat.le_add_right_of_le (by decide) | omega)) T.g__law_one (pa_cons (pv 0) (pa_cons (pe_lst (pa_cons pe_int (pa_cons pe_int (pa_cons pe_int (pa_cons pe_int (pa_cons pe_int pa_nil)))))) pa_nil))) pa_nil)))))))) pss_nil)
    (pss_one (ps_ret (pe_tup (pa_cons (pv 5) (pa_cons (pv 9) (pa_cons (pe_fn G_l_content (hr.mono (by first | decide | exact Nat.le_refl _ | exact Nat.le_add_right_of_le (by decide) | omega)) T.g__law_content (pa_cons (pv 0) (pa_cons (pv 6) (pa_cons (pv 1) pa_nil)))) pa_nil))))))))))))))))), ?_⟩
  -- makes
  refine ⟨_, rfl, l, rfl, ⟨_, hL.sq⟩, fun D hD => ?_⟩
  refine lc_src (K := K) walk_list (fun _ s => s.seq hL.sq) ds Dd.d (fun d => if d.bd.isMake = true then some d.d else none) hL.dp hD (Nat.lt_of_le_of_lt hL.le (by decide)) (fun d hd e h => by
      by_cases c : d.bd.isMake = true
      · rw [if_pos c] at h; cases h; exact imm_dd (hL.ok d hd)
      · rw [if_neg c] at h; cases h) (fun d v2 H4 Q2 R hm s4 hv q1 q2 => ?_) (fun H1 mus s1 hD1 hmus => ?_)
  · refine ⟨rfl, _, rfl, ixD 2 hv fun v5 h5 => bd_word h5 (eqS ⟨_, rfl, ?_⟩)⟩
    rw [word_make]
    cases c : d.bd.isMake with
    | true => exact iteT ⟨_, rfl, q1 _ d.d _ (by rw [c]; rfl) hv (Same.refl _)⟩
    | false => exact iteF (q2 _ (by rw [c]; rfl) (Same.refl _))
  rw [filterMap_if] at hmus
  have M1 : DdL K H1 D mus (ds.filter fun d => d.bd.isMake) := ⟨SqL.of hD1, hmus, fun d hd => hL.ok d (List.mem_filter.mp hd).1, Nat.le_trans (List.length_filter_le _ _) hL.le⟩
  have hDs : D ≠ s0 := new_ne hs hD
  have hmk : ∀ d ∈ (ds.filter fun d => d.bd.isMake), d ∈ ds ∧ d.bd.isMake = true := fun d hd => List.mem_filter.mp hd
  generalize (ds.filter fun d => d.bd.isMake) = mks at hmus M1 hmk
  have L1 := hL.same s1
  have hs1 := hs.same s1
  have g1 := Same.fr (S := [s0]) s1
  clear hmus hD1 hD
  -- word
  refine ⟨szL, fun wl hwl => ?_⟩
  have s2 := same_new (o := .lst (wordL.map V.str)) hwl
  refine ⟨_, rfl, _, rfl, one_dp (hs1.same s2) (SqL.of (show (upd H1 wl (.lst (wordL.map V.str))) wl = _ from upd_same)) (dpa_strs wordL) (imm_strs _) (by simp [wordL]) (by simp [wordL]) (new_ne hs1 hwl) fun x d H3 f3 hs3 t3 hd hx => ?_⟩
  obtain ⟨z, hz, rfl⟩ := List.mem_map.mp hd
  obtain rfl := dp_str hx
  have L3 := (L1.same s2).src (hs1.same s2) hls f3
  have M3 := (M1.same s2).src (hs1.same s2) hDs f3
  have g3 := g1.trans ((Same.fr s2).trans f3)
  clear f3 t3 hx hd s2 hwl M1 L1 hs1 g1 s1
  have made : ∀ {H4 : Hp}, Same H3 H4 → sp_made_body K [.ref s0, .ref l] H4 Q E0 := fun {H4} s4 => by
    refine ⟨rfl, s0, l, ws, ds, rfl, hs3.same s4, L3.same s4, hls, fun v kk u key c H5 f5 hs5 hv hkey hok hnu hnc => ?_⟩
    exact q v _ H5 (g3.trans ((Same.fr s4).trans f5)) hs5 hv ⟨hnu.pl hL.ok, hkey, hok⟩ (made_names hnu hnc)
  refine ⟨_, rfl, eqS ⟨_, rfl, ?_⟩⟩
  by_cases h1 : z = "make"
  · rw [decide_eq_true h1]
    exact iteT (iteT ⟨_, rfl, _, rfl, made (Same.refl _)⟩)
  rw [decide_eq_false h1]
  refine iteF ⟨_, rfl, szL, fun e he => eqNil ((same_new he).seq M3.sq) (dpa_same (same_new he) M3.dp) upd_same (shaped_dds M3.ok) ⟨_, rfl, ?_⟩⟩
  have s4 := same_new (o := .lst []) he
  have L4 := L3.same s4
  have M4 := M3.same s4
  have hs4 := hs3.same s4
  have g4 := g3.trans (Same.fr s4)
  cases hmm : mks with
  | nil => exact iteT ⟨_, rfl, _, rfl, made s4⟩
  | cons m0 mr =>
  have hm0 : m0 ∈ ds := (hmk m0 (by rw [hmm]; exact List.mem_cons_self ..)).1
  rw [← hmm]
  show (if (mks.map Dd.d).isEmpty = true then _ else _)
  have hne : (mks.map Dd.d).isEmpty = false := by rw [hmm]; rfl
  rw [hne]
  clear made s4 he
  revert L4 M4 hs4 g4
  generalize upd H3 e (.lst []) = H4
  intro L4 M4 hs4 g4
  clear L3 M3 hs3 g3
  -- undo, redo
  refine iteF ⟨_, rfl, szL, fun ml hml => inNewL (SqL.of upd_same) rfl rfl (in_texts (x := z) (xs := ["undo", "redo"])) ⟨_, rfl, ?_⟩⟩
  have s5 := same_new (o := .lst [V.str "undo", .str "redo"]) hml
  have L5 := L4.same s5
  have M5 := M4.same s5
  have hs5 := hs4.same s5
  have g5 := g4.trans (Same.fr s5)
  clear s5
  revert L5 M5 hs5 g5
  generalize upd H4 ml (.lst [V.str "undo", .str "redo"]) = H5
  intro L5 M5 hs5 g5
  clear L4 M4 hs4 g4 hml
  by_cases h2 : z ∈ (["undo", "redo"] : List Str)
  · rw [decide_eq_true h2]
    refine iteT ⟨_, rfl, _, rfl, _, rfl, l, rfl, ⟨_, L5.sq⟩, fun D7 hD7 => ?_⟩
    refine lc_src (K := K) walk_list (fun _ s => s.seq L5.sq) ds Dd.d (fun d => some (sD d.st)) L5.dp hD7 (Nat.lt_of_le_of_lt hL.le (by decide)) (fun d _ e h => by cases h; exact imm_sD _) (fun d v2 H7 Q2 R hm s7 hv q1 q2 => ?_) (fun H7 us7 s7 hD8 hus7 => ?_)
    · exact ⟨rfl, iteT (B := R H7) ⟨_, rfl, ixD 0 hv fun v8 h8 => q1 _ _ _ rfl h8 (Same.refl _)⟩⟩
    rw [show ds.filterMap (fun d => some (sD d.st)) = (ds.map (·.st)).map sD by simp [List.filterMap_eq_map, Function.comp_def]] at hus7
    refine one_dp (hs5.same s7) (SqL.of hD8) hus7 (immAll_sD _) (fun z => by
        have := List.map_eq_nil_iff.mp (List.map_eq_nil_iff.mp z)
        rw [this] at hm0
        simp at hm0) (by rw [List.length_map, List.length_map]; have := hL.le; omega) (new_ne hs5 hD7) fun x d H8 f8 hs8 t8 hd hx => ⟨szL, fun t ht => ?_⟩
    obtain ⟨k, hk, rfl⟩ := List.mem_map.mp hd
    obtain ⟨r, hr'⟩ : ∃ r, z = markS r := by
      simp at h2
      rcases h2 with rfl | rfl
      · exact ⟨false, rfl⟩
      · exact ⟨true, rfl⟩
    subst hr'
    have s9 := same_new (o := .tup [V.str (markS r), x]) ht
    refine q _ (.mark r k) _ (g5.trans ((Same.fr s7).trans (f8.trans (Same.fr s9)))) (hs8.same s9) (.tup (SqT.of upd_same) (.cons (.str _) (.cons (dp_same s9 hx) .nil))) ?_ (fun n hn => ?_)
    · obtain ⟨d', hd', rfl⟩ := List.mem_map.mp hk
      exact (hL.ok d' hd').st
    · have : n = k := by simpa [Bd.names] using hn
      exact .inr (this ▸ hk)
  rw [decide_eq_false h2]
  have hz2 : z ≠ "undo" ∧ z ≠ "redo" := by simpa using h2
  have hwk := wordL_kd hz h1 hz2.1 hz2.2
  -- kind
  refine iteF fun dz hdz => ⟨upd_same, [(.inr "wish", .str "let"), (.inr "point", .str "use"), (.inr "set", .str "number")], rfl, by decide, ?_⟩
  have s6 : Same H5 (upd (upd H5 dz (.dK [])) dz (.dK putTab)) := by
    rw [upd_upd]
    exact same_new hdz
  refine ⟨dz, rfl, .inl ⟨putTab, .inl upd_same⟩, _, rfl, _, .inl ⟨putTab, .inr z, .inl upd_same, rfl, rfl⟩, ?_⟩
  have L6 := L5.same s6
  have M6 := M5.same s6
  have hs6 := hs5.same s6
  have g6 := g5.trans (Same.fr s6)
  show tSeq _ _ _ _ (upd (upd H5 dz (.dK [])) dz (.dK putTab))
  clear s6
  revert L6 M6 hs6 g6
  generalize upd (upd H5 dz (.dK [])) dz (.dK putTab) = H6
  intro L6 M6 hs6 g6
  clear L5 M5 hs5 g5 hdz
  -- things
  have hkk : (z = "move" ∨ z = "drop") ∧ (valV putTab (.inr z)).getD V.non = V.non ∨ ∃ p : Pw, z = p.s ∧ (valV putTab (.inr z)).getD V.non = V.str p.k.s := wdk_kind hwk
  generalize (valV putTab (.inr z)).getD V.non = kv at hkk
  refine ⟨_, rfl, D, rfl, ⟨_, M6.sq⟩, fun D7 hD7 => ?_⟩
  let c : Dd → Bool := fun d => match d.bd with | .make k _ _ _ => decide (kv = V.non) || decide (V.str k.s = kv) | _ => false
  refine lc_src (K := K) walk_list (fun _ s => s.seq M6.sq) mks Dd.d (fun d => if c d = true then some (sD d.st) else none) M6.dp hD7 (Nat.lt_of_le_of_lt M6.le (by decide)) (fun d _ => imm_if d) (fun d v2 H7 Q2 R hm s7 hv q1 q2 => ?_) (fun H7 tus s7 hD8 htus => ?_)
  · obtain ⟨kk, u, key, cc, hb⟩ : ∃ kk u key cc, d.bd = .make kk u key cc := by
      have := (hmk d hm).2
      cases hb : d.bd with
      | make kk u key cc => exact ⟨kk, u, key, cc, rfl⟩
      | move => rw [hb] at this; cases this
      | drop => rw [hb] at this; cases this
      | put => rw [hb] at this; cases this
      | mark => rw [hb] at this; cases this
    have hc : c d = (decide (kv = V.non) || decide (V.str kk.s = kv)) := by
      show (match d.bd with | .make k _ _ _ => decide (kv = V.non) || decide (V.str k.s = kv) | _ => false) = _
      rw [hb]
    rcases hkk with ⟨_, rfl⟩ | ⟨p, _, rfl⟩
    · exact ⟨rfl, _, rfl, rfl, _, rfl, iteT (iteT ⟨_, rfl, ixD 0 hv fun v8 h8 => q1 _ (sD d.st) _ (by rw [hc]; rfl) h8 (Same.refl _)⟩)⟩
    · refine ⟨rfl, _, rfl, rfl, _, rfl, iteF ⟨_, rfl, ixD 2 hv fun v5 h5 => ?_⟩⟩
      rw [hb] at h5
      refine ixD 1 h5 fun v6 h6 => ?_
      obtain rfl := dp_str h6
      refine ⟨_, rfl, eqS ⟨_, rfl, ?_⟩⟩
      rw [dec_str, decide_eq_false (show ¬ V.str p.k.s = V.non from fun z => by cases z), Bool.false_or] at hc
      cases hq : decide (kk.s = p.k.s) with
      | true => exact iteT ⟨_, rfl, ixD 0 hv fun v8 h8 => q1 _ (sD d.st) _ (by rw [hc, hq]; rfl) h8 (Same.refl _)⟩
      | false => exact iteF (q2 _ (by rw [hc, hq]; rfl) (Same.refl _))
  rw [stamps_of] at htus
  have htl : ((mks.filter c).map (·.st)).length ≤ 30 := by rw [List.length_map]; exact Nat.le_trans (List.length_filter_le _ _) M6.le
  have htn : ∀ k ∈ (mks.filter c).map (·.st), NmIn ds k := fun k hk => by
    obtain ⟨d, hd, rfl⟩ := List.mem_map.mp hk
    exact .inr (List.mem_map_of_mem (hmk d (List.mem_filter.mp hd).1).1)
  generalize (mks.filter c).map (·.st) = tks at htus htl htn
  have hD7s : D7 ≠ s0 := new_ne hs6 hD7
  have L7 := L6.same s7
  have hs7 := hs6.same s7
  have g7 := g6.trans (Same.fr s7)
  clear_value c
  clear s7 hD7 M6 L6 hs6 g6
  -- odd
  refine ⟨szL, fun rt hrt => ⟨szL, fun rl hrl => ?_⟩⟩
  have s8 := (same_new (o := .tup [V.int 0, .int 0]) hrt).trans (same_new (o := .lst [V.ref rt]) hrl)
  have hrt8 : (upd (upd H7 rt (.tup [V.int 0, .int 0])) rl (.lst [V.ref rt])) rt = some (.tup [V.int 0, .int 0]) := (same_new hrl) _ _ upd_same
  have hrl8 : (upd (upd H7 rt (.tup [V.int 0, .int 0])) rl (.lst [V.ref rt])) rl = some (.lst [V.ref rt]) := upd_same
  have L8 := L7.same s8
  have hs8 := hs7.same s8
  have g8 := g7.trans (Same.fr s8)
  have t8 := s8 _ _ hD8
  have htus8 := dpa_same s8 htus
  clear s8 hrt hrl
  revert hrt8 hrl8 L8 hs8 g8 t8 htus8
  generalize upd (upd H7 rt (.tup [V.int 0, .int 0])) rl (.lst [V.ref rt]) = H8
  intro hrt8 hrl8 L8 hs8 g8 t8 htus8
  clear L7 hs7 g7 hD8 htus
  refine ⟨_, rfl, l, rfl, ⟨_, L8.sq⟩, fun D9 hD9 => ?_⟩
  refine lc_src (K := K) walk_list (fun _ s => s.seq L8.sq) ds Dd.d (fun d => some (sD d.st)) L8.dp hD9 (Nat.lt_of_le_of_lt hL.le (by decide)) (fun d _ e h => by cases h; exact imm_sD _) (fun d v2 H7 Q2 R hm s7 hv q1 q2 => ?_) (fun H9 us9 s9 hD9' hus9 => ?_)
  · exact ⟨rfl, iteT (B := R H7) ⟨_, rfl, ixD 0 hv fun v8 h8 => q1 _ _ _ rfl h8 (Same.refl _)⟩⟩
  rw [show ds.filterMap (fun d => some (sD d.st)) = (ds.map (·.st)).map sD by simp [List.filterMap_eq_map, Function.comp_def]] at hus9
  have hul9 : us9.length ≤ 30 := by rw [dpa_len hus9, List.length_map, List.length_map]; exact hL.le
  refine .inr (.inr ⟨rl, D9, [V.ref rt], us9, rfl, rfl, s9 _ _ hrl8, hD9', Nat.le_trans (show 1 + us9.length ≤ 31 by omega) (by decide), fun od hod => ?_⟩)
  have s10 := s9.trans (same_new (o := .lst ([V.ref rt] ++ us9)) hod)
  have hod10 : (upd H9 od (.lst ([V.ref rt] ++ us9))) od = some (.lst ([V.ref rt] ++ us9)) := upd_same
  have hodd : DpAll K (upd H9 od (.lst ([V.ref rt] ++ us9))) ([V.ref rt] ++ us9) ((ROOT :: ds.map Dd.st).map sD) := .cons (rootT (s10 _ _ hrt8)) (dpa_same (same_new hod) hus9)
  have hods : od ≠ s0 := new_ne (hs8.same s9) hod
  have L10 := L8.same s10
  have hs10 := hs8.same s10
  have g10 := g8.trans (Same.fr s10)
  have t10 := s10 _ _ t8
  have htus10 := dpa_same s10 htus8
  dsimp only [gName]
  clear s10 hod hus9 s9 hD9
  revert hod10 hodd L10 hs10 g10 t10 htus10
  generalize upd H9 od (.lst ([V.ref rt] ++ us9)) = H10
  intro hod10 hodd L10 hs10 g10 t10 htus10
  clear L8 hs8 g8 t8 htus8 hD9' hrt8 hrl8
  have hoddn : ∀ k ∈ (ROOT :: ds.map Dd.st), NmIn ds k := fun k hk => by
    rcases List.mem_cons.mp hk with rfl | hk
    · exact .inl rfl
    · exact .inr hk
  have hoddl : (ROOT :: ds.map Dd.st).length ≤ 40 := by
    have := hL.le
    simp
    omega
  -- thing
  let Good : V → Hp → Prop := fun x H' => Fr [s0] H10 H' ∧ Src H' s0 ∧ ∃ t, Dp K H' x (sD t) ∧ NmIn ds t
  have leaf : ∀ {C : VK} {H1 : Hp} {p : Addr} {us : List V} {ks : List St2}, Fr [s0] H10 H1 → Src H1 s0 → SqL K H1 p us → DpAll K H1 us (ks.map sD) → ks ≠ [] → (∀ k ∈ ks, NmIn ds k) → ks.length ≤ 40 → p ≠ s0 → (∀ x H', Good x H' → C x H') → sp_one K [.ref s0, .ref p] H1 C E0 := fun {C H1 p us ks} f1 hs1 hp hus hne hnm hkl hps hC => by
    refine one_dp hs1 hp hus (immAll_sD _) (fun z => hne (List.map_eq_nil_iff.mp z)) (by rw [List.length_map]; omega) hps fun x d H2 f2 hs2 t2 hd hx => ?_
    obtain ⟨k, hk, rfl⟩ := List.mem_map.mp hd
    exact hC x H2 ⟨f1.trans f2, hs2, k, hx, hnm k hk⟩
  refine seq_set Good (fun C hC => ?_) (fun x H11 hg => ?_)
  · have lodd : ∀ {H1 : Hp}, Fr [s0] H10 H1 → Src H1 s0 → sp_one K [.ref s0, .ref od] H1 C E0 := fun {H1} f1 hs1 =>
      leaf f1 hs1 (f1.sql (by simpa using hods) (SqL.of hod10)) (dpa_tup (hs10.tup f1) (immAll_sD _) hodd) (by simp) hoddn hoddl hods hC
    refine ⟨_, rfl, _, rfl, szL, fun e he => ?_⟩
    have s11 := same_new (o := .lst []) he
    refine neNil (SqL.of (s11 _ _ t10)) (dpa_same s11 htus10) upd_same (shaped_sts _) ⟨_, rfl, ?_⟩
    cases htk : tks with
    | nil => exact iteF (iteF ⟨_, rfl, lodd (Same.fr s11) (hs10.same s11)⟩)
    | cons t0 tr =>
      refine iteT ⟨_, rfl, rfl, s0, 9, rfl, hs10.same s11, by decide, by decide, fun k H12 f12 hs12 _ => ⟨_, _, rfl, rfl, _, rfl, ite2 (fun _ => ?_) (fun _ => ?_)⟩⟩
      · have f13 := (Same.fr (S := [s0]) s11).trans f12
        exact ⟨_, rfl, leaf f13 hs12 (f13.sql (by simpa using hD7s) (SqL.of t10)) (dpa_tup (hs10.tup f13) (immAll_sD _) htus10) (by rw [htk]; simp) htn (by omega) hD7s hC⟩
      · exact ⟨_, rfl, lodd ((Same.fr s11).trans f12) hs12⟩
  obtain ⟨f11, hs11, t, hx, hnt⟩ := hg
  have g11 := g10.trans f11
  have L11 := L10.src hs10 hls f11
  have hod11 : SqL K H11 od ([V.ref rt] ++ us9) := f11.sql (by simpa using hods) (SqL.of hod10)
  have hodd11 := dpa_tup (hs10.tup f11) (immAll_sD _) hodd
  clear leaf hod10 hodd L10 hs10 g10 t10 htus10
  -- what is told
  rcases hkk with ⟨hzz, rfl⟩ | ⟨p, rfl, rfl⟩
  · rcases hzz with rfl | rfl
    · refine ⟨_, rfl, eqS ⟨_, rfl, iteF ⟨_, rfl, eqS ⟨_, rfl, iteT ?_⟩⟩⟩⟩
      let Good2 : V → Hp → Prop := fun x H' => Fr [s0] H11 H' ∧ Src H' s0 ∧ ∃ t, Dp K H' x (sD t) ∧ NmIn ds t
      dsimp only [gName]
      refine seq_set Good2 (fun C hC => ?_) (fun y H15 hg => ?_)
      · have leaf : ∀ {H1 : Hp} {p : Addr} {us : List V} {ks : List St2}, Fr [s0] H11 H1 → Src H1 s0 → SqL K H1 p us → DpAll K H1 us (ks.map sD) → ks ≠ [] → (∀ k ∈ ks, NmIn ds k) → ks.length ≤ 40 → p ≠ s0 → sp_one K [.ref s0, .ref p] H1 C E0 := fun {H1 p us ks} f1 hs1 hp hus hne hnm hkl hps => by
          refine one_dp hs1 hp hus (immAll_sD _) (fun z => hne (List.map_eq_nil_iff.mp z)) (by rw [List.length_map]; omega) hps fun x d H2 f2 hs2 t2 hd hx => ?_
          obtain ⟨k, hk, rfl⟩ := List.mem_map.mp hd
          exact hC x H2 ⟨f1.trans f2, hs2, k, hx, hnm k hk⟩
        refine ⟨_, rfl, _, rfl, rfl, s0, 9, rfl, hs11, by decide, by decide, fun k H12 f12 hs12 _ => ⟨_, _, rfl, rfl, _, rfl, ite2 (fun _ => ?_) (fun _ => ?_)⟩⟩
        · refine ⟨_, rfl, rfl, l, ws, ds, rfl, L11.src hs11 hls f12, fun p us ks H13 s13 hp hp13 hus hks hkn hkl => ?_⟩
          exact leaf (f12.trans (Same.fr s13)) (hs12.same s13) (SqL.of hp13) hus hkn hks (by omega) (new_ne hs12 hp)
        · exact ⟨_, rfl, leaf f12 hs12 (f12.sql (by simpa using hods) hod11) (dpa_tup (hs11.tup f12) (immAll_sD _) hodd11) (by simp) hoddn hoddl hods⟩
      obtain ⟨f15, hs15, u, hy, hnu⟩ := hg
      have hx15 := dp_tup (hs11.tup f15) (imm_sD t) hx
      refine ⟨_, rfl, _, rfl, _, rfl, _, rfl, szL, fun p hp => ?_⟩
      have s16 := same_new (o := .lst (([0, 1, 2, 5, 999] : List Int).map V.int)) hp
      refine one_dp (hs15.same s16) (SqL.of (show (upd H15 p (.lst (([0, 1, 2, 5, 999] : List Int).map V.int))) p = _ from upd_same)) (dpa_ofInts [0, 1, 2, 5, 999]) (imm_ints _) (by simp) (by simp) (new_ne hs15 hp) fun xk d H17 f17 hs17 t17 hd hxk => ⟨szL, fun a ha => ?_⟩
      obtain ⟨key, hkey, rfl⟩ := List.mem_map.mp hd
      obtain rfl := dp_int hxk
      have s18 := same_new (o := .tup [V.str "move", x, y, .int key]) ha
      have hx17 := dp_tup t17 (imm_sD t) (dp_same s16 hx15)
      have hy17 := dp_tup t17 (imm_sD u) (dp_same s16 hy)
      refine q _ (.move t u key) _ (g11.trans (f15.trans ((Same.fr s16).trans (f17.trans (Same.fr s18))))) (hs17.same s18) (.tup (SqT.of upd_same) (.cons (.str _) (.cons (dp_same s18 hx17) (.cons (dp_same s18 hy17) (.cons (.int _) .nil))))) ⟨hnt.pl hL.ok, hnu.pl hL.ok, ?_⟩ (fun n hn => ?_)
      · simp at hkey
        constructor <;> omega
      · have : n = t ∨ n = u := by simpa [Bd.names] using hn
        rcases this with rfl | rfl
        · exact hnt
        · exact hnu
    · refine ⟨_, rfl, eqS ⟨_, rfl, iteT ⟨_, rfl, _, rfl, szL, fun a ha => ?_⟩⟩⟩
      have s12 := same_new (o := .tup [V.str "drop", x]) ha
      refine q _ (.drop t) _ (g11.trans (Same.fr s12)) (hs11.same s12) (.tup (SqT.of upd_same) (.cons (.str _) (.cons (dp_same s12 hx) .nil))) (hnt.pl hL.ok) (fun n hn => ?_)
      have : n = t := by simpa [Bd.names] using hn
      exact this ▸ hnt
  · have e1 : decide (p.s = "drop") = false := by cases p <;> decide +kernel
    have e2 : decide (p.s = "move") = false := by cases p <;> decide +kernel
    refine ⟨_, rfl, eqS ⟨_, rfl, ?_⟩⟩
    rw [e1]
    refine iteF ⟨_, rfl, eqS ⟨_, rfl, ?_⟩⟩
    rw [e2]
    refine iteF ⟨_, rfl, _, rfl, _, rfl, _, rfl, _, rfl, rfl, s0, l, p.k, ws, ds, rfl, hs11, L11, hls, fun v d H12 f12 hs12 hv hok hnm => ⟨szL, fun a ha => ?_⟩⟩
    have s13 := same_new (o := .tup [V.str p.s, x, v]) ha
    refine q _ (.put p t d) _ (g11.trans (f12.trans (Same.fr s13))) (hs12.same s13) (.tup (SqT.of upd_same) (.cons (.str _) (.cons (dp_same s13 (dp_tup (hs11.tup f12) (imm_sD t) hx)) (.cons (dp_same s13 hv) .nil)))) ⟨hnt.pl hL.ok, hok⟩ (fun n hn => ?_)
    have : n = t ∨ some n = (if p = .point then unB d else none) := by simpa [Bd.names] using hn
    rcases this with rfl | e
    · exact hnt
    · by_cases hp : p = .point
      · rw [if_pos hp] at e
        exact hnm (by rw [hp]; rfl) n e.symm
      · rw [if_neg hp] at e; cases e
end Ss
/-! Walks: worlds. -/
namespace Ss
open PySem PySem.Spec PyProof.Rows L2
variable {P : Program} {w : World} {K : PySem.W.Frag} {mg : Str → Option Value} {base : Heap} {e0 : Addr}
theorem seq_any {t u : TS} {D : Ends} {σ : L2.St} {H : Hp} (Good : L2.St → Hp → Prop) (h : ∀ C : L2.St → Hp → Prop, (∀ σ' H', Good σ' H' → C σ' H') → t { D with nx := C } σ H) (hR : ∀ σ' H', Good σ' H' → u D σ' H') : tSeq t u D σ H := h (u D) hR
structure WAt (K : PySem.W.Frag) (H : Hp) (wd L SL : Addr) (many : Nat) (ds : List Dd) (sns : List (List Int)) : Prop where
  ob : H wd = some (.lst [.ref L, .ref SL, .int many])
  dl : ∃ us, H L = some (.lst us) ∧ DpAll K H us (ds.map Dd.d)
  sl : ∃ rs : List Addr, H SL = some (.lst (rs.map .ref)) ∧ rs.length = sns.length ∧ ∀ (i : Nat) (r : Addr) (l : List Int), rs[i]? = some r → sns[i]? = some l → H r = some (.lst (l.map .int))
  ap : wd ≠ L ∧ wd ≠ SL ∧ L ≠ SL
  inv : WInv ds sns
  le : ds.length ≤ 12
  mn : 1 ≤ many ∧ many ≤ 4
section
variable {H H' : Hp} {wd L SL s : Addr} {many : Nat} {ds : List Dd} {sns : List (List Int)}
theorem head_int {a : Int} {r : List Int} {us : List V} (hd : DpAll K H us (ds.map Dd.d)) (e : us = (a :: r).map .int) : False := by
  subst e
  cases ds with
  | nil => cases hd
  | cons d ds =>
    cases hd with
    | cons h _ => cases h
theorem WAt.same (h : WAt K H wd L SL many ds sns) (e : Same H H') : WAt K H' wd L SL many ds sns := by
  obtain ⟨ob, ⟨us, d1, d2⟩, ⟨rs, r1, r2, r3⟩, ap, inv, le, mn⟩ := h
  exact ⟨e _ _ ob, ⟨us, e _ _ d1, dpa_same e d2⟩, ⟨rs, e _ _ r1, r2, fun i r l h1 h2 => e _ _ (r3 i r l h1 h2)⟩, ap, inv, le, mn⟩
/-- apart from the source -/
theorem WAt.ns (h : WAt K H wd L SL many ds sns) (hs : Src H s) : wd ≠ s ∧ L ≠ s ∧ SL ≠ s := by
  obtain ⟨a, b, e, _⟩ := hs
  obtain ⟨us, d1, d2⟩ := h.dl
  obtain ⟨rs, r1, r2, _⟩ := h.sl
  refine ⟨fun z => ?_, fun z => ?_, fun z => ?_⟩
  · have := h.ob
    rw [z, e] at this
    cases this
  · rw [z, e] at d1
    cases d1
    exact head_int (a := a) (r := [b]) d2 rfl
  · rw [z, e] at r1
    have h4 := h.inv.len
    rw [r2.symm] at h4
    obtain ⟨x1, x2, x3, x4, rfl⟩ := four h4
    cases r1
/-- a row of a world -/
theorem WAt.row (h : WAt K H wd L SL many ds sns) {n : Nat} {l : List Int} (hl : sns[n]? = some l) : ∃ (rs : List Addr) (r : Addr), H SL = some (.lst (rs.map .ref)) ∧ rs[n]? = some r ∧ rs.length = 4 ∧ H r = some (.lst (l.map .int)) ∧ r ≠ wd ∧ r ≠ L ∧ r ≠ SL ∧ (∀ s, Src H s → r ≠ s) := by
  obtain ⟨rs, r1, r2, r3⟩ := h.sl
  obtain ⟨us, d1, d2⟩ := h.dl
  have h4 := h.inv.len
  have hn : n < rs.length := by rw [r2]; exact (List.getElem?_eq_some_iff.mp hl).1
  have hr : rs[n]? = some rs[n] := List.getElem?_eq_getElem hn
  have hrl := r3 n _ l hr hl
  obtain ⟨a, b, c, d, rfl⟩ := four (h.inv.seen l (List.mem_of_getElem? hl)).len
  refine ⟨rs, rs[n], r1, hr, by omega, hrl, fun z => ?_, fun z => ?_, fun z => ?_, fun s hs z => ?_⟩
  · have := h.ob
    rw [← z, hrl] at this
    cases this
  · rw [z, d1] at hrl
    have e := HO.lst.inj (Option.some.inj hrl)
    exact head_int (a := a) (r := [b, c, d]) d2 e
  · rw [z, r1] at hrl
    have e := HO.lst.inj (Option.some.inj hrl)
    have h4' : rs.length = 4 := by omega
    obtain ⟨x1, x2, x3, x4, rfl⟩ := four h4'
    cases e
  · obtain ⟨_, _, e, _⟩ := hs
    rw [z, e] at hrl
    cases hrl
theorem WAt.src (h : WAt K H wd L SL many ds sns) (hs : Src H s) (f : Fr [s] H H') : WAt K H' wd L SL many ds sns := by
  obtain ⟨n1, n2, n3⟩ := h.ns hs
  have rowns := fun n l (hl : sns[n]? = some l) => h.row hl
  obtain ⟨ob, ⟨us, d1, d2⟩, ⟨rs, r1, r2, r3⟩, ap, inv, le, mn⟩ := h
  refine ⟨f.get ob (by simpa using n1), ⟨us, f.get d1 (by simpa using n2), dpa_tup (hs.tup f) (imm_dds fun d hd => inv.bk.ok d hd) d2⟩, ⟨rs, f.get r1 (by simpa using n3), r2, fun i r l h1 h2 => ?_⟩, ap, inv, le, mn⟩
  obtain ⟨rs', r', e1, e2, _, _, _, _, _, e3⟩ := rowns i l h2
  rw [r1] at e1
  have e1 := HO.lst.inj (Option.some.inj e1)
  have : r' = r := by
    have := congrArg (fun x : List V => x[i]?) e1
    simp only [List.getElem?_map, h1, e2] at this
    cases this
    rfl
  subst this
  exact f.get (r3 i r' l h1 h2) (by simpa using e3 s hs)
theorem WAt.ddl (h : WAt K H wd L SL many ds sns) : ∃ us, H L = some (.lst us) ∧ DdL K H L us ds := by
  obtain ⟨us, d1, d2⟩ := h.dl
  exact ⟨us, d1, SqL.of d1, d2, fun d hd => h.inv.bk.ok d hd, by have := h.le; omega⟩
theorem set_map {α β : Type} (f : α → β) (l : List α) (n : Nat) (x : α) : (l.map f).set n (f x) = (l.set n x).map f := (List.map_set).symm
/-- a row anew -/
theorem WAt.setRow (h : WAt K H wd L SL many ds sns) {n : Nat} {l x : List Int} {q : Addr} {rs : List Addr} (hl : sns[n]? = some l) (hrs : H SL = some (.lst (rs.map .ref))) (hq : H q = some (.lst (x.map .int))) (hqn : q ≠ SL) (inv : WInv ds (sns.set n x)) : WAt K (upd H SL (.lst ((rs.map V.ref).set n (.ref q)))) wd L SL many ds (sns.set n x) := by
  have rowns := fun n l (hl : sns[n]? = some l) => h.row hl
  obtain ⟨ob, ⟨us, d1, d2⟩, ⟨rs', r1, r2, r3⟩, ap, inv0, le, mn⟩ := h
  rw [hrs] at r1
  have e1 := HO.lst.inj (Option.some.inj r1)
  obtain rfl : rs = rs' := by
    have : ∀ {a b : List Addr}, a.map V.ref = b.map V.ref → a = b := fun h => by
      exact (List.map_inj_right (fun x y e => by cases e; rfl)).mp h
    exact this e1
  refine ⟨by rw [upd_ne ap.2.1]; exact ob, ⟨us, by rw [upd_ne ap.2.2]; exact d1, dpa_tup (tup_lst hrs) (imm_dds fun d hd => inv0.bk.ok d hd) d2⟩, ⟨rs.set n q, by rw [upd_same, set_map], by rw [List.length_set, List.length_set]; exact r2, fun i r m h1 h2 => ?_⟩, ap, inv, le, mn⟩
  have hn : n < sns.length := (List.getElem?_eq_some_iff.mp hl).1
  rcases set_get h1 with ⟨rfl, rfl⟩ | ⟨ne, h1⟩
  · rcases set_get h2 with ⟨_, rfl⟩ | ⟨ne, _⟩
    · rw [upd_ne hqn]; exact hq
    · exact absurd rfl ne
  · rcases set_get h2 with ⟨e, _⟩ | ⟨_, h2⟩
    · exact absurd e ne
    · obtain ⟨rs', r', e1, e2, _, e5, _, _, e3, _⟩ := rowns i m h2
      rw [hrs] at e1
      have e1 := HO.lst.inj (Option.some.inj e1)
      have : r' = r := by
        have := congrArg (fun x : List V => x[i]?) e1
        simp only [List.getElem?_map, h1, e2] at this
        cases this
        rfl
      subst this
      rw [upd_ne e3]
      exact e5
end
def row0 : List Int := [0, 0, 0, 0]
def sp_world (K : PySem.W.Frag) : Sp := fun us H Q _ => us.length = 1 ∧ ∃ many : Nat, us = [.int many] ∧ 1 ≤ many ∧ many ≤ 4 ∧ ∀ (wd L SL : Addr) (H' : Hp), Same H H' → H wd = none → H L = none → H SL = none → WAt K H' wd L SL many [] [row0, row0, row0, row0] → Q (.ref wd) H'
theorem ok_world (T : Tx w K mg e0) : Kn P w K mg base 1 (He.ga K "_law_world") ["_law_many"] (sp_world K) := by
  refine T.d_l_world.kn sc_l_world (fun _ _ _ _ _ _ us hl => match us, hl with | [_], _ => rfl) (fun vs H Q E h => h.1) (fun cdv A outer s H vs Q E hr h => ?_)
  have hu := hu65 hr
  obtain ⟨_, many, rfl, hm1, hm2, q⟩ := h
  refine ⟨_, (pss_one (ps_ret (pe_lst (pa_cons (pe_lst pa_nil) (pa_cons (pe_lc (own := [("_law_hand", 1)]) (by rfl) sc_l_world.nd (pi_range1 (by rfl) T.b_range (pa_cons pe_int pa_nil)) (blkOk_by (N := n_l_world) (sc := defScope s_l_world) (by decide +kernel)) (fun _ _ _ _ _ => (pg_name (i := 1) sc_l_world.nd rfl (Or.inl rfl))) (fun _ _ _ _ _ => pts_nil) (fun _ _ _ _ _ => (pe_lst (pa_cons pe_int (pa_cons pe_int (pa_cons pe_int (pa_cons pe_int pa_nil))))))) (pa_cons (pv 0) pa_nil)))))), ?_⟩
  refine ⟨szL, fun L hL => ⟨4, rfl, by decide, by decide, fun D hD => ?_⟩⟩
  have s1 := same_new (o := .lst []) hL
  have hL1 : (upd H L (.lst [])) L = some (.lst []) := upd_same
  have hDL : D ≠ L := fun z => by rw [z, hL1] at hD; cases hD
  refine lc_it (J := Itr 0 4) walk_range (fun i H2 => Same (upd H L (.lst [])) H2 ∧ ∃ rs : List Addr, H2 D = some (.lst (rs.map .ref)) ∧ rs.length = i ∧ i ≤ 4 ∧ ∀ r ∈ rs, H2 r = some (.lst (row0.map .int))) ⟨same_new hD, [], upd_same, rfl, by decide, by simp⟩ (fun _ _ _ _ => trivial) (fun i x H2 H3 hi p y => ?_) (fun H2 p => ?_)
  · obtain ⟨s2, rs, h1, h2, h3, h4⟩ := p
    obtain ⟨rfl, rfl⟩ := y
    refine ⟨rfl, ?_⟩
    refine iteT (B := Same (upd H L (.lst [])) H3 ∧ ∃ rs : List Addr, H3 D = some (.lst (rs.map .ref)) ∧ rs.length = i + 1 ∧ i + 1 ≤ 4 ∧ ∀ r ∈ rs, H3 r = some (.lst (row0.map .int))) ?_
    refine ⟨szL, fun r hr' => ⟨rs.map .ref, (same_new hr') _ _ h1, ?_, ?_⟩⟩
    · rw [List.length_map]
      exact Nat.lt_of_le_of_lt (show rs.length ≤ 4 by omega) (by decide)
    · have s3 := same_new (o := .lst (row0.map V.int)) hr'
      have hrD : r ≠ D := fun z => by rw [z, h1] at hr'; cases hr'
      refine ⟨same_mut (s2.trans s3) hD, rs ++ [r], ?_, by rw [List.length_append, h2]; rfl, by omega, fun r' hr2 => ?_⟩
      · rw [List.map_append]
        exact upd_same
      · have ne : r' ≠ D := fun z => by
          rcases List.mem_append.mp hr2 with h | h
          · have := h4 r' h
            rw [z, h1] at this
            have e := HO.lst.inj (Option.some.inj this)
            cases rs with
            | nil => cases e
            | cons x y => cases e
          · exact hrD ((List.mem_singleton.mp h).symm.trans z)
        rw [upd_ne ne]
        rcases List.mem_append.mp hr2 with h | h
        · exact s3 _ _ (h4 r' h)
        · rw [List.mem_singleton.mp h]
          exact upd_same
  · obtain ⟨s2, rs, h1, h2, h3, h4⟩ := p
    refine ⟨_, rfl, szL, fun wd hwd => ?_⟩
    have s3 := same_new (o := .lst [V.ref L, .ref D, .int many]) hwd
    have hLw : (H2) L = some (.lst []) := s2 _ _ hL1
    refine q wd L D _ (s1.trans (s2.trans s3)) (same_none (s1.trans s2) hwd) hL (same_none s1 hD) ⟨upd_same, ⟨[], s3 _ _ hLw, .nil⟩, ⟨rs, s3 _ _ h1, h2, fun i r l hr hl => ?_⟩, ⟨fun z => ?_, fun z => ?_, Ne.symm hDL⟩, WInv.zero, by simp, ⟨hm1, hm2⟩⟩
    · have hl : l = row0 := by
        have := List.mem_of_getElem? hl
        simpa using this
      rw [hl]
      exact s3 _ _ (h4 r (List.mem_of_getElem? hr))
    · rw [z, hLw] at hwd; cases hwd
    · rw [z, h1] at hwd; cases hwd
def sp_seen_deeds (K : PySem.W.Frag) : Sp := fun us H Q _ => us.length = 2 ∧ ∃ (wd L SL : Addr) (many n : Nat) (ds : List Dd) (sns : List (List Int)) (l : List Int), us = [.ref wd, .int n] ∧ WAt K H wd L SL many ds sns ∧ sns[n]? = some l ∧
  ∀ (p : Addr) (us : List V) (H' : Hp), Same H H' → H p = none → DdL K H' p us (ds.filter fun d => decide (d.st.1 ≤ snO l d.st.2)) → Q (.ref p) H'
theorem row_at {l : List Int} {o : Int} (h4 : l.length = 4) (h : o ∈ hands) : ∃ n : Nat, o = n ∧ (l.map V.int)[n]? = some (.int (snO l o)) := by
  obtain ⟨n, hn, rfl⟩ := hand_nat h
  refine ⟨n, rfl, ?_⟩
  rw [List.getElem?_map, List.getElem?_eq_getElem (by omega), snO_nat, List.getD_eq_getElem?_getD, List.getElem?_eq_getElem (by omega)]
  rfl
theorem ok_seen_deeds (T : Tx w K mg e0) : Kn P w K mg base 1 (He.ga K "_law_seen_deeds") ["_law_world_here", "_law_hand"] (sp_seen_deeds K) := by
  refine T.d_l_seen_deeds.kn sc_l_seen_deeds (fun _ _ _ _ _ _ us hl => match us, hl with | [_, _], _ => rfl) (fun vs H Q E h => h.1) (fun cdv A outer s H vs Q E hr h => ?_)
  have hu := hu65 hr
  obtain ⟨_, wd, L, SL, many, n, ds, sns, l, rfl, hW, hl, q⟩ := h
  obtain ⟨rs, r, h1, h2, h3, h4, _⟩ := hW.row hl
  have l4 := (hW.inv.seen l (List.mem_of_getElem? hl)).len
  obtain ⟨us, hL, hD⟩ := hW.ddl
  refine ⟨_, (pss_cons (ps_set (i := 2) sc_l_seen_deeds.nd rfl (Or.inr rfl) (pe_ix (ix_any hu) (pe_ix (ix_any hu) (pv 0) pe_int (fun _ _ => rfl)) (pv 1) (fun _ _ => rfl)))
    (pss_one (ps_ret (pe_lc (own := [("_law_deed", 3)]) (by rfl) sc_l_seen_deeds.nd (pi_list (pe_ix (ix_any hu) (pv 0) pe_int (fun _ _ => rfl))) (blkOk_by (N := n_l_seen_deeds) (sc := defScope s_l_seen_deeds) (by decide +kernel)) (fun _ _ _ _ _ => (pg_name (i := 3) sc_l_seen_deeds.nd rfl (Or.inl rfl))) (fun _ _ _ _ _ => pts_one (pt_cmpR op_le (pe_ix (show IxR _ (rIxA P w K) from (ix_any hu)) (pe_ix (show IxR _ (rIxA P w K) from (ix_any hu)) (pv 3) pe_int (fun _ _ => rfl)) pe_int (fun _ _ => rfl)) (pe_ix (show IxR _ (rIxA P w K) from (ix_any hu)) (pv 2) (pe_ix (show IxR _ (rIxA P w K) from (ix_any hu)) (pe_ix (show IxR _ (rIxA P w K) from (ix_any hu)) (pv 3) pe_int (fun _ _ => rfl)) pe_int (fun _ _ => rfl)) (fun _ _ => rfl)) (nomark _))) (fun _ _ _ _ _ => (pv 3)))))), ?_⟩
  refine ⟨_, rfl, ixL 1 (SqL.of hW.ob) rfl ⟨_, rfl, ixL n (SqL.of h1) (by rw [List.getElem?_map, h2]; rfl) ?_⟩⟩
  refine ⟨_, rfl, ixL 0 (SqL.of hW.ob) rfl ⟨L, rfl, ⟨_, SqL.of hL⟩, fun D hDn => ?_⟩⟩
  refine lc_src (K := K) walk_list (fun _ s => s.seq (SqL.of hL)) ds Dd.d (fun d => if decide (d.st.1 ≤ snO l d.st.2) = true then some d.d else none) hD.dp hDn (Nat.lt_of_le_of_lt hD.le (by decide)) (fun d hd e h => by
      by_cases c : decide (d.st.1 ≤ snO l d.st.2) = true
      · rw [if_pos c] at h; cases h; exact imm_dd (hD.ok d hd)
      · rw [if_neg c] at h; cases h) (fun d v2 H4 Q2 R hm s4 hv q1 q2 => ?_) (fun H4 ws s4 hD4 hws => ?_)
  · refine ⟨rfl, _, rfl, ixD (d := sD d.st) 0 hv fun v5 h5 => ixD (d := .int d.st.1) 0 h5 fun v6 h6 => ?_⟩
    obtain rfl := dp_int h6
    obtain ⟨m, hm1, hm2⟩ := row_at l4 (okSt_hand (hD.ok d hm).st)
    refine ⟨_, rfl, _, rfl, ixD (d := sD d.st) 0 hv fun v7 h7 => ixD (d := .int d.st.2) 1 h7 fun v8 h8 => ?_⟩
    obtain rfl := dp_int h8
    refine ixL m (SqL.of (s4 _ _ h4)) hm2 ⟨_, _, rfl, rfl, _, rfl, ?_⟩ hm1
    cases c : decide (d.st.1 ≤ snO l d.st.2) with
    | true => exact iteT ⟨_, rfl, q1 _ d.d _ (by rw [c]; rfl) hv (Same.refl _)⟩
    | false => exact iteF (q2 _ (by rw [c]; rfl) (Same.refl _))
  · rw [filterMap_if] at hws
    exact q D ws H4 s4 hDn ⟨SqL.of hD4, hws, fun d hd => hD.ok d (List.mem_filter.mp hd).1, Nat.le_trans (List.length_filter_le _ _) hD.le⟩
def sp_do (K : PySem.W.Frag) : Sp := fun us H Q _ => us.length = 4 ∧ ∃ (s wd L SL : Addr) (many n : Nat) (ds : List Dd) (sns : List (List Int)) (l : List Int) (bv : V) (b : Bd), us = [.ref s, .ref wd, .int n, bv] ∧ Src H s ∧ WAt K H wd L SL many ds sns ∧ sns[n]? = some l ∧ Dp K H bv b.d ∧ b.ok ∧ ds.length ≤ 11 ∧
  (∀ k, some k ∈ b.names → k ≠ (0, 0) → k ∈ ds.map (·.st) ∧ k.1 ≤ snO l k.2) ∧
  ∀ (v : V) (t : Int) (H' : Hp), Fr [s, L, SL] H H' → Src H' s → WAt K H' wd L SL many (ds ++ [⟨(t, n), l, b⟩]) (sns.set n (upS l n t)) → Dp K H' v (sD (t, n)) → Q v H'
theorem ok_do (T : Tx w K mg e0) : Kn P w K mg base 3 (He.ga K "_law_do") ["_law_source", "_law_world_here", "_law_hand", "_law_body_here"] (sp_do K) := by
  have G_l_one : Kn P w K mg base 2 _ _ _ := ok_one T
  refine T.d_l_do.kn sc_l_do (fun _ _ _ _ _ _ us hl => match us, hl with | [_, _, _, _], _ => rfl) (fun vs H Q E h => h.1) (fun cdv A outer s H vs Q E hr h => ?_)
  have hu := hu65 hr
  obtain ⟨_, s0, wd, L, SL, many, n, ds, sns, l, bv, b, rfl, hs, hW, hl, hb, hbok, hN, hnm, q⟩ := h
  obtain ⟨rs, r, h1, h2, h3, h4, hrw, hrL, hrS, hrs⟩ := hW.row hl
  have l4 := (hW.inv.seen l (List.mem_of_getElem? hl)).len
  have hn4 : n < 4 := by rw [← hW.inv.len]; exact (List.getElem?_eq_some_iff.mp hl).1
  obtain ⟨nw, nL, nS⟩ := hW.ns hs
  refine ⟨_, (pss_cons (ps_set (i := 4) sc_l_do.nd rfl (Or.inr rfl) (pe_ix (ix_any hu) (pe_ix (ix_any hu) (pv 1) pe_int (fun _ _ => rfl)) (pv 2) (fun _ _ => rfl)))
    (pss_cons (ps_set (i := 5) sc_l_do.nd rfl (Or.inr rfl) (pe_tup (pa_cons (pe_op op_addA (pe_op op_addA pe_int (pe_callB (cb_max hu) (by rfl) T.b_max (by decide +kernel) (pa_cons (pe_lc (own := [("_law_time", 6)]) (by rfl) sc_l_do.nd (pi_list (pv 4)) (blkOk_by (N := n_l_do) (sc := defScope s_l_do) (by decide +kernel)) (fun _ _ _ _ _ => (pg_name (i := 6) sc_l_do.nd rfl (Or.inl rfl))) (fun _ _ _ _ _ => pts_nil) (fun _ _ _ _ _ => (pe_callTy (show CallR _ _ rIntA from (cb_int hu)) (by rfl) T.b_int (by decide +kernel) (pa_cons (pv 6) pa_nil)))) pa_nil))) (pe_fn G_l_one (hr.mono (by first | decide | exact Nat.le_refl _ | exact Nat.le_add_right_of_le (by decide) | omega)) T.g__law_one (pa_cons (pv 0) (pa_cons (pe_lst (pa_cons pe_int (pa_cons pe_int (pa_cons pe_int (pa_cons pe_int (pa_cons pe_int pa_nil)))))) pa_nil)))) (pa_cons (pv 2) pa_nil))))
    (pss_cons (ps_expr (pe_bm PySem.F.plainAttrs_list PySem.F.slot_list_append PySem.F.type_list_append mt_append (pe_ix (ix_any hu) (pv 1) pe_int (fun _ _ => rfl)) (pa_cons (pe_tup (pa_cons (pv 5) (pa_cons (pe_callTy (cb_tuple hu) (by rfl) T.b_tuple (by decide +kernel) (pa_cons (pv 4) pa_nil)) (pa_cons (pv 3) pa_nil)))) pa_nil)))
    (pss_cons (ps_asg (pe_lc (own := [("_law_k", 7)]) (by rfl) sc_l_do.nd (pi_range1 (by rfl) T.b_range (pa_cons pe_int pa_nil)) (blkOk_by (N := n_l_do) (sc := defScope s_l_do) (by decide +kernel)) (fun _ _ _ _ _ => (pg_name (i := 7) sc_l_do.nd rfl (Or.inl rfl))) (fun _ _ _ _ _ => pts_nil) (fun _ _ _ _ _ => (pe_ifExp (pt_cmpR (show OpR _ _ (rEqA K) from (op_eqA hu)) (pv 7) (pv 2) (nomark _)) (pe_ix (show IxR _ (rIxA P w K) from (ix_any hu)) (pv 5) pe_int (fun _ _ => rfl)) (pe_ix (show IxR _ (rIxA P w K) from (ix_any hu)) (pv 4) (pv 7) (fun _ _ => rfl))))) (pg_sub (pe_ix (ix_any hu) (pv 1) pe_int (fun _ _ => rfl)) (pv 2) (set_any hu)))
    (pss_one (ps_ret (pv 5))))))), ?_⟩
  refine ⟨_, rfl, ixL 1 (SqL.of hW.ob) rfl ⟨_, rfl, ixL n (SqL.of h1) (by rw [List.getElem?_map, h2]; rfl) ?_⟩⟩
  refine ⟨_, rfl, r, rfl, ⟨_, SqL.of h4⟩, fun D hD => ?_⟩
  refine lc_src (K := K) walk_list (fun _ s => s.seq (SqL.of h4)) l .int (fun n => some (.int n)) (dpa_ofInts l) hD (by rw [l4]; decide) (fun n _ d e => by cases e; rfl) (fun n v H2 Q2 R hm s2 hv q1 q2 => ?_) (fun H2 ws s2 hD2 hws => ?_)
  · obtain rfl := dp_int hv
    exact ⟨rfl, iteT (B := R H2) ⟨_, rfl, .inl ⟨n, rfl, q1 _ _ _ rfl (.int n) (Same.refl _)⟩⟩⟩
  rw [show l.filterMap (fun n => some (PyData.int n)) = l.map .int by simp] at hws
  obtain rfl := dpa_ints hws
  refine .inr ⟨D, l, rfl, SqL.of hD2, by omega, fun m hm hm2 => addI ?_⟩
  have hW2 := hW.same s2
  have hs2 := hs.same s2
  have g2 := Same.fr (S := [s0, L, SL]) s2
  have hb2 := dp_same s2 hb
  have hr2 := s2 _ _ h4
  have hS2 := s2 _ _ h1
  clear hws hD2 hD
  refine ⟨_, rfl, szL, fun p hp => ?_⟩
  have s3 := same_new (o := .lst (([0, 0, 0, 1, 4] : List Int).map V.int)) hp
  refine one_dp (hs2.same s3) (SqL.of (show (upd H2 p (.lst (([0, 0, 0, 1, 4] : List Int).map V.int))) p = _ from upd_same)) (dpa_ofInts [0, 0, 0, 1, 4]) (imm_ints _) (by simp) (by simp) (new_ne hs2 hp) fun y d H4 f4 hs4 t4 hd hy => ?_
  obtain ⟨c, hc, rfl⟩ := List.mem_map.mp hd
  obtain rfl := dp_int hy
  have hc4 : 0 ≤ c ∧ c ≤ 4 := by
    simp at hc
    omega
  refine addI ?_
  refine ⟨_, rfl, szL, fun st hst => ?_⟩
  have hW4 := (hW2.same s3).src (hs2.same s3) f4
  have g4 := g2.trans ((Same.fr s3).trans (f4.mono (S' := [s0, L, SL]) (by simp)))
  have hb4 := dp_tup t4 (imm_bd hbok) (dp_same s3 hb2)
  have hr4 := f4.get (s3 _ _ hr2) (by simpa using hrs s0 hs)
  have hS4 := f4.get (s3 _ _ hS2) (by simpa using nS)
  obtain ⟨t, ht⟩ : ∃ t : Int, t = 1 + m + c := ⟨_, rfl⟩
  rw [← ht]
  have s5 := same_new (o := .tup [V.int t, .int n]) hst
  have hW5 := hW4.same s5
  have hs5 := hs4.same s5
  have g5 := g4.trans (Same.fr s5)
  have hb5 := dp_same s5 hb4
  have hr5 := s5 _ _ hr4
  have hS5 := s5 _ _ hS4
  have hst5 : Dp K (upd H4 st (.tup [V.int t, .int n])) (.ref st) (sD (t, n)) := .tup (SqT.of upd_same) (.cons (.int _) (.cons (.int _) .nil))
  clear hst s5 hW4 hs4 g4 hb4 hr4 hS4 f4 t4 hd hy s3 hp hW2 hs2 g2 hb2 hr2 hS2 s2
  revert hW5 hs5 g5 hb5 hr5 hS5 hst5
  generalize upd H4 st (.tup [V.int t, .int n]) = H5
  intro hW5 hs5 g5 hb5 hr5 hS5 hst5
  -- append
  obtain ⟨us, hL5, hDL⟩ := hW5.ddl
  refine ⟨_, rfl, ixL 0 (SqL.of hW5.ob) rfl ?_⟩
  refine ⟨.inl ⟨rfl, us, SqL.of hL5⟩, ?_⟩
  refine ⟨_, rfl, _, rfl, .inl ⟨r, l.map V.int, rfl, SqL.of hr5, fun tq htq => ?_⟩⟩
  refine ⟨_, rfl, szL, fun dq hdq => ?_⟩
  have s6 := (same_new (o := .tup (l.map V.int)) htq).trans (same_new (o := .tup [V.ref st, .ref tq, bv]) hdq)
  have hul : us.length ≤ 12 := by rw [dpa_len hDL.dp, List.length_map]; omega
  have hL6 := s6 _ _ hL5
  refine ⟨L, us, _, rfl, rfl, hL6, Nat.lt_of_le_of_lt hul (by decide), ?_⟩
  have t7 := tup_lst (o := .lst (us ++ [V.ref dq])) hL6
  have hd6 : Dp K (upd (upd H5 tq (.tup (l.map V.int))) dq (.tup [V.ref st, .ref tq, bv])) (.ref dq) (Dd.d ⟨(t, n), l, b⟩) := .tup (SqT.of upd_same) (.cons (dp_same s6 hst5) (.cons (.tup (SqT.of ((same_new hdq) _ _ upd_same)) (dpa_ofInts l)) (.cons (dp_same s6 hb5) .nil)))
  have hW6 := hW5.same s6
  have hs6 := hs5.same s6
  have g6 := g5.trans (Same.fr s6)
  have hr6 := s6 _ _ hr5
  have hS6 := s6 _ _ hS5
  have hst6 := dp_same s6 hst5
  have hDL6 := dpa_same s6 hDL.dp
  clear hDL s6 hW5 hs5 g5 hr5 hS5 hst5 hL5 hb5 htq hdq
  revert hL6 t7 hd6 hW6 hs6 g6 hr6 hS6 hst6 hDL6
  generalize upd (upd H5 tq (.tup (l.map V.int))) dq (.tup [V.ref st, .ref tq, bv]) = H6
  intro hL6 t7 hd6 hW6 hs6 g6 hr6 hS6 hst6 hDL6
  have hdok : Dd.ok ⟨(t, n), l, b⟩ ∧ WInv (ds ++ [⟨(t, n), l, b⟩]) (sns.set n (upS l n t)) := by
    have := hW.inv.act hl hbok hc4 (by omega) hm hm2 hnm
    rw [← ht] at this
    exact ⟨this.bk.ok _ (List.mem_append_right _ (List.mem_singleton_self _)), this⟩
  have imd : immAll ((ds ++ [Dd.mk (t, (n : Int)) l b]).map Dd.d) = true := imm_dds fun d hd => hdok.2.bk.ok d hd
  have hL7 : (upd H6 L (.lst (us ++ [V.ref dq]))) L = some (.lst (us ++ [V.ref dq])) := upd_same
  have hd7 : DpAll K (upd H6 L (.lst (us ++ [V.ref dq]))) (us ++ [V.ref dq]) ((ds ++ [Dd.mk (t, (n : Int)) l b]).map Dd.d) := by
    refine dpa_tup t7 imd ?_
    rw [List.map_append]
    exact dpa_append hDL6 (.cons hd6 .nil)
  have hob7 : (upd H6 L (.lst (us ++ [V.ref dq]))) wd = some (.lst [.ref L, .ref SL, .int many]) := by rw [upd_ne hW6.ap.1]; exact hW6.ob
  have hs7 : Src (upd H6 L (.lst (us ++ [V.ref dq]))) s0 := by
    obtain ⟨a, b', e, e2⟩ := hs6
    exact ⟨a, b', by rw [upd_ne (Ne.symm nL)]; exact e, e2⟩
  have hr7 : (upd H6 L (.lst (us ++ [V.ref dq]))) r = some (.lst (l.map .int)) := by rw [upd_ne hrL]; exact hr6
  have hS7 : (upd H6 L (.lst (us ++ [V.ref dq]))) SL = some (.lst (rs.map .ref)) := by rw [upd_ne (Ne.symm hW.ap.2.2)]; exact hS6
  have g7 : Fr [s0, L, SL] H (upd H6 L (.lst (us ++ [V.ref dq]))) := g6.at (by simp)
  have hst7 := dp_tup t7 (imm_sD _) hst6
  have rows7 : ∀ (i : Nat) (r : Addr) (l : List Int), rs[i]? = some r → sns[i]? = some l → (upd H6 L (.lst (us ++ [V.ref dq]))) r = some (.lst (l.map .int)) := fun i r' l' e1 e2 => by
    obtain ⟨rs2, r2, z1, z2, _, z4, _, z5, _⟩ := hW6.row e2
    rw [hS6] at z1
    have z1 := HO.lst.inj (Option.some.inj z1)
    have : r2 = r' := by
      have := congrArg (fun x : List V => x[i]?) z1
      simp only [List.getElem?_map, e1, z2] at this
      cases this
      rfl
    subst this
    rw [upd_ne z5]
    exact z4
  clear hL6 t7 hd6 hs6 g6 hr6 hS6 hst6 hDL6
  show tSeq _ _ _ _ (upd H6 L (.lst (us ++ [V.ref dq])))
  revert hL7 hd7 hob7 hs7 hr7 hS7 g7 hst7 rows7
  generalize upd H6 L (.lst (us ++ [V.ref dq])) = H7
  intro hL7 hd7 hob7 hs7 hr7 hS7 g7 hst7 rows7
  -- the row
  refine ⟨4, rfl, by decide, by decide, fun D8 hD8 => ?_⟩
  refine lc_dp (K := K) (J := Itr 0 4) walk_range hD8 (fun i => some (.int (if i = n then t else l.getD i 0))) (by decide) (fun i d _ e => by cases e; rfl) (fun _ _ => trivial) (fun i x H2 H3 Q2 R hi s2 y q1 q2 => ?_) (fun H8 ws s8 hD9 hws => ?_)
  · obtain ⟨rfl, rfl⟩ := y
    refine ⟨rfl, iteT (B := R H3) ⟨_, rfl, _, rfl, eqI ⟨_, rfl, ?_⟩⟩⟩
    by_cases e : i = n
    · rw [decide_eq_true (show (0 : Int) + (i : Nat) = n by omega)]
      refine iteT ⟨_, rfl, ixD 0 (dp_same s2 hst7) fun v9 h9 => q1 v9 _ _ rfl ?_ (Same.refl _)⟩
      rw [if_pos e]
      exact h9
    · rw [decide_eq_false (show ¬ (0 : Int) + (i : Nat) = n by omega)]
      refine iteF ⟨_, rfl, _, rfl, ixL i (SqL.of (s2 _ _ hr7)) (v := .int (l.getD i 0)) ?_ (q1 _ _ _ rfl ?_ (Same.refl _)) (by omega)⟩
      · rw [List.getElem?_map, List.getElem?_eq_getElem (by omega), List.getD_eq_getElem?_getD, List.getElem?_eq_getElem (by omega)]
        rfl
      · rw [if_neg e]
        exact .int _
  have hws : DpAll K H8 ws ((upS l n t).map .int) := hws
  obtain rfl := dpa_ints hws
  refine ⟨_, rfl, ixL 1 (SqL.of (s8 _ _ hob7)) rfl ⟨_, rfl, setLr n (s8 _ _ hS7) (by rw [List.length_map]; omega) ⟨_, rfl, ?_⟩⟩⟩
  have hD8S : D8 ≠ SL := fun z => by rw [z, hS7] at hD8; cases hD8
  have t9 := tup_lst (o := .lst ((rs.map V.ref).set n (.ref D8))) (s8 _ _ hS7)
  refine q _ t (upd H8 SL (.lst ((rs.map V.ref).set n (.ref D8)))) ((g7.trans (Same.fr s8)).at (by simp)) ?_ ⟨?_, ⟨_, ?_, dpa_tup t9 imd (dpa_same s8 hd7)⟩, ⟨rs.set n D8, by rw [upd_same, set_map], ?_, fun i r' l' e1 e2 => ?_⟩, hW.ap, hdok.2, by rw [List.length_append]; simp; omega, hW.mn⟩ (dp_tup t9 (imm_sD _) (dp_same s8 hst7))
  · obtain ⟨a, b', e, e2⟩ := hs7.same s8
    exact ⟨a, b', by rw [upd_ne (Ne.symm nS)]; exact e, e2⟩
  · rw [upd_ne hW.ap.2.1]
    exact s8 _ _ hob7
  · rw [upd_ne hW.ap.2.2]
    exact s8 _ _ hL7
  · rw [List.length_set, List.length_set, h3, hW.inv.len]
  · rcases set_get e1 with ⟨rfl, rfl⟩ | ⟨ne, e1⟩
    · rcases set_get e2 with ⟨_, rfl⟩ | ⟨ne, _⟩
      · rw [upd_ne hD8S]; exact hD9
      · exact absurd rfl ne
    · rcases set_get e2 with ⟨e, _⟩ | ⟨_, e2⟩
      · exact absurd e ne
      · have := rows7 i r' l' e1 e2
        obtain ⟨_, _, z1, z2, _, _, _, _, z3, _⟩ := hW.row e2
        rw [h1] at z1
        have z1 := HO.lst.inj (Option.some.inj z1)
        have z0 := congrArg (fun x : List V => x[i]?) z1
        simp only [List.getElem?_map, e1, z2] at z0
        cases z0
        rw [upd_ne z3]
        exact s8 _ _ this
end Ss
/-! Walks: worlds, 2. -/
namespace Ss
open PySem PySem.Spec PyProof.Rows L2
variable {P : Program} {w : World} {K : PySem.W.Frag} {mg : Str → Option Value} {base : Heap} {e0 : Addr}
theorem SeenS.set {x : List Int} (h4 : x.length = 4) {o : Nat} (ho : o < 4) {t : Int} : (x.map V.int).set o (.int t) = (upS x o t).map V.int := by
  obtain ⟨a, b, c, d, rfl⟩ := four h4
  have : o = 0 ∨ o = 1 ∨ o = 2 ∨ o = 3 := by omega
  rcases this with rfl | rfl | rfl | rfl <;> rfl
theorem get4 {l : List Int} (h4 : l.length = 4) {i : Nat} (hi : i < 4) : (l.map V.int)[i]? = some (.int (l.getD i 0)) := by
  rw [List.getElem?_map, List.getElem?_eq_getElem (by omega), List.getD_eq_getElem?_getD, List.getElem?_eq_getElem (by omega)]
  rfl
def sp_learn (K : PySem.W.Frag) : Sp := fun us H Q _ => us.length = 3 ∧ ∃ (s wd L SL : Addr) (many n : Nat) (ds : List Dd) (sns : List (List Int)), us = [.ref s, .ref wd, .int n] ∧ Src H s ∧ WAt K H wd L SL many ds sns ∧ n < 4 ∧
  ∀ (H' : Hp) (sns' : List (List Int)), Fr [s, SL] H H' → Src H' s → WAt K H' wd L SL many ds sns' → Q .non H'
theorem ok_learn (T : Tx w K mg e0) : Kn P w K mg base 3 (He.ga K "_law_learn") ["_law_source", "_law_world_here", "_law_hand"] (sp_learn K) := by
  have G_l_take : Kn P w K mg base 1 _ _ _ := ok_take T
  have G_l_one : Kn P w K mg base 2 _ _ _ := ok_one T
  refine T.d_l_learn.kn sc_l_learn (fun _ _ _ _ _ _ us hl => match us, hl with | [_, _, _], _ => rfl) (fun vs H Q E h => h.1) (fun cdv A outer s H vs Q E hr h => ?_)
  have hu := hu65 hr
  obtain ⟨_, s0, wd, L, SL, many, n, ds, sns, rfl, hs, hW, hn4, q⟩ := h
  refine ⟨_, (pss_cons (ps_set (i := 3) sc_l_learn.nd rfl (Or.inr rfl) (pe_fn G_l_take (hr.mono (by first | decide | exact Nat.le_refl _ | exact Nat.le_add_right_of_le (by decide) | omega)) T.g__law_take (pa_cons (pv 0) (pa_cons (pe_ix (ix_any hu) (pv 1) pe_int (fun _ _ => rfl)) pa_nil))))
    (pss_cons (ps_setLc (i := 4) (own := [("_law_deed", 5)]) (g := _) (by rfl) sc_l_learn.nd rfl rfl (sw_true rfl rfl rfl (by decide +kernel)) (pi_list (pe_ix (ix_any hu) (pv 1) pe_int (fun _ _ => rfl))) (blkOk_by (N := n_l_learn) (sc := defScope s_l_learn) (by decide +kernel)) (fun _ _ _ _ _ => (pg_name (i := 5) sc_l_learn.nd rfl (Or.inl rfl))) (fun _ _ _ _ _ => pts_one (pt_cmpR (show OpR _ _ (rEqA K) from (op_eqA hu)) (pe_ix (show IxR _ (rIxA P w K) from (ix_any hu)) (pe_ix (show IxR _ (rIxA P w K) from (ix_any hu)) (pv 5) pe_int (fun _ _ => rfl)) pe_int (fun _ _ => rfl)) (pv 3) (nomark _))) (fun _ _ _ _ _ => (pv 5)))
    (pss_cons (ps_set (i := 6) sc_l_learn.nd rfl (Or.inr rfl) (pe_callTy (cb_list hu) (by rfl) T.b_list (by decide +kernel) (pa_cons (pe_ix (ix_any hu) (pe_ix (ix_any hu) (pv 1) pe_int (fun _ _ => rfl)) (pv 3) (fun _ _ => rfl)) pa_nil)))
    (pss_cons (ps_if (PW.pt (pw_and (pt_cmpR (op_neA hu) (pv 4) (pe_lst pa_nil) (nomark _)) (pw_and1 (pt_cmpR (op_eqA hu) (pe_fn G_l_take (hr.mono (by first | decide | exact Nat.le_refl _ | exact Nat.le_add_right_of_le (by decide) | omega)) T.g__law_take (pa_cons (pv 0) (pa_cons pe_int pa_nil))) pe_int (nomark _))))) (pss_cons (ps_set (i := 5) sc_l_learn.nd rfl (Or.inl rfl) (pe_fn G_l_one (hr.mono (by first | decide | exact Nat.le_refl _ | exact Nat.le_add_right_of_le (by decide) | omega)) T.g__law_one (pa_cons (pv 0) (pa_cons (pv 4) pa_nil))))
    (pss_cons (ps_set (i := 6) sc_l_learn.nd rfl (Or.inr rfl) (pe_callTy (cb_list hu) (by rfl) T.b_list (by decide +kernel) (pa_cons (pe_ix (ix_any hu) (pv 5) pe_int (fun _ _ => rfl)) pa_nil)))
    (pss_one (ps_asg (pe_ix (ix_any hu) (pe_ix (ix_any hu) (pv 5) pe_int (fun _ _ => rfl)) pe_int (fun _ _ => rfl)) (pg_sub (pv 6) (pv 3) (set_any hu)))))) pss_nil)
    (pss_one (ps_asg (pe_lc (own := [("_law_k", 7)]) (by rfl) sc_l_learn.nd (pi_range1 (by rfl) T.b_range (pa_cons pe_int pa_nil)) (blkOk_by (N := n_l_learn) (sc := defScope s_l_learn) (by decide +kernel)) (fun _ _ _ _ _ => (pg_name (i := 7) sc_l_learn.nd rfl (Or.inl rfl))) (fun _ _ _ _ _ => pts_nil) (fun _ _ _ _ _ => (pe_callB (show CallR _ _ (rMaxA K) from (cb_max hu)) (by rfl) T.b_max (by decide +kernel) (pa_cons (pe_callTy (show CallR _ _ rIntA from (cb_int hu)) (by rfl) T.b_int (by decide +kernel) (pa_cons (pe_ix (show IxR _ (rIxA P w K) from (ix_any hu)) (pv 6) (pv 7) (fun _ _ => rfl)) pa_nil)) (pa_cons (pe_callTy (show CallR _ _ rIntA from (cb_int hu)) (by rfl) T.b_int (by decide +kernel) (pa_cons (pe_ix (show IxR _ (rIxA P w K) from (ix_any hu)) (pe_ix (show IxR _ (rIxA P w K) from (ix_any hu)) (pe_ix (show IxR _ (rIxA P w K) from (ix_any hu)) (pv 1) pe_int (fun _ _ => rfl)) (pv 2) (fun _ _ => rfl)) (pv 7) (fun _ _ => rfl)) pa_nil)) pa_nil))))) (pg_sub (pe_ix (ix_any hu) (pv 1) pe_int (fun _ _ => rfl)) (pv 2) (set_any hu)))))))), ?_⟩
  refine ⟨_, rfl, _, rfl, ixL 2 (SqL.of hW.ob) rfl ⟨rfl, s0, many, rfl, hs, hW.mn.1, by have := hW.mn.2; omega, fun o H1 f1 hs1 ho => ?_⟩⟩
  have ho4 : o < 4 := by have := hW.mn.2; omega
  have hW1 := hW.src hs f1
  have g1 : Fr [s0, SL] H H1 := f1.mono (by simp)
  obtain ⟨us, hL, hD⟩ := hW1.ddl
  refine ⟨_, rfl, ixL 0 (SqL.of hW1.ob) rfl ⟨L, rfl, ⟨_, SqL.of hL⟩, fun D hDn => ?_⟩⟩
  refine lc_src (K := K) walk_list (fun _ s => s.seq (SqL.of hL)) ds Dd.d (fun d => if decide (d.st.2 = (o : Int)) = true then some d.d else none) hD.dp hDn (Nat.lt_of_le_of_lt hD.le (by decide)) (fun d hd e h => by
      by_cases c : decide (d.st.2 = (o : Int)) = true
      · rw [if_pos c] at h; cases h; exact imm_dd (hD.ok d hd)
      · rw [if_neg c] at h; cases h) (fun d v2 H4 Q2 R hm s4 hv q1 q2 => ?_) (fun H2 ws s2 hD2 hws => ?_)
  · refine ⟨rfl, _, rfl, ixD (d := sD d.st) 0 hv fun v5 h5 => ixD (d := .int d.st.2) 1 h5 fun v6 h6 => ?_⟩
    obtain rfl := dp_int h6
    refine ⟨_, rfl, eqI ⟨_, rfl, ?_⟩⟩
    cases c : decide (d.st.2 = (o : Int)) with
    | true => exact iteT ⟨_, rfl, q1 _ d.d _ (by rw [c]; rfl) hv (Same.refl _)⟩
    | false => exact iteF (q2 _ (by rw [c]; rfl) (Same.refl _))
  rw [filterMap_if] at hws
  have hsm : ∀ d ∈ ds.filter (fun d => decide (d.st.2 = (o : Int))), d ∈ ds ∧ d.st.2 = o := fun d hd => by
    obtain ⟨h1, h2⟩ := List.mem_filter.mp hd
    exact ⟨h1, of_decide_eq_true h2⟩
  have S2 : DdL K H2 D ws (ds.filter fun d => decide (d.st.2 = (o : Int))) := ⟨SqL.of hD2, hws, fun d hd => hD.ok d (hsm d hd).1, Nat.le_trans (List.length_filter_le _ _) hD.le⟩
  generalize (ds.filter fun d => decide (d.st.2 = (o : Int))) = sm at S2 hsm hws
  have hW2 := hW1.same s2
  have hs2 := hs1.same s2
  have g2 := g1.trans (Same.fr s2)
  have hDs : D ≠ s0 := new_ne hs1 hDn
  clear hws hD hL s2 hW1 hs1 g1 f1
  -- seen
  have hol : o < sns.length := by rw [hW.inv.len]; exact ho4
  have hlo : sns[o]? = some sns[o] := List.getElem?_eq_getElem hol
  obtain ⟨rs, r, r1, r2, r3, r4, _⟩ := hW2.row hlo
  have hSo := hW.inv.seen _ (List.mem_of_getElem? hlo)
  refine ⟨_, rfl, ixL 1 (SqL.of hW2.ob) rfl ⟨_, rfl, ixL o (SqL.of r1) (by rw [List.getElem?_map, r2]; rfl) (.inl ⟨r, _, rfl, .inl (SqL.of r4), fun q0 hq0 => ?_⟩)⟩⟩
  have s3 := same_new (o := .lst (sns[o].map V.int)) hq0
  have hq3 : (upd H2 q0 (.lst (sns[o].map V.int))) q0 = some (.lst (sns[o].map V.int)) := upd_same
  have S3 := S2.same s3
  have hW3 := hW2.same s3
  have hs3 := hs2.same s3
  have g3 := g2.trans (Same.fr s3)
  have hqs : q0 ≠ s0 := new_ne hs2 hq0
  clear S2 hW2 hs2 g2 r1 r2 r3 r4 s3 hq0
  dsimp only [gName]
  revert hq3 S3 hW3 hs3 g3
  generalize upd H2 q0 (.lst (sns[o].map V.int)) = H3
  intro hq3 S3 hW3 hs3 g3
  let Good : L2.St → Hp → Prop := fun σ' H' => ∃ (o5 o7 : Option V) (q1 : Addr) (x : List Int), σ' = [some (.ref s0), some (.ref wd), some (.int n), some (.int o), some (.ref D), o5, some (.ref q1), o7] ∧ Fr [s0, SL] H H' ∧ Src H' s0 ∧ WAt K H' wd L SL many ds sns ∧ H' q1 = some (.lst (x.map .int)) ∧ SeenS ds x
  refine seq_any Good (fun C hC => ?_) (fun σ4 H4 hg => ?_)
  · have same : ∀ {H4 : Hp}, Fr [s0] H3 H4 → Src H4 s0 → Good [some (.ref s0), some (.ref wd), some (.int n), some (.int o), some (.ref D), none, some (.ref q0), none] H4 := fun {H4} f4 hs4 =>
      ⟨none, none, q0, sns[o], rfl, g3.trans (f4.mono (by simp)), hs4, hW3.src hs3 f4, f4.get hq3 (by simpa using hqs), hSo⟩
    refine ⟨_, rfl, szL, fun e he => ?_⟩
    have s4 := same_new (o := .lst []) he
    have S4 := S3.same s4
    refine neNil S4.sq S4.dp upd_same (shaped_dds S4.ok) ⟨_, rfl, ?_⟩
    cases hsm0 : sm with
    | nil => exact iteF (iteF (hC _ _ (same (Same.fr s4) (hs3.same s4))))
    | cons m0 mr =>
    rw [← hsm0]
    show (if (!(sm.map Dd.d).isEmpty) = true then _ else _)
    have hne : (sm.map Dd.d).isEmpty = false := by rw [hsm0]; rfl
    rw [hne]
    refine iteT ⟨_, rfl, rfl, s0, 3, rfl, hs3.same s4, by decide, by decide, fun k H5 f5 hs5 hk => eqI ⟨_, rfl, ite2 (fun _ => ?_) (fun _ => ?_)⟩⟩
    · have f35 : Fr [s0] H3 H5 := (Same.fr s4).trans f5
      have S5 := S3.src hs3 hDs f35
      refine ⟨_, rfl, _, rfl, one_dp hs5 S5.sq S5.dp (imm_dds S5.ok) (fun z => by rw [z] at hne; cases hne) (by rw [List.length_map]; have := S5.le; omega) hDs fun x d H6 f6 hs6 t6 hd hx => ?_⟩
      obtain ⟨dd, hdd, rfl⟩ := List.mem_map.mp hd
      obtain ⟨hdm, hdo⟩ := hsm dd hdd
      have ddok := hW.inv.bk.ok dd hdm
      refine ⟨_, rfl, ixD (d := .tuple (dd.seen.map .int)) 1 hx fun v h1 => ?_⟩
      cases h1 with
      | @tup pa ys _ hp hus =>
      obtain rfl := dpa_ints hus
      refine .inl ⟨pa, _, rfl, .inr hp, fun q5 hq5 => ?_⟩
      have s7 := same_new (o := .lst (dd.seen.map V.int)) hq5
      have hq7 : (upd H6 q5 (.lst (dd.seen.map V.int))) q5 = some (.lst (dd.seen.map V.int)) := upd_same
      refine ⟨_, rfl, ixD (d := sD dd.st) 0 (dp_same s7 hx) fun v2 h2 => ixD (d := .int dd.st.1) 0 h2 fun v3 h3 => ?_⟩
      obtain rfl := dp_int h3
      refine ⟨_, rfl, _, rfl, setLr o hq7 (by rw [List.length_map, ddok.len]; exact ho4) ?_⟩
      rw [SeenS.set ddok.len ho4]
      have f6' : Fr [s0] H3 (upd H6 q5 (.lst (dd.seen.map V.int))) := (f35.trans f6).trans (Same.fr s7)
      have hq3n : H q5 = none := by
        have : Fr [s0, SL] H H6 := g3.trans ((f35.trans f6).mono (by simp))
        have n1 : q5 ≠ s0 := new_ne hs6 hq5
        have n2 : q5 ≠ SL := fun z => by
          obtain ⟨rs', z1, _⟩ := (hW3.src hs3 (f35.trans f6)).sl
          rw [← z, hq5] at z1
          cases z1
        exact fr_none this (by simp [n1, n2]) hq5
      have hq6n : H6 q5 = none := hq5
      have s8 : Same H6 (upd (upd H6 q5 (.lst (dd.seen.map V.int))) q5 (.lst ((upS dd.seen o dd.st.1).map V.int))) := by
        rw [upd_upd]
        exact same_new hq5
      exact hC _ _ ⟨_, _, q5, upS dd.seen o dd.st.1, rfl, g3.trans (((f35.trans f6).mono (by simp)).trans (Same.fr s8)), hs6.same s8, (hW3.src hs3 (f35.trans f6)).same s8, upd_same, hW.inv.bk.seen_deed hdm hdo⟩
    · exact hC _ _ (same ((Same.fr s4).trans f5) hs5)
  obtain ⟨o5, o7, q1, x, rfl, g4, hs4, hW4, hq1, hx⟩ := hg
  clear Good
  have hnl : n < sns.length := by rw [hW.inv.len]; exact hn4
  have hln : sns[n]? = some sns[n] := List.getElem?_eq_getElem hnl
  have hSn := hW.inv.seen _ (List.mem_of_getElem? hln)
  obtain ⟨rs, r, r1, r2, r3, r4, _⟩ := hW4.row hln
  refine ⟨4, rfl, by decide, by decide, fun D8 hD8 => ?_⟩
  refine lc_dp (K := K) (J := Itr 0 4) walk_range hD8 (fun i => some (.int (max (x.getD i 0) (sns[n].getD i 0)))) (by decide) (fun i d _ e => by cases e; rfl) (fun _ _ => trivial) (fun i y H2 H3 Q2 R hi s2 yy q1' q2' => ?_) (fun H8 ws s8 hD9 hws => ?_)
  · obtain ⟨rfl, rfl⟩ := yy
    refine ⟨rfl, iteT (B := R H3) ⟨_, rfl, _, rfl, ixL i (SqL.of (s2 _ _ hq1)) (get4 hx.len hi) (.inl ⟨_, rfl, ?_⟩) (by omega)⟩⟩
    refine ⟨_, rfl, ixL 1 (SqL.of (s2 _ _ hW4.ob)) rfl ⟨_, rfl, ixL n (SqL.of (s2 _ _ r1)) (by rw [List.getElem?_map, r2]; rfl) ⟨_, rfl, ixL i (SqL.of (s2 _ _ r4)) (get4 hSn.len hi) (.inl ⟨_, rfl, .inl ⟨_, _, rfl, q1' _ _ _ rfl ?_ (Same.refl _)⟩⟩) (by omega)⟩⟩⟩
    have e : (if sns[n].getD i 0 > x.getD i 0 then sns[n].getD i 0 else x.getD i 0) = max (x.getD i 0) (sns[n].getD i 0) := by
      by_cases c : sns[n].getD i 0 > x.getD i 0
      · rw [if_pos c]; omega
      · rw [if_neg c]; omega
    rw [e]
    exact .int _
  have hws : DpAll K H8 ws ((joinS x sns[n]).map .int) := hws
  obtain rfl := dpa_ints hws
  have hW8 := hW4.same s8
  have r18 := s8 _ _ r1
  refine ⟨_, rfl, ixL 1 (SqL.of hW8.ob) rfl ⟨_, rfl, setLr n r18 (by rw [List.length_map]; omega) ?_⟩⟩
  have hD8S : D8 ≠ SL := fun z => by rw [z, r1] at hD8; cases hD8
  obtain ⟨_, _, nS⟩ := hW8.ns (hs4.same s8)
  refine q _ _ ((g4.trans (Same.fr s8)).at (by simp)) ?_ (hW8.setRow hln r18 hD9 hD8S (hW.inv.learn hln hx))
  obtain ⟨a, b', e, e2⟩ := hs4.same s8
  exact ⟨a, b', by rw [upd_ne (Ne.symm nS)]; exact e, e2⟩
def sp_step (K : PySem.W.Frag) : Sp := fun us H Q _ => us.length = 2 ∧ ∃ (s wd L SL : Addr) (many : Nat) (ds : List Dd) (sns : List (List Int)), us = [.ref s, .ref wd] ∧ Src H s ∧ WAt K H wd L SL many ds sns ∧ ds.length ≤ 11 ∧
  ∀ (v : V) (H' : Hp) (ds' : List Dd) (sns' : List (List Int)), Fr [s, L, SL] H H' → Src H' s → WAt K H' wd L SL many ds' sns' → ds'.length = ds.length + 1 → Q v H'
theorem ok_step (T : Tx w K mg e0) : Kn P w K mg base 6 (He.ga K "_law_step") ["_law_source", "_law_world_here"] (sp_step K) := by
  have G_l_take : Kn P w K mg base 1 _ _ _ := ok_take T
  have G_l_learn : Kn P w K mg base 3 _ _ _ := ok_learn T
  have G_l_seen_deeds : Kn P w K mg base 1 _ _ _ := ok_seen_deeds T
  have G_l_body : Kn P w K mg base 5 _ _ _ := ok_body T
  have G_l_do : Kn P w K mg base 3 _ _ _ := ok_do T
  refine T.d_l_step.kn sc_l_step (fun _ _ _ _ _ _ us hl => match us, hl with | [_, _], _ => rfl) (fun vs H Q E h => h.1) (fun cdv A outer s H vs Q E hr h => ?_)
  have hu := hu65 hr
  obtain ⟨_, s0, wd, L, SL, many, ds, sns, rfl, hs, hW, hN, q⟩ := h
  refine ⟨_, (pss_cons (ps_set (i := 2) sc_l_step.nd rfl (Or.inl rfl) (pe_fn G_l_take (hr.mono (by first | decide | exact Nat.le_refl _ | exact Nat.le_add_right_of_le (by decide) | omega)) T.g__law_take (pa_cons (pv 0) (pa_cons (pe_ix (ix_any hu) (pv 1) pe_int (fun _ _ => rfl)) pa_nil))))
    (pss_cons (ps_if (pt_cmpR (op_eqA hu) (pe_fn G_l_take (hr.mono (by first | decide | exact Nat.le_refl _ | exact Nat.le_add_right_of_le (by decide) | omega)) T.g__law_take (pa_cons (pv 0) (pa_cons pe_int pa_nil))) pe_int (nomark _)) (pss_one (ps_expr (pe_fn G_l_learn (hr.mono (by first | decide | exact Nat.le_refl _ | exact Nat.le_add_right_of_le (by decide) | omega)) T.g__law_learn (pa_cons (pv 0) (pa_cons (pv 1) (pa_cons (pv 2) pa_nil)))))) pss_nil)
    (pss_one (ps_ret (pe_fn G_l_do (hr.mono (by first | decide | exact Nat.le_refl _ | exact Nat.le_add_right_of_le (by decide) | omega)) T.g__law_do (pa_cons (pv 0) (pa_cons (pv 1) (pa_cons (pv 2) (pa_cons (pe_fn G_l_body (hr.mono (by first | decide | exact Nat.le_refl _ | exact Nat.le_add_right_of_le (by decide) | omega)) T.g__law_body (pa_cons (pv 0) (pa_cons (pe_fn G_l_seen_deeds (hr.mono (by first | decide | exact Nat.le_refl _ | exact Nat.le_add_right_of_le (by decide) | omega)) T.g__law_seen_deeds (pa_cons (pv 1) (pa_cons (pv 2) pa_nil))) pa_nil))) pa_nil))))))))), ?_⟩
  refine ⟨_, rfl, _, rfl, ixL 2 (SqL.of hW.ob) rfl ⟨rfl, s0, many, rfl, hs, hW.mn.1, by have := hW.mn.2; omega, fun n H1 f1 hs1 hn => ?_⟩⟩
  have hn4 : n < 4 := by have := hW.mn.2; omega
  have hW1 := hW.src hs f1
  dsimp only [gName]
  let Good : L2.St → Hp → Prop := fun σ' H' => ∃ sns' : List (List Int), σ' = [some (.ref s0), some (.ref wd), some (.int n)] ∧ Fr [s0, L, SL] H H' ∧ Src H' s0 ∧ WAt K H' wd L SL many ds sns'
  refine seq_any Good (fun C hC => ?_) (fun σ4 H4 hg => ?_)
  · refine ⟨_, rfl, rfl, s0, 2, rfl, hs1, by decide, by decide, fun k H2 f2 hs2 hk => eqI ⟨_, rfl, ite2 (fun _ => ?_) (fun _ => ?_)⟩⟩
    · refine ⟨_, rfl, _, rfl, _, rfl, rfl, s0, wd, L, SL, many, n, ds, sns, rfl, hs2, hW1.src hs1 f2, hn4, fun H3 sns' f3 hs3 hW3 => hC _ _ ⟨sns', rfl, (f1.mono (by simp)).trans ((f2.mono (by simp)).trans (f3.mono (by simp))), hs3, hW3⟩⟩
      all_goals simp
    · exact hC _ _ ⟨sns, rfl, (f1.trans f2).mono (by simp), hs2, hW1.src hs1 f2⟩
  obtain ⟨sns', rfl, g4, hs4, hW4⟩ := hg
  have hnl : n < sns'.length := by rw [hW4.inv.len]; exact hn4
  have hln : sns'[n]? = some sns'[n] := List.getElem?_eq_getElem hnl
  generalize sns'[n] = l at hln
  refine ⟨_, rfl, _, rfl, _, rfl, _, rfl, _, rfl, _, rfl, rfl, wd, L, SL, many, n, ds, sns', l, rfl, hW4, hln, fun p us H5 s5 hp hD5 => ?_⟩
  refine ⟨rfl, s0, p, us, _, rfl, hs4.same s5, hD5, new_ne hs4 hp, fun v b H6 f6 hs6 hv hb hnm => ?_⟩
  have hW6 := (hW4.same s5).src (hs4.same s5) f6
  refine ⟨rfl, s0, wd, L, SL, many, n, ds, sns', l, v, b, rfl, hs6, hW6, hln, hv, hb, hN, fun k hk hk0 => ?_, fun v2 t H7 f7 hs7 hW7 _ => ?_⟩
  · rcases hnm k hk with h | h
    · exact absurd h hk0
    · obtain ⟨d, hd, rfl⟩ := List.mem_map.mp h
      obtain ⟨hd1, hd2⟩ := List.mem_filter.mp hd
      exact ⟨List.mem_map_of_mem hd1, of_decide_eq_true hd2⟩
  · exact q v2 H7 _ _ (g4.trans ((Same.fr s5).trans ((f6.mono (by simp)).trans f7))) hs7 hW7 (by simp)
end Ss
/-! Walks: worlds, 3. -/
namespace Ss
open PySem PySem.Spec PyProof.Rows L2
variable {P : Program} {w : World} {K : PySem.W.Frag} {mg : Str → Option Value} {base : Heap} {e0 : Addr}
theorem fr3 {s L SL : Addr} {H H' : Hp} (h : Fr [s, L, SL] H H') (hL : H L = none) (hS : H SL = none) : Fr [s] H H' := by
  have h1 : Fr (L :: [s, SL]) H H' := h.mono (by
    intro a ha
    simp only [List.mem_cons, List.not_mem_nil, or_false] at ha ⊢
    rcases ha with h | h | h
    · exact .inr (.inl h)
    · exact .inl h
    · exact .inr (.inr h))
  have h2 : Fr (SL :: [s]) H H' := (h1.drop hL).mono (by
    intro a ha
    simp only [List.mem_cons, List.not_mem_nil, or_false] at ha ⊢
    exact ha.symm)
  exact h2.drop hS
def spWorld (len : Nat) (R : List V → Hp → Addr → Prop) : Sp := fun us H Q _ => us.length = len ∧ ∃ s : Addr, Src H s ∧ R us H s ∧ ∀ (wd L SL : Addr) (many : Nat) (ds : List Dd) (sns : List (List Int)) (H' : Hp), Fr [s] H H' → Src H' s → H L = none → WAt K H' wd L SL many ds sns → ds.length ≤ 11 → Q (.ref wd) H'
def sp_drawn (K : PySem.W.Frag) : Sp := spWorld (K := K) 3 fun us H s => ∃ most : Nat, us = [.ref s, .int most, .int 3] ∧ most ≤ 9
theorem ok_drawn (T : Tx w K mg e0) : Kn P w K mg base 7 (He.ga K "_law_drawn") ["_law_source", "_law_most", "_law_many"] (sp_drawn K) := by
  have G_l_take : Kn P w K mg base 1 _ _ _ := ok_take T
  have G_l_world : Kn P w K mg base 1 _ _ _ := ok_world T
  have G_l_do : Kn P w K mg base 3 _ _ _ := ok_do T
  have G_l_step : Kn P w K mg base 6 _ _ _ := ok_step T
  refine T.d_l_drawn.kn sc_l_drawn (fun _ _ _ _ _ _ us hl => match us, hl with | [_, _, _], _ => rfl) (fun vs H Q E h => h.1) (fun cdv A outer s H vs Q E hr h => ?_)
  have hu := hu65 hr
  obtain ⟨_, s0, hs, ⟨most, rfl, hmost⟩, q⟩ := h
  refine ⟨_, (pss_cons (ps_set (i := 3) sc_l_drawn.nd rfl (Or.inl rfl) (pe_fn G_l_world (hr.mono (by first | decide | exact Nat.le_refl _ | exact Nat.le_add_right_of_le (by decide) | omega)) T.g__law_world (pa_cons (pe_op op_addA pe_int (pe_fn G_l_take (hr.mono (by first | decide | exact Nat.le_refl _ | exact Nat.le_add_right_of_le (by decide) | omega)) T.g__law_take (pa_cons (pv 0) (pa_cons (pv 2) pa_nil)))) pa_nil)))
    (pss_cons (ps_if (pt_cmpR op_gt (pe_fn G_l_take (hr.mono (by first | decide | exact Nat.le_refl _ | exact Nat.le_add_right_of_le (by decide) | omega)) T.g__law_take (pa_cons (pv 0) (pa_cons pe_int pa_nil))) pe_int (nomark _)) (pss_cons (ps_set (i := 4) sc_l_drawn.nd rfl (Or.inl rfl) (pe_fn G_l_do (hr.mono (by first | decide | exact Nat.le_refl _ | exact Nat.le_add_right_of_le (by decide) | omega)) T.g__law_do (pa_cons (pv 0) (pa_cons (pv 3) (pa_cons pe_int (pa_cons (pe_tup (pa_cons pe_str (pa_cons pe_str (pa_cons (pe_tup (pa_cons pe_int (pa_cons pe_int pa_nil))) (pa_cons pe_int (pa_cons pe_str pa_nil)))))) pa_nil))))))
    (pss_cons (ps_expr (pe_fn G_l_do (hr.mono (by first | decide | exact Nat.le_refl _ | exact Nat.le_add_right_of_le (by decide) | omega)) T.g__law_do (pa_cons (pv 0) (pa_cons (pv 3) (pa_cons pe_int (pa_cons (pe_tup (pa_cons pe_str (pa_cons pe_str (pa_cons (pe_tup (pa_cons pe_int (pa_cons pe_int pa_nil))) (pa_cons pe_int (pa_cons (pv 4) pa_nil)))))) pa_nil))))))
    (pss_one (ps_for PassesOwn.never rfl (pi_range1 (by rfl) T.b_range (pa_cons (pe_ix (ix_any hu) (pv 3) pe_int (fun _ _ => rfl)) pa_nil)) (pg_name (i := 5) sc_l_drawn.nd rfl (Or.inl rfl)) (pss_one (ps_asg (pe_callTy (cb_list hu) (by rfl) T.b_list (by decide +kernel) (pa_cons (pe_ix (ix_any hu) (pe_ix (ix_any hu) (pv 3) pe_int (fun _ _ => rfl)) pe_int (fun _ _ => rfl)) pa_nil)) (pg_sub (pe_ix (ix_any hu) (pv 3) pe_int (fun _ _ => rfl)) (pv 5) (set_any hu)))))))) pss_nil)
    (pss_cons (ps_for PassesOwn.never rfl (pi_range1 (by rfl) T.b_range (pa_cons (pe_fn G_l_take (hr.mono (by first | decide | exact Nat.le_refl _ | exact Nat.le_add_right_of_le (by decide) | omega)) T.g__law_take (pa_cons (pv 0) (pa_cons (pe_op op_addA (pv 1) pe_int) pa_nil))) pa_nil)) (pg_name (i := 6) sc_l_drawn.nd rfl (Or.inl rfl)) (pss_one (ps_expr (pe_fn G_l_step (hr.mono (by first | decide | exact Nat.le_refl _ | exact Nat.le_add_right_of_le (by decide) | omega)) T.g__law_step (pa_cons (pv 0) (pa_cons (pv 3) pa_nil))))))
    (pss_one (ps_ret (pv 3)))))), ?_⟩
  refine ⟨_, rfl, _, rfl, rfl, s0, 3, rfl, hs, by decide, by decide, fun k H1 f1 hs1 hk => addI ?_⟩
  refine ⟨rfl, 1 + k, by simp, by omega, by omega, fun wd L SL H2 s2 hwd2 hL2 hS2 hW2 => ?_⟩
  have hs2 := hs1.same s2
  have g2 := f1.trans (Same.fr s2)
  have hLH := fr_none f1 (by simpa using new_ne hs1 hL2) hL2
  have hSH := fr_none f1 (by simpa using new_ne hs1 hS2) hS2
  clear hwd2 hL2 hS2 s2 f1 hs1
  dsimp only [gName]
  let Good : L2.St → Hp → Prop := fun σ' H' => ∃ (o4 o5 : Option V) (ds : List Dd) (sns : List (List Int)), σ' = [some (.ref s0), some (.int most), some (.int 3), some (.ref wd), o4, o5, none] ∧ Fr [s0, L, SL] H2 H' ∧ Src H' s0 ∧ WAt K H' wd L SL (1 + k) ds sns ∧ ds.length ≤ 2
  refine seq_any Good (fun C hC => ?_) (fun σ4 H4 hg => ?_)
  · refine ⟨_, rfl, rfl, s0, 3, rfl, hs2, by decide, by decide, fun j H3 f3 hs3 _ => ⟨_, _, rfl, rfl, _, rfl, ite2 (fun _ => ?_) (fun _ => ?_)⟩⟩
    · have hW3 := hW2.src hs2 f3
      refine ⟨_, rfl, _, rfl, szL, fun rt hrt => ⟨szL, fun bq hbq => ?_⟩⟩
      have s4 := (same_new (o := .tup [V.int 0, .int 0]) hrt).trans (same_new (o := .tup [V.str "make", .str "let", .ref rt, .int 1, .str "x"]) hbq)
      have hb4 : Dp K (upd (upd H3 rt (.tup [V.int 0, .int 0])) bq (.tup [V.str "make", .str "let", .ref rt, .int 1, .str "x"])) (.ref bq) (Bd.make .lt ROOT 1 (.str "x")).d := .tup (SqT.of upd_same) (.cons (.str _) (.cons (.str _) (.cons (rootT ((same_new hbq) _ _ upd_same)) (.cons (.int _) (.cons (.str _) .nil)))))
      refine ⟨rfl, s0, wd, L, SL, 1 + k, 0, [], [row0, row0, row0, row0], row0, .ref bq, .make .lt ROOT 1 (.str "x"), rfl, hs3.same s4, hW3.same s4, rfl, hb4, ⟨.inr rfl, by constructor <;> decide, "x", rfl, name_ok (.inl rfl)⟩, by decide, fun n hn hn0 => ?_, fun v t H5 f5 hs5 hW5 hv => ?_⟩
      · have : some n = some ROOT ∨ some n = none := by simpa [Bd.names] using hn
        rcases this with e | e
        · cases e; exact absurd rfl hn0
        · cases e
      have g5 : Fr [s0, L, SL] H2 H5 := (f3.mono (by simp)).trans ((Same.fr s4).trans f5)
      clear f5 s4 hb4 hbq hrt hW3 f3 hs3
      refine ⟨_, rfl, _, rfl, szL, fun rt hrt => ⟨_, rfl, szL, fun bq hbq => ?_⟩⟩
      have s6 := (same_new (o := .tup [V.int 0, .int 0]) hrt).trans (same_new (o := .tup [V.str "make", .str "use", .ref rt, .int 5, v]) hbq)
      have hb6 : Dp K (upd (upd H5 rt (.tup [V.int 0, .int 0])) bq (.tup [V.str "make", .str "use", .ref rt, .int 5, v])) (.ref bq) (Bd.make .use ROOT 5 (bD (some (t, 0)))).d := .tup (SqT.of upd_same) (.cons (.str _) (.cons (.str _) (.cons (rootT ((same_new hbq) _ _ upd_same)) (.cons (.int _) (.cons (dp_same s6 hv) .nil)))))
      have hok1 := hW5.inv.bk.ok ⟨(t, 0), row0, .make .lt ROOT 1 (.str "x")⟩ (by simp)
      have hok1 : okSt (t, 0) := hok1.st
      refine ⟨rfl, s0, wd, L, SL, 1 + k, 0, _, _, upS row0 0 t, .ref bq, .make .use ROOT 5 (bD (some (t, 0))), rfl, hs5.same s6, hW5.same s6, rfl, hb6, ⟨.inr rfl, by constructor <;> decide, some (t, 0), rfl, fun k e => by cases e; exact .inl hok1⟩, by simp, fun n hn hn0 => ?_, fun v2 t2 H7 f7 hs7 hW7 hv2 => ?_⟩
      · have : some n = some ROOT ∨ some n = unB (bD (some (t, 0))) := by simpa [Bd.names] using hn
        rcases this with e | e
        · cases e; exact absurd rfl hn0
        · rw [unB_bD] at e
          cases e
          exact ⟨by simp, Int.le_refl _⟩
      have g7 : Fr [s0, L, SL] H2 H7 := g5.trans ((Same.fr s6).trans f7)
      clear f7 s6 hb6 hbq hrt g5
      refine ⟨_, rfl, ixL 2 (SqL.of hW7.ob) rfl ⟨_, rfl, by omega, by omega, ?_⟩⟩
      generalize hds : ([] ++ [Dd.mk (t, ((0 : Nat) : Int)) row0 (.make .lt ROOT 1 (.str "x"))] ++ [Dd.mk (t2, ((0 : Nat) : Int)) (upS row0 0 t) (.make .use ROOT 5 (bD (some (t, 0))))]) = ds at hW7
      have hd0 : ∀ d ∈ ds, d.st.2 = 0 := by
        rw [← hds]
        simp
      have hdl : ds.length ≤ 2 := by rw [← hds]; simp
      clear hds
      obtain ⟨l0, hl0⟩ : ∃ l0, (([row0, row0, row0, row0].set 0 (upS row0 0 t)).set 0 (upS (upS row0 0 t) 0 t2))[0]? = some l0 := ⟨_, rfl⟩
      generalize (([row0, row0, row0, row0].set 0 (upS row0 0 t)).set 0 (upS (upS row0 0 t) 0 t2)) = sns at hW7 hl0
      refine for_it (n := 1 + k) walk_range (fun i σ Hi => (∃ o5, σ = [some (.ref s0), some (.int most), some (.int 3), some (.ref wd), some v, o5, none]) ∧ Fr [s0, L, SL] H2 Hi ∧ Src Hi s0 ∧ ∃ sns, sns[0]? = some l0 ∧ WAt K Hi wd L SL (1 + k) ds sns) ⟨⟨_, rfl⟩, g7, hs7, sns, hl0, hW7⟩ (fun _ _ _ _ _ => trivial) (fun i x σ Hi H8 hi pp yy => ?_) (fun σ Hi pp => ?_)
      · obtain ⟨⟨o5, rfl⟩, gi, hsi, sns, hl, hWi⟩ := pp
        obtain ⟨rfl, rfl⟩ := yy
        obtain ⟨rs, r, r1, r2, r3, r4, _⟩ := hWi.row hl
        refine ⟨_, rfl, ixL 1 (SqL.of hWi.ob) rfl (ixL 0 (SqL.of r1) (by rw [List.getElem?_map, r2]; rfl) (.inl ⟨r, _, rfl, .inl (SqL.of r4), fun q0 hq0 => ?_⟩))⟩
        have s8 := same_new (o := .lst (l0.map V.int)) hq0
        have hW8 := hWi.same s8
        have r18 := s8 _ _ r1
        have hq8 : (upd H8 q0 (.lst (l0.map V.int))) q0 = some (.lst (l0.map V.int)) := upd_same
        have hqS : q0 ≠ SL := fun z => by rw [z, r1] at hq0; cases hq0
        have hi4 : i < sns.length := by rw [hWi.inv.len]; omega
        obtain ⟨_, _, nS⟩ := hW8.ns (hsi.same s8)
        refine ⟨_, rfl, ixL 1 (SqL.of hW8.ob) rfl ⟨_, rfl, setLr i r18 (by rw [List.length_map]; omega) ⟨⟨_, rfl⟩, (gi.trans (Same.fr s8)).at (by simp), ?_, sns.set i l0, ?_, hW8.setRow (List.getElem?_eq_getElem hi4) r18 hq8 hqS (hWi.inv.share hd0 hl)⟩ (by omega)⟩⟩
        · obtain ⟨a, b', e, e2⟩ := hsi.same s8
          exact ⟨a, b', by rw [upd_ne (Ne.symm nS)]; exact e, e2⟩
        · by_cases e : i = 0
          · subst e
            rw [List.getElem?_set_self (by omega)]
          · rw [List.getElem?_set_ne e]
            exact hl
      · obtain ⟨⟨o5, rfl⟩, gi, hsi, sns, hl, hWi⟩ := pp
        exact hC _ _ ⟨_, _, ds, sns, rfl, gi, hsi, hWi, hdl⟩
    · exact hC _ _ ⟨_, _, [], _, rfl, f3.mono (by simp), hs3, hW2.src hs2 f3, by simp⟩
  obtain ⟨o4, o5, ds, sns, rfl, g4, hs4, hW4, hdl⟩ := hg
  refine ⟨_, rfl, _, rfl, addI ?_⟩
  refine ⟨rfl, s0, most + 1, by simp, hs4, by omega, by omega, fun j H5 f5 hs5 hj => ⟨_, rfl, by omega, by omega, ?_⟩⟩
  have g5 : Fr [s0, L, SL] H2 H5 := g4.trans (f5.mono (by simp))
  have hW5 := hW4.src hs4 f5
  refine for_it (n := j) walk_range (fun i σ Hi => (∃ o6, σ = [some (.ref s0), some (.int most), some (.int 3), some (.ref wd), o4, o5, o6]) ∧ Fr [s0, L, SL] H2 Hi ∧ Src Hi s0 ∧ ∃ ds sns, WAt K Hi wd L SL (1 + k) ds sns ∧ ds.length ≤ 2 + i) ⟨⟨_, rfl⟩, g5, hs5, ds, sns, hW5, hdl⟩ (fun _ _ _ _ _ => trivial) (fun i x σ Hi H8 hi pp yy => ?_) (fun σ Hi pp => ?_)
  · obtain ⟨⟨o6, rfl⟩, gi, hsi, ds, sns, hWi, hdi⟩ := pp
    obtain ⟨rfl, rfl⟩ := yy
    exact ⟨_, rfl, _, rfl, rfl, s0, wd, L, SL, 1 + k, ds, sns, rfl, hsi, hWi, by omega, fun v H9 ds' sns' f9 hs9 hW9 hl9 => ⟨⟨_, rfl⟩, gi.trans f9, hs9, ds', sns', hW9, by omega⟩⟩
  · obtain ⟨⟨o6, rfl⟩, gi, hsi, ds, sns, hWi, hdi⟩ := pp
    exact ⟨_, rfl, q wd L SL _ ds sns Hi (fr3 ((g2.mono (by simp)).trans gi) hLH hSH) hsi hLH hWi (by omega)⟩
def sp_program (K : PySem.W.Frag) : Sp := spWorld (K := K) 2 fun us H s => us = [.ref s, .int 11]
theorem ok_program (T : Tx w K mg e0) : Kn P w K mg base 5 (He.ga K "_law_program") ["_law_source", "_law_most"] (sp_program K) := by
  have G_l_take : Kn P w K mg base 1 _ _ _ := ok_take T
  have G_l_one : Kn P w K mg base 2 _ _ _ := ok_one T
  have G_l_world : Kn P w K mg base 1 _ _ _ := ok_world T
  have G_l_made_body : Kn P w K mg base 4 _ _ _ := ok_made_body T
  have G_l_do : Kn P w K mg base 3 _ _ _ := ok_do T
  refine T.d_l_program.kn sc_l_program (fun _ _ _ _ _ _ us hl => match us, hl with | [_, _], _ => rfl) (fun vs H Q E h => h.1) (fun cdv A outer s H vs Q E hr h => ?_)
  have hu := hu65 hr
  obtain ⟨_, s0, hs, rfl, q⟩ := h
  refine ⟨_, (pss_cons (ps_set (i := 2) sc_l_program.nd rfl (Or.inl rfl) (pe_fn G_l_world (hr.mono (by first | decide | exact Nat.le_refl _ | exact Nat.le_add_right_of_le (by decide) | omega)) T.g__law_world (pa_cons pe_int pa_nil)))
    (pss_cons (ps_for PassesOwn.never rfl (pi_range1 (by rfl) T.b_range (pa_cons (pe_fn G_l_take (hr.mono (by first | decide | exact Nat.le_refl _ | exact Nat.le_add_right_of_le (by decide) | omega)) T.g__law_take (pa_cons (pv 0) (pa_cons (pe_op op_addA (pv 1) pe_int) pa_nil))) pa_nil)) (pg_name (i := 3) sc_l_program.nd rfl (Or.inl rfl)) (pss_cons (ps_set (i := 4) sc_l_program.nd rfl (Or.inl rfl) (pe_callTy (cb_list hu) (by rfl) T.b_list (by decide +kernel) (pa_cons (pe_ix (ix_any hu) (pv 2) pe_int (fun _ _ => rfl)) pa_nil)))
    (pss_cons (ps_set (i := 5) sc_l_program.nd rfl (Or.inr rfl) (pe_fn G_l_made_body (hr.mono (by first | decide | exact Nat.le_refl _ | exact Nat.le_add_right_of_le (by decide) | omega)) T.g__law_made_body (pa_cons (pv 0) (pa_cons (pv 4) pa_nil))))
    (pss_cons (ps_setLc (i := 6) (own := [("_law_deed", 7)]) (g := _) (by rfl) sc_l_program.nd rfl rfl (sw_true rfl rfl rfl (by decide +kernel)) (pi_list (pv 4)) (blkOk_by (N := n_l_program) (sc := defScope s_l_program) (by decide +kernel)) (fun _ _ _ _ _ => (pg_name (i := 7) sc_l_program.nd rfl (Or.inl rfl))) (fun _ _ _ _ _ => pts_one (pt_cmpR (show OpR _ _ (rEqA K) from (op_eqA hu)) (pe_slice (show SlR _ (rSlX K) from sl_any) (pe_ix (show IxR _ (rIxA P w K) from (ix_any hu)) (pv 7) pe_int (fun _ _ => rfl)) po_none (po_some pe_int)) (pe_tup (pa_cons pe_str (pa_cons pe_str (pa_cons (pe_ix (show IxR _ (rIxA P w K) from (ix_any hu)) (pv 5) pe_int (fun _ _ => rfl)) pa_nil)))) (nomark _))) (fun _ _ _ _ _ => (pe_ix (show IxR _ (rIxA P w K) from (ix_any hu)) (pv 7) pe_int (fun _ _ => rfl))))
    (pss_cons (ps_if (PW.pt (pw_and (pt_cmpR (op_eqA hu) (pe_ix (ix_any hu) (pv 5) pe_int (fun _ _ => rfl)) pe_str (nomark _)) (pw_and (pt_cmpR (op_neA hu) (pv 6) (pe_lst pa_nil) (nomark _)) (pw_and1 (pt_cmpR op_gt (pe_fn G_l_take (hr.mono (by first | decide | exact Nat.le_refl _ | exact Nat.le_add_right_of_le (by decide) | omega)) T.g__law_take (pa_cons (pv 0) (pa_cons pe_int pa_nil))) pe_int (nomark _)))))) (pss_one (ps_set (i := 5) sc_l_program.nd rfl (Or.inr rfl) (pe_tup (pa_cons pe_str (pa_cons pe_str (pa_cons (pe_ix (ix_any hu) (pv 5) pe_int (fun _ _ => rfl)) (pa_cons pe_int (pa_cons (pe_fn G_l_one (hr.mono (by first | decide | exact Nat.le_refl _ | exact Nat.le_add_right_of_le (by decide) | omega)) T.g__law_one (pa_cons (pv 0) (pa_cons (pv 6) pa_nil))) pa_nil)))))))) pss_nil)
    (pss_one (ps_expr (pe_fn G_l_do (hr.mono (by first | decide | exact Nat.le_refl _ | exact Nat.le_add_right_of_le (by decide) | omega)) T.g__law_do (pa_cons (pv 0) (pa_cons (pv 2) (pa_cons pe_int (pa_cons (pv 5) pa_nil))))))))))))
    (pss_one (ps_ret (pv 2))))), ?_⟩
  refine ⟨rfl, 1, rfl, by decide, by decide, fun wd L SL H2 s2 hwd2 hL2 hS2 hW2 => ?_⟩
  have hs2 := hs.same s2
  have g2 := Same.fr (S := [s0]) s2
  refine ⟨_, rfl, _, rfl, addI ?_⟩
  refine ⟨rfl, s0, 12, rfl, hs2, by decide, by decide, fun j H5 f5 hs5 hj => ⟨_, rfl, by omega, by omega, ?_⟩⟩
  have g5 : Fr [s0, L, SL] H2 H5 := f5.mono (by simp)
  have hW5 := hW2.src hs2 f5
  refine for_it (n := j) walk_range (fun i σ Hi => (∃ o3 o4 o5 o6 o7, σ = [some (.ref s0), some (.int 11), some (.ref wd), o3, o4, o5, o6, o7]) ∧ Fr [s0, L, SL] H2 Hi ∧ Src Hi s0 ∧ ∃ ds sns, WAt K Hi wd L SL 1 ds sns ∧ ds.length ≤ i ∧ ∀ d ∈ ds, d.st.2 = 0) ⟨⟨_, _, _, _, _, rfl⟩, g5, hs5, [], _, hW5, by simp, by simp⟩ (fun _ _ _ _ _ => trivial) (fun i x σ Hi H8 hi pp yy => ?_) (fun σ Hi pp => ?_)
  · obtain ⟨⟨o3, o4, o5, o6, o7, rfl⟩, gi, hsi, ds, sns, hWi, hdi, hd0⟩ := pp
    obtain ⟨rfl, rfl⟩ := yy
    obtain ⟨us, hL, hD⟩ := hWi.ddl
    refine ⟨_, rfl, ixL 0 (SqL.of hWi.ob) rfl (.inl ⟨L, us, rfl, .inl (SqL.of hL), fun p hp => ?_⟩)⟩
    have s9 := same_new (o := .lst us) hp
    have D9 : DdL K (upd H8 p (.lst us)) p us ds := ⟨SqL.of upd_same, dpa_same s9 hD.dp, hD.ok, hD.le⟩
    have hps : p ≠ s0 := new_ne hsi hp
    refine ⟨_, rfl, _, rfl, rfl, s0, p, us, ds, rfl, hsi.same s9, D9, hps, fun v kk u key c H10 f10 hs10 hv hkey hok hnu hnc => ?_⟩
    have D10 := D9.src (hsi.same s9) hps f10
    have hW10 := (hWi.same s9).src (hsi.same s9) f10
    have g10 := gi.trans ((Same.fr s9).trans (f10.mono (S' := [s0, L, SL]) (by simp)))
    clear f10 D9 s9 hp
    refine ⟨_, rfl, p, rfl, ⟨_, D10.sq⟩, fun D hDn => ?_⟩
    let cc : Dd → Bool := fun d => match d.bd.d with | .tuple es => PyData.eqv (.tuple (es.take 3)) (.tuple [.str "make", .str "let", sD u]) | _ => false
    refine lc_src (K := K) walk_list (fun _ s => s.seq D10.sq) ds Dd.d (fun d => if cc d = true then some (sD d.st) else none) D10.dp hDn (Nat.lt_of_le_of_lt D10.le (by decide)) (fun d _ => imm_if d) (fun d v2 H4 Q2 R hm s4 hv2 q1 q2 => ?_) (fun H11 ls s11 hD11 hls => ?_)
    · obtain ⟨es, he, hes⟩ := bd_items (hD.ok d hm).bd
      refine ⟨rfl, _, rfl, ixD (d := d.bd.d) 2 hv2 fun v5 h5 => ⟨3, rfl, ?_⟩⟩
      rw [he] at h5
      refine sliceTo 3 h5 fun u5 H5 s5 hu5 => ⟨_, rfl, ixD (d := sD u) 2 (dp_same (s4.trans s5) hv) fun v6 h6 => ⟨szL, fun a ha => ?_⟩⟩
      have s6 := s5.trans (same_new (o := .tup [V.str "make", .str "let", v6]) ha)
      refine eqD (dp_same (same_new ha) hu5) (.tup (SqT.of upd_same) (.cons (.str "make") (.cons (.str "let") (.cons (dp_same (same_new ha) h6) .nil)))) ⟨_, rfl, ?_⟩ (shaped_take hes 3) (shaped_of fun e he => by
        simp only [List.mem_cons, List.not_mem_nil, or_false] at he
        rcases he with rfl | rfl | rfl
        · have := lay_str (z := "make") (by decide +kernel); exact ⟨this.1, by omega⟩
        · have := lay_str (z := "let") (by decide +kernel); exact ⟨this.1, by omega⟩
        · have := lay_sD u; exact ⟨this.1, by omega⟩)
      have hc : cc d = PyData.eqv (.tuple (es.take 3)) (.tuple [.str "make", .str "let", sD u]) := by
        show (match d.bd.d with | .tuple es => PyData.eqv (.tuple (es.take 3)) (.tuple [.str "make", .str "let", sD u]) | _ => false) = _
        rw [he]
      cases hq : PyData.eqv (.tuple (es.take 3)) (.tuple [.str "make", .str "let", sD u]) with
      | true => exact iteT ⟨_, rfl, ixD (d := sD d.st) 0 (dp_same s6 hv2) fun v8 h8 => q1 _ (sD d.st) _ (by rw [hc, hq]; rfl) h8 s6⟩
      | false => exact iteF (q2 _ (by rw [hc, hq]; rfl) s6)
    rw [stamps_of] at hls
    have hll : ((ds.filter cc).map (·.st)).length ≤ 30 := by rw [List.length_map]; exact Nat.le_trans (List.length_filter_le _ _) hD.le
    have hln : ∀ k ∈ (ds.filter cc).map (·.st), NmIn ds k := fun k hk => by
      obtain ⟨d, hd, rfl⟩ := List.mem_map.mp hk
      exact .inr (List.mem_map_of_mem (List.mem_filter.mp hd).1)
    generalize (ds.filter cc).map (·.st) = lks at hls hll hln
    have hDs : D ≠ s0 := new_ne hs10 hDn
    have hW11 := hW10.same s11
    have hs11 := hs10.same s11
    have g11 := g10.trans (Same.fr s11)
    have hv11 := dp_same s11 hv
    clear_value cc
    clear s11 hDn hW10 hs10 g10 D10 hv hL hsi
    let Good : L2.St → Hp → Prop := fun σ' H' => ∃ (x : V) (b : Bd) (o7 : Option V), σ' = [some (.ref s0), some (.int 11), some (.ref wd), some (.int (0 + (i : Nat))), some (.ref p), some x, some (.ref D), o7] ∧ Fr [s0, L, SL] H2 H' ∧ Src H' s0 ∧ WAt K H' wd L SL 1 ds sns ∧ Dp K H' x b.d ∧ b.ok ∧ ∀ n, some n ∈ b.names → NmIn ds n
    have hold : ∀ {H4 : Hp}, Fr [s0] H11 H4 → Src H4 s0 → ∀ o7, Good [some (.ref s0), some (.int 11), some (.ref wd), some (.int (0 + (i : Nat))), some (.ref p), some v, some (.ref D), o7] H4 := fun {H4} f4 hs4 o7 =>
      ⟨v, .make kk u key c, o7, rfl, g11.trans (f4.mono (by simp)), hs4, hW11.src hs11 f4, dp_tup (hs11.tup f4) (imm_bd (b := .make kk u key c) ⟨hnu.pl hD.ok, hkey, hok⟩) hv11, ⟨hnu.pl hD.ok, hkey, hok⟩, made_names hnu hnc⟩
    dsimp only
    refine seq_any Good (fun C hC => ?_) (fun σ4 H4 hg => ?_)
    · refine ⟨_, rfl, ixD (d := .str kk.s) 1 hv11 fun v5 h5 => ?_⟩
      obtain rfl := dp_str h5
      refine eqS ⟨_, rfl, ?_⟩
      rw [show decide (kk.s = "use") = decide (kk = Kd.use) from Kd.s_eq kk Kd.use]
      by_cases hkk : kk = .use
      · rw [decide_eq_true hkk]
        refine iteT ⟨_, rfl, szL, fun e he => ?_⟩
        have s12 := same_new (o := .lst []) he
        refine neNil (SqL.of (s12 _ _ hD11)) (dpa_same s12 hls) upd_same (shaped_sts _) ⟨_, rfl, ?_⟩
        cases hlk : lks with
        | nil => exact iteF (iteF (hC _ _ (hold (Same.fr s12) (hs11.same s12) _)))
        | cons k0 kr =>
        refine iteT ⟨_, rfl, rfl, s0, 4, rfl, hs11.same s12, by decide, by decide, fun j H13 f13 hs13 _ => ⟨_, _, rfl, rfl, _, rfl, ite2 (fun _ => ?_) (fun _ => ?_)⟩⟩
        · have f := (Same.fr (S := [s0]) s12).trans f13
          have hv13 := dp_tup (hs11.tup f) (imm_bd (b := .make kk u key c) ⟨hnu.pl hD.ok, hkey, hok⟩) hv11
          refine ⟨_, rfl, ixD (d := sD u) 2 hv13 fun v6 h6 => ⟨_, rfl, _, rfl, one_dp hs13 (f.sql (by simpa using hDs) (SqL.of hD11)) (dpa_tup (hs11.tup f) (immAll_sD _) hls) (immAll_sD _) (by rw [hlk]; simp) (by rw [List.length_map]; omega) hDs fun x d H14 f14 hs14 t14 hd hx => ⟨szL, fun a ha => ?_⟩⟩⟩
          obtain ⟨k, hk, rfl⟩ := List.mem_map.mp hd
          have s15 := same_new (o := .tup [V.str "make", .str "use", v6, .int 999, x]) ha
          refine hC _ _ ⟨.ref a, .make .use u 999 (bD (some k)), _, rfl, g11.trans (((f.trans f14).mono (by simp)).trans (Same.fr s15)), hs14.same s15, (hW11.src hs11 (f.trans f14)).same s15, .tup (SqT.of upd_same) (.cons (.str _) (.cons (.str _) (.cons (dp_same s15 (dp_tup t14 (imm_sD u) h6)) (.cons (.int _) (.cons (dp_same s15 hx) .nil))))), ⟨hnu.pl hD.ok, by constructor <;> decide, some k, rfl, fun n e => by cases e; exact (hln _ hk).pl hD.ok⟩, made_names hnu fun _ n e => ?_⟩
          rw [unB_bD] at e
          cases e
          exact hln _ hk
        · exact hC _ _ (hold ((Same.fr s12).trans f13) hs13 _)
      · rw [decide_eq_false hkk]
        exact iteF (iteF (hC _ _ (hold Fr.refl hs11 _)))
    obtain ⟨x, b, o7', rfl, g4, hs4, hW4, hx, hb, hbn⟩ := hg
    have hnl : 0 < sns.length := by rw [hW4.inv.len]; decide
    have hl0 : sns[0]? = some sns[0] := List.getElem?_eq_getElem hnl
    refine ⟨_, rfl, _, rfl, _, rfl, rfl, s0, wd, L, SL, 1, 0, ds, sns, sns[0], x, b, rfl, hs4, hW4, hl0, hx, hb, by omega, fun n hn hn0 => ?_, fun v2 t H7 f7 hs7 hW7 _ => ⟨⟨_, _, _, _, _, rfl⟩, g4.trans f7, hs7, _, _, hW7, by simp; omega, fun d hd => ?_⟩⟩
    · rcases hbn n hn with h | h
      · exact absurd h hn0
      · obtain ⟨d, hd, rfl⟩ := List.mem_map.mp h
        refine ⟨h, ?_⟩
        have := hW4.inv.own 0 _ hl0 d hd (hd0 d hd)
        rw [hd0 d hd]
        exact this
    · rcases List.mem_append.mp hd with hd | hd
      · exact hd0 d hd
      · rw [List.mem_singleton.mp hd]
        rfl
  · obtain ⟨⟨o3, o4, o5, o6, o7, rfl⟩, gi, hsi, ds, sns, hWi, hdi, _⟩ := pp
    exact ⟨_, rfl, q wd L SL _ ds sns Hi (fr3 ((g2.mono (by simp)).trans gi) hL2 hS2) hsi hL2 hWi (by omega)⟩
def sp_case (K : PySem.W.Frag) : Sp := fun us H Q _ => us.length = 2 ∧ ∃ s : Addr, us = [.ref s, .int 11] ∧ Src H s ∧ ∀ (L : Addr) (us : List V) (ds : List Dd) (H' : Hp), Fr [s] H H' → Src H' s → H L = none → H' L = some (.lst us) → DpAll K H' us (ds.map Dd.d) → Bk ds → Q (.ref L) H'
theorem ok_case (T : Tx w K mg e0) : Kn P w K mg base 8 (He.ga K "_law_case") ["_law_source", "_law_most"] (sp_case K) := by
  have G_l_take : Kn P w K mg base 1 _ _ _ := ok_take T
  have G_l_program : Kn P w K mg base 5 _ _ _ := ok_program T
  have G_l_drawn : Kn P w K mg base 7 _ _ _ := ok_drawn T
  refine T.d_l_case.kn sc_l_case (fun _ _ _ _ _ _ us hl => match us, hl with | [_, _], _ => rfl) (fun vs H Q E h => h.1) (fun cdv A outer s H vs Q E hr h => ?_)
  have hu := hu65 hr
  obtain ⟨_, s0, rfl, hs, q⟩ := h
  refine ⟨_, (pss_cons (ps_if (pt_cmpR op_gt (pe_fn G_l_take (hr.mono (by first | decide | exact Nat.le_refl _ | exact Nat.le_add_right_of_le (by decide) | omega)) T.g__law_take (pa_cons (pv 0) (pa_cons pe_int pa_nil))) pe_int (nomark _)) (pss_one (ps_ret (pe_ix (ix_any hu) (pe_fn G_l_program (hr.mono (by first | decide | exact Nat.le_refl _ | exact Nat.le_add_right_of_le (by decide) | omega)) T.g__law_program (pa_cons (pv 0) (pa_cons (pv 1) pa_nil))) pe_int (fun _ _ => rfl)))) pss_nil)
    (pss_one (ps_ret (pe_ix (ix_any hu) (pe_fn G_l_drawn (hr.mono (by first | decide | exact Nat.le_refl _ | exact Nat.le_add_right_of_le (by decide) | omega)) T.g__law_drawn (pa_cons (pv 0) (pa_cons (pe_op op_sub (pv 1) pe_int) (pa_cons pe_int pa_nil)))) pe_int (fun _ _ => rfl))))), ?_⟩
  refine ⟨_, rfl, rfl, s0, 3, rfl, hs, by decide, by decide, fun k H1 f1 hs1 _ => ⟨_, _, rfl, rfl, _, rfl, ite2 (fun _ => ?_) (fun _ => ?_)⟩⟩
  · refine ⟨_, rfl, _, rfl, rfl, s0, hs1, rfl, fun wd L SL many ds sns H2 f2 hs2 hL hW _ => ixL 0 (SqL.of hW.ob) rfl ?_⟩
    obtain ⟨us, hL2, hD⟩ := hW.ddl
    exact q L us ds H2 (f1.trans f2) hs2 (fr_none f1 (by simpa using new_ne hs1 hL) hL) hL2 hD.dp hW.inv.bk
  · refine ⟨_, rfl, _, rfl, _, _, rfl, rfl, rfl, s0, hs1, ⟨9, rfl, by decide⟩, fun wd L SL many ds sns H2 f2 hs2 hL hW _ => ixL 0 (SqL.of hW.ob) rfl ?_⟩
    obtain ⟨us, hL2, hD⟩ := hW.ddl
    exact q L us ds H2 (f1.trans f2) hs2 (fr_none f1 (by simpa using new_ne hs1 hL) hL) hL2 hD.dp hW.inv.bk
end Ss
/-! Walks: the law's own tables. -/
namespace Ss
open PySem PySem.Spec PyProof.Rows L2
variable {P : Program} {w : World} {K : PySem.W.Frag} {mg : Str → Option Value} {base : Heap} {e0 : Addr}
theorem ok_l_parts (T : Tx w K mg e0) : Kn P w K mg base 77 (He.ga K "_law_parts") ["_law_state", "_law_thing"] (sp_parts_in P w K) := by
  have G_State_kind : Kn P w K mg base 7 _ _ _ := ok_kind T
  have G_State_under : Kn P w K mg base 7 _ _ _ := ok_under T
  have G_told_use : Kn P w K mg base 76 _ _ _ := ok_told_use T
  refine T.d_l_parts.kn sc_l_parts (fun _ _ _ _ _ _ us hl => match us, hl with | [_, _], _ => rfl) (fun vs H Q E h => h.1) (fun cdv A outer s H vs Q E hr h => ?_)
  have hu := hu65 hr
  obtain ⟨_, a, S, zv, z, rfl, hF, hzv, hz, q⟩ := h
  obtain ⟨⟨dx, ak, ac, ap, au, al, ai, C⟩, hS, hSl⟩ := id hF
  obtain ⟨kk, hkk⟩ := hS.line_kd hz
  refine ⟨_, (pss_cons (ps_set (i := 2) sc_l_parts.nd rfl (Or.inl rfl) (pe_mt (pv 0) T.cls_State T.me_State_kind G_State_kind (hr.mono (by first | decide | exact Nat.le_refl _ | exact Nat.le_add_right_of_le (by decide) | omega)) (pa_cons (pv 1) pa_nil)))
    (pss_cons (ps_if (pt_cmpR (op_eqA hu) (pv 2) pe_str (nomark _)) (pss_one (ps_ret (pe_lst pa_nil))) pss_nil)
    (pss_cons (ps_if (pt_cmpR (op_eqA hu) (pv 2) pe_str (nomark _)) (pss_cons (ps_set (i := 3) sc_l_parts.nd rfl (Or.inl rfl) (pe_fn G_told_use (hr.mono (by first | decide | exact Nat.le_refl _ | exact Nat.le_add_right_of_le (by decide) | omega)) T.g_told_use (pa_cons (pv 0) (pa_cons (pv 1) pa_nil))))
    (pss_one (ps_ret (pe_ifExp (pt_cmpR (op_eqA hu) (pe_ix (ix_any hu) (pv 3) pe_int (fun _ _ => rfl)) pe_str (nomark _)) (pe_lst (pa_cons (pe_ix (ix_any hu) (pv 3) pe_int (fun _ _ => rfl)) pa_nil)) (pe_lst pa_nil))))) pss_nil)
    (pss_cons (ps_setLc (i := 4) (own := [("_law_one_here", 5)]) (g := _) (by rfl) sc_l_parts.nd rfl rfl (sw_true rfl rfl rfl (by decide +kernel)) (pi_list (pe_mt (pv 0) T.cls_State T.me_State_under G_State_under (hr.mono (by first | decide | exact Nat.le_refl _ | exact Nat.le_add_right_of_le (by decide) | omega)) (pa_cons (pv 1) pa_nil))) (blkOk_by (N := n_l_parts) (sc := defScope s_l_parts) (by decide +kernel)) (fun _ _ _ _ _ => (pg_name (i := 5) sc_l_parts.nd rfl (Or.inl rfl))) (fun _ _ _ _ _ => pts_one (pt_cmpR (show OpR _ _ (rNeA K) from (op_neA hu)) (pe_mt (pv 0) T.cls_State T.me_State_kind G_State_kind (hr.mono (by first | decide | exact Nat.le_refl _ | exact Nat.le_add_right_of_le (by decide) | omega)) (pa_cons (pv 5) pa_nil)) pe_str (nomark _))) (fun _ _ _ _ _ => (pv 5)))
    (pss_one (ps_ret (pe_ifExp (pt_cmpR (op_inA hu) (pv 2) (pe_lst (pa_cons pe_str (pa_cons pe_str pa_nil))) (by rfl)) (pv 4) (pe_slice sl_any (pv 4) (po_some (pe_un un_neg pe_int)) po_none)))))))), ?_⟩
  refine ⟨_, rfl, a, dx, _, rfl, C.ob, rfl, _, rfl, rfl, a, S, zv, z, kk, rfl, hF, hzv, hkk, ?_⟩
  have nil : S.parts z = [] → ∀ {H1 : Hp} {p : Addr}, Same H H1 → H1 p = none → Q (.ref p) (upd H1 p (.lst [])) := fun e H1 p s1 hp => by
    refine q p [] _ (s1.trans (same_new hp)) (same_none s1 hp) upd_same ?_
    rw [e]
    exact .nil
  refine ⟨_, rfl, eqS ⟨_, rfl, ?_⟩⟩
  rw [show decide (kk.s = "number") = decide (kk = Kd.number) from Kd.s_eq kk Kd.number]
  by_cases h1 : kk = .number
  · subst h1
    refine iteT ⟨szL, fun p hp => nil ?_ (Same.refl _) hp⟩
    unfold SA.parts
    rw [hkk]
  rw [decide_eq_false h1]
  refine iteF ⟨_, rfl, eqS ⟨_, rfl, ?_⟩⟩
  rw [show decide (kk.s = "use") = decide (kk = Kd.use) from Kd.s_eq kk Kd.use]
  by_cases h2 : kk = .use
  · subst h2
    refine iteT ⟨_, rfl, _, rfl, rfl, a, S, zv, z, rfl, hF, hzv, hz, hkk, fun r H1 s1 hr1 => ?_⟩
    have hp : S.parts z = match S.told z with | .bound b => [b] | _ => [] := by
      unfold SA.parts
      rw [hkk]
      all_goals rfl
    cases ht : S.told z with
    | bound b =>
      rw [ht] at hr1 hp
      refine ⟨_, rfl, ixD (d := .str "bound") 0 hr1 fun u hu1 => ?_⟩
      obtain rfl := dp_str hu1
      refine eqS ⟨_, rfl, iteT ⟨_, rfl, ixD (d := sD b) 1 hr1 fun u2 hu2 => ⟨szL, fun p hp2 => q p _ _ (s1.trans (same_new hp2)) (same_none s1 hp2) upd_same ?_⟩⟩⟩
      rw [hp]
      exact .cons (dp_same (same_new hp2) hu2) .nil
    | none =>
      rw [ht] at hr1 hp
      refine ⟨_, rfl, ixD (d := .str "none") 0 hr1 fun u hu1 => ?_⟩
      obtain rfl := dp_str hu1
      exact eqS ⟨_, rfl, iteF ⟨szL, fun p hp2 => nil hp s1 hp2⟩⟩
    | gone =>
      rw [ht] at hr1 hp
      refine ⟨_, rfl, ixD (d := .str "gone") 0 hr1 fun u hu1 => ?_⟩
      obtain rfl := dp_str hu1
      exact eqS ⟨_, rfl, iteF ⟨szL, fun p hp2 => nil hp s1 hp2⟩⟩
    | out =>
      rw [ht] at hr1 hp
      refine ⟨_, rfl, ixD (d := .str "out") 0 hr1 fun u hu1 => ?_⟩
      obtain rfl := dp_str hu1
      exact eqS ⟨_, rfl, iteF ⟨szL, fun p hp2 => nil hp s1 hp2⟩⟩
  rw [decide_eq_false h2]
  refine iteF ⟨_, rfl, a, dx, _, rfl, C.ob, rfl, _, rfl, rfl, a, S, zv, z, kk, rfl, hF, hzv, hkk, fun b us hb hus => ⟨b, rfl, ⟨us, SqL.of upd_same⟩, fun D hD => ?_⟩⟩
  have s1 := same_new (o := .lst us) hb
  have hkl := kids_le hS hSl z
  refine lc_src (K := K) walk_list (fun _ s => s.seq (SqL.of upd_same)) (S.kids z) sD (fun y => if (!S.isLet y) = true then some (sD y) else none) (dpa_same s1 hus) hD (Nat.lt_of_le_of_lt hkl (by decide)) (fun y _ d e => by
      by_cases c : (!S.isLet y) = true
      · rw [if_pos c] at e; cases e; exact imm_sD y
      · rw [if_neg c] at e; cases e) (fun y v2 H2 Q2 R hm s2 hv q1 q2 => ?_) (fun H2 zs s2 hD2 hzs => ?_)
  · obtain ⟨ky, hky⟩ := kid_kd hS hm
    have s3 := s1.trans s2
    refine ⟨rfl, _, rfl, a, dx, _, rfl, s3 _ _ C.ob, rfl, _, rfl, rfl, a, S, v2, y, ky, rfl, hF.same s3, hv, hky, neS ⟨_, rfl, ?_⟩⟩
    rw [show decide (ky.s = "let") = decide (ky = Kd.lt) from Kd.s_eq ky Kd.lt, ← SA.isLet_kd hky]
    cases c : S.isLet y with
    | true => exact iteF (q2 _ (by rw [c]; rfl) (Same.refl _))
    | false => exact iteT ⟨_, rfl, q1 _ (sD y) _ (by rw [c]; rfl) hv (Same.refl _)⟩
  rw [filterMap_if] at hzs
  have s3 := s1.trans s2
  have hDH : H D = none := same_none s1 hD
  have hpk := parts_of_kind hkk h1 h2
  refine ⟨_, rfl, szL, fun p hp => inNewL (SqL.of upd_same) rfl rfl (show _ = decide (kk = .sum ∨ kk = .product) by cases kk <;> decide +kernel) ⟨_, rfl, ?_⟩⟩
  have s4 := s3.trans (same_new (o := .lst [.str "sum", .str "product"]) hp)
  have hp2 := same_new (o := .lst [.str "sum", .str "product"]) hp
  by_cases c : kk = .sum ∨ kk = .product
  · rw [decide_eq_true c]
    rw [if_pos c] at hpk
    refine iteT ⟨_, rfl, q D zs _ s4 hDH (hp2 _ _ hD2) ?_⟩
    rw [hpk]
    exact dpa_same hp2 hzs
  · rw [decide_eq_false c]
    rw [if_neg c] at hpk
    refine iteF ⟨_, rfl, _, rfl, _, rfl, .inl ⟨D, zs, rfl, SqL.of (hp2 _ _ hD2), fun p5 hp5 => ?_⟩⟩
    rw [cut_last]
    have hzl : zs.length = (S.others z).length := by rw [dpa_len hzs, List.length_map]; rfl
    refine q p5 _ _ (s4.trans (same_new hp5)) (same_none s4 hp5) upd_same ?_
    rw [hpk, hzl, List.map_drop]
    exact dpa_drop _ (dpa_same (hp2.trans (same_new hp5)) hzs)

def SA.lineP (S : SA) : Tb (List St2) := S.line.map fun z => (z, S.parts z)
def SA.lineV (S : SA) : Tb (Option Int) := S.line.map fun z => (z, S.val z)
theorem lineT_at {α : Type} {l : List St2} {f : St2 → α} (nd : l.Nodup) {z : St2} (hz : z ∈ l) : lk (l.map fun z => (z, f z)) z = some (f z) := by
  refine lk_of_mem (by rw [List.map_map]; simpa [Function.comp_def] using nd) ?_
  exact List.mem_map_of_mem (f := fun z => (z, f z)) hz
theorem SInv.lineP_at {S : SA} (h : SInv S) {z : St2} (hz : z ∈ S.line) : lk S.lineP z = some (S.parts z) := lineT_at h.line_nd hz
theorem SInv.lineV_at {S : SA} (h : SInv S) {z : St2} (hz : z ∈ S.line) : lk S.lineV z = some (S.val z) := lineT_at h.line_nd hz
theorem lineT_in {α : Type} {l : List St2} {f : St2 → α} {z : St2} : (lk (l.map fun z => (z, f z)) z).isSome = decide (z ∈ l) := by
  have h := lk_some (m := l.map fun z => (z, f z)) (k := z)
  rw [List.map_map, show l.map ((fun x : St2 × α => x.1) ∘ fun z => (z, f z)) = l from by simp [Function.comp_def]] at h
  by_cases c : z ∈ l
  · rw [decide_eq_true c]; exact h.mpr c
  · rw [decide_eq_false c]
    cases e : (lk (l.map fun z => (z, f z)) z).isSome with
    | false => rfl
    | true => exact absurd (h.mp e) c
theorem PairsAt.tup {H H' : Hp} {ts : List Addr} {fs : List Ent} (h : PairsAt K H ts fs) (t : TupLe H H') : PairsAt K H' ts fs := ⟨h.len, fun j a f h1 h2 => ⟨t _ _ _ (h.pr j a f h1 h2).1, t _ _ _ (h.pr j a f h1 h2).2⟩⟩
theorem PairsAt.snoc {H : Hp} {ts : List Addr} {fs : List Ent} {t b : Addr} {k : St2} {v : V} (h : PairsAt K H ts fs) (ht : SqT K H t [.ref b, v]) (hb : SqT K H b (sval k)) : PairsAt K H (ts ++ [t]) (fs ++ [(k, b, v)]) := by
  refine ⟨by rw [List.length_append, List.length_append, h.len]; rfl, fun j a f h1 h2 => ?_⟩
  by_cases c : j < ts.length
  · rw [List.getElem?_append_left c] at h1
    rw [List.getElem?_append_left (by rw [← h.len]; exact c)] at h2
    exact h.pr j a f h1 h2
  · rw [List.getElem?_append_right (by omega)] at h1
    rw [List.getElem?_append_right (by rw [← h.len]; omega), ← h.len] at h2
    cases e : j - ts.length with
    | zero =>
      rw [e] at h1 h2
      cases h1
      cases h2
      exact ⟨ht, hb⟩
    | succ n =>
      rw [e] at h1
      cases h1
theorem putAll_nd {α : Type} {R : Hp → V → α → Prop} {H : Hp} : ∀ {fs es : List Ent} {n m : Tb α}, DE K R H es m → DE K R H fs n → ((m ++ n).map (·.1)).Nodup → DE K R H (putAll es fs) (m ++ n)
  | [], es, n, m, h1, h2, nd => by
    cases h2
    simpa [putAll] using h1
  | f :: fs, es, n, m, h1, h2, nd => by
    cases h2 with
    | @cons _ x _ n r t =>
      have hnew : lk m x.1 = none := by
        rw [lk_none]
        intro z
        rw [List.map_append, List.nodup_append] at nd
        exact absurd rfl (nd.2.2 x.1 z x.1 (by simp))
      have hp := h1.put (k := x.1) (x := x.2) (b := f.2.1) (v := f.2.2) (by rw [← r.1]; exact r.2.1) r.2.2
      rw [putM_new hnew] at hp
      have e : putAll es (f :: fs) = putAll (putE es x.1 f.2.1 f.2.2) fs := by rw [← r.1]; rfl
      rw [e, show m ++ x :: n = (m ++ [(x.1, x.2)]) ++ n by simp]
      exact putAll_nd hp t (by simpa using nd)
def sp_l_table (P : Program) (w : World) (K : PySem.W.Frag) : Sp := fun us H Q _ => us.length = 1 ∧ ∃ (a : Addr) (S : SA), us = [.ref a] ∧ StF P w K H a S ∧ ∀ (p : Addr) (H' : Hp), Same H H' → H p = none → DM P w K (RLs K) H' p S.lineP → Q (.ref p) H'
theorem ok_l_table (T : Tx w K mg e0) : Kn P w K mg base 78 (He.ga K "_law_table") ["_law_state"] (sp_l_table P w K) := by
  have G_State_line : Kn P w K mg base 1 _ _ _ := ok_line T
  have G_l_parts : Kn P w K mg base 77 _ _ _ := ok_l_parts T
  refine T.d_l_table.kn sc_l_table (fun _ _ _ _ _ _ us hl => match us, hl with | [_], _ => rfl) (fun vs H Q E h => h.1) (fun cdv A outer s H vs Q E hr h => ?_)
  have hu := hu65 hr
  obtain ⟨_, a, S, rfl, hF, q⟩ := h
  obtain ⟨⟨dx, ak, ac, ap, au, al, ai, C⟩, hS, hSl⟩ := id hF
  refine ⟨_, (pss_one (ps_ret (pe_callTy (cb_dict hu) (by rfl) T.b_dict (by decide +kernel) (pa_cons (pe_lc (own := [("_law_thing", 1)]) (by rfl) sc_l_table.nd (pi_list (pe_mt0 (pv 0) T.cls_State T.me_State_line G_State_line (hr.mono (by first | decide | exact Nat.le_refl _ | exact Nat.le_add_right_of_le (by decide) | omega)))) (blkOk_by (N := n_l_table) (sc := defScope s_l_table) (by decide +kernel)) (fun _ _ _ _ _ => (pg_name (i := 1) sc_l_table.nd rfl (Or.inl rfl))) (fun _ _ _ _ _ => pts_nil) (fun _ _ _ _ _ => (pe_tup (pa_cons (pv 1) (pa_cons (pe_fn G_l_parts (hr.mono (by first | decide | exact Nat.le_refl _ | exact Nat.le_add_right_of_le (by decide) | omega)) T.g__law_parts (pa_cons (pv 0) (pa_cons (pv 1) pa_nil))) pa_nil))))) pa_nil)))), ?_⟩
  refine ⟨_, rfl, a, dx, _, rfl, C.ob, rfl, rfl, a, S, rfl, hF, fun b us hb hus => ⟨b, rfl, ⟨us, SqL.of upd_same⟩, fun D hD => ?_⟩⟩
  have s1 := same_new (o := .lst us) hb
  have hul : us.length = S.line.length := by rw [dpa_len hus, List.length_map]
  have hll := hS.line_len hSl
  refine lc_it (J := Itl K b) walk_list (fun i H2 => Same (upd H b (.lst us)) H2 ∧ ∃ (ts : List Addr) (fs : List Ent), H2 D = some (.lst (ts.map .ref)) ∧ ts.length ≤ i ∧ PairsAt K H2 ts fs ∧ DE K (RLx K D) H2 fs ((S.line.take i).map fun z => (z, S.parts z))) ⟨same_new hD, [], [], upd_same, Nat.le_refl _, ⟨rfl, fun _ _ _ h => by simp at h⟩, .nil⟩ (fun i H2 _ p => p.1.seq (SqL.of upd_same)) (fun i x H2 H3 hi p y => ?_) (fun H2 p => ?_)
  · obtain ⟨s2, ts, fs, h1, h2, h3, h4⟩ := p
    obtain ⟨rfl, hx⟩ := y
    obtain ⟨z, hz, hzv⟩ := dpa_mem hus hx
    have s12 := s1.trans s2
    have hz3 := dp_same s12 hzv
    refine ⟨rfl, ?_⟩
    refine iteT (B := Same (upd H b (.lst us)) H3 ∧ ∃ (ts : List Addr) (fs : List Ent), H3 D = some (.lst (ts.map .ref)) ∧ ts.length ≤ i + 1 ∧ PairsAt K H3 ts fs ∧ DE K (RLx K D) H3 fs ((S.line.take (i + 1)).map fun z => (z, S.parts z))) ?_
    refine ⟨_, rfl, _, rfl, _, rfl, rfl, a, S, x, z, rfl, hF.same s12, hz3, List.mem_of_getElem? hz, fun p ws H4 s4 hp hp4 hws => ⟨szL, fun t ht => ?_⟩⟩
    obtain ⟨xb, rfl, hxb⟩ := stamp_dp hz3
    have s5 := s4.trans (same_new (o := .tup [.ref xb, .ref p]) ht)
    have h15 := s5 _ _ h1
    refine ⟨ts.map .ref, h15, Nat.lt_of_le_of_lt (show (ts.map V.ref).length ≤ 62 by rw [List.length_map]; omega) (by decide), same_mut (s2.trans s5) hD, ts ++ [t], fs ++ [(z, xb, .ref p)], by rw [List.map_append]; exact upd_same, by rw [List.length_append]; simp; omega, ?_, ?_⟩
    · refine (PairsAt.snoc (h3.tup (Same.tup s5)) (SqT.of upd_same) (same_sqt s5 hxb)).tup (tup_lst h15)
    · rw [List.take_add_one, hz, List.map_append]
      have lD : RLx K D (upd (upd H4 t (.tup [.ref xb, .ref p])) D (.lst (ts.map V.ref ++ [.ref t]))) (.ref p) (S.parts z) := by
        have hpD : p ≠ D := fun z => by rw [z, h1] at hp; cases hp
        refine ⟨p, ws, rfl, hpD, SqL.of ?_, dpa_tup (tup_lst h15) (immAll_sD _) (dpa_same (same_new ht) hws)⟩
        rw [upd_ne hpD]
        exact (same_new ht) _ _ hp4
      exact DE.append (h4.mono ((Same.tup s5).trans (tup_lst h15)) fun v x r => rlx_app h15 (rlx_stb _ _ v x (Same.lt s5) r)) (.cons ⟨rfl, (tup_lst h15) _ _ _ (same_sqt s5 hxb), lD⟩ .nil)
  · obtain ⟨s2, ts, fs, h1, h2, h3, h4⟩ := p
    rw [hul, List.take_length] at h4
    refine ⟨D, ts, fs, rfl, SqL.of h1, h3, fun p hp => ?_⟩
    have s5 := (s1.trans s2).trans (same_new (o := DO P w p (putAll [] fs)) hp)
    refine q p _ s5 (same_none (s1.trans s2) hp) ⟨putAll [] fs, upd_same, ?_⟩
    have := putAll_nd (m := ([] : Tb (List St2))) (es := []) .nil h4 (by rw [List.nil_append, List.map_map]; simpa [Function.comp_def] using hS.line_nd)
    exact this.mono (Same.tup (same_new hp)) fun v x r => by
      obtain ⟨b2, vs2, e2, _, h5, h6⟩ := r
      exact ⟨b2, vs2, e2, (same_new hp).seq h5, dpa_same (same_new hp) h6⟩
end Ss
/-! Walks: worths. -/
namespace Ss
open PySem PySem.Spec PyProof.Rows L2
variable {P : Program} {w : World} {K : PySem.W.Frag} {mg : Str → Option Value} {base : Heap} {e0 : Addr}
/-- what is known is right -/
structure KnOk (S : SA) (m : Tb (Option Int)) : Prop where
  v : ∀ k x, lk m k = some x → x = S.val k
  nd : (m.map (·.1)).Nodup
  sub : ∀ k ∈ m.map (·.1), k ∈ S.line
theorem KnOk.len {S : SA} {m : Tb (Option Int)} (h : KnOk S m) (hS : SInv S) (hl : S.kd.length ≤ 61) : m.length ≤ 62 := by
  have := nodup_le h.nd h.sub
  rw [List.length_map] at this
  exact Nat.le_trans this (hS.line_len hl)
theorem KnOk.put {S : SA} {m : Tb (Option Int)} (h : KnOk S m) {z : St2} (hz : z ∈ S.line) : KnOk S (putM m z (S.val z)) := by
  refine ⟨fun k x hk => ?_, ?_, fun k hk => ?_⟩
  · rw [lk_put] at hk
    by_cases e : k = z
    · rw [if_pos e] at hk; cases hk; rw [e]
    · rw [if_neg e] at hk; exact h.v k x hk
  · by_cases c : (lk m z).isSome = true
    · unfold putM
      rw [if_pos c, List.map_map]
      have : ((fun x : St2 × Option Int => x.1) ∘ fun e : St2 × Option Int => if e.1 = z then (e.1, S.val z) else e) = fun x => x.1 := by
        funext e
        by_cases h : e.1 = z <;> simp [h]
      rw [this]
      exact h.nd
    · have hn : lk m z = none := by
        cases e : lk m z with
        | none => rfl
        | some _ => rw [e] at c; exact absurd rfl c
      rw [putM_new hn, List.map_append, List.nodup_append]
      refine ⟨h.nd, by simp, fun a ha b hb e => ?_⟩
      simp at hb
      rw [hb] at e
      exact lk_none.mp hn (e ▸ ha)
  · have := lk_some.mpr hk
    rw [lk_put] at this
    by_cases e : k = z
    · rw [e]; exact hz
    · rw [if_neg e] at this
      exact h.sub k (lk_some.mp this)
def sp_worth (P : Program) (w : World) (K : PySem.W.Frag) (n : Nat) : Sp := fun us H Q _ => us.length = 4 ∧ ∃ (a p kn : Addr) (S : SA) (zv : V) (z : St2) (A : Hp) (m : Tb (Option Int)), us = [.ref a, .ref p, .ref kn, zv] ∧ StF P w K A a S ∧ DM P w K (RLs K) A p S.lineP ∧ Same A H ∧ A kn = none ∧
  DM P w K (RO K) H kn m ∧ KnOk S m ∧ Dp K H zv (sD z) ∧ z ∈ S.line ∧ S.pos z < n ∧ ∀ (H' : Hp) (m' : Tb (Option Int)), Fr [kn] H H' → DM P w K (RO K) H' kn m' → KnOk S m' → Q (oV (S.val z)) H'
theorem parts_one {S : SA} {z : St2} {k : Kd} (h : lk S.kd z = some k) (h1 : k ≠ .sum) (h2 : k ≠ .product) : (S.parts z).length ≤ 1 := by
  unfold SA.parts
  rw [h]
  cases k with
  | sum => exact absurd rfl h1
  | product => exact absurd rfl h2
  | number => simp
  | use => cases S.told z <;> simp
  | block => simp; omega
  | lt => simp; omega
theorem ok_worth (T : Tx w K mg e0) (n : Nat) : Kn P w K mg base (8 + n) (He.ga K "_law_worth") ["_law_state", "_law_parts_here", "_law_known", "_law_thing"] (sp_worth P w K n) := by
  have G_State_kind : Kn P w K mg base 7 _ _ _ := ok_kind T
  have G_State_content : Kn P w K mg base 7 _ _ _ := ok_content T
  induction n with
  | zero =>
    have G_l_worth : Kn P w K mg base 8 (He.ga K "_law_worth") ["_law_state", "_law_parts_here", "_law_known", "_law_thing"] (fun vs H Q _ => vs.length = 4 ∧ False) := by
      refine T.d_l_worth.kn sc_l_worth (fun _ _ _ _ _ _ us hl => match us, hl with | [_, _, _, _], _ => rfl) (fun vs H Q E h => h.1) (fun cdv A outer s H vs Q E hr h => h.2.elim)
    obtain ⟨⟨fd, F, b⟩, kp⟩ := G_l_worth
    refine ⟨⟨fd, ⟨fun vs H Q E h => F.len vs H Q E ?_, fun A outer s H args us vs Q E hr e0 hb r h => ?_⟩, b⟩, kp⟩
    all_goals
      obtain ⟨_, a, p, kn, S, zv, z, A, m, _, _, _, _, _, _, _, _, _, hz, _⟩ := h
      exact absurd hz (Nat.not_lt_zero _)
  | succ n ih =>
  have G_l_worth : Kn P w K mg base (8 + n) _ _ _ := ih
  refine (show 8 + (n + 1) = (8 + n) + 1 by omega) ▸ T.d_l_worth.kn sc_l_worth (fun _ _ _ _ _ _ us hl => match us, hl with | [_, _, _, _], _ => rfl) (fun vs H Q E h => h.1) (fun cdv A outer s H vs Q E hr h => ?_)
  have hu := hu65 hr
  obtain ⟨_, a, p, kn, S, zv, z, A0, m, rfl, hF, hP, sA, hkn, hM, hK, hzv, hz, hpos, q⟩ := h
  obtain ⟨_, hS, hSl⟩ := id hF
  refine ⟨_, (pss_cons (ps_if (pt_cmpR (op_inA hu) (pv 3) (pv 2) (by rfl)) (pss_one (ps_ret (pe_ix (ix_any hu) (pv 2) (pv 3) (fun _ _ => rfl)))) pss_nil)
    (pss_cons (ps_set (i := 4) sc_l_worth.nd rfl (Or.inl rfl) (pe_mt (pv 0) T.cls_State T.me_State_kind G_State_kind (hr.mono (by first | decide | exact Nat.le_refl _ | exact Nat.le_add_right_of_le (by decide) | omega)) (pa_cons (pv 3) pa_nil)))
    (pss_cons (ps_setLc (i := 5) (own := [("_law_one_here", 6)]) (g := _) (by rfl) sc_l_worth.nd rfl rfl (sw_true rfl rfl rfl (by decide +kernel)) (pi_list (pe_ix (ix_any hu) (pv 1) (pv 3) (fun _ _ => rfl))) (blkOk_by (N := n_l_worth) (sc := defScope s_l_worth) (by decide +kernel)) (fun _ _ _ _ _ => (pg_name (i := 6) sc_l_worth.nd rfl (Or.inl rfl))) (fun _ _ _ _ _ => pts_nil) (fun _ _ _ _ _ => (pe_fn G_l_worth (hr.mono (by first | decide | exact Nat.le_refl _ | exact Nat.le_add_right_of_le (by decide) | omega)) T.g__law_worth (pa_cons (pv 0) (pa_cons (pv 1) (pa_cons (pv 2) (pa_cons (pv 6) pa_nil)))))))
    (pss_cons (ps_set (i := 7) sc_l_worth.nd rfl (Or.inl rfl) pe_non)
    (pss_cons (ps_if (pt_cmpR (op_eqA hu) (pv 4) pe_str (nomark _)) (pss_one (ps_set (i := 7) sc_l_worth.nd rfl (Or.inl rfl) (pe_mt (pv 0) T.cls_State T.me_State_content G_State_content (hr.mono (by first | decide | exact Nat.le_refl _ | exact Nat.le_add_right_of_le (by decide) | omega)) (pa_cons (pv 3) pa_nil)))) (pss_one (ps_if (PW.pt (pw_or (pt_cmpR (op_inA hu) pe_non (pv 5) (by rfl)) (pw_or1 (PW.pt (pw_and (pt_cmpR (op_eqA hu) (pv 4) pe_str (nomark _)) (pw_and1 (pt_cmpR (op_eqA hu) (pv 5) (pe_lst pa_nil) (nomark _)))))))) (pss_one (ps_set (i := 7) sc_l_worth.nd rfl (Or.inl rfl) pe_non)) (pss_one (ps_if (pt_cmpR (op_eqA hu) (pv 4) pe_str (nomark _)) (pss_one (ps_set (i := 7) sc_l_worth.nd rfl (Or.inl rfl) (pe_op op_modN (pe_callTy (cb_int hu) (by rfl) T.b_int (by decide +kernel) (pa_cons (pe_callB (cb_sum hu) (by rfl) T.b_sum (by decide +kernel) (pa_cons (pv 5) pa_nil)) pa_nil)) pe_int))) (pss_one (ps_if (pt_cmpR (op_eqA hu) (pv 4) pe_str (nomark _)) (pss_cons (ps_set (i := 7) sc_l_worth.nd rfl (Or.inl rfl) pe_int)
    (pss_one (ps_for PassesOwn.never rfl (pi_list (pv 5)) (pg_name (i := 6) sc_l_worth.nd rfl (Or.inl rfl)) (pss_one (ps_set (i := 7) sc_l_worth.nd rfl (Or.inl rfl) (pe_op op_modN (pe_callTy (cb_int hu) (by rfl) T.b_int (by decide +kernel) (pa_cons (pe_op op_mul (pv 7) (pv 6)) pa_nil)) pe_int)))))) (pss_one (ps_set (i := 7) sc_l_worth.nd rfl (Or.inl rfl) (pe_ix (ix_any hu) (pe_op op_addA (pv 5) (pe_lst (pa_cons pe_int pa_nil))) pe_int (fun _ _ => rfl)))))))))))
    (pss_cons (ps_asg (pv 7) (pg_sub (pv 2) (pv 3) (set_any hu)))
    (pss_one (ps_ret (pv 7))))))))), ?_⟩
  refine ⟨_, rfl, _, rfl, dinR hM.r hzv ⟨_, rfl, ?_⟩⟩
  cases hlk : lk m z with
  | some x =>
    obtain rfl := hK.v z x hlk
    refine iteT ⟨_, rfl, _, rfl, dgetR hM.r hzv hlk fun v hv => ?_⟩
    rw [ro_v hv]
    exact q H m Fr.refl hM hK
  | none =>
  obtain ⟨kk, hkk⟩ := hS.line_kd hz
  have FH := hF.same sA
  obtain ⟨⟨dx, ak, ac, ap, au, al, ai, C⟩, _⟩ := id FH
  refine iteF ⟨_, rfl, a, dx, _, rfl, C.ob, rfl, _, rfl, rfl, a, S, zv, z, kk, rfl, FH, hzv, hkk, ?_⟩
  -- the parts' values
  refine ⟨_, rfl, _, rfl, dgetR (hP.same rls_stb sA).r hzv (hS.lineP_at hz) fun x hx => ?_⟩
  obtain ⟨b, vs, rfl, hb, hvs⟩ := hx
  refine ⟨b, rfl, ⟨_, hb⟩, fun D hD => ?_⟩
  have hvl : vs.length = (S.parts z).length := by rw [dpa_len hvs, List.length_map]
  have hpl := parts_le hS hSl z
  have hbA : SqL K A0 b vs ∨ True := .inr trivial
  have hknH : ∃ es, H kn = some (DO P w kn es) := let ⟨es, e, _⟩ := hM; ⟨es, e⟩
  have hDkn : D ≠ kn := fun z => by
    obtain ⟨es, e⟩ := hknH
    rw [z, e] at hD
    cases hD
  have hbk : ∀ {H2 : Hp}, Fr [kn, D] H H2 → SqL K H2 b vs := fun {H2} f => by
    rcases hb with hb | hb
    · have hbkn : b ≠ kn := fun z => by
        obtain ⟨es, e⟩ := hknH
        rcases hb with hb | ⟨_, hb⟩ <;> rw [z, e] at hb <;> cases hb
      have hbD : b ≠ D := fun z => by
        rcases hb with hb | ⟨_, hb⟩ <;> rw [z, hD] at hb <;> cases hb
      exact .inl (f.rd (by simp [hbkn, hbD]) hb)
    · exact .inr hb
  have tupk : ∀ {H2 : Hp}, Fr [kn, D] H H2 → TupLe H H2 := fun {H2} f => f.tup (by
    intro c hc
    simp only [List.mem_cons, List.not_mem_nil, or_false] at hc
    rcases hc with rfl | rfl
    · obtain ⟨es, e⟩ := hknH; exact nt_do e
    · exact nt_none hD)
  have hDA : A0 D = none := same_none sA hD
  refine lc_it (J := Itl K b) walk_list (fun i H2 => Fr [kn, D] H H2 ∧ ∃ m2, DM P w K (RO K) H2 kn m2 ∧ KnOk S m2 ∧ H2 D = some (.lst (((S.parts z).take i).map fun y => oV (S.val y)))) ⟨(Fr.refl (S := [kn, D])).snew hD, m, hM.same rd_stb.stb (same_new hD), hK, upd_same⟩ (fun i H2 _ pp => hbk pp.1) (fun i x H2 H3 hi pp yy => ?_) (fun H2 pp => ?_)
  · obtain ⟨f2, m2, hM2, hK2, hD2⟩ := pp
    obtain ⟨rfl, hx⟩ := yy
    obtain ⟨y, hy, hyv⟩ := dpa_mem hvs hx
    obtain ⟨hyl, hyp⟩ := hS.parts_at hz (List.mem_of_getElem? hy)
    have sA3 : Same A0 H3 := same_fr sA f2 (by
      intro c hc
      simp only [List.mem_cons, List.not_mem_nil, or_false] at hc
      rcases hc with rfl | rfl
      · exact hkn
      · exact hDA)
    refine ⟨rfl, ?_⟩
    refine iteT (B := Fr [kn, D] H H3 ∧ ∃ m2, DM P w K (RO K) H3 kn m2 ∧ KnOk S m2 ∧ H3 D = some (.lst (((S.parts z).take (i + 1)).map fun y => oV (S.val y)))) ?_
    refine ⟨_, rfl, _, rfl, _, rfl, _, rfl, rfl, a, p, kn, S, x, y, A0, m2, rfl, hF, hP, sA3, hkn, hM2, hK2, dp_tup (tupk f2) (imm_sD y) hyv, hyl, by omega, fun H4 m4 f4 hM4 hK4 => ?_⟩
    have hD4 := f4.get hD2 (by simpa using hDkn)
    refine ⟨_, hD4, ?_, (f2.trans (f4.mono (by simp))).at (by simp), m4, hM4.lst rd_stb hD4, hK4, ?_⟩
    · rw [List.length_map, List.length_take]
      exact Nat.lt_of_le_of_lt (Nat.le_trans (Nat.min_le_right _ _) hpl) (by decide)
    · rw [upd_same, List.take_add_one, hy, List.map_append]
      rfl
  obtain ⟨f2, m2, hM2, hK2, hD2⟩ := pp
  rw [hvl, List.take_length] at hD2
  have hval := hS.val_eq hSl hz hkk
  have hD2 : H2 D = some (.lst (((S.parts z).map S.val).map oV)) := by
    rw [hD2, List.map_map]
    rfl
  have hp1 : kk ≠ .sum → kk ≠ .product → ((S.parts z).map S.val).length ≤ 1 := fun h1 h2 => by rw [List.length_map]; exact parts_one hkk h1 h2
  have hvsl : ((S.parts z).map S.val).length ≤ 61 := by rw [List.length_map]; exact hpl
  generalize (S.parts z).map S.val = vls at hD2 hval hp1 hvsl
  have FH2 := hF.same (same_fr sA f2 (by
      intro c hc
      simp only [List.mem_cons, List.not_mem_nil, or_false] at hc
      rcases hc with rfl | rfl
      · exact hkn
      · exact hDA))
  obtain ⟨⟨dx2, ak2, ac2, ap2, au2, al2, ai2, C2⟩, _⟩ := id FH2
  have hzv2 := dp_tup (tupk f2) (imm_sD z) hzv
  dsimp only [gName]
  let Good : L2.St → Hp → Prop := fun σ' H' => (∃ o6, σ' = [some (.ref a), some (.ref p), some (.ref kn), some zv, some (.str kk.s), some (.ref D), o6, some (oV (S.val z))]) ∧ Same H2 H'
  refine seq_set (fun x H' => x = .non ∧ H2 = H') (fun C hC => hC _ _ ⟨rfl, rfl⟩) (fun x H' hg => ?_)
  obtain ⟨rfl, rfl⟩ := hg
  refine seq_any Good (fun CC hC => ?_) (fun σ4 H4 hg => ?_)
  · refine ⟨_, rfl, eqS ⟨_, rfl, ?_⟩⟩
    rw [show decide (kk.s = "number") = decide (kk = Kd.number) from Kd.s_eq kk Kd.number]
    by_cases h1 : kk = .number
    · subst h1
      rw [if_pos rfl] at hval
      have hzr : z ≠ ROOT := fun e => by rw [e, hS.root] at hkk; cases hkk
      obtain ⟨nn, hn, hct⟩ := hS.num_some hkk hzr
      refine iteT ⟨_, rfl, a, dx2, _, rfl, C2.ob, rfl, _, rfl, rfl, a, S, zv, z, .number, rfl, FH2, hzv2, hkk, hzr, fun v2 c2 hc2 hck hv2 => ?_⟩
      rw [hct] at hc2
      cases hc2
      obtain rfl := dp_int hv2
      refine hC _ _ ⟨⟨none, ?_⟩, Same.refl _⟩
      rw [hval, hn]
      rfl
    rw [decide_eq_false h1]
    rw [if_neg h1] at hval
    have fin : ∀ {x : V} {H3 : Hp} {o6 : Option V}, x = oV (kk.join vls) → Same H2 H3 → Good [some (.ref a), some (.ref p), some (.ref kn), some zv, some (.str kk.s), some (.ref D), o6, some x] H3 := fun {x H3 o6} e s => ⟨⟨o6, by rw [hval, e]⟩, s⟩
    refine iteF ⟨_, rfl, inNewL (SqL.of hD2) rfl (flat_oV vls) (in_oV vls) ⟨_, rfl, ?_⟩⟩
    cases hs : allS vls with
    | none =>
      have hnn := allS_none.mp hs
      rw [decide_eq_true hnn]
      exact iteT (iteT (hC _ _ (fin (by rw [join_none hnn]; rfl) (Same.refl _))))
    | some ns =>
    have hnn : none ∉ vls := fun z => by rw [allS_none.mpr z] at hs; cases hs
    rw [decide_eq_false hnn]
    have ev : vls.map oV = ns.map V.int := by
      rw [allS_some hs, List.map_map]
      rfl
    have hj : kk.join vls = kk.joinI ns := by unfold Kd.join; rw [hs]
    have hnsl : ns.length = vls.length := by rw [allS_some hs, List.length_map]
    rw [ev] at hD2
    rw [hj] at fin
    refine iteF ⟨_, rfl, eqS ⟨_, rfl, ?_⟩⟩
    rw [show decide (kk.s = "use") = decide (kk = Kd.use) from Kd.s_eq kk Kd.use]
    by_cases hku : kk = .use
    · rw [decide_eq_true hku]
      have ska : SeqAt.shaped (.list (ns.map .int)) = true := shapedL_of fun e he => by
        obtain ⟨i, _, rfl⟩ := List.mem_map.mp he
        have := lay_int (i := i)
        exact ⟨this.1, by omega⟩
      refine iteT ⟨_, rfl, szL, fun e he => eqNil ((same_new he).seq (SqL.of hD2)) (dpa_ofInts ns) upd_same ska ⟨_, rfl, ?_⟩⟩
      have s6 := same_new (o := .lst []) he
      have hD6 := s6 _ _ hD2
      revert s6 hD6
      generalize upd H2 e (.lst []) = H6
      intro s6 hD6
      by_cases hne : ns = []
      · have e2 : ((ns.map PyData.int).isEmpty) = true := by rw [hne]; rfl
        rw [e2]
        refine iteT (hC _ _ (fin ?_ s6))
        rw [hku, hne]
        rfl
      · have e2 : ((ns.map PyData.int).isEmpty) = false := by
          cases ns with
          | nil => exact absurd rfl hne
          | cons _ _ => rfl
        rw [e2]
        refine iteF ?_
        refine ⟨_, rfl, eqS ⟨_, rfl, ?_⟩⟩
        rw [show decide (kk.s = "sum") = decide (kk = Kd.sum) from Kd.s_eq kk Kd.sum]
        by_cases h3 : kk = .sum
        · rw [decide_eq_true h3]
          refine iteT ⟨_, rfl, D, ns, rfl, SqL.of hD6, .inl ⟨_, rfl, _, _, rfl, rfl, (by show (9973 : Int) ≠ 0; decide), hC _ _ (fin ?_ s6)⟩⟩
          rw [h3]
          show V.int (ns.sum.fmod 9973) = _
          rw [fmod_prime]
          rfl
        rw [decide_eq_false h3]
        refine iteF ⟨_, rfl, eqS ⟨_, rfl, ?_⟩⟩
        rw [show decide (kk.s = "product") = decide (kk = Kd.product) from Kd.s_eq kk Kd.product]
        by_cases h4 : kk = .product
        · rw [decide_eq_true h4]
          refine iteT ⟨_, rfl, D, rfl, ⟨_, SqL.of hD6⟩, ?_⟩
          refine for_it walk_list (fun i σ H5 => (∃ o6, σ = [some (.ref a), some (.ref p), some (.ref kn), some zv, some (.str kk.s), some (.ref D), o6, some (.int ((ns.take i).foldl (fun a b => a * b % 9973) 1))]) ∧ H5 = H6) ⟨⟨_, rfl⟩, rfl⟩ (fun _ _ _ _ p => p.2 ▸ SqL.of hD6) (fun i vv σ H5 H6 hi pp yy => ?_) (fun σ H5 pp => ?_)
          · obtain ⟨⟨o6, rfl⟩, rfl⟩ := pp
            obtain ⟨rfl, hx⟩ := yy
            rw [List.getElem?_map] at hx
            cases hx2 : ns[i]? with
            | none => rw [hx2] at hx; cases hx
            | some nn =>
              rw [hx2] at hx
              obtain rfl : V.int nn = vv := Option.some.inj hx
              have hb := fold_bound (ns.take i) 1 ⟨by decide, by decide⟩
              refine ⟨_, rfl, _, rfl, _, _, rfl, rfl, .inl ⟨by omega, by omega⟩, .inl ⟨_, rfl, _, _, rfl, rfl, (by show (9973 : Int) ≠ 0; decide), ⟨some (.int nn), ?_⟩, rfl⟩⟩
              rw [List.take_add_one, hx2, List.foldl_append]
              show [some (.ref a), some (.ref p), some (.ref kn), some zv, some (.str kk.s), some (.ref D), some (.int nn), some (.int ((((ns.take i).foldl (fun a b => a * b % 9973) 1) * nn).fmod 9973))] = _
              rw [fmod_prime]
              rfl
          · obtain ⟨⟨o6, rfl⟩, rfl⟩ := pp
            rw [List.length_map, List.take_length]
            refine hC _ _ (fin ?_ s6)
            rw [h4]
            rfl
        rw [decide_eq_false h4]
        refine iteF ⟨_, rfl, szL, fun l0 hl0 => ?_⟩
        have s7 := same_new (o := .lst [V.int 0]) hl0
        refine .inr (.inr ⟨D, l0, ns.map V.int, [.int 0], rfl, rfl, s7 _ _ hD6, upd_same, Nat.le_trans (show (ns.map V.int).length + 1 ≤ 62 by rw [List.length_map]; omega) (by decide), fun r0 hr0 => ?_⟩)
        have s8 := (s6).trans (s7.trans (same_new (o := .lst (ns.map V.int ++ [.int 0])) hr0))
        have hns1 := hp1 h3 h4
        rw [← hnsl] at hns1
        have hji : kk.joinI ns = match ns.getLast? with | none => if kk = .use then none else some 0 | some x => some x := by
          cases kk <;> first | rfl | exact absurd rfl h3 | exact absurd rfl h4
        cases ns with
        | nil =>
          refine ixL 0 (SqL.of upd_same) (v := .int 0) rfl (hC _ _ (fin ?_ s8))
          rw [hji]
          simp only [List.getLast?_nil]
          rw [if_neg (fun _ => hne rfl)]
          rfl
        | cons x r =>
          have : r = [] := by simpa using hns1
          subst this
          refine ixL 0 (SqL.of upd_same) (v := .int x) rfl (hC _ _ (fin ?_ s8))
          rw [hji]
          rfl
    · rw [decide_eq_false hku]
      refine iteF (iteF ?_)
      refine ⟨_, rfl, eqS ⟨_, rfl, ?_⟩⟩
      rw [show decide (kk.s = "sum") = decide (kk = Kd.sum) from Kd.s_eq kk Kd.sum]
      by_cases h3 : kk = .sum
      · rw [decide_eq_true h3]
        refine iteT ⟨_, rfl, D, ns, rfl, SqL.of hD2, .inl ⟨_, rfl, _, _, rfl, rfl, (by show (9973 : Int) ≠ 0; decide), hC _ _ (fin ?_ (Same.refl _))⟩⟩
        rw [h3]
        show V.int (ns.sum.fmod 9973) = _
        rw [fmod_prime]
        rfl
      rw [decide_eq_false h3]
      refine iteF ⟨_, rfl, eqS ⟨_, rfl, ?_⟩⟩
      rw [show decide (kk.s = "product") = decide (kk = Kd.product) from Kd.s_eq kk Kd.product]
      by_cases h4 : kk = .product
      · rw [decide_eq_true h4]
        refine iteT ⟨_, rfl, D, rfl, ⟨_, SqL.of hD2⟩, ?_⟩
        refine for_it walk_list (fun i σ H5 => (∃ o6, σ = [some (.ref a), some (.ref p), some (.ref kn), some zv, some (.str kk.s), some (.ref D), o6, some (.int ((ns.take i).foldl (fun a b => a * b % 9973) 1))]) ∧ H5 = H2) ⟨⟨_, rfl⟩, rfl⟩ (fun _ _ _ _ p => p.2 ▸ SqL.of hD2) (fun i vv σ H5 H6 hi pp yy => ?_) (fun σ H5 pp => ?_)
        · obtain ⟨⟨o6, rfl⟩, rfl⟩ := pp
          obtain ⟨rfl, hx⟩ := yy
          rw [List.getElem?_map] at hx
          cases hx2 : ns[i]? with
          | none => rw [hx2] at hx; cases hx
          | some nn =>
            rw [hx2] at hx
            obtain rfl : V.int nn = vv := Option.some.inj hx
            have hb := fold_bound (ns.take i) 1 ⟨by decide, by decide⟩
            refine ⟨_, rfl, _, rfl, _, _, rfl, rfl, .inl ⟨by omega, by omega⟩, .inl ⟨_, rfl, _, _, rfl, rfl, (by show (9973 : Int) ≠ 0; decide), ⟨some (.int nn), ?_⟩, rfl⟩⟩
            rw [List.take_add_one, hx2, List.foldl_append]
            show [some (.ref a), some (.ref p), some (.ref kn), some zv, some (.str kk.s), some (.ref D), some (.int nn), some (.int ((((ns.take i).foldl (fun a b => a * b % 9973) 1) * nn).fmod 9973))] = _
            rw [fmod_prime]
            rfl
        · obtain ⟨⟨o6, rfl⟩, rfl⟩ := pp
          rw [List.length_map, List.take_length]
          refine hC _ _ (fin ?_ (Same.refl _))
          rw [h4]
          rfl
      rw [decide_eq_false h4]
      refine iteF ⟨_, rfl, szL, fun l0 hl0 => ?_⟩
      have s7 := same_new (o := .lst [V.int 0]) hl0
      refine .inr (.inr ⟨D, l0, ns.map V.int, [.int 0], rfl, rfl, s7 _ _ hD2, upd_same, Nat.le_trans (show (ns.map V.int).length + 1 ≤ 62 by rw [List.length_map]; omega) (by decide), fun r0 hr0 => ?_⟩)
      have s8 := ((Same.refl _)).trans (s7.trans (same_new (o := .lst (ns.map V.int ++ [.int 0])) hr0))
      have hns1 := hp1 h3 h4
      rw [← hnsl] at hns1
      have hji : kk.joinI ns = match ns.getLast? with | none => if kk = .use then none else some 0 | some x => some x := by
        cases kk <;> first | rfl | exact absurd rfl h3 | exact absurd rfl h4
      cases ns with
      | nil =>
        refine ixL 0 (SqL.of upd_same) (v := .int 0) rfl (hC _ _ (fin ?_ s8))
        rw [hji]
        simp only [List.getLast?_nil]
        rw [if_neg (hku)]
        rfl
      | cons x r =>
        have : r = [] := by simpa using hns1
        subst this
        refine ixL 0 (SqL.of upd_same) (v := .int x) rfl (hC _ _ (fin ?_ s8))
        rw [hji]
        rfl
  obtain ⟨⟨o6, rfl⟩, s4⟩ := hg
  have hM4 := hM2.same rd_stb.stb s4
  refine ⟨_, rfl, _, rfl, _, rfl, hM4.put (x := S.val z) rd_stb.stb (dp_same s4 hzv2) ro_of (Nat.lt_of_le_of_lt (hK2.len hS hSl) (by decide)) fun es d5 t5 => ⟨_, rfl, ?_⟩⟩
  refine q _ _ (Fr.drop (a := D) ?_ hD) d5 (hK2.put hz)
  have f4 : Fr [kn, D] H (upd H4 kn (DO P w kn es)) := (f2.trans (Same.fr s4)).at (by simp)
  exact f4.mono (by
    intro c hc
    simp only [List.mem_cons, List.not_mem_nil, or_false] at hc ⊢
    exact hc.symm)
def sp_worths (P : Program) (w : World) (K : PySem.W.Frag) : Sp := fun us H Q _ => us.length = 2 ∧ ∃ (a p : Addr) (S : SA), us = [.ref a, .ref p] ∧ StF P w K H a S ∧ DM P w K (RLs K) H p S.lineP ∧ ∀ (q : Addr) (H' : Hp), Same H H' → H q = none → DM P w K (RO K) H' q S.lineV → Q (.ref q) H'
theorem ok_worths (T : Tx w K mg e0) : Kn P w K mg base 73 (He.ga K "_law_worths") ["_law_state", "_law_parts_here"] (sp_worths P w K) := by
  have G_State_line : Kn P w K mg base 1 _ _ _ := ok_line T
  have G_l_worth : Kn P w K mg base 72 _ _ _ := ok_worth T 64
  refine T.d_l_worths.kn sc_l_worths (fun _ _ _ _ _ _ us hl => match us, hl with | [_, _], _ => rfl) (fun vs H Q E h => h.1) (fun cdv A outer s H vs Q E hr h => ?_)
  have hu := hu65 hr
  obtain ⟨_, a, p, S, rfl, hF, hP, q⟩ := h
  obtain ⟨⟨dx, ak, ac, ap, au, al, ai, C⟩, hS, hSl⟩ := id hF
  refine ⟨_, (pss_cons (ps_set (i := 2) sc_l_worths.nd rfl (Or.inr rfl) pe_dnew)
    (pss_one (ps_ret (pe_callTy (cb_dict hu) (by rfl) T.b_dict (by decide +kernel) (pa_cons (pe_lc (own := [("_law_thing", 3)]) (by rfl) sc_l_worths.nd (pi_list (pe_mt0 (pv 0) T.cls_State T.me_State_line G_State_line (hr.mono (by first | decide | exact Nat.le_refl _ | exact Nat.le_add_right_of_le (by decide) | omega)))) (blkOk_by (N := n_l_worths) (sc := defScope s_l_worths) (by decide +kernel)) (fun _ _ _ _ _ => (pg_name (i := 3) sc_l_worths.nd rfl (Or.inl rfl))) (fun _ _ _ _ _ => pts_nil) (fun _ _ _ _ _ => (pe_tup (pa_cons (pv 3) (pa_cons (pe_fn G_l_worth (hr.mono (by first | decide | exact Nat.le_refl _ | exact Nat.le_add_right_of_le (by decide) | omega)) T.g__law_worth (pa_cons (pv 0) (pa_cons (pv 1) (pa_cons (pv 2) (pa_cons (pv 3) pa_nil))))) pa_nil))))) pa_nil))))), ?_⟩
  refine fun kn hkn => ?_
  have s1 := same_new (o := DO P w kn []) hkn
  refine ⟨_, rfl, a, dx, _, rfl, s1 _ _ C.ob, rfl, rfl, a, S, rfl, hF.same s1, fun b us hb hus => ⟨b, rfl, ⟨us, SqL.of upd_same⟩, fun D hD => ?_⟩⟩
  have s2 := s1.trans (same_new (o := .lst us) hb)
  have hM2 : DM P w K (RO K) (upd (upd H kn (DO P w kn [])) b (.lst us)) kn [] := ⟨[], (same_new hb) _ _ upd_same, .nil⟩
  have hb2 : (upd (upd H kn (DO P w kn [])) b (.lst us)) b = some (.lst us) := upd_same
  have hus2 := dpa_same (same_new (o := .lst us) hb) hus
  have hD : (upd (upd H kn (DO P w kn [])) b (.lst us)) D = none := hD
  have hul : us.length = S.line.length := by rw [dpa_len hus, List.length_map]
  have hll := hS.line_len hSl
  have hknH2 : ∃ es, (upd (upd H kn (DO P w kn [])) b (.lst us)) kn = some (DO P w kn es) := let ⟨es, e, _⟩ := hM2; ⟨es, e⟩
  have hDkn : D ≠ kn := fun z => by
    obtain ⟨es, e⟩ := hknH2
    have := (hD.symm.trans (congrArg (upd (upd H kn (DO P w kn [])) b (.lst us)) z)).trans e
    cases this
  have hbkn : b ≠ kn := fun z => by
    obtain ⟨es, e⟩ := hknH2
    have := (hb2.symm.trans (congrArg (upd (upd H kn (DO P w kn [])) b (.lst us)) z)).trans e
    cases this
  have hbD : b ≠ D := fun z => by
    have := (hb2.symm.trans (congrArg (upd (upd H kn (DO P w kn [])) b (.lst us)) z)).trans hD
    cases this
  have hDH : H D = none := same_none s2 hD
  have sH : ∀ {H3 : Hp}, Fr [kn, D] (upd (upd H kn (DO P w kn [])) b (.lst us)) H3 → Same H H3 := fun {H3} f => same_fr s2 f (by
    intro c hc
    simp only [List.mem_cons, List.not_mem_nil, or_false] at hc
    rcases hc with rfl | rfl
    · exact hkn
    · exact hDH)
  have tupk : ∀ {H3 : Hp}, Fr [kn, D] (upd (upd H kn (DO P w kn [])) b (.lst us)) H3 → TupLe (upd (upd H kn (DO P w kn [])) b (.lst us)) H3 := fun {H3} f => f.tup (by
    intro c hc
    simp only [List.mem_cons, List.not_mem_nil, or_false] at hc
    rcases hc with rfl | rfl
    · obtain ⟨es, e⟩ := hknH2; exact nt_do e
    · exact nt_none hD)
  refine lc_it (J := Itl K b) walk_list (fun i H3 => Fr [kn, D] (upd (upd H kn (DO P w kn [])) b (.lst us)) H3 ∧ (∃ m, DM P w K (RO K) H3 kn m ∧ KnOk S m) ∧ ∃ (ts : List Addr) (fs : List Ent), H3 D = some (.lst (ts.map .ref)) ∧ ts.length ≤ i ∧ PairsAt K H3 ts fs ∧ DE K (RO K) H3 fs ((S.line.take i).map fun z => (z, S.val z))) ⟨(Fr.refl (S := [kn, D])).snew hD, ⟨[], hM2.same rd_stb.stb (same_new hD), ⟨fun _ _ h => by simp [lk] at h, List.nodup_nil, by simp⟩⟩, [], [], upd_same, Nat.le_refl _, ⟨rfl, fun _ _ _ h => by simp at h⟩, .nil⟩ (fun i H3 _ pp => SqL.of (pp.1.get hb2 (by simp [hbkn, hbD]))) (fun i x H3 H4 hi pp y => ?_) (fun H3 pp => ?_)
  · obtain ⟨f3, ⟨m, hM3, hK3⟩, ts, fs, h1, h2, h3, h4⟩ := pp
    obtain ⟨rfl, hx⟩ := y
    obtain ⟨z, hz, hzv⟩ := dpa_mem hus2 hx
    have hz3 := dp_tup (tupk f3) (imm_sD z) hzv
    have hzl := List.mem_of_getElem? hz
    have hpz := hS.pos_lt hSl hzl
    refine ⟨rfl, ?_⟩
    refine iteT (B := Fr [kn, D] (upd (upd H kn (DO P w kn [])) b (.lst us)) H4 ∧ (∃ m, DM P w K (RO K) H4 kn m ∧ KnOk S m) ∧ ∃ (ts : List Addr) (fs : List Ent), H4 D = some (.lst (ts.map .ref)) ∧ ts.length ≤ i + 1 ∧ PairsAt K H4 ts fs ∧ DE K (RO K) H4 fs ((S.line.take (i + 1)).map fun z => (z, S.val z))) ?_
    refine ⟨_, rfl, _, rfl, _, rfl, _, rfl, _, rfl, rfl, a, p, kn, S, x, z, H, m, rfl, hF, hP, sH f3, hkn, hM3, hK3, hz3, hzl, by omega, fun H5 m5 f5 hM5 hK5 => ⟨szL, fun t ht => ?_⟩⟩
    have f25 : Fr [kn, D] (upd (upd H kn (DO P w kn [])) b (.lst us)) H5 := f3.trans (f5.mono (by simp))
    have hz5 := dp_tup (tupk f25) (imm_sD z) hzv
    obtain ⟨xb, rfl, hxb⟩ := stamp_dp hz5
    have s6 := same_new (o := .tup [.ref xb, oV (S.val z)]) ht
    have h15 := s6 _ _ (f5.get h1 (by simpa using hDkn))
    have t45 : TupLe H4 H5 := f5.tup (by
      intro c hc
      obtain rfl := List.mem_singleton.mp hc
      obtain ⟨es, e, _⟩ := hM3
      exact nt_do e)
    have t7 := (t45.trans (Same.tup s6)).trans (tup_lst (o := .lst (ts.map V.ref ++ [.ref t])) h15)
    refine ⟨ts.map .ref, h15, Nat.lt_of_le_of_lt (show (ts.map V.ref).length ≤ 62 by rw [List.length_map]; omega) (by decide), (f25.trans (Same.fr s6)).at (by simp), ⟨m5, (hM5.same rd_stb.stb s6).lst rd_stb h15, hK5⟩, ts ++ [t], fs ++ [(z, xb, oV (S.val z))], by rw [List.map_append]; exact upd_same, by rw [List.length_append]; simp; omega, ?_, ?_⟩
    · refine (PairsAt.snoc (h3.tup (t45.trans (Same.tup s6))) (SqT.of upd_same) (same_sqt s6 hxb)).tup (tup_lst h15)
    · rw [List.take_add_one, hz, List.map_append]
      exact DE.append (h4.mono t7 fun v x r => rd_stb _ _ v x t7 r) (.cons ⟨rfl, (tup_lst h15) _ _ _ (same_sqt s6 hxb), ro_of⟩ .nil)
  · obtain ⟨f3, _, ts, fs, h1, h2, h3, h4⟩ := pp
    rw [hul, List.take_length] at h4
    refine ⟨D, ts, fs, rfl, SqL.of h1, h3, fun q0 hq0 => ?_⟩
    have s5 := (sH f3).trans (same_new (o := DO P w q0 (putAll [] fs)) hq0)
    refine q q0 _ s5 (same_none (sH f3) hq0) ⟨putAll [] fs, upd_same, ?_⟩
    have := putAll_nd (m := ([] : Tb (Option Int))) (es := []) .nil h4 (by rw [List.nil_append, List.map_map]; simpa [Function.comp_def] using hS.line_nd)
    exact this.mono (Same.tup (same_new hq0)) fun v x r => rd_stb _ _ v x (Same.tup (same_new hq0)) r
end Ss
/-! Walks: rows, what is right. -/
namespace Ss
open PySem PySem.Spec PyProof.Rows L2
variable {P : Program} {w : World} {K : PySem.W.Frag} {mg : Str → Option Value} {base : Heap} {e0 : Addr}
def SA.rowD (S : SA) (z : St2) : PyData := .tuple [.str "none", .tuple ((S.row z).map sD)]
def sp_row (P : Program) (w : World) (K : PySem.W.Frag) : Sp := fun us H Q _ => us.length = 3 ∧ ∃ (p d : Addr) (S : SA) (zv : V) (z : St2), us = [.ref p, .ref d, zv] ∧ SInv S ∧ S.kd.length ≤ 61 ∧ DM P w K (RLs K) H p S.lineP ∧ DM P w K (RO K) H d S.lineV ∧ Dp K H zv (sD z) ∧ z ∈ S.line ∧ S.val z = none ∧
  ∀ (r : V) (H' : Hp), Same H H' → Dp K H' r (S.rowD z) → Q r H'
theorem ok_row (T : Tx w K mg e0) : Kn P w K mg base 1 (He.ga K "_law_row") ["_law_parts_here", "_law_due", "_law_thing"] (sp_row P w K) := by
  refine T.d_l_row.kn sc_l_row (fun _ _ _ _ _ _ us hl => match us, hl with | [_, _, _], _ => rfl) (fun vs H Q E h => h.1) (fun cdv A outer s H vs Q E hr h => ?_)
  have hu := hu65 hr
  obtain ⟨_, p, vt, S, zv, z, rfl, hS, hSl, hP, hvt, hzv, hz, hval, q⟩ := h
  refine ⟨_, (pss_cons (ps_set (i := 3) sc_l_row.nd rfl (Or.inl rfl) (pe_lst (pa_cons (pv 2) pa_nil)))
    (pss_cons (ps_while PassesOwn.never (pt_cmpR (op_neA hu) (pe_ix (ix_any hu) (pv 0) (pe_ix (ix_any hu) (pv 3) (pe_un un_neg pe_int) (fun _ _ => rfl)) (fun _ _ => rfl)) (pe_lst pa_nil) (nomark _)) (pss_one (ps_expr (pe_bm PySem.F.plainAttrs_list PySem.F.slot_list_append PySem.F.type_list_append mt_append (pv 3) (pa_cons (pe_ix (ix_any hu) (pe_lc (own := [("_law_part", 4)]) (by rfl) sc_l_row.nd (pi_list (pe_ix (ix_any hu) (pv 0) (pe_ix (ix_any hu) (pv 3) (pe_un un_neg pe_int) (fun _ _ => rfl)) (fun _ _ => rfl))) (blkOk_by (N := n_l_row) (sc := defScope s_l_row) (by decide +kernel)) (fun _ _ _ _ _ => (pg_name (i := 4) sc_l_row.nd rfl (Or.inl rfl))) (fun _ _ _ _ _ => pts_one (pt_cmpR op_isN (pe_ix (show IxR _ (rIxA P w K) from (ix_any hu)) (pv 1) (pv 4) (fun _ _ => rfl)) pe_non (nomark _))) (fun _ _ _ _ _ => (pv 4))) pe_int (fun _ _ => rfl)) pa_nil)))))
    (pss_one (ps_ret (pe_tup (pa_cons pe_str (pa_cons (pe_callTy (cb_tuple hu) (by rfl) T.b_tuple (by decide +kernel) (pa_cons (pv 3) pa_nil)) pa_nil))))))), ?_⟩
  refine ⟨_, rfl, szL, fun rl hrl => ?_⟩
  have s6 := same_new (o := .lst [zv]) hrl
  refine ⟨fun m σ H2 => ∃ (cur : St2) (pre : List St2) (us : List V) (o4 : Option V), σ = [some (.ref p), some (.ref vt), some zv, some (.ref rl), o4] ∧ Same H H2 ∧ H2 rl = some (.lst us) ∧ DpAll K H2 us ((pre ++ [cur]).map sD) ∧ cur ∈ S.line ∧ S.val cur = none ∧ S.pos cur < m ∧ pre ++ S.rowF m cur = S.row z ∧ pre.length + m = 64, ?_, ?_⟩
  · exact ⟨64, z, [], [zv], _, rfl, s6, upd_same, .cons (dp_same s6 hzv) .nil, hz, hval, by have := hS.pos_lt hSl hz; omega, rfl, rfl⟩
  · rintro m σ H2 ⟨cur, pre, us, o4, rfl, si, hrl2, hus, hcl, hcv, hcp, hrow, hpm⟩
    obtain ⟨m, rfl⟩ : ∃ j, m = j + 1 := ⟨m - 1, by omega⟩
    have hlast : ((pre ++ [cur]).map sD).getLast? = some (sD cur) := by simp
    have hul : us.length = pre.length + 1 := by rw [dpa_len hus, List.length_map, List.length_append]; rfl
    have P2 := hP.same rls_stb si
    refine ⟨_, rfl, _, rfl, _, rfl, ixLd (SqL.of hrl2) hus hlast fun cv hcv2 => dgetR P2.r hcv2 (hS.lineP_at hcl) fun y hy => ?_⟩
    obtain ⟨b, vs, rfl, hb, hvs⟩ := hy
    refine ⟨szL, fun e he => ?_⟩
    have se := same_new (o := .lst []) he
    refine neNil (se.seq hb) (dpa_same se hvs) upd_same (shaped_sts _) ⟨_, rfl, ?_⟩
    have si' := si.trans se
    have hrl3 := se _ _ hrl2
    have hus3 := dpa_same se hus
    have P3 := P2.same rls_stb se
    by_cases hpe : S.parts cur = []
    · have e2 : ((S.parts cur).map sD).isEmpty = true := by rw [hpe]; rfl
      rw [e2]
      refine iteF ⟨_, rfl, .inl ⟨rl, us, rfl, SqL.of hrl3, fun l hl => ⟨szL, fun p hp => ?_⟩⟩⟩
      have s7 := same_new (o := .tup us) hl
      have s8 := s7.trans (same_new (o := .tup [.str "none", .ref l]) hp)
      refine q _ _ (si'.trans s8) ?_
      have hn : S.nextF cur = none := by unfold SA.nextF; rw [hpe]; rfl
      have hr2 : S.row z = pre ++ [cur] := by
        rw [← hrow]
        unfold SA.rowF
        rw [hn]
      unfold SA.rowD
      rw [hr2]
      exact .tup (SqT.of upd_same) (.cons (.str _) (.cons (dp_same (same_new hp) (.tup (SqT.of upd_same) (dpa_same s7 hus3))) .nil))
    · have e2 : ((S.parts cur).map sD).isEmpty = false := by
        cases hq : S.parts cur with
        | nil => exact absurd hq hpe
        | cons _ _ => rfl
      rw [e2]
      obtain ⟨y, hy1, hy2, hy3⟩ := hS.next_some hSl hcl hcv hpe
      obtain ⟨hyl, hyp⟩ := hS.next_at hcl hy1
      refine iteT ⟨fun σ' H' => ∃ m', m' < m + 1 ∧ _, fun σ' H' h => h, ?_⟩
      refine ⟨_, rfl, .inl ⟨rfl, us, SqL.of hrl3⟩, ?_⟩
      refine ⟨_, rfl, _, rfl, _, rfl, ixLd (SqL.of hrl3) hus3 hlast fun cv2 hcv3 => dgetR P3.r hcv3 (hS.lineP_at hcl) fun y' hy' => ?_⟩
      obtain ⟨b2, vs2, rfl, hb2, hvs2⟩ := hy'
      refine ⟨b2, rfl, ⟨_, hb2⟩, fun D hD => ?_⟩
      refine lc_src (K := K) walk_list (fun _ s => s.seq hb2) (S.parts cur) sD (fun y => if ((S.val y).isNone) = true then some (sD y) else none) hvs2 hD (Nat.lt_of_le_of_lt (parts_le hS hSl cur) (by decide)) (fun y _ d e => by
          by_cases c : ((S.val y).isNone) = true
          · rw [if_pos c] at e; cases e; exact imm_sD y
          · rw [if_neg c] at e; cases e) (fun y2 v2 H4 Q2 R hm s4 hv q1 q2 => ?_) (fun H4 ws s4 hD4 hws => ?_)
      · obtain ⟨hyl2, _⟩ := hS.parts_at hcl hm
        refine ⟨rfl, _, rfl, _, rfl, dgetR (hvt.same rd_stb.stb (si'.trans s4)).r hv (hS.lineV_at hyl2) fun v3 hv3 => ?_⟩
        have hv3 := ro_v hv3
        cases hvy : S.val y2 with
        | none =>
          rw [hvy] at hv3
          subst hv3
          exact ⟨rfl, _, rfl, iteT ⟨_, rfl, q1 _ (sD y2) _ (by rw [hvy]; rfl) hv (Same.refl _)⟩⟩
        | some n =>
          rw [hvy] at hv3
          subst hv3
          exact ⟨rfl, _, rfl, iteF (q2 _ (by rw [hvy]; rfl) (Same.refl _))⟩
      · rw [filterMap_if] at hws
        have hh : ((S.parts cur).filter fun y => (S.val y).isNone)[0]? = some y := by
          rw [← List.head?_eq_getElem?, List.head?_filter]
          exact hy1
        obtain ⟨d, hd, hdv⟩ : ∃ v, ws[0]? = some v ∧ Dp K H4 v (sD y) := dpa_get hws (by rw [List.getElem?_map, hh]; rfl)
        have hrl4 := s4 _ _ hrl3
        have t5 := tup_lst (o := .lst (us ++ [d])) hrl4
        refine ixL 0 (SqL.of hD4) hd ⟨rl, us, d, rfl, rfl, hrl4, Nat.lt_of_le_of_lt (show us.length ≤ 65 by omega) (by decide), ?_⟩
        refine ⟨m, Nat.lt_succ_self _, y, pre ++ [cur], us ++ [d], _, rfl, same_mut (si'.trans s4) hrl, upd_same, ?_, hyl, hy3, by omega, ?_, ?_⟩
        · rw [List.map_append]
          exact dpa_append (dpa_tup t5 (immAll_sD _) (dpa_same s4 hus3)) (.cons (dp_tup t5 (imm_sD y) hdv) .nil)
        · rw [← hrow, List.append_assoc]
          congr 1
          show [cur] ++ S.rowF m y = S.rowF (m + 1) cur
          conv => rhs; unfold SA.rowF
          rw [hy1]
          rfl
        · rw [List.length_append]
          simp
          omega
def sp_l_is_in (P : Program) (w : World) (K : PySem.W.Frag) : Sp := fun us H Q _ => us.length = 2 ∧ ∃ (p : Addr) (S : SA) (v : V) (d : PyData), us = [.ref p, v] ∧ SInv S ∧ DM P w K (RLs K) H p S.lineP ∧ Dp K H v d ∧ Q (.bl (S.isIn d)) H
theorem isIn_not {S : SA} {d : PyData} (h : ∀ k, d ≠ sD k) : S.isIn d = false := by
  cases e : S.isIn d with
  | false => rfl
  | true =>
    obtain ⟨k, hk, _⟩ := SA.isIn_at e
    exact absurd hk (h k)
theorem ok_l_is_in (T : Tx w K mg e0) : Kn P w K mg base 1 (He.ga K "_law_is_in") ["_law_parts_here", "_law_one_here"] (sp_l_is_in P w K) := by
  refine T.d_l_is_in.kn sc_l_is_in (fun _ _ _ _ _ _ us hl => match us, hl with | [_, _], _ => rfl) (fun vs H Q E h => h.1) (fun cdv A outer s H vs Q E hr h => ?_)
  have hu := hu65 hr
  obtain ⟨_, p, S, v, d, rfl, hS, hP, hv, q⟩ := h
  refine ⟨_, (pss_cons (ps_if (PW.pt (pw_or (pt_not (pt_val (pe_callB (cb_isinstance hu) (by rfl) T.b_isinstance (by decide +kernel) (pa_cons (pv 1) (pa_cons (pe_bltn (v := .ty "tuple") (by rfl) T.b_tuple PyProof.Rows.boot_tuple rfl) pa_nil))))) (pw_or1 (pt_cmpR (op_neA hu) (pe_callB (cb_len hu) (by rfl) T.b_len (by decide +kernel) (pa_cons (pv 1) pa_nil)) pe_int (nomark _))))) (pss_one (ps_ret pe_bl)) pss_nil)
    (pss_cons (ps_for PassesOwn.never rfl (pi_tup (pv 1)) (pg_name (i := 2) sc_l_is_in.nd rfl (Or.inl rfl)) (pss_one (ps_if (PW.pt (pw_or (pt_not (pt_val (pe_callB (cb_isinstance hu) (by rfl) T.b_isinstance (by decide +kernel) (pa_cons (pv 2) (pa_cons (pe_bltn (v := .ty "int") (by rfl) T.b_int PyProof.Rows.boot_int rfl) pa_nil))))) (pw_or1 (pt_val (pe_callB (cb_isinstance hu) (by rfl) T.b_isinstance (by decide +kernel) (pa_cons (pv 2) (pa_cons (pe_bltn (v := .ty "bool") (by rfl) T.b_bool PyProof.Rows.boot_bool rfl) pa_nil))))))) (pss_one (ps_ret pe_bl)) pss_nil)))
    (pss_one (ps_ret (pe_cmpR (op_inA hu) (pv 1) (pv 0) (by rfl)))))), ?_⟩
  have no : (∀ k, d ≠ sD k) → Q (.bl false) H := fun e => by
    rw [isIn_not e] at q
    exact q
  refine ⟨_, rfl, isi_d hv (kit_tuple d) ⟨_, rfl, ?_⟩⟩
  cases htd : isTupD d with
  | false => exact iteT (iteT (no fun k e => by rw [e] at htd; cases htd))
  | true =>
  obtain ⟨ds, rfl⟩ : ∃ ds, d = .tuple ds := by cases d <;> simp [isTupD] at htd; exact ⟨_, rfl⟩
  refine iteF ⟨_, rfl, lenD hv (neI ⟨_, rfl, ?_⟩)⟩
  by_cases hl2 : ds.length = 2
  · rw [decide_eq_true (show (ds.length : Int) = 2 by omega)]
    cases hv with
    | @tup ra us _ hra hus =>
    have hul : us.length = ds.length := dpa_len hus
    refine iteF ⟨_, rfl, ra, rfl, ⟨_, hra⟩, ?_⟩
    refine for_it walk_tup (fun i σ H2 => (∃ o2, σ = [some (.ref p), some (.ref ra), o2]) ∧ H2 = H ∧ ∀ e ∈ ds.take i, ∃ n, e = .int n) ⟨⟨_, rfl⟩, rfl, by simp⟩ (fun _ _ _ _ p => p.2.1 ▸ hra) (fun i vv σ H2 H3 hi pp yy => ?_) (fun σ H2 pp => ?_)
    · obtain ⟨⟨o2, rfl⟩, rfl, hn⟩ := pp
      obtain ⟨rfl, hx⟩ := yy
      obtain ⟨e, he, hev⟩ := dpa_getV hus hx
      have bad : (∀ n, e ≠ .int n) → Q (.bl false) H3 := fun hb => no fun k hk => by
        have hk : ds = [.int k.1, .int k.2] := by cases hk; rfl
        rw [hk] at he
        have := List.mem_of_getElem? he
        simp at this
        rcases this with h | h
        · exact hb _ h
        · exact hb _ h
      refine ⟨_, rfl, isi_d hev (kit_int e) ⟨_, rfl, ?_⟩⟩
      cases hi1 : isIntD e with
      | false => exact iteT (iteT (bad fun n z => by rw [z] at hi1; cases hi1))
      | true =>
      refine iteF ⟨_, rfl, isi_d hev (kit_bool e) ⟨_, rfl, ?_⟩⟩
      cases hb1 : isBoolD e with
      | true => exact iteT (bad fun n z => by rw [z] at hb1; cases hb1)
      | false =>
        refine iteF ⟨⟨_, rfl⟩, rfl, fun e' he' => ?_⟩
        rw [List.take_add_one, he] at he'
        rcases List.mem_append.mp he' with h | h
        · exact hn e' h
        · simp at h
          subst h
          cases e' <;> simp [isIntD] at hi1 <;> simp [isBoolD] at hb1
          exact ⟨_, rfl⟩
    · obtain ⟨⟨o2, rfl⟩, rfl, hn⟩ := pp
      rw [hul, List.take_length] at hn
      obtain ⟨a, b, rfl⟩ : ∃ a b, ds = [a, b] := by
        match ds, hl2 with
        | [a, b], _ => exact ⟨a, b, rfl⟩
      obtain ⟨i, rfl⟩ := hn a (by simp)
      obtain ⟨j, rfl⟩ := hn b (by simp)
      have hv2 : Dp K H2 (.ref ra) (sD (i, j)) := .tup hra hus
      have q : Q (.bl (S.isIn (sD (i, j)))) H2 := q
      rw [hS.isIn_sD] at q
      refine ⟨_, rfl, _, rfl, dinR hP.r hv2 ?_⟩
      unfold SA.lineP
      rw [lineT_in]
      exact q
  · rw [decide_eq_false (show ¬ (ds.length : Int) = 2 by omega)]
    exact iteT (no fun k e => by
      have : ds = [.int k.1, .int k.2] := by cases e; rfl
      rw [this] at hl2
      exact hl2 rfl)
def sp_right (P : Program) (w : World) (K : PySem.W.Frag) : Sp := fun us H Q _ => us.length = 4 ∧ ∃ (a p : Addr) (S : SA) (zv dv : V) (z : St2) (d : PyData), us = [.ref a, .ref p, zv, dv] ∧ StF P w K H a S ∧ DM P w K (RLs K) H p S.lineP ∧ Dp K H zv (sD z) ∧ z ∈ S.line ∧ Dp K H dv d ∧ rowLen d ≤ 1000 ∧
  (∀ x ds, d = .tuple [x, .tuple ds] → SeqAt.shaped (.tuple ds) = true) ∧ ∀ (H' : Hp), Same H H' → Q (.bl (S.paperB z d)) H'
theorem eqv_tnil (l : List PyData) : PyData.eqv (.tuple l) (.tuple []) = l.isEmpty := by cases l <;> simp [PyData.eqv, PyData.eqvAll]
theorem ok_right (T : Tx w K mg e0) : Kn P w K mg base 8 (He.ga K "_law_right") ["_law_state", "_law_parts_here", "_law_thing", "_law_paper"] (sp_right P w K) := by
  have G_State_kind : Kn P w K mg base 7 _ _ _ := ok_kind T
  have G_l_is_in : Kn P w K mg base 1 _ _ _ := ok_l_is_in T
  refine T.d_l_right.kn sc_l_right (fun _ _ _ _ _ _ us hl => match us, hl with | [_, _, _, _], _ => rfl) (fun vs H Q E h => h.1) (fun cdv A outer s H vs Q E hr h => ?_)
  have hu := hu65 hr
  obtain ⟨_, a, p, S, zv, dv, z, d, rfl, hF, hP, hzv, hz, hdv, hrl, hsh, q⟩ := h
  obtain ⟨⟨sdx, ak, ac, ap, au, al, ai, C⟩, hS, hSl⟩ := id hF
  refine ⟨_, (pss_cons (ps_if (PW.pt (pw_or (pt_not (pt_val (pe_callB (cb_isinstance hu) (by rfl) T.b_isinstance (by decide +kernel) (pa_cons (pv 3) (pa_cons (pe_bltn (v := .ty "tuple") (by rfl) T.b_tuple PyProof.Rows.boot_tuple rfl) pa_nil))))) (pw_or1 (pt_cmpR (op_neA hu) (pe_callB (cb_len hu) (by rfl) T.b_len (by decide +kernel) (pa_cons (pv 3) pa_nil)) pe_int (nomark _))))) (pss_one (ps_ret pe_bl)) pss_nil)
    (pss_cons (ps_if (PW.pt (pw_or (pt_not (pt_val (pe_callB (cb_isinstance hu) (by rfl) T.b_isinstance (by decide +kernel) (pa_cons (pe_ix (ix_any hu) (pv 3) pe_int (fun _ _ => rfl)) (pa_cons (pe_bltn (v := .ty "str") (by rfl) T.b_str PyProof.Rows.boot_str rfl) pa_nil))))) (pw_or1 (pt_cmpR (op_neA hu) (pe_ix (ix_any hu) (pv 3) pe_int (fun _ _ => rfl)) pe_str (nomark _))))) (pss_one (ps_ret pe_bl)) pss_nil)
    (pss_cons (ps_set (i := 4) sc_l_right.nd rfl (Or.inl rfl) (pe_ix (ix_any hu) (pv 3) pe_int (fun _ _ => rfl)))
    (pss_cons (ps_if (PW.pt (pw_or (pt_not (pt_val (pe_callB (cb_isinstance hu) (by rfl) T.b_isinstance (by decide +kernel) (pa_cons (pv 4) (pa_cons (pe_bltn (v := .ty "tuple") (by rfl) T.b_tuple PyProof.Rows.boot_tuple rfl) pa_nil))))) (pw_or1 (pt_cmpR (op_eqA hu) (pv 4) (pe_tup pa_nil) (nomark _))))) (pss_one (ps_ret pe_bl)) pss_nil)
    (pss_cons (ps_for PassesOwn.never rfl (pi_tup (pv 4)) (pg_name (i := 5) sc_l_right.nd rfl (Or.inl rfl)) (pss_one (ps_if (pt_not (pt_val (pe_fn G_l_is_in (hr.mono (by first | decide | exact Nat.le_refl _ | exact Nat.le_add_right_of_le (by decide) | omega)) T.g__law_is_in (pa_cons (pv 1) (pa_cons (pv 5) pa_nil))))) (pss_one (ps_ret pe_bl)) pss_nil)))
    (pss_cons (ps_for PassesOwn.never rfl (pi_range2 (by rfl) T.b_range (pa_cons pe_int (pa_cons (pe_callB (cb_len hu) (by rfl) T.b_len (by decide +kernel) (pa_cons (pv 4) pa_nil)) pa_nil))) (pg_name (i := 6) sc_l_right.nd rfl (Or.inl rfl)) (pss_one (ps_if (pt_cmpR (op_ninA hu) (pe_ix (ix_any hu) (pv 4) (pv 6) (fun _ _ => rfl)) (pe_ix (ix_any hu) (pv 1) (pe_ix (ix_any hu) (pv 4) (pe_op op_sub (pv 6) pe_int) (fun _ _ => rfl)) (fun _ _ => rfl)) (by rfl)) (pss_one (ps_ret pe_bl)) pss_nil)))
    (pss_one (ps_ret (pe_and (pe_cmpR (op_eqA hu) (pe_ix (ix_any hu) (pv 4) pe_int (fun _ _ => rfl)) (pv 2) (nomark _)) (pe_and (pe_cmpR (op_eqA hu) (pe_mt (pv 0) T.cls_State T.me_State_kind G_State_kind (hr.mono (by first | decide | exact Nat.le_refl _ | exact Nat.le_add_right_of_le (by decide) | omega)) (pa_cons (pe_ix (ix_any hu) (pv 4) (pe_un un_neg pe_int) (fun _ _ => rfl)) pa_nil)) pe_str (nomark _)) (pe_one (pe_cmpR (op_eqA hu) (pe_ix (ix_any hu) (pv 1) (pe_ix (ix_any hu) (pv 4) (pe_un un_neg pe_int) (fun _ _ => rfl)) (fun _ _ => rfl)) (pe_lst pa_nil) (nomark _))))))))))))), ?_⟩
  have no : S.paperB z d = false → ∀ {H1 : Hp}, Same H H1 → Q (.bl false) H1 := fun e H1 s1 => by
    have := q _ s1
    rw [e] at this
    exact this
  refine ⟨_, rfl, isi_d hdv (kit_tuple d) ⟨_, rfl, ?_⟩⟩
  cases htd : isTupD d with
  | false => exact iteT (iteT (no (paper_not (by cases d <;> simp [tupB, isTupD] at htd ⊢)) (Same.refl _)))
  | true =>
  obtain ⟨ds, rfl⟩ : ∃ ds, d = .tuple ds := by cases d <;> simp [isTupD] at htd; exact ⟨_, rfl⟩
  refine iteF ⟨_, rfl, lenD hdv (neI ⟨_, rfl, ?_⟩)⟩
  by_cases hl2 : ds.length = 2
  case neg =>
    rw [decide_eq_false (show ¬ (ds.length : Int) = 2 by omega)]
    exact iteT (no (paper_not (by
      show decide ((ds.length : Int) = 2) = false
      exact decide_eq_false (by omega))) (Same.refl _))
  rw [decide_eq_true (show (ds.length : Int) = 2 by omega)]
  obtain ⟨x0, x1, rfl⟩ : ∃ a b, ds = [a, b] := by
    match ds, hl2 with
    | [a, b], _ => exact ⟨a, b, rfl⟩
  have hp := paper_two (S := S) (z := z) (a := x0) (b := x1)
  refine iteF ⟨_, rfl, ixD 0 hdv fun v0 h0 => isi_d h0 (kit_str x0) ⟨_, rfl, ?_⟩⟩
  cases hst : isStrD x0 with
  | false => exact iteT (iteT (no (by rw [hp, show strB x0 "none" = false by cases x0 <;> simp [strB, isStrD] at hst ⊢]; rfl) (Same.refl _)))
  | true =>
  obtain ⟨n, rfl⟩ : ∃ n, x0 = .str n := by cases x0 <;> simp [isStrD] at hst; exact ⟨_, rfl⟩
  refine iteF ⟨_, rfl, ixD 0 hdv fun v0' h0' => ?_⟩
  obtain rfl := dp_str h0'
  refine neS ⟨_, rfl, ?_⟩
  by_cases hn : n = "none"
  case neg =>
    rw [decide_eq_false hn]
    exact iteT (no (by rw [hp, show strB (.str n) "none" = false from decide_eq_false hn]; rfl) (Same.refl _))
  rw [decide_eq_true hn]
  rw [show strB (.str n) "none" = true from decide_eq_true hn, Bool.true_and] at hp
  refine iteF ⟨_, rfl, ixD 1 hdv fun v1 h1 => ?_⟩
  refine ⟨_, rfl, isi_d h1 (kit_tuple x1) ⟨_, rfl, ?_⟩⟩
  cases htd1 : isTupD x1 with
  | false => exact iteT (iteT (no (by rw [hp, htd1]; rfl) (Same.refl _)))
  | true =>
  rw [htd1, Bool.true_and] at hp
  obtain ⟨es, rfl⟩ : ∃ ds, x1 = .tuple ds := by cases x1 <;> simp [isTupD] at htd1; exact ⟨_, rfl⟩
  have hrl : es.length ≤ 1000 := hrl
  have hp : S.paperB z (.tuple [.str n, .tuple es]) = (!es.isEmpty && (es.all S.isIn && S.rowB z (es.filterMap unB))) := hp
  refine iteF ⟨_, rfl, szL, fun e he => ?_⟩
  have s1 := same_new (o := .tup []) he
  refine eqD (dp_same s1 h1) (.tup (SqT.of upd_same) .nil) ?_ (hsh _ _ rfl) rfl
  rw [eqv_tnil]
  refine ⟨_, rfl, ?_⟩
  cases hem : es.isEmpty with
  | true => exact iteT (no (by rw [hp, hem]; rfl) s1)
  | false =>
  rw [hem] at hp
  cases h1 with
  | @tup ra us _ hra hus =>
  have hul : us.length = es.length := dpa_len hus
  have hrow : Dp K H (.ref ra) (.tuple es) := .tup hra hus
  dsimp only
  refine iteF ⟨_, rfl, ra, rfl, ⟨_, same_sqt s1 hra⟩, ?_⟩
  revert s1
  generalize upd H e (.tup []) = H1
  intro s1
  refine for_it walk_tup (fun i σ H2 => (∃ o5, σ = [some (.ref a), some (.ref p), some zv, some dv, some (.ref ra), o5, none]) ∧ H2 = H1 ∧ ∀ e ∈ es.take i, S.isIn e = true) ⟨⟨_, rfl⟩, rfl, by simp⟩ (fun _ _ _ _ p => p.2.1 ▸ same_sqt s1 hra) (fun i vv σ H2 H3 hi pp yy => ?_) (fun σ H2 pp => ?_)
  · obtain ⟨⟨o5, rfl⟩, rfl, hn5⟩ := pp
    obtain ⟨rfl, hx⟩ := yy
    obtain ⟨e5, he5, hev⟩ := dpa_getV hus hx
    refine ⟨_, rfl, _, rfl, rfl, p, S, vv, e5, rfl, hS, hP.same rls_stb s1, dp_same s1 hev, ⟨_, rfl, ?_⟩⟩
    cases hie : S.isIn e5 with
    | false =>
      refine iteT (no ?_ s1)
      rw [hp]
      have : es.all S.isIn = false := by
        cases ha : es.all S.isIn with
        | false => rfl
        | true => rw [List.all_eq_true.mp ha e5 (List.mem_of_getElem? he5)] at hie; cases hie
      rw [this]
      rfl
    | true =>
      refine iteF ⟨⟨_, rfl⟩, rfl, fun e' he' => ?_⟩
      rw [List.take_add_one, he5] at he'
      rcases List.mem_append.mp he' with h | h
      · exact hn5 e' h
      · simp at h
        rw [h]
        exact hie
  obtain ⟨⟨o5, rfl⟩, rfl, hn5⟩ := pp
  rw [hul, List.take_length] at hn5
  have ha : es.all S.isIn = true := List.all_eq_true.mpr hn5
  rw [ha] at hp
  obtain ⟨ks, rfl, hun, hkl⟩ := in_all ha
  rw [hun] at hp
  have hkl0 : ks ≠ [] := fun z => by rw [z] at hem; cases hem
  have hrow2 := dp_same s1 hrow
  have hkn : ks.length ≤ 1000 := by rw [List.length_map] at hrl; exact hrl
  have hp : S.paperB z (.tuple [.str n, .tuple (ks.map sD)]) = (decide (ks.head? = some z) && (S.chainB ks && S.lastLost ks)) := by
    rw [hp]
    unfold SA.rowB SA.lastLost
    simp
    all_goals rfl
  dsimp only
  refine ⟨_, rfl, lenD hrow2 ⟨1, _, rfl, ⟨by decide, by decide, by rw [List.length_map]; omega, by rw [List.length_map]; omega⟩, ?_⟩⟩
  have hP2 := hP.same rls_stb s1
  refine for_it walk_range (fun i σ H3 => (∃ o6, σ = [some (.ref a), some (.ref p), some zv, some dv, some (.ref ra), o5, o6]) ∧ H3 = H2 ∧ ∀ j, j < i → ∀ a b, ks[j]? = some a → ks[j + 1]? = some b → b ∈ S.parts a) ⟨⟨_, rfl⟩, rfl, fun _ hj => absurd hj (Nat.not_lt_zero _)⟩ (fun _ _ _ _ _ => trivial) (fun i vv σ H3 H4 hi pp yy => ?_) (fun σ H3 pp => ?_)
  · obtain ⟨⟨o6, rfl⟩, rfl, hch⟩ := pp
    obtain ⟨rfl, rfl⟩ := yy
    have hi2 : i + 1 < ks.length := by rw [List.length_map] at hi; omega
    obtain ⟨x, hx⟩ : ∃ x, ks[i]? = some x := ⟨_, List.getElem?_eq_getElem (by omega)⟩
    obtain ⟨y, hy⟩ : ∃ y, ks[i + 1]? = some y := ⟨_, List.getElem?_eq_getElem hi2⟩
    refine ⟨_, rfl, _, rfl, ixD (d := sD y) (i + 1) hrow2 (fun u hu2 => ?_) (by rw [List.getElem?_map, hy]; rfl) (by omega)⟩
    refine ⟨_, rfl, _, rfl, _, rfl, _, _, rfl, rfl, ixD (d := sD x) i hrow2 (fun u3 hu3 => ?_) (by rw [List.getElem?_map, hx]; rfl) (by omega)⟩
    refine dgetR hP2.r hu3 (hS.lineP_at (hkl x (List.mem_of_getElem? hx))) fun v5 hv5 => ?_
    obtain ⟨b, us5, rfl, hb, hus5⟩ := hv5
    refine ninSt hu2 hb hus5 ⟨_, rfl, ?_⟩
    by_cases c : y ∈ S.parts x
    · rw [decide_eq_true c]
      refine iteF ⟨⟨_, rfl⟩, rfl, fun j hj a b ha hb2 => ?_⟩
      rcases Nat.lt_succ_iff_lt_or_eq.mp hj with hj | rfl
      · exact hch j hj a b ha hb2
      · rw [hx] at ha
        rw [hy] at hb2
        cases ha
        cases hb2
        exact c
    · rw [decide_eq_false c]
      refine iteT (no ?_ s1)
      rw [hp, SA.chain_not hx hy c, Bool.false_and, Bool.and_false]
  obtain ⟨⟨o6, rfl⟩, rfl, hch⟩ := pp
  have hc : S.chainB ks = true := SA.chain_take fun i a b ha hb => hch i (by
    have := (List.getElem?_eq_some_iff.mp hb).1
    rw [List.length_map]
    omega) a b ha hb
  rw [hc, Bool.true_and] at hp
  have hzv2 := dp_same s1 hzv
  have hlast : (ks.map sD).getLast? = some (sD (ks.getLast hkl0)) := by rw [List.getLast?_map, List.getLast?_eq_some_getLast hkl0]; rfl
  have hlk : S.lastLost ks = S.lost (ks.getLast hkl0) := by
    unfold SA.lastLost
    rw [List.getLast?_eq_some_getLast hkl0]
  have hll := hkl _ (List.getLast_mem hkl0)
  rw [hlk] at hp
  generalize ks.getLast hkl0 = kl at hlast hp hll hlk
  obtain ⟨k0, hk0⟩ : ∃ k0, ks.head? = some k0 := by
    cases ks with
    | nil => exact absurd rfl hkl0
    | cons k _ => exact ⟨k, rfl⟩
  rw [hk0] at hp
  have hFH := hF.same s1
  obtain ⟨⟨sdx, ak, ac, ap, au, al, ai, C⟩, _⟩ := id hFH
  refine ⟨_, rfl, ixD (d := sD k0) 0 hrow2 (fun u hu2 => ⟨_, rfl, eqK hu2 hzv2 ⟨_, rfl, ?_⟩⟩) (by rw [List.getElem?_map, ← List.head?_eq_getElem?, hk0]; rfl)⟩
  by_cases c : k0 = z
  case neg =>
    rw [decide_eq_false c]
    refine iteF (no ?_ s1)
    rw [hp, decide_eq_false (by simp; exact c)]
    rfl
  rw [decide_eq_true c]
  rw [decide_eq_true (by rw [c]), Bool.true_and] at hp
  obtain ⟨kk, hkk⟩ := hS.line_kd hll
  refine iteT ⟨_, rfl, a, sdx, _, rfl, C.ob, rfl, _, rfl, _, rfl, ixDl hrow2 hlast fun u3 hu3 => ⟨rfl, a, S, u3, kl, kk, rfl, hFH, hu3, hkk, eqS ⟨_, rfl, ?_⟩⟩⟩
  rw [show decide (kk.s = "use") = decide (kk = Kd.use) from Kd.s_eq kk Kd.use]
  have hlo : S.lost kl = (decide (kk = .use) && (S.parts kl).isEmpty) := by
    unfold SA.lost
    rw [hkk]
    simp
  rw [hlo] at hp
  by_cases hku : kk = .use
  case neg =>
    rw [decide_eq_false hku] at hp ⊢
    exact iteF (no hp s1)
  rw [decide_eq_true hku, Bool.true_and] at hp
  rw [decide_eq_true hku]
  refine iteT ⟨_, rfl, _, rfl, _, rfl, ixDl hrow2 hlast fun u5 hu5 => dgetR hP2.r hu5 (hS.lineP_at hll) fun v6 hv6 => ?_⟩
  obtain ⟨b, us5, rfl, hb, hus5⟩ := hv6
  refine ⟨szL, fun e2 he2 => ?_⟩
  have s2 := same_new (o := .lst []) he2
  refine eqNil (s2.seq hb) (dpa_same s2 hus5) upd_same (shaped_sts _) ?_
  have := q _ (s1.trans s2)
  rw [hp] at this
  rw [show ((S.parts kl).map sD).isEmpty = (S.parts kl).isEmpty by cases S.parts kl <;> rfl]
  exact this
end Ss
/-! Walks: what is bent. -/
namespace Ss
open PySem PySem.Spec PyProof.Rows L2
variable {P : Program} {w : World} {K : PySem.W.Frag} {mg : Str → Option Value} {base : Heap} {e0 : Addr}
/-- the heap without some lists -/
def lessL (H : Hp) (B : List Addr) : Hp := fun c => if c ∈ B then none else H c
theorem lessL_at {H : Hp} {B : List Addr} {c : Addr} {u : HO} (h : H c = some u) (n : c ∉ B) : lessL H B c = some u := by
  unfold lessL
  rw [if_neg n]
  exact h
theorem lessL_get {H : Hp} {B : List Addr} {c : Addr} {u : HO} (h : lessL H B c = some u) : c ∉ B ∧ H c = some u := by
  unfold lessL at h
  by_cases e : c ∈ B
  · rw [if_pos e] at h; cases h
  · rw [if_neg e] at h; exact ⟨e, h⟩
theorem lessL_sub {H : Hp} {B : List Addr} : Same (lessL H B) H := fun c u h => (lessL_get h).2
theorem lessL_fr {H H' : Hp} {B : List Addr} (f : Fr B H H') : Same (lessL H B) (lessL H' B) := fun c u h => by
  obtain ⟨n, e⟩ := lessL_get h
  exact lessL_at (f c u n e) n
theorem lessL_mem {H : Hp} {B : List Addr} {c : Addr} (h : c ∈ B) : lessL H B c = none := if_pos h
theorem lessL_none {H : Hp} {B : List Addr} {c : Addr} (h : H c = none) : lessL H B c = none := by
  unfold lessL
  by_cases e : c ∈ B
  · rw [if_pos e]
  · rw [if_neg e]; exact h
/-- all of them lists -/
def Lsts (H : Hp) (B : List Addr) : Prop := ∀ b ∈ B, ∃ xs, H b = some (.lst xs)
theorem Lsts.nt {H : Hp} {B : List Addr} (h : Lsts H B) : ∀ b ∈ B, NT H b := fun b hb => let ⟨_, e⟩ := h b hb; nt_lst e
theorem Lsts.same {H H' : Hp} {B : List Addr} (h : Lsts H B) (s : Same H H') : Lsts H' B := fun b hb => let ⟨xs, e⟩ := h b hb; ⟨xs, s _ _ e⟩
theorem Lsts.src {H H' : Hp} {B : List Addr} {s : Addr} (h : Lsts H B) (f : Fr [s] H H') (hs : Src H' s) : Lsts H' B := fun b hb => by
  by_cases e : b = s
  · obtain ⟨_, _, h1, _⟩ := hs
    exact ⟨_, e ▸ h1⟩
  · obtain ⟨xs, h1⟩ := h b hb
    exact ⟨xs, f.get h1 (by simpa using e)⟩
theorem Lsts.new {H : Hp} {B : List Addr} {l : Addr} (h : Lsts H B) (hl : H l = none) : l ∉ B := fun m => by
  obtain ⟨_, e⟩ := h l m
  rw [hl] at e
  cases e
theorem lessL_tup {H : Hp} {B : List Addr} (h : Lsts H B) : TupLe H (lessL H B) := fun K b xs q => by
  rcases q with q | q
  · have hb : b ∉ B := fun z => h.nt b z xs q
    rcases q with q | ⟨o, q⟩
    · exact .inl (.inl (lessL_at q hb))
    · exact .inl (.inr ⟨o, lessL_at q hb⟩)
  · exact .inr q
theorem dp_less {H : Hp} {B : List Addr} {v : V} {d : PyData} (h : Lsts H B) (i : imm d = true) (hv : Dp K H v d) : Dp K (lessL H B) v d := dp_tup (lessL_tup h) i hv
theorem dpa_less {H : Hp} {B : List Addr} {vs : List V} {ds : List PyData} (h : Lsts H B) (i : immAll ds = true) (hv : DpAll K H vs ds) : DpAll K (lessL H B) vs ds := dpa_tup (lessL_tup h) i hv
/-- a + b of tuples -/
theorem catT {H : Hp} {u v : V} {ds es : List PyData} {Q : VK} (hu : Dp K H u (.tuple ds)) (hv : Dp K H v (.tuple es)) (hl : ds.length + es.length ≤ 1000) (q : ∀ (r : V) (H' : Hp), Same H H' → Dp K H' r (.tuple (ds ++ es)) → Q r H') : rAddA K u v H Q := by
  cases hu with
  | @tup a us _ ha hus =>
  cases hv with
  | @tup b vs _ hb hvs =>
    have l1 := dpa_len hus
    have l2 := dpa_len hvs
    refine .inr (.inl ⟨a, b, us, vs, rfl, rfl, ha, hb, Nat.le_trans (show us.length + vs.length ≤ 1000 by omega) (by decide), fun z => ?_, fun _ z => ?_, fun _ _ p hp => ?_⟩)
    · have : ds = [] := List.length_eq_zero_iff.mp (by rw [← l1, z]; rfl)
      subst this
      exact q _ _ (Same.refl _) (.tup hb hvs)
    · have : es = [] := List.length_eq_zero_iff.mp (by rw [← l2, z]; rfl)
      subst this
      refine q _ _ (Same.refl _) ?_
      rw [List.append_nil]
      exact .tup ha hus
    · exact q _ _ (same_new hp) (.tup (SqT.of upd_same) (dpa_append (dpa_same (same_new hp) hus) (dpa_same (same_new hp) hvs)))
theorem catB {H : Hp} {B : List Addr} {u v : V} {ds es : List PyData} {Q : VK} (hB : Lsts H B) (hu : Dp K (lessL H B) u (.tuple ds)) (hv : Dp K (lessL H B) v (.tuple es)) (hl : ds.length + es.length ≤ 1000) (q : ∀ (r : V) (H' : Hp), Same H H' → Dp K (lessL H' B) r (.tuple (ds ++ es)) → Q r H') : rAddA K u v H Q := by
  cases hu with
  | @tup a us _ ha hus =>
  cases hv with
  | @tup b vs _ hb hvs =>
    have l1 := dpa_len hus
    have l2 := dpa_len hvs
    refine .inr (.inl ⟨a, b, us, vs, rfl, rfl, same_sqt lessL_sub ha, same_sqt lessL_sub hb, Nat.le_trans (show us.length + vs.length ≤ 1000 by omega) (by decide), fun z => ?_, fun _ z => ?_, fun _ _ p hp => ?_⟩)
    · have : ds = [] := List.length_eq_zero_iff.mp (by rw [← l1, z]; rfl)
      subst this
      exact q _ _ (Same.refl _) (.tup hb hvs)
    · have : es = [] := List.length_eq_zero_iff.mp (by rw [← l2, z]; rfl)
      subst this
      refine q _ _ (Same.refl _) ?_
      rw [List.append_nil]
      exact .tup ha hus
    · have s := lessL_fr (B := B) (Same.fr (same_new (o := .tup (us ++ vs)) hp))
      exact q _ _ (same_new hp) (.tup (SqT.of (lessL_at upd_same (hB.new hp))) (dpa_append (dpa_same s hus) (dpa_same s hvs)))
/-- list(d) of a dict -/
theorem listKeys {α : Type} {R : Hp → V → α → Prop} {H : Hp} {p : Addr} {m : Tb α} {Q : VK} (h : DM P w K R H p m) (q : ∀ (l : Addr) (us : List V), H l = none → DpAll K H us ((m.map (·.1)).map sD) → Q (.ref l) (upd H l (.lst us))) : rListA P w K [.ref p] H Q := by
  obtain ⟨es, e, d⟩ := h
  refine .inr ⟨p, es, rfl, ⟨.inl e, d.ks⟩, fun l hl => q l _ hl ?_⟩
  clear q e hl
  unfold DE at d
  induction d with
  | nil => exact .nil
  | @cons e x es m r t ih =>
    refine .cons ?_ ih
    have := dp_stamp r.2.1
    rw [r.1] at this
    exact this
theorem lineP_keys (S : SA) : S.lineP.map (·.1) = S.line := by
  unfold SA.lineP
  rw [List.map_map]
  simp [Function.comp_def]
theorem lineV_keys (S : SA) : S.lineV.map (·.1) = S.line := by
  unfold SA.lineV
  rw [List.map_map]
  simp [Function.comp_def]
def PapOk (d : PyData) : Prop := rowLen d ≤ 1000 ∧ ∀ x ds, d = .tuple [x, .tuple ds] → SeqAt.shaped (.tuple ds) = true
theorem papOk_row {x : PyData} {ds : List PyData} (hl : ds.length ≤ 1000) (h : ∀ d ∈ ds, PyData.canLay0 d = true ∧ d.depth ≤ 60) : PapOk (.tuple [x, .tuple ds]) := ⟨hl, fun x' ds' e => by
  cases e
  exact shaped_of h⟩
theorem papOk_st {x : PyData} {ks : List St2} (hl : ks.length ≤ 1000) : PapOk (.tuple [x, .tuple (ks.map sD)]) := papOk_row (by rw [List.length_map]; exact hl) fun d hd => by
  obtain ⟨k, _, rfl⟩ := List.mem_map.mp hd
  have := lay_sD k
  exact ⟨this.1, by omega⟩
theorem imm_row (x : Str) (ks : List St2) : imm (.tuple [.str x, .tuple (ks.map sD)]) = true := by simp [imm, immAll, immAll_sD]
def sp_spoilt (P : Program) (w : World) (K : PySem.W.Frag) : Sp := fun us H Q _ => us.length = 3 ∧ ∃ (s p : Addr) (S : SA) (A : Hp) (B : List Addr) (dv : V) (x0 : PyData) (ks : List St2), us = [.ref s, .ref p, dv] ∧ Src H s ∧ s ∈ B ∧ Lsts H B ∧ DM P w K (RLs K) A p S.lineP ∧ Same A H ∧ A s = none ∧
  Dp K H dv (.tuple [x0, .tuple (ks.map sD)]) ∧ imm x0 = true ∧ ks.length ≤ 100 ∧ S.line.length ≤ 62 ∧ ∀ (v : V) (d : PyData) (H' : Hp), Fr [s] H H' → Src H' s → Dp K (lessL H' B) v d → PapOk d → Q v H'
theorem ok_spoilt (T : Tx w K mg e0) : Kn P w K mg base 3 (He.ga K "_law_spoilt") ["_law_source", "_law_parts_here", "_law_paper"] (sp_spoilt P w K) := by
  have G_l_take : Kn P w K mg base 1 _ _ _ := ok_take T
  have G_l_one : Kn P w K mg base 2 _ _ _ := ok_one T
  refine T.d_l_spoilt.kn sc_l_spoilt (fun _ _ _ _ _ _ us hl => match us, hl with | [_, _, _], _ => rfl) (fun vs H Q E h => h.1) (fun cdv A outer s H vs Q E hr h => ?_)
  have hu := hu65 hr
  obtain ⟨_, s0, p, S, A0, B, dv, x0, ks, rfl, hs, hsB, hB, hP, sA, hAs, hdv, him, hkl, hll, q⟩ := h
  refine ⟨_, (pss_cons (ps_set (i := 3) sc_l_spoilt.nd rfl (Or.inl rfl) (pe_fn G_l_take (hr.mono (by first | decide | exact Nat.le_refl _ | exact Nat.le_add_right_of_le (by decide) | omega)) T.g__law_take (pa_cons (pv 0) (pa_cons pe_int pa_nil))))
    (pss_cons (ps_set (i := 4) sc_l_spoilt.nd rfl (Or.inl rfl) (pe_ix (ix_any hu) (pv 2) pe_int (fun _ _ => rfl)))
    (pss_cons (ps_if (pt_not (pt_val (pe_callB (cb_isinstance hu) (by rfl) T.b_isinstance (by decide +kernel) (pa_cons (pv 4) (pa_cons (pe_bltn (v := .ty "tuple") (by rfl) T.b_tuple PyProof.Rows.boot_tuple rfl) pa_nil))))) (pss_one (ps_set (i := 4) sc_l_spoilt.nd rfl (Or.inl rfl) (pe_tup pa_nil))) pss_nil)
    (pss_cons (ps_set (i := 5) sc_l_spoilt.nd rfl (Or.inl rfl) (pe_fn G_l_take (hr.mono (by first | decide | exact Nat.le_refl _ | exact Nat.le_add_right_of_le (by decide) | omega)) T.g__law_take (pa_cons (pv 0) (pa_cons (pe_op op_addA (pe_callB (cb_len hu) (by rfl) T.b_len (by decide +kernel) (pa_cons (pv 4) pa_nil)) pe_int) pa_nil))))
    (pss_cons (ps_if (pt_cmpR (op_eqA hu) (pv 3) pe_int (nomark _)) (pss_one (ps_ret (pe_tup (pa_cons pe_str (pa_cons (pe_op op_addA (pe_op op_addA (pe_slice sl_any (pv 4) po_none (po_some (pv 5))) (pe_tup (pa_cons (pe_fn G_l_one (hr.mono (by first | decide | exact Nat.le_refl _ | exact Nat.le_add_right_of_le (by decide) | omega)) T.g__law_one (pa_cons (pv 0) (pa_cons (pe_callTy (cb_list hu) (by rfl) T.b_list (by decide +kernel) (pa_cons (pv 1) pa_nil)) pa_nil))) pa_nil))) (pe_slice sl_any (pv 4) (po_some (pv 5)) po_none)) pa_nil))))) pss_nil)
    (pss_cons (ps_if (pt_cmpR (op_eqA hu) (pv 3) pe_int (nomark _)) (pss_one (ps_ret (pe_tup (pa_cons pe_str (pa_cons (pe_op op_addA (pe_slice sl_any (pv 4) po_none (po_some (pv 5))) (pe_slice sl_any (pv 4) (po_some (pe_op op_addA (pv 5) pe_int)) po_none)) pa_nil))))) pss_nil)
    (pss_cons (ps_if (pt_cmpR (op_eqA hu) (pv 3) pe_int (nomark _)) (pss_one (ps_ret (pe_tup (pa_cons pe_str (pa_cons (pe_slice sl_any (pv 4) (po_some (pv 5)) po_none) pa_nil))))) pss_nil)
    (pss_cons (ps_if (pt_cmpR (op_eqA hu) (pv 3) pe_int (nomark _)) (pss_one (ps_ret (pe_tup (pa_cons pe_str (pa_cons (pe_op op_addA (pe_slice sl_any (pv 4) po_none (po_some (pv 5))) (pe_tup (pa_cons (pe_fn G_l_one (hr.mono (by first | decide | exact Nat.le_refl _ | exact Nat.le_add_right_of_le (by decide) | omega)) T.g__law_one (pa_cons (pv 0) (pa_cons (pe_lst (pa_cons pe_non (pa_cons pe_int (pa_cons (pe_tup (pa_cons pe_int (pa_cons pe_int (pa_cons pe_int pa_nil)))) (pa_cons (pe_lst (pa_cons pe_int (pa_cons pe_int pa_nil))) (pa_cons (pe_tup (pa_cons pe_bl (pa_cons pe_int pa_nil))) (pa_cons pe_str pa_nil))))))) pa_nil))) pa_nil))) pa_nil))))) pss_nil)
    (pss_cons (ps_if (pt_cmpR (op_eqA hu) (pv 3) pe_int (nomark _)) (pss_one (ps_ret (pe_fn G_l_one (hr.mono (by first | decide | exact Nat.le_refl _ | exact Nat.le_add_right_of_le (by decide) | omega)) T.g__law_one (pa_cons (pv 0) (pa_cons (pe_lst (pa_cons (pe_tup (pa_cons pe_str (pa_cons (pe_callTy (cb_list hu) (by rfl) T.b_list (by decide +kernel) (pa_cons (pv 4) pa_nil)) pa_nil))) (pa_cons (pe_tup (pa_cons pe_str (pa_cons (pv 4) pa_nil))) (pa_cons (pe_tup (pa_cons pe_str pa_nil)) (pa_cons (pe_lst (pa_cons pe_str (pa_cons (pv 4) pa_nil))) (pa_cons (pe_tup (pa_cons pe_str (pa_cons (pv 4) (pa_cons (pe_tup pa_nil) pa_nil)))) pa_nil)))))) pa_nil))))) pss_nil)
    (pss_cons (ps_if (pt_cmpR (op_eqA hu) (pv 3) pe_int (nomark _)) (pss_one (ps_ret (pe_tup (pa_cons pe_str (pa_cons (pe_callTy (cb_tuple hu) (by rfl) T.b_tuple (by decide +kernel) (pa_cons (pe_lc (own := [("_law_turn", 6)]) (by rfl) sc_l_spoilt.nd (pi_range1 (by rfl) T.b_range (pa_cons (pe_fn G_l_take (hr.mono (by first | decide | exact Nat.le_refl _ | exact Nat.le_add_right_of_le (by decide) | omega)) T.g__law_take (pa_cons (pv 0) (pa_cons pe_int pa_nil))) pa_nil)) (blkOk_by (N := n_l_spoilt) (sc := defScope s_l_spoilt) (by decide +kernel)) (fun _ _ _ _ _ => (pg_name (i := 6) sc_l_spoilt.nd rfl (Or.inl rfl))) (fun _ _ _ _ _ => pts_nil) (fun _ _ _ _ _ => (pe_fn G_l_one (hr.mono (by first | decide | exact Nat.le_refl _ | exact Nat.le_add_right_of_le (by decide) | omega)) T.g__law_one (pa_cons (pv 0) (pa_cons (pe_callTy (show CallR _ _ (rListA P w K) from (cb_list hu)) (by rfl) T.b_list (by decide +kernel) (pa_cons (pv 1) pa_nil)) pa_nil))))) pa_nil)) pa_nil))))) pss_nil)
    (pss_one (ps_ret (pe_tup (pa_cons pe_int (pa_cons (pv 4) pa_nil))))))))))))))), ?_⟩
  refine ⟨_, rfl, rfl, s0, 7, rfl, hs, by decide, by decide, fun way H1 f1 hs1 hway => ?_⟩
  have himd : imm (.tuple [x0, .tuple (ks.map sD)]) = true := by simp [imm, immAll, immAll_sD, him]
  have hdv1 := dp_tup (hs.tup f1) himd hdv
  refine ⟨_, rfl, ixD 1 hdv1 fun v1 h1 => ?_⟩
  refine ⟨_, rfl, isi_d h1 (kit_tuple _) ⟨_, rfl, iteF ?_⟩⟩
  refine ⟨_, rfl, _, rfl, lenD h1 (addI ?_)⟩
  have hlk : (ks.map sD).length = ks.length := List.length_map ..
  refine ⟨rfl, s0, ks.length + 1, by rw [hlk]; rfl, hs1, by omega, by omega, fun j H2 f2 hs2 hj => ?_⟩
  have g2 := f1.trans f2
  have row := dp_tup (hs1.tup f2) (show imm (.tuple (ks.map sD)) = true from immAll_sD ks) h1
  have hB2 := (hB.src f1 hs1).src f2 hs2
  have sA2 : Same A0 H2 := same_fr sA g2 (by
    intro z hz
    obtain rfl := List.mem_singleton.mp hz
    exact hAs)
  clear f1 hs1 hdv1 h1 f2 hdv hs hB sA
  -- an imm paper
  have fin : ∀ {H3 : Hp} {t : Addr} {r : V} {x : Str} {ks' : List St2}, Fr [s0] H2 H3 → Src H3 s0 → H3 t = none → Dp K H3 r (.tuple (ks'.map sD)) → ks'.length ≤ 1000 → Q (.ref t) (upd H3 t (.tup [.str x, r])) := fun {H3 t r x ks'} f3 hs3 ht hr hk => by
    have s4 := same_new (o := .tup [.str x, r]) ht
    have d4 : Dp K (upd H3 t (.tup [.str x, r])) (.ref t) (.tuple [.str x, .tuple (ks'.map sD)]) := .tup (SqT.of upd_same) (.cons (.str _) (.cons (dp_same s4 hr) .nil))
    exact q _ _ _ (g2.trans (f3.trans (Same.fr s4))) (hs3.same s4) (dp_less ((hB2.src f3 hs3).same s4) (imm_row x ks') d4) (papOk_st hk)
  have keys : ∀ {H3 : Hp} {QQ : VK}, Same A0 H3 → (∀ (l : Addr) (us : List V), H3 l = none → DpAll K H3 us (S.line.map sD) → QQ (.ref l) (upd H3 l (.lst us))) → rListA P w K [.ref p] H3 QQ := fun {H3 QQ} f3 qq => by
    refine listKeys (hP.same rls_stb f3) ?_
    rw [lineP_keys]
    exact qq
  have pick : ∀ {H3 : Hp} {l : Addr} {us : List V} {QQ : VK}, Src H3 s0 → H3 l = none → DpAll K H3 us (S.line.map sD) → (∀ (x : V) (k : St2) (H' : Hp), Fr [s0] H3 H' → Src H' s0 → Dp K H' x (sD k) → QQ x H') → sp_one K [.ref s0, .ref l] (upd H3 l (.lst us)) QQ E0 := fun {H3 l us QQ} hs3 hl hus qq => by
    have s4 := same_new (o := .lst us) hl
    refine one_dp (hs3.same s4) (SqL.of upd_same) (dpa_same s4 hus) (immAll_sD _) (by simp [SA.line]) (by rw [List.length_map]; omega) (new_ne hs3 hl) fun x d H4 f4 hs4 t4 hd hx => ?_
    obtain ⟨k, _, rfl⟩ := List.mem_map.mp hd
    exact qq x k H4 ((Same.fr s4).trans f4) hs4 hx
  have hjl : j ≤ ks.length := by omega
  refine ⟨_, rfl, eqI ⟨_, rfl, ite2 (fun _ => ?_) (fun _ => ?_)⟩⟩
  · -- one more
    refine ⟨_, rfl, _, rfl, _, rfl, sliceTo j row fun u H3 s3 hu3 => ?_⟩
    refine ⟨_, rfl, _, rfl, keys (sA2.trans s3) fun l us hl hus => pick (hs2.same s3) hl hus fun x k H4 f4 hs4 hx => ⟨szL, fun t ht => ?_⟩⟩
    have s5 := same_new (o := .tup [x]) ht
    have hu5 := dp_same s5 (dp_tup ((hs2.same s3).tup f4) (show imm (.tuple ((ks.map sD).take j)) = true by rw [← List.map_take]; exact immAll_sD _) hu3)
    refine catT (es := [sD k]) hu5 (.tup (SqT.of upd_same) (.cons (dp_same s5 hx) .nil)) (by rw [List.length_take]; simp; omega) fun r H6 s6 hr6 => ?_
    have f6 : Fr [s0] H2 H6 := (Same.fr s3).trans (f4.trans ((Same.fr s5).trans (Same.fr s6)))
    have hs6 := (hs4.same s5).same s6
    have row6 := dp_tup (hs2.tup f6) (show imm (.tuple (ks.map sD)) = true from immAll_sD ks) row
    refine ⟨_, rfl, _, rfl, _, rfl, sliceFrom j row6 fun u7 H7 s7 hu7 => ?_⟩
    refine catT (dp_same s7 hr6) hu7 (by rw [List.length_append, List.length_take, List.length_drop]; simp; omega) fun r8 H8 s8 hr8 => ⟨szL, fun t8 ht8 => ?_⟩
    have e : ((ks.map sD).take j ++ [sD k] ++ (ks.map sD).drop j) = (ks.take j ++ [k] ++ ks.drop j).map sD := by
      rw [List.map_append, List.map_append, List.map_take, List.map_drop]
      rfl
    rw [e] at hr8
    exact fin (f6.trans ((Same.fr s7).trans (Same.fr s8))) ((hs6.same s7).same s8) ht8 hr8 (by rw [List.length_append, List.length_append, List.length_take, List.length_drop]; simp; omega)
  refine ⟨_, rfl, eqI ⟨_, rfl, ite2 (fun _ => ?_) (fun _ => ?_)⟩⟩
  · -- one less
    refine ⟨_, rfl, _, rfl, _, rfl, sliceTo j row fun u H3 s3 hu3 => ?_⟩
    refine ⟨_, rfl, _, rfl, addI ?_⟩
    refine ⟨((j + 1 : Nat) : Int), rfl, sliceFrom (j + 1) (dp_same s3 row) fun u4 H4 s4 hu4 => ?_⟩
    refine catT (dp_same s4 hu3) hu4 (by rw [List.length_take, List.length_drop]; omega) fun r5 H5 s5 hr5 => ⟨szL, fun t5 ht5 => ?_⟩
    have e : ((ks.map sD).take j ++ (ks.map sD).drop (j + 1)) = (ks.take j ++ ks.drop (j + 1)).map sD := by
      rw [List.map_append, List.map_take, List.map_drop]
    rw [e] at hr5
    have s35 := s3.trans (s4.trans s5)
    exact fin (Same.fr s35) (hs2.same s35) ht5 hr5 (by rw [List.length_append, List.length_take, List.length_drop]; omega)
  refine ⟨_, rfl, eqI ⟨_, rfl, ite2 (fun _ => ?_) (fun _ => ?_)⟩⟩
  · refine ⟨_, rfl, _, rfl, _, rfl, sliceFrom j row fun u H3 s3 hu3 => ⟨szL, fun t5 ht5 => ?_⟩⟩
    rw [← List.map_drop] at hu3
    exact fin (Same.fr s3) (hs2.same s3) ht5 hu3 (by rw [List.length_drop]; omega)
  refine ⟨_, rfl, eqI ⟨_, rfl, ite2 (fun _ => ?_) (fun _ => ?_)⟩⟩
  · -- an odd end
    refine ⟨_, rfl, _, rfl, _, rfl, sliceTo j row fun u H3 s3 hu3 => ?_⟩
    refine ⟨_, rfl, szL, fun t1 ht1 => ⟨szL, fun l1 hl1 => ⟨szL, fun t2 ht2 => ⟨szL, fun L hL => ?_⟩⟩⟩⟩
    have a1 := same_new (o := .tup [V.int 0, .int 0, .int 0]) ht1
    have a2 := same_new (o := .lst [V.int 1, .int 0]) hl1
    have a3 := same_new (o := .tup [V.bl true, .int 0]) ht2
    have a4 := same_new (o := .lst [V.non, .int 3, .ref t1, .ref l1, .ref t2, .str "a"]) hL
    have aa := a1.trans (a2.trans (a3.trans a4))
    have hB3 := hB2.same s3
    have hB4 := hB3.same aa
    have hl1B : l1 ∉ B := (hB3.same a1).new hl1
    have hdl : Dp K (lessL (upd (upd (upd (upd H3 t1 (.tup [V.int 0, .int 0, .int 0])) l1 (.lst [V.int 1, .int 0])) t2 (.tup [V.bl true, .int 0])) L (.lst [V.non, .int 3, .ref t1, .ref l1, .ref t2, .str "a"])) B) (.ref l1) (.list [.int 1, .int 0]) := .lst (SqL.of (lessL_at ((a3.trans a4) _ _ upd_same) hl1B)) (.cons (.int _) (.cons (.int _) .nil))
    have hall : DpAll K (lessL (upd (upd (upd (upd H3 t1 (.tup [V.int 0, .int 0, .int 0])) l1 (.lst [V.int 1, .int 0])) t2 (.tup [V.bl true, .int 0])) L (.lst [V.non, .int 3, .ref t1, .ref l1, .ref t2, .str "a"])) B) [V.non, .int 3, .ref t1, .ref l1, .ref t2, .str "a"] [.none, .int 3, .tuple [.int 0, .int 0, .int 0], .list [.int 1, .int 0], .tuple [.bool true, .int 0], .str "a"] := by
      refine .cons .non (.cons (.int _) (.cons ?_ (.cons hdl (.cons ?_ (.cons (.str _) .nil)))))
      · exact dp_less hB4 rfl (dp_same (a2.trans (a3.trans a4)) (.tup (SqT.of upd_same) (.cons (.int _) (.cons (.int _) (.cons (.int _) .nil)))))
      · exact dp_less hB4 rfl (dp_same a4 (.tup (SqT.of upd_same) (.cons (.bl _) (.cons (.int _) .nil))))
    refine ⟨rfl, s0, L, _, rfl, (hs2.same s3).same aa, SqL.of upd_same, by simp, by simp, new_ne ((hs2.same s3).same (a1.trans (a2.trans a3))) hL, fun i x H4 f4 hs4 hx => ⟨szL, fun t ht => ?_⟩⟩
    obtain ⟨d, hd1, hd2⟩ := dpa_getV hall hx
    have f34 : Fr [s0] H3 H4 := (Same.fr aa).trans f4
    have hd4 : Dp K (lessL H4 B) x d := dp_same (lessL_fr (f4.mono (by simpa using hsB))) hd2
    have hlay : PyData.canLay0 d = true ∧ d.depth ≤ 60 := by
      have := List.mem_of_getElem? hd1
      simp only [List.mem_cons, List.not_mem_nil, or_false] at this
      rcases this with rfl | rfl | rfl | rfl | rfl | rfl
      · exact ⟨by decide +kernel, by decide +kernel⟩
      · exact ⟨by decide +kernel, by decide +kernel⟩
      · exact ⟨by decide +kernel, by decide +kernel⟩
      · exact ⟨by decide +kernel, by decide +kernel⟩
      · exact ⟨by decide +kernel, by decide +kernel⟩
      · exact ⟨by decide +kernel, by decide +kernel⟩
    have s5 := same_new (o := .tup [x]) ht
    have f25 : Fr [s0] H2 (upd H4 t (.tup [x])) := (Same.fr s3).trans (f34.trans (Same.fr s5))
    have hB5 : Lsts (upd H4 t (.tup [x])) B := (hB2.src ((Same.fr s3).trans f34) hs4).same s5
    have imt : imm (.tuple ((ks.map sD).take j)) = true := by rw [← List.map_take]; exact immAll_sD _
    have hu5 : Dp K (upd H4 t (.tup [x])) u (.tuple ((ks.map sD).take j)) := dp_same s5 (dp_tup ((hs2.same s3).tup f34) imt hu3)
    have hd5 : Dp K (lessL (upd H4 t (.tup [x])) B) x d := dp_same (lessL_fr (Same.fr s5)) hd4
    have hu6 : Dp K (lessL (upd H4 t (.tup [x])) B) u (.tuple ((ks.map sD).take j)) := dp_less hB5 imt hu5
    refine catB (es := [d]) hB5 hu6 (.tup (SqT.of (lessL_at upd_same ((hB2.src ((Same.fr s3).trans f34) hs4).new ht))) (.cons hd5 .nil)) (by rw [List.length_take]; simp; omega) fun r H6 s6 hr6 => ⟨szL, fun t7 ht7 => ?_⟩
    have s7 := same_new (o := .tup [.str "none", r]) ht7
    have hB6 := hB5.same s6
    refine q _ (.tuple [.str "none", .tuple ((ks.map sD).take j ++ [d])]) _ (g2.trans (f25.trans ((Same.fr s6).trans (Same.fr s7)))) (((hs4.same s5).same s6).same s7) (.tup (SqT.of (lessL_at upd_same (hB6.new ht7))) (.cons (.str _) (.cons (dp_same (lessL_fr (Same.fr s7)) hr6) .nil))) (papOk_row (by rw [List.length_append, List.length_take]; simp; omega) fun e he => ?_)
    rcases List.mem_append.mp he with h | h
    · obtain ⟨k, _, rfl⟩ := List.mem_map.mp (List.mem_of_mem_take h)
      have := lay_sD k
      exact ⟨this.1, by omega⟩
    · rw [List.mem_singleton.mp h]
      exact hlay
  refine ⟨_, rfl, eqI ⟨_, rfl, ite2 (fun _ => ?_) (fun _ => ?_)⟩⟩
  · -- not a paper
    cases row with
    | @tup ra us _ hra hus =>
    have row : Dp K H2 (.ref ra) (.tuple (ks.map sD)) := .tup hra hus
    have hul : us.length = ks.length := by rw [dpa_len hus, hlk]
    refine ⟨_, rfl, _, rfl, .inl ⟨ra, us, rfl, .inr hra, fun l1 hl1 => ⟨szL, fun t1 ht1 => ⟨_, rfl, szL, fun t2 ht2 => ⟨szL, fun t3 ht3 => ⟨_, rfl, szL, fun l4 hl4 => ⟨_, rfl, szL, fun t5 ht5 => ⟨szL, fun t6 ht6 => ⟨szL, fun L hL => ?_⟩⟩⟩⟩⟩⟩⟩⟩⟩
    have a1 := same_new (o := .lst us) hl1
    have a2 := same_new (o := .tup [V.str "none", .ref l1]) ht1
    have a3 := same_new (o := .tup [V.str "None", .ref ra]) ht2
    have a4 := same_new (o := .tup [V.str "none"]) ht3
    have a5 := same_new (o := .lst [V.str "none", .ref ra]) hl4
    have a6 := same_new (o := .tup []) ht5
    have a7 := same_new (o := .tup [V.str "none", .ref ra, .ref t5]) ht6
    have a8 := same_new (o := .lst [V.ref t1, .ref t2, .ref t3, .ref l4, .ref t6]) hL
    have c78 := a7.trans a8
    have c68 := a6.trans c78
    have c58 := a5.trans c68
    have c48 := a4.trans c58
    have c38 := a3.trans c48
    have c28 := a2.trans c38
    have aa := a1.trans c28
    have b1 := hB2.same a1
    have b2 := b1.same a2
    have b3 := b2.same a3
    have b4 := b3.same a4
    have b5 := b4.same a5
    have b6 := b5.same a6
    have b7 := b6.same a7
    have b8 := b7.same a8
    have hr8 := dp_less b8 (show imm (.tuple (ks.map sD)) = true from immAll_sD ks) (dp_same aa row)
    have hall : DpAll K (lessL (upd (upd (upd (upd (upd (upd (upd (upd H2 l1 (.lst us)) t1 (.tup [V.str "none", .ref l1])) t2 (.tup [V.str "None", .ref ra])) t3 (.tup [V.str "none"])) l4 (.lst [V.str "none", .ref ra])) t5 (.tup [])) t6 (.tup [V.str "none", .ref ra, .ref t5])) L (.lst [V.ref t1, .ref t2, .ref t3, .ref l4, .ref t6])) B) [V.ref t1, .ref t2, .ref t3, .ref l4, .ref t6]
        [.tuple [.str "none", .list (ks.map sD)], .tuple [.str "None", .tuple (ks.map sD)], .tuple [.str "none"], .list [.str "none", .tuple (ks.map sD)], .tuple [.str "none", .tuple (ks.map sD), .tuple []]] := by
      refine .cons ?_ (.cons ?_ (.cons ?_ (.cons ?_ (.cons ?_ .nil))))
      · refine .tup (SqT.of (lessL_at (c38 _ _ upd_same) (b1.new ht1))) (.cons (.str _) (.cons (.lst (SqL.of (lessL_at (c28 _ _ upd_same) (hB2.new hl1))) ?_) .nil))
        exact dpa_less b8 (immAll_sD ks) (dpa_same aa hus)
      · exact .tup (SqT.of (lessL_at (c48 _ _ upd_same) (b2.new ht2))) (.cons (.str _) (.cons hr8 .nil))
      · exact .tup (SqT.of (lessL_at (c58 _ _ upd_same) (b3.new ht3))) (.cons (.str _) .nil)
      · exact .lst (SqL.of (lessL_at (c68 _ _ upd_same) (b4.new hl4))) (.cons (.str _) (.cons hr8 .nil))
      · exact .tup (SqT.of (lessL_at (a8 _ _ upd_same) (b6.new ht6))) (.cons (.str _) (.cons hr8 (.cons (.tup (SqT.of (lessL_at (c78 _ _ upd_same) (b5.new ht5))) .nil) .nil)))
    refine ⟨rfl, s0, L, _, rfl, hs2.same aa, SqL.of upd_same, by simp, by simp, new_ne (hs2.same (a1.trans (a2.trans (a3.trans (a4.trans (a5.trans (a6.trans a7))))))) hL, fun i x H4 f4 hs4 hx => ?_⟩
    obtain ⟨d, hd1, hd2⟩ := dpa_getV hall hx
    refine q x d H4 (g2.trans ((Same.fr aa).trans f4)) hs4 (dp_same (lessL_fr (f4.mono (by simpa using hsB))) hd2) ?_
    have hrow : SeqAt.shaped (.tuple (ks.map sD)) = true := shaped_of fun e he => by
      obtain ⟨k, _, rfl⟩ := List.mem_map.mp he
      have := lay_sD k
      exact ⟨this.1, by omega⟩
    have := List.mem_of_getElem? hd1
    simp only [List.mem_cons, List.not_mem_nil, or_false] at this
    rcases this with rfl | rfl | rfl | rfl | rfl
    · exact ⟨Nat.zero_le _, fun x ds e => by cases e⟩
    · exact papOk_st (by omega)
    · exact ⟨Nat.zero_le _, fun x ds e => by cases e⟩
    · exact ⟨Nat.zero_le _, fun x ds e => by cases e⟩
    · exact ⟨Nat.zero_le _, fun x ds e => by cases e⟩
  refine ⟨_, rfl, eqI ⟨_, rfl, ite2 (fun _ => ?_) (fun _ => ?_)⟩⟩
  · -- any things
    refine ⟨_, rfl, rfl, s0, 4, rfl, hs2, by decide, by decide, fun k H3 f3 hs3 hk => ⟨_, rfl, by omega, by omega, fun D hD => ?_⟩⟩
    have sA3 : Same A0 H3 := same_fr sA2 f3 (by
      intro z hz
      obtain rfl := List.mem_singleton.mp hz
      exact hAs)
    have hDA : A0 D = none := same_none sA3 hD
    have hDs : D ≠ s0 := new_ne hs3 hD
    refine lc_it (J := Itr 0 k) (n := k) walk_range (fun i Hi => Fr [s0, D] H3 Hi ∧ Src Hi s0 ∧ ∃ (us : List V) (ks' : List St2), Hi D = some (.lst us) ∧ us.length ≤ i ∧ ks'.length ≤ i ∧ DpAll K Hi us (ks'.map sD)) ⟨(Fr.refl (S := [s0, D])).snew hD, hs3.same (same_new hD), [], [], upd_same, Nat.le_refl _, Nat.le_refl _, .nil⟩ (fun _ _ _ _ => trivial) (fun i x Hi H5 hi pp yy => ?_) (fun Hi pp => ?_)
    · obtain ⟨fi, hsi, us, ks', hDi, hul, hkl', hus⟩ := pp
      obtain ⟨rfl, rfl⟩ := yy
      have sAi : Same A0 H5 := same_fr sA3 fi (by
        intro z hz
        simp only [List.mem_cons, List.not_mem_nil, or_false] at hz
        rcases hz with rfl | rfl
        · exact hAs
        · exact hDA)
      refine ⟨rfl, ?_⟩
      refine iteT (B := Fr [s0, D] H3 H5 ∧ Src H5 s0 ∧ ∃ (us : List V) (ks' : List St2), H5 D = some (.lst us) ∧ us.length ≤ i + 1 ∧ ks'.length ≤ i + 1 ∧ DpAll K H5 us (ks'.map sD)) ?_
      refine ⟨_, rfl, _, rfl, keys sAi fun l us5 hl hus5 => pick hsi hl hus5 fun x5 k5 H6 f6 hs6 hx6 => ?_⟩
      have hD6 := f6.get hDi (by simpa using hDs)
      have t7 := tup_lst (o := .lst (us ++ [x5])) hD6
      refine ⟨us, hD6, Nat.lt_of_le_of_lt (show us.length ≤ 4 by omega) (by decide), (fi.trans (f6.mono (by simp))).at (by simp), ?_, us ++ [x5], ks' ++ [k5], upd_same, by rw [List.length_append]; simp; omega, by rw [List.length_append]; simp; omega, ?_⟩
      · obtain ⟨a, b', e, e2⟩ := hs6
        exact ⟨a, b', by rw [upd_ne (Ne.symm hDs)]; exact e, e2⟩
      · rw [List.map_append]
        exact dpa_append (dpa_tup ((hsi.tup f6).trans t7) (immAll_sD _) hus) (.cons (dp_tup t7 (imm_sD _) hx6) .nil)
    · obtain ⟨fi, hsi, us, ks', hDi, hul, hkl', hus⟩ := pp
      refine .inl ⟨D, us, rfl, SqL.of hDi, fun t ht => ⟨szL, fun t2 ht2 => ?_⟩⟩
      have s6 := same_new (o := .tup us) ht
      have fD : Fr [s0] H3 Hi := Fr.drop (a := D) (fi.mono (by
        intro z hz
        simp only [List.mem_cons, List.not_mem_nil, or_false] at hz ⊢
        exact hz.symm)) hD
      exact fin (f3.trans (fD.trans (Same.fr s6))) (hsi.same s6) ht2 (.tup (SqT.of upd_same) (dpa_same s6 hus)) (by omega)
  · -- no word
    refine ⟨_, rfl, szL, fun t ht => ?_⟩
    have s3 := same_new (o := .tup [.int 0, v1]) ht
    refine q _ (.tuple [.int 0, .tuple (ks.map sD)]) _ (g2.trans (Same.fr s3)) (hs2.same s3) (dp_less (hB2.same s3) (by simp [imm, immAll, immAll_sD]) (.tup (SqT.of upd_same) (.cons (.int _) (.cons (dp_same s3 row) .nil)))) (papOk_st (by omega))
end Ss
/-! Walks: the law. -/
namespace Ss
open PySem PySem.Spec PyProof.Rows L2
variable {P : Program} {w : World} {K : PySem.W.Frag} {mg : Str → Option Value} {base : Heap} {e0 : Addr}
/-- new, or a table -/
def Nn (H : Hp) (a : Addr) : Prop := ∀ u, H a = some u → ∃ ps, u = .tbl ps
theorem Nn.of {H H' : Hp} {a : Addr} (e : LamX.ExtN H H') (h : H' a = none) : Nn H a := fun u hu => by
  by_cases c : ∃ ps, u = .tbl ps
  · exact c
  · have := e a u hu (fun ps z => c ⟨ps, z⟩)
    rw [h] at this
    cases this
theorem extN_fr {H H1 H2 : Hp} {S : List Addr} (e : LamX.ExtN H H1) (f : Fr S H1 H2) (n : ∀ a ∈ S, Nn H a) : LamX.ExtN H H2 := fun b o h t => by
  by_cases c : b ∈ S
  · obtain ⟨ps, z⟩ := n b c o h
    exact absurd z (t ps)
  · exact f b o c (e b o h t)
theorem extN_frn {H H1 H2 : Hp} {S : List Addr} (e : LamX.ExtN H H1) (f : FrN S H1 H2) (n : ∀ a ∈ S, Nn H a) : LamX.ExtN H H2 := fun b o h t => by
  by_cases c : b ∈ S
  · obtain ⟨ps, z⟩ := n b c o h
    exact absurd z (t ps)
  · exact f b o c t (e b o h t)
theorem tabs_fr {T : List (Addr × Str)} {H H' : Hp} {S : List Addr} (h : LamX.Tabs T H) (f : Fr S H H') (n : ∀ a ∈ S, ∀ u, H a = some u → (∀ ps, u ≠ .tbl ps) ∧ ∀ φ, u ≠ .ext φ) : LamX.Tabs T H' := fun p hp => by
  obtain ⟨ps, h1, h2, h3⟩ := h p hp
  refine ⟨ps, f _ _ (fun m => (n _ m _ h1).1 ps rfl) h1, h2, fun pos cv hc => ?_⟩
  obtain ⟨c, e1, e2⟩ := h3 pos cv hc
  exact ⟨c, e1, f _ _ (fun m => (n _ m _ e2).2 _ rfl) e2⟩
theorem src_tb {H : Hp} {s : Addr} (hs : Src H s) : ∀ a ∈ [s], ∀ u, H a = some u → (∀ ps, u ≠ .tbl ps) ∧ ∀ φ, u ≠ .ext φ := fun a ha u hu => by
  obtain rfl := List.mem_singleton.mp ha
  obtain ⟨_, _, e, _⟩ := hs
  rw [e] at hu
  cases hu
  exact ⟨fun _ z => (by cases z), fun _ z => (by cases z)⟩
theorem sql_extN {H H' : Hp} {a : Addr} {xs : List V} (e : LamX.ExtN H H') (h : SqL K H a xs) : SqL K H' a xs := by
  rcases h with (h | ⟨o, h⟩) | h
  · exact .inl (.inl (e _ _ h (fun _ z => nomatch z)))
  · exact .inl (.inr ⟨o, e _ _ h (fun _ z => nomatch z)⟩)
  · exact .inr h
/-- what a heap without the source keeps -/
theorem sql_noS {H : Hp} {s b : Addr} {vs : List V} {l : List St2} (hs : Src H s) (h : SqL K H b vs) (hd : DpAll K H vs (l.map sD)) : SqL K (lessL H [s]) b vs := by
  rcases h with h | h
  · have hb : b ≠ s := fun z => by
      subst z
      obtain ⟨x, y, e, _⟩ := hs
      have : vs = [.int x, .int y] := by
        rcases h with h | ⟨_, h⟩
        · rw [e] at h; exact (HO.lst.inj (Option.some.inj h)).symm
        · rw [e] at h; cases h
      subst this
      cases l with
      | nil => cases hd
      | cons k l =>
        cases hd with
        | cons h _ => cases h
    rcases h with h | ⟨o, h⟩
    · exact .inl (.inl (lessL_at h (by simpa using hb)))
    · exact .inl (.inr ⟨o, lessL_at h (by simpa using hb)⟩)
  · exact .inr h
theorem src_lsts {H : Hp} {s : Addr} (hs : Src H s) : Lsts H [s] := fun b hb => by
  obtain rfl := List.mem_singleton.mp hb
  obtain ⟨_, _, e, _⟩ := hs
  exact ⟨_, e⟩
theorem DM.noS {α : Type} {R : Hp → V → α → Prop} {H : Hp} {s a : Addr} {m : Tb α} (hs : Src H s) (h : DM P w K R H a m) (hR : ∀ v x, R H v x → R (lessL H [s]) v x) : DM P w K R (lessL H [s]) a m := by
  obtain ⟨es, e, d⟩ := h
  refine ⟨es, lessL_at e (fun z => ?_), d.mono (lessL_tup (src_lsts hs)) hR⟩
  obtain rfl := List.mem_singleton.mp z
  obtain ⟨_, _, e2, _⟩ := hs
  rw [e] at e2
  cases e2
theorem rls_noS {H : Hp} {s : Addr} (hs : Src H s) : ∀ v x, RLs K H v x → RLs K (lessL H [s]) v x := fun v x ⟨b, vs, e, h, d⟩ => ⟨b, vs, e, sql_noS hs h d, dpa_less (src_lsts hs) (immAll_sD _) d⟩
theorem rd_noS {α : Type} {f : α → PyData} {H : Hp} {s : Addr} (hs : Src H s) : ∀ v x, RD K f H v x → RD K f (lessL H [s]) v x := fun v x r => rd_stb _ _ v x (lessL_tup (src_lsts hs)) r
theorem StF.noS {H : Hp} {s a : Addr} {S : SA} (hs : Src H s) (h : StF P w K H a S) : StF P w K (lessL H [s]) a S := by
  obtain ⟨⟨sdx, ak, ac, ap, au, al, ai, C⟩, hS, hSl⟩ := h
  obtain ⟨vs, h1, h2⟩ := C.line
  refine ⟨⟨sdx, ak, ac, ap, au, al, ai, lessL_at C.ob (fun z => ?_), C.kd.noS hs (rd_noS hs), C.ct.noS hs (rd_noS hs), C.un.noS hs (rls_noS hs), ⟨vs, sql_noS hs h1 h2, dpa_less (src_lsts hs) (immAll_sD _) h2⟩, C.inn.noS hs fun v x r => r⟩, hS, hSl⟩
  obtain rfl := List.mem_singleton.mp z
  obtain ⟨_, _, e2, _⟩ := hs
  rw [C.ob] at e2
  cases e2
theorem eqvAll_st : ∀ l : List St2, PyData.eqvAll (l.map sD) (l.map sD) = true
  | [] => by simp [PyData.eqvAll]
  | k :: l => by
    simp only [List.map_cons, PyData.eqvAll, eqv_sD, eqvAll_st l]
    simp
theorem eqv_row (ks : List St2) : PyData.eqv (.tuple [.str "none", .tuple (ks.map sD)]) (.tuple [.str "none", .tuple (ks.map sD)]) = true := by
  simp [PyData.eqv, PyData.eqvAll, eqvAll_st]
theorem shaped_row (ks : List St2) : SeqAt.shaped (.tuple [.str "none", .tuple (ks.map sD)]) = true := shaped_of fun d hd => by
  simp only [List.mem_cons, List.not_mem_nil, or_false] at hd
  rcases hd with rfl | rfl
  · exact ⟨by decide +kernel, by decide +kernel⟩
  · refine ⟨lay_stamps ks, ?_⟩
    have := depthAll_of (n := 2) (ds := ks.map sD) fun d hd => by
      obtain ⟨k, _, rfl⟩ := List.mem_map.mp hd
      exact (lay_sD k).2
    simp [PyData.depth]
    omega
theorem rg_at {n i : Nat} {x : V} (h : (rgV 0 n)[i]? = some x) : x = .int i ∧ i < n := by
  unfold rgV at h
  rw [List.getElem?_map] at h
  cases e : (List.range ((n : Int) - 0).toNat)[i]? with
  | none => rw [e] at h; cases h
  | some j =>
    rw [e] at h
    obtain ⟨h1, h2⟩ := List.getElem?_eq_some_iff.mp e
    rw [List.getElem_range] at h2
    subst h2
    rw [List.length_range] at h1
    cases h
    refine ⟨?_, by omega⟩
    show V.int (0 + ((i : Nat) : Int)) = V.int i
    rw [Int.zero_add]
def sp_law (K : PySem.W.Frag) : Sp := fun us H Q _ => us.length = 1 ∧ ∃ (l : Addr) (ns : List Int), us = [.ref l] ∧ SqL K H l (ns.map V.int) ∧ ns.length ≤ 63 ∧ LamX.Tabs (T0 K) H ∧ ∀ H', Q (.bl true) H'
/-- the rule at a function object named beforehand -/
theorem fnOk_of {x qual : Str} {st : Stmt} {f : Addr} {fd : FuncData} {N ps : List Str} {k : Nat} {sp : Sp} (F : FunD K x qual (defArgs st) (defBody st) (defScope st) [] [] f fd) (S : FnScope N ps (defScope st))
    (len : ∀ vs H Q E, sp vs H Q E → vs.length = ps.length)
    (hbody : ∀ (cdv : Value) (A : Around) (outer : List Env) (s : Shared) (H : Hp) (vs : List V) (Q : VK) (E : XK), Room k (A.deeper (envOfC qual (defScope st) s.heap.objs.size f cdv)) → sp vs H Q E →
      ∃ t, PSs (cxOf CX0 P w K mg base N qual (defScope st) f cdv A outer s H E).nox (defBody st) t ∧ t { nx := fun _ H' => Q .non H', rt := Q } (start N vs) H) : FnOk P w K mg base CX0 (k + 1) f fd ps sp := by
  refine F.ok S len fun cdv A outer s H vs Q E hr hsp => ?_
  obtain ⟨t, h, q⟩ := hbody cdv A outer s H vs Q E hr hsp
  exact ⟨t, h.nox, q⟩
theorem ok_law (T : Tx w K mg e0) (TB : LamX.TabB base mg (He.cT K defS).1 (He.cT K defS).2) {fd : FuncData} (F0 : FunD K "law" "law" (defArgs s_law) (defBody s_law) (defScope s_law) [] [] (He.ga K "law") fd) : FnOk P w K mg base CX0 92 (He.ga K "law") fd ["_law_script"] (sp_law K) := by
  have G_l_rounds : Kn P w K mg base 1 _ _ _ := ok_rounds T
  have G_l_pool : Kn P w K mg base 1 _ _ _ := ok_pool T
  have G_l_case : Kn P w K mg base 8 _ _ _ := ok_case T
  have G_Book_init : KnD P w K mg base 11 _ _ _ _ := ok_Book_init T
  have G_State_init : KnD P w K mg base 90 (He.ma K (He.ga K "State") "__init__") _ _ _ := ok_State_init T TB
  have G_l_table : Kn P w K mg base 78 _ _ _ := ok_l_table T
  have G_l_worths : Kn P w K mg base 73 _ _ _ := ok_worths T
  have G_l_one : Kn P w K mg base 2 _ _ _ := ok_one T
  have G_none_paper : Kn P w K mg base 80 _ _ _ := ok_none_paper T
  have G_l_row : Kn P w K mg base 1 _ _ _ := ok_row T
  have G_l_spoilt : Kn P w K mg base 3 _ _ _ := ok_spoilt T
  have G_accepts_none : Kn P w K mg base 80 _ _ _ := ok_accepts_none T
  have G_l_right : Kn P w K mg base 8 _ _ _ := ok_right T
  refine fnOk_of F0 sc_law (fun vs H Q E h => h.1) (fun cdv A outer s H vs Q E hr h => ?_)
  have hu := hu65 hr
  obtain ⟨_, l, ns, rfl, hl, hnl, hT, q⟩ := h
  refine ⟨_, (pss_cons (ps_for PassesOwn.never rfl (pi_list (pe_fn G_l_rounds (hr.mono (by first | decide | exact Nat.le_refl _ | exact Nat.le_add_right_of_le (by decide) | omega)) T.g__law_rounds (pa_cons (pv 0) pa_nil))) (pg_name (i := 1) sc_law.nd rfl (Or.inl rfl)) (pss_cons (ps_set (i := 2) sc_law.nd rfl (Or.inl rfl) (pe_fn G_l_pool (hr.mono (by first | decide | exact Nat.le_refl _ | exact Nat.le_add_right_of_le (by decide) | omega)) T.g__law_pool (pa_cons (pv 0) (pa_cons (pv 1) pa_nil))))
    (pss_cons (ps_set (i := 3) sc_law.nd rfl (Or.inl rfl) (pe_fn G_l_case (hr.mono (by first | decide | exact Nat.le_refl _ | exact Nat.le_add_right_of_le (by decide) | omega)) T.g__law_case (pa_cons (pv 2) (pa_cons pe_int pa_nil))))
    (pss_cons (ps_set (i := 4) sc_law.nd rfl (Or.inl rfl) (pe_mk T.mk_State G_State_init (hr.mono (by first | decide | exact Nat.le_refl _ | exact Nat.le_add_right_of_le (by decide) | omega)) T.g_State (pa_cons (pe_mk T.mk_Book G_Book_init (hr.mono (by first | decide | exact Nat.le_refl _ | exact Nat.le_add_right_of_le (by decide) | omega)) T.g_Book (pa_cons (pv 3) pa_nil)) pa_nil)))
    (pss_cons (ps_set (i := 5) sc_law.nd rfl (Or.inl rfl) (pe_fn G_l_table (hr.mono (by first | decide | exact Nat.le_refl _ | exact Nat.le_add_right_of_le (by decide) | omega)) T.g__law_table (pa_cons (pv 4) pa_nil)))
    (pss_cons (ps_set (i := 6) sc_law.nd rfl (Or.inl rfl) (pe_fn G_l_worths (hr.mono (by first | decide | exact Nat.le_refl _ | exact Nat.le_add_right_of_le (by decide) | omega)) T.g__law_worths (pa_cons (pv 4) (pa_cons (pv 5) pa_nil))))
    (pss_cons (ps_set (i := 7) sc_law.nd rfl (Or.inl rfl) (pe_fn G_l_one (hr.mono (by first | decide | exact Nat.le_refl _ | exact Nat.le_add_right_of_le (by decide) | omega)) T.g__law_one (pa_cons (pv 2) (pa_cons (pe_callTy (cb_list hu) (by rfl) T.b_list (by decide +kernel) (pa_cons (pv 6) pa_nil)) pa_nil))))
    (pss_cons (ps_set (i := 8) sc_law.nd rfl (Or.inl rfl) (pe_fn G_none_paper (hr.mono (by first | decide | exact Nat.le_refl _ | exact Nat.le_add_right_of_le (by decide) | omega)) T.g_none_paper (pa_cons (pv 4) (pa_cons (pv 7) pa_nil))))
    (pss_cons (ps_if (pt_cmpR (op_neA hu) (pv 8) (pe_ifExp (pt_cmpR op_isN (pe_ix (ix_any hu) (pv 6) (pv 7) (fun _ _ => rfl)) pe_non (nomark _)) (pe_fn G_l_row (hr.mono (by first | decide | exact Nat.le_refl _ | exact Nat.le_add_right_of_le (by decide) | omega)) T.g__law_row (pa_cons (pv 5) (pa_cons (pv 6) (pa_cons (pv 7) pa_nil)))) pe_non) (nomark _)) (pss_one (ps_ret pe_bl)) pss_nil)
    (pss_cons (ps_set (i := 9) sc_law.nd rfl (Or.inl rfl) (pe_lst (pa_cons (pv 8) (pa_cons (pe_tup (pa_cons pe_str (pa_cons (pe_tup (pa_cons (pv 7) pa_nil)) pa_nil))) (pa_cons pe_non (pa_cons pe_int pa_nil))))))
    (pss_cons (ps_if (pt_cmpR op_isN (pv 8) pe_non (nomark _)) (pss_one (ps_asg (pe_tup (pa_cons pe_str (pa_cons (pe_tup (pa_cons (pv 7) (pa_cons (pe_fn G_l_one (hr.mono (by first | decide | exact Nat.le_refl _ | exact Nat.le_add_right_of_le (by decide) | omega)) T.g__law_one (pa_cons (pv 2) (pa_cons (pe_callTy (cb_list hu) (by rfl) T.b_list (by decide +kernel) (pa_cons (pv 6) pa_nil)) pa_nil))) pa_nil))) pa_nil))) (pg_sub (pv 9) pe_int (set_any hu)))) pss_nil)
    (pss_cons (ps_for PassesOwn.never rfl (pi_range1 (by rfl) T.b_range (pa_cons pe_int pa_nil)) (pg_name (i := 10) sc_law.nd rfl (Or.inl rfl)) (pss_one (ps_expr (pe_bm PySem.F.plainAttrs_list PySem.F.slot_list_append PySem.F.type_list_append mt_append (pv 9) (pa_cons (pe_fn G_l_spoilt (hr.mono (by first | decide | exact Nat.le_refl _ | exact Nat.le_add_right_of_le (by decide) | omega)) T.g__law_spoilt (pa_cons (pv 2) (pa_cons (pv 5) (pa_cons (pe_ix (ix_any hu) (pv 9) pe_int (fun _ _ => rfl)) pa_nil)))) pa_nil)))))
    (pss_one (ps_for PassesOwn.never rfl (pi_list (pv 9)) (pg_name (i := 11) sc_law.nd rfl (Or.inl rfl)) (pss_cons (ps_set (i := 12) sc_law.nd rfl (Or.inl rfl) (pe_fn G_accepts_none (hr.mono (by first | decide | exact Nat.le_refl _ | exact Nat.le_add_right_of_le (by decide) | omega)) T.g_accepts_none (pa_cons (pv 4) (pa_cons (pv 7) (pa_cons (pv 11) pa_nil)))))
    (pss_cons (ps_if (PW.pt (pw_or (pt_cmpR (op_neA hu) (pv 12) (pe_fn G_l_right (hr.mono (by first | decide | exact Nat.le_refl _ | exact Nat.le_add_right_of_le (by decide) | omega)) T.g__law_right (pa_cons (pv 4) (pa_cons (pv 5) (pa_cons (pv 7) (pa_cons (pv 11) pa_nil))))) (nomark _)) (pw_or1 (pt_not (pt_val (pe_callB (cb_isinstance hu) (by rfl) T.b_isinstance (by decide +kernel) (pa_cons (pv 12) (pa_cons (pe_bltn (v := .ty "bool") (by rfl) T.b_bool PyProof.Rows.boot_bool rfl) pa_nil)))))))) (pss_one (ps_ret pe_bl)) pss_nil)
    (pss_one (ps_if (PW.pt (pw_and (pt_val (pv 12)) (pw_and1 (pt_cmpR op_notN (pe_ix (ix_any hu) (pv 6) (pv 7) (fun _ _ => rfl)) pe_non (nomark _))))) (pss_one (ps_ret pe_bl)) pss_nil))))))))))))))))))
    (pss_one (ps_ret pe_bl))), ?_⟩
  refine ⟨_, rfl, rfl, l, _, rfl, hl, by rw [List.length_map]; exact hnl, fun rp rn hrp hrn => ⟨rp, rfl, ⟨_, SqL.of upd_same⟩, ?_⟩⟩
  have eN0 : LamX.ExtN H (upd H rp (.lst (rgV 0 rn))) := LamX.ExtN.of (same_new hrp)
  have hT1 := tabs_same hT (same_new (o := .lst (rgV 0 rn)) hrp)
  have hl1 := (same_new (o := .lst (rgV 0 rn)) hrp).seq hl
  have hrp1 : (upd H rp (.lst (rgV 0 rn))) rp = some (.lst (rgV 0 rn)) := upd_same
  revert hT1 hl1 hrp1
  generalize upd H rp (.lst (rgV 0 rn)) = H1
  intro hT1 hl1 hrp1
  refine for_it walk_list (fun i σ Hi => (∃ o1 o2 o3 o4 o5 o6 o7 o8 o9 o10 o11 o12, σ = [some (.ref l), o1, o2, o3, o4, o5, o6, o7, o8, o9, o10, o11, o12]) ∧ LamX.ExtN H1 Hi ∧ LamX.Tabs (T0 K) Hi) ⟨⟨_, _, _, _, _, _, _, _, _, _, _, _, rfl⟩, LamX.ExtN.refl _, hT1⟩ (fun _ _ _ _ p => sql_extN p.2.1 (SqL.of hrp1)) (fun i x σ Hi H2' hi pp yy => ?_) (fun σ Hi pp => q _)
  obtain ⟨⟨o1, o2, o3, o4, o5, o6, o7, o8, o9, o10, o11, o12, rfl⟩, ei, Ti⟩ := pp
  obtain ⟨rfl, hx⟩ := yy
  obtain ⟨rfl, hin⟩ := rg_at hx
  -- source
  refine ⟨_, rfl, _, rfl, rfl, l, ns, i, rfl, sql_extN ei hl1, by omega, fun s0 H2 s2 hsn hs2 => ?_⟩
  have e2 := ei.trans (LamX.ExtN.of s2)
  have T2 := tabs_same Ti s2
  have nS : Nn H1 s0 := Nn.of ei hsn
  -- deeds
  refine ⟨_, rfl, rfl, s0, rfl, hs2, fun L us ds H3 f3 hs3 hL hL3 hus bk => ?_⟩
  have e3 := extN_fr e2 f3 (by intro a ha; obtain rfl := List.mem_singleton.mp ha; exact nS)
  have T3 := tabs_fr T2 f3 (src_tb hs2)
  clear f3 T2 e2 hs2 s2 hsn Ti ei hL
  -- book
  refine ⟨_, rfl, fun b bdx nb nbd neb => ?_⟩
  have s4 := same_new (o := .own b) nbd
  have nb1 : (upd H3 bdx (.own b)) b = none := by rw [upd_ne (Ne.symm neb)]; exact nb
  have s5 := s4.trans (same_new (o := .ins (He.ga K "Book") bdx []) nb1)
  refine ⟨rfl, b, bdx, L, us, ds, rfl, upd_same, SqL.of (s5 _ _ hL3), dpa_same s5 hus, bk, fun H4 ba ds' hperm f4 hb4 hba dm4 => ⟨rfl, ?_⟩⟩
  have s34 : Same H3 H4 := same_fr s5 f4 (by intro a ha; obtain rfl := List.mem_singleton.mp ha; exact nb)
  have e4 := e3.trans (LamX.ExtN.of s34)
  have T4 := tabs_same T3 s34
  have hs4 := hs3.same s34
  have hB4 : BookAt P w K H4 b ds' := ⟨bdx, ba, hb4, dm4, bk.perm hperm.symm⟩
  clear s34 dm4 hb4 f4 hba s5 nb1 s4 neb nbd nb T3 e3 hs3 hL3 hus
  -- state
  intro a adx na nad nea
  have s6 := same_new (o := .own a) nad
  have na1 : (upd H4 adx (.own a)) a = none := by rw [upd_ne (Ne.symm nea)]; exact na
  have s7 := s6.trans (same_new (o := .ins (He.ga K "State") adx []) na1)
  refine ⟨rfl, a, b, adx, ds', rfl, upd_same, hB4.same s7, tabs_same T4 s7, fun S H5 hS hSl f5 T5 hSt => ⟨rfl, ?_⟩⟩
  have e5 := extN_frn (e4.trans (LamX.ExtN.of s7)) f5 (by intro c hc; obtain rfl := List.mem_singleton.mp hc; exact Nn.of e4 na)
  have hF5 : StF P w K H5 a S := ⟨hSt, hS, hSl⟩
  have hs5 : Src H5 s0 := by
    obtain ⟨x, y, h1, h2⟩ := hs4.same s7
    refine ⟨x, y, f5 _ _ (fun z => ?_) (fun _ z => nomatch z) h1, h2⟩
    obtain rfl := List.mem_singleton.mp z
    obtain ⟨_, _, h3, _⟩ := hs4
    rw [na] at h3
    cases h3
  clear f5 hSt s7 na1 s6 nea nad na hB4 T4 e4 hs4
  -- tables
  refine ⟨_, rfl, rfl, a, S, rfl, hF5, fun p6 H6 s6 hp6 hP6 => ?_⟩
  have hF6 := hF5.same s6
  refine ⟨_, rfl, _, rfl, rfl, a, p6, S, rfl, hF6, hP6, fun d7 H7 s7 hd7 hV7 => ?_⟩
  have hs7 := hs5.same (s6.trans s7)
  have e7 := e5.trans (LamX.ExtN.of (s6.trans s7))
  have T7 := tabs_same T5 (s6.trans s7)
  have hF7 := hF6.same s7
  have hP7 := hP6.same rls_stb s7
  clear s7 s6 hF6 hP6 hF5 hs5 e5 T5 hp6 hd7
  -- the anchor
  have hFA := hF7.noS hs7
  have hPA := hP7.noS hs7 (rls_noS hs7)
  have hVA := hV7.noS hs7 (rd_noS hs7)
  have sA7 : Same (lessL H7 [s0]) H7 := lessL_sub
  have hAs : (lessL H7 [s0]) s0 = none := lessL_mem (by simp)
  have hAn : ∀ {c : Addr}, H7 c = none → (lessL H7 [s0]) c = none := fun h => lessL_none h
  generalize lessL H7 [s0] = A0 at hFA hPA hVA sA7 hAs hAn
  have hll := hS.line_len hSl
  -- thing
  refine ⟨_, rfl, _, rfl, listKeys hV7 fun kl kus hkl hkus => ?_⟩
  rw [lineV_keys] at hkus
  have s8 := same_new (o := .lst kus) hkl
  refine one_dp (hs7.same s8) (SqL.of upd_same) (dpa_same s8 hkus) (immAll_sD _) (by simp [SA.line]) (by rw [List.length_map]; omega) (new_ne hs7 hkl) fun x d H9 f9 hs9 t9 hd hx => ?_
  obtain ⟨z, hz, rfl⟩ := List.mem_map.mp hd
  have f79 : Fr [s0] H7 H9 := (Same.fr s8).trans f9
  have sA9 : Same A0 H9 := same_fr sA7 f79 (by intro c hc; obtain rfl := List.mem_singleton.mp hc; exact hAs)
  have e9 := extN_fr e7 f79 (by intro a ha; obtain rfl := List.mem_singleton.mp ha; exact nS)
  have T9 := tabs_fr T7 f79 (src_tb hs7)
  clear f9 t9 hd s8 hkl hkus T7 e7 hs7 hF7 hP7 hV7 f79 sA7 hAn
  -- paper
  refine ⟨_, rfl, _, rfl, rfl, a, S, x, z, rfl, hFA.same sA9, hx, hz, fun pv H10 s10 hpv => ?_⟩
  have sA10 := sA9.trans s10
  have e10 := e9.trans (LamX.ExtN.of s10)
  have T10 := tabs_same T9 s10
  have hs10 := hs9.same s10
  have hx10 := dp_same s10 hx
  clear s10 sA9 e9 T9 hs9 hx
  dsimp only [gName]
  let Good1 : L2.St → Hp → Prop := fun σ' H' => σ' = [some (.ref l), some (.int i), some (.ref s0), some (.ref L), some (.ref a), some (.ref p6), some (.ref d7), some x, some pv, o9, o10, o11, o12] ∧ Same H10 H'
  refine seq_any Good1 (fun CC hC => ?_) (fun σ4 H11 hg => ?_)
  · have hpd : S.paperD z = match S.val z with | some _ => .none | none => .tuple [.str "none", .tuple ((S.row z).map sD)] := rfl
    refine ⟨_, rfl, _, rfl, _, rfl, dgetR (hVA.same rd_stb.stb sA10).r hx10 (hS.lineV_at hz) fun v hv => ?_⟩
    have hv := ro_v hv
    cases hval : S.val z with
    | some nn =>
      rw [hval] at hv hpd
      subst hv
      rw [hpd] at hpv
      exact ⟨rfl, _, rfl, iteF (neD hpv .non ⟨_, rfl, iteF (hC _ _ ⟨rfl, Same.refl _⟩)⟩ rfl rfl)⟩
    | none =>
      rw [hval] at hv hpd
      subst hv
      rw [hpd] at hpv
      refine ⟨rfl, _, rfl, iteT ⟨_, rfl, _, rfl, _, rfl, rfl, p6, d7, S, x, z, rfl, hS, hSl, hPA.same rls_stb sA10, hVA.same rd_stb.stb sA10, hx10, hz, hval, fun r H12 s12 hr12 => ?_⟩⟩
      refine neD (dp_same s12 hpv) hr12 ⟨_, rfl, ?_⟩ (shaped_row _) (shaped_row _)
      unfold SA.rowD
      rw [eqv_row]
      exact iteF (hC _ _ ⟨rfl, s12⟩)
  obtain ⟨rfl, s11⟩ := hg
  clear Good1
  have hpv11 := dp_same s11 hpv
  have sA11 := sA10.trans s11
  have e11 := e10.trans (LamX.ExtN.of s11)
  have T11 := tabs_same T10 s11
  have hs11 := hs10.same s11
  have hx11 := dp_same s11 hx10
  clear s11 hpv sA10 e10 T10 hs10 hx10
  -- papers
  refine ⟨_, rfl, _, rfl, szL, fun t1 ht1 => ⟨szL, fun t2 ht2 => ⟨szL, fun pl hpl => ?_⟩⟩⟩
  have a1 := same_new (o := .tup [x]) ht1
  have a2 := same_new (o := .tup [V.str "none", .ref t1]) ht2
  have a3 := same_new (o := .lst [pv, .ref t2, .non, .int 5]) hpl
  have aa := a1.trans (a2.trans a3)
  have hpl14 : (upd (upd (upd H11 t1 (.tup [x])) t2 (.tup [V.str "none", .ref t1])) pl (.lst [pv, .ref t2, .non, .int 5])) pl = some (.lst [pv, .ref t2, .non, .int 5]) := upd_same
  have hdt14 : Dp K (upd (upd (upd H11 t1 (.tup [x])) t2 (.tup [V.str "none", .ref t1])) pl (.lst [pv, .ref t2, .non, .int 5])) (.ref t2) (.tuple [.str "none", .tuple (([z] : List St2).map sD)]) :=
    .tup (SqT.of (a3 _ _ upd_same)) (.cons (.str _) (.cons (.tup (SqT.of ((a2.trans a3) _ _ upd_same)) (.cons (dp_same aa hx11) .nil)) .nil))
  have hpv14 := dp_same aa hpv11
  have sA14 := sA11.trans aa
  have e14 := e11.trans (LamX.ExtN.of aa)
  have T14 := tabs_same T11 aa
  have hs14 := hs11.same aa
  have hx14 := dp_same aa hx11
  have hApl : A0 pl = none := same_none (sA11.trans (a1.trans a2)) hpl
  have nPl : Nn H1 pl := Nn.of (e11.trans (LamX.ExtN.of (a1.trans a2))) hpl
  have hpls : pl ≠ s0 := new_ne (hs11.same (a1.trans a2)) hpl
  clear a1 a2 a3 aa hpv11 sA11 e11 T11 hs11 hx11 hpl ht1 ht2
  dsimp only [gName]
  revert hpl14 hdt14 hpv14 sA14 e14 T14 hs14 hx14
  generalize upd (upd (upd H11 t1 (.tup [x])) t2 (.tup [V.str "none", .ref t1])) pl (.lst [pv, .ref t2, .non, .int 5]) = H14
  intro hpl14 hdt14 hpv14 sA14 e14 T14 hs14 hx14
  have ntB : ∀ c ∈ [s0, pl], NT H14 c := by
    intro c hc
    simp only [List.mem_cons, List.not_mem_nil, or_false] at hc
    rcases hc with rfl | rfl
    · exact hs14.nt
    · exact nt_lst hpl14
  have sAf : ∀ {H' : Hp}, Fr [s0, pl] H14 H' → Same A0 H' := fun {H'} f => same_fr sA14 f (by
    intro c hc
    simp only [List.mem_cons, List.not_mem_nil, or_false] at hc
    rcases hc with rfl | rfl
    · exact hAs
    · exact hApl)
  let Good2 : L2.St → Hp → Prop := fun σ' H' => ∃ (pv0 : V) (ks : List St2), σ' = [some (.ref l), some (.int i), some (.ref s0), some (.ref L), some (.ref a), some (.ref p6), some (.ref d7), some x, some pv, some (.ref pl), o10, o11, o12] ∧ Fr [s0, pl] H14 H' ∧ Src H' s0 ∧ H' pl = some (.lst [pv0, .ref t2, .non, .int 5]) ∧ Dp K H' pv0 (.tuple [.str "none", .tuple (ks.map sD)]) ∧ ks.length ≤ 64
  refine seq_any Good2 (fun CC hC => ?_) (fun σ4 H15 hg => ?_)
  · have hpd : S.paperD z = match S.val z with | some _ => .none | none => .tuple [.str "none", .tuple ((S.row z).map sD)] := rfl
    cases hval : S.val z with
    | some nn =>
      rw [hval] at hpd
      rw [hpd] at hpv14
      obtain rfl := dp_non hpv14
      refine ⟨_, rfl, rfl, _, rfl, iteT ⟨_, rfl, _, rfl, _, rfl, listKeys (hVA.same rd_stb.stb sA14) fun kl kus hkl hkus => ?_⟩⟩
      rw [lineV_keys] at hkus
      have s15 := same_new (o := .lst kus) hkl
      refine one_dp (hs14.same s15) (SqL.of upd_same) (dpa_same s15 hkus) (immAll_sD _) (by simp [SA.line]) (by rw [List.length_map]; omega) (new_ne hs14 hkl) fun y d H16 f16 hs16 t16 hd hy => ⟨szL, fun t3 ht3 => ⟨szL, fun t4 ht4 => ?_⟩⟩
      obtain ⟨k, hk, rfl⟩ := List.mem_map.mp hd
      have f14 : Fr [s0] H14 H16 := (Same.fr s15).trans f16
      have s17 := (same_new (o := .tup [x, y]) ht3).trans (same_new (o := .tup [V.str "none", .ref t3]) ht4)
      have hpl17 := s17 _ _ (f14.get hpl14 (by simpa using hpls))
      have hx17 := dp_same s17 (dp_tup (hs14.tup f14) (imm_sD z) hx14)
      have hy17 := dp_same s17 hy
      have hd17 : Dp K (upd (upd H16 t3 (.tup [x, y])) t4 (.tup [V.str "none", .ref t3])) (.ref t4) (.tuple [.str "none", .tuple (([z, k] : List St2).map sD)]) :=
        .tup (SqT.of upd_same) (.cons (.str _) (.cons (.tup (SqT.of ((same_new ht4) _ _ upd_same)) (.cons (dp_same s17 (dp_tup (hs14.tup f14) (imm_sD z) hx14)) (.cons hy17 .nil))) .nil))
      refine ⟨_, rfl, setLr 0 hpl17 (by simp) (hC _ _ ⟨.ref t4, [z, k], rfl, ((f14.mono (by simp)).trans (Same.fr s17)).at (by simp), ?_, upd_same, dp_tup (tup_lst hpl17) (imm_row _ _) hd17, by simp⟩)⟩
      obtain ⟨u1, u2, g1, g2⟩ := hs16.same s17
      exact ⟨u1, u2, by rw [upd_ne (Ne.symm hpls)]; exact g1, g2⟩
    | none =>
      rw [hval] at hpd
      rw [hpd] at hpv14
      have hne : decide (pv = V.non) = false := decide_eq_false fun e => by rw [e] at hpv14; cases hpv14
      refine ⟨_, rfl, rfl, _, rfl, ?_⟩
      rw [hne]
      exact iteF (hC _ _ ⟨pv, S.row z, rfl, Fr.refl, hs14, hpl14, hpv14, SA.rowF_len⟩)
  obtain ⟨pv0, ks, rfl, f15, hs15, hpl15, hpv15, hkl⟩ := hg
  clear Good2
  have hdt15 := dp_tup (f15.tup ntB) (imm_row _ _) hdt14
  -- bent ones
  have lst : ∀ {H' : Hp} {vs : List V}, Src H' s0 → H' pl = some (.lst vs) → Lsts H' [s0, pl] := fun {H' vs} h1 h2 b hb => by
    simp only [List.mem_cons, List.not_mem_nil, or_false] at hb
    rcases hb with rfl | rfl
    · obtain ⟨_, _, e, _⟩ := h1; exact ⟨_, e⟩
    · exact ⟨_, h2⟩
  refine ⟨4, rfl, by decide, by decide, ?_⟩
  refine for_it (n := 4) walk_range (fun j σ Hj => (∃ o10, σ = [some (.ref l), some (.int i), some (.ref s0), some (.ref L), some (.ref a), some (.ref p6), some (.ref d7), some x, some pv, some (.ref pl), o10, o11, o12]) ∧ Fr [s0, pl] H14 Hj ∧ Src Hj s0 ∧ ∃ pvs : List V, Hj pl = some (.lst (pv0 :: pvs)) ∧ pvs.length ≤ 3 + j ∧ Dp K Hj pv0 (.tuple [.str "none", .tuple (ks.map sD)]) ∧ ∀ v ∈ pv0 :: pvs, ∃ d, Dp K (lessL Hj [s0, pl]) v d ∧ PapOk d)
    ⟨⟨_, rfl⟩, f15, hs15, _, hpl15, by simp, hpv15, fun v hv => ?_⟩ (fun _ _ _ _ _ => trivial) (fun j y σ Hj H16 hj pp yy => ?_) (fun σ Hj pp => ?_)
  · have hB := lst hs15 hpl15
    simp only [List.mem_cons, List.not_mem_nil, or_false] at hv
    rcases hv with rfl | rfl | rfl | rfl
    · exact ⟨_, dp_less hB (imm_row _ _) hpv15, papOk_st (by omega)⟩
    · exact ⟨_, dp_less hB (imm_row _ _) hdt15, papOk_st (by simp)⟩
    · exact ⟨_, .non, Nat.zero_le _, fun _ _ e => by cases e⟩
    · exact ⟨_, .int 5, Nat.zero_le _, fun _ _ e => by cases e⟩
  · obtain ⟨⟨o10', rfl⟩, fj, hsj, pvs, hplj, hpvl, hpvj, hall⟩ := pp
    obtain ⟨rfl, rfl⟩ := yy
    refine ⟨_, rfl, .inl ⟨rfl, _, SqL.of hplj⟩, _, rfl, _, rfl, _, rfl, ixL 0 (SqL.of hplj) rfl ?_⟩
    refine ⟨rfl, s0, p6, S, A0, [s0, pl], pv0, .str "none", ks, rfl, hsj, by simp, lst hsj hplj, hPA, sAf fj, hAs, hpvj, rfl, by omega, hll, fun v d H17 f17 hs17 hv hok => ?_⟩
    have hpl17 := f17.get hplj (by simpa using hpls)
    have f17' : Fr [s0, pl] H16 H17 := f17.mono (by simp)
    have f18 : Fr [s0, pl] H16 (upd H17 pl (.lst (pv0 :: pvs ++ [v]))) := f17'.at (by simp)
    refine ⟨pl, pv0 :: pvs, v, rfl, rfl, hpl17, Nat.lt_of_le_of_lt (show (pv0 :: pvs).length ≤ 10 by simp; omega) (by decide), ⟨_, rfl⟩, fj.trans f18, ?_, pvs ++ [v], upd_same, by rw [List.length_append]; simp; omega, dp_tup ((hsj.tup f17).trans (tup_lst hpl17)) (imm_row _ _) hpvj, fun v' hv' => ?_⟩
    · obtain ⟨u1, u2, g1, g2⟩ := hs17
      exact ⟨u1, u2, by rw [upd_ne (Ne.symm hpls)]; exact g1, g2⟩
    · rcases List.mem_append.mp (show v' ∈ (pv0 :: pvs) ++ [v] from hv') with h | h
      · obtain ⟨d', h1, h2⟩ := hall v' h
        exact ⟨d', dp_same (lessL_fr f18) h1, h2⟩
      · rw [List.mem_singleton.mp h]
        exact ⟨d, dp_same (lessL_fr (Fr.refl.at (by simp))) hv, hok⟩
  obtain ⟨⟨o10', rfl⟩, fj, hsj, pvs, hplj, hpvl, hpvj, hall⟩ := pp
  -- all of them
  have sAj := sAf fj
  have ej := extN_fr e14 fj (by
    intro c hc
    simp only [List.mem_cons, List.not_mem_nil, or_false] at hc
    rcases hc with rfl | rfl
    · exact nS
    · exact nPl)
  have Tj := tabs_fr T14 fj (by
    intro c hc u hu
    simp only [List.mem_cons, List.not_mem_nil, or_false] at hc
    rcases hc with rfl | rfl
    · exact src_tb hs14 _ (List.mem_singleton_self _) u hu
    · rw [hpl14] at hu
      cases hu
      exact ⟨fun _ z => (by cases z), fun _ z => (by cases z)⟩)
  have hxj := dp_tup (fj.tup ntB) (imm_sD z) hx14
  dsimp only
  refine ⟨_, rfl, pl, rfl, ⟨_, SqL.of hplj⟩, ?_⟩
  refine for_it walk_list (fun j σ Hk => (∃ o11 o12, σ = [some (.ref l), some (.int i), some (.ref s0), some (.ref L), some (.ref a), some (.ref p6), some (.ref d7), some x, some pv, some (.ref pl), o10', o11, o12]) ∧ Same Hj Hk) ⟨⟨_, _, rfl⟩, Same.refl _⟩ (fun _ _ _ _ p => SqL.of (p.2 _ _ hplj)) (fun j v σ Hk H16 hj pp yy => ?_) (fun σ Hk pp => ?_)
  · obtain ⟨⟨o11', o12', rfl⟩, sk⟩ := pp
    obtain ⟨rfl, hv⟩ := yy
    obtain ⟨d, hd, hok⟩ := hall v (List.mem_of_getElem? hv)
    have hdj : Dp K Hj v d := dp_same lessL_sub hd
    refine ⟨_, rfl, _, rfl, _, rfl, rfl, a, S, x, v, z, d, rfl, hFA.same (sAj.trans sk), dp_same sk hxj, hz, dp_same sk hdj, hok.1, fun H17 s17 => ?_⟩
    have sk17 := sk.trans s17
    refine ⟨_, rfl, _, rfl, _, rfl, _, rfl, _, rfl, rfl, a, p6, S, x, v, z, d, rfl, hFA.same (sAj.trans sk17), hPA.same rls_stb (sAj.trans sk17), dp_same sk17 hxj, hz, dp_same sk17 hdj, hok.1, hok.2, fun H18 s18 => ?_⟩
    have sk18 := sk17.trans s18
    refine .inl ⟨rfl, ⟨_, rfl, ?_⟩⟩
    rw [decide_eq_true rfl]
    refine iteF ⟨_, rfl, isi_d (d := .bool (S.paperB z d)) (.bl _) (kit_bool _) ⟨_, rfl, iteF ?_⟩⟩
    refine ⟨_, rfl, _, rfl, ?_⟩
    cases hpb : S.paperB z d with
    | false => exact iteF (iteF ⟨⟨_, _, rfl⟩, sk18⟩)
    | true =>
      have hvn := hS.paper_none hSl hpb
      refine iteT ⟨_, rfl, _, rfl, dgetR (hVA.same rd_stb.stb (sAj.trans sk18)).r (dp_same sk18 hxj) (hS.lineV_at hz) fun v2 hv2 => ?_⟩
      have hv2 := ro_v hv2
      rw [hvn] at hv2
      subst hv2
      exact ⟨rfl, _, rfl, iteF ⟨⟨_, _, rfl⟩, sk18⟩⟩
  · obtain ⟨⟨o11', o12', rfl⟩, sk⟩ := pp
    exact ⟨⟨_, _, _, _, _, _, _, _, _, _, _, _, rfl⟩, ej.trans (LamX.ExtN.of sk), tabs_same Tj sk⟩
end Ss
set_option maxHeartbeats 0
/-! The head: printed by gen_head.py. -/
namespace Ss
open PySem PySem.Spec PyProof.Rows L2
theorem isiB_ok {K : PySem.W.Frag} {x : Str} (h : isiB K x = true) : IsiC K (He.ga K x) := by
  obtain ⟨c1, c⟩ := He.ba h
  obtain ⟨c2, c⟩ := He.ba c
  obtain ⟨c3, c4⟩ := He.ba c
  exact ⟨He.eqO_ok c1, He.eqO_ok c2, of_decide_eq_true c3, of_decide_eq_true c4⟩
theorem emB_ok {K : PySem.W.Frag} {a : Addr} (h : emB K a = true) (H : Hp) : SqT K H a [] := by
  unfold emB at h
  cases q : K.lookup a with
  | none => rw [q] at h; cases h
  | some o =>
    obtain ⟨oc, od, dt, osl⟩ := o
    rw [q] at h
    cases oc with
    | type c =>
      cases dt with
      | seq its n =>
        obtain ⟨h1, h2⟩ := He.ba (show (decide (c = "tuple") && decide (its.size = 0)) = true from h)
        have h3 := of_decide_eq_true h2
        have h4 : its = #[] := Array.eq_empty_of_size_eq_zero h3
        subst h4
        exact .inr ⟨_, #[], n, q, congrArg Value.type (of_decide_eq_true h1), rfl, by decide, .nil⟩
      | _ => cases h
    | _ => cases dt <;> cases h
section
variable {w : World} {K : PySem.W.Frag} {h : Heap} {mg : Str → Option Value}
theorem exs (e : exA K = true) : (He.tupB K "ALL_HANDS" [.int 0, .int 1, .int 2, .int 3]) = true ∧ (He.valsB K (He.ga K "CONTENT_KINDS") [("wish", .str "let"), ("point", .str "use"), ("set", .str "number")]) = true ∧ (He.tupB K "HOLDERS" [.str "block", .str "let", .str "sum", .str "product"]) = true ∧ (He.tupB K "MARK_WORDS" [.str "undo", .str "redo"]) = true ∧ (He.tupB K "ROOT" [.int 0, .int 0]) = true ∧ (isiB K "Book") = true ∧ (isiB K "State") = true ∧ (emB K (e0A K)) = true := by
  unfold exA at e
  obtain ⟨x0, e0⟩ := He.ba e
  obtain ⟨x1, e1⟩ := He.ba e0
  obtain ⟨x2, e2⟩ := He.ba e1
  obtain ⟨x3, e3⟩ := He.ba e2
  obtain ⟨x4, e4⟩ := He.ba e3
  obtain ⟨x5, e5⟩ := He.ba e4
  obtain ⟨x6, e6⟩ := He.ba e5
  exact ⟨x0, x1, x2, x3, x4, x5, x6, e6⟩
theorem kd_of {a : Addr} {kvs : List (Str × He.Dv)} (t : ∃ es n, KDict K w a es n) (e : He.valsB K a kvs = true) {z : Str} {v : He.Dv} (m : (z, v) ∈ kvs) : KDct K w a z (v.v K) := by
  obtain ⟨es, n, h1, h2, _⟩ := t
  obtain ⟨u, h3, h4⟩ := He.valsB_ok e m
  exact ⟨es, n, u, h1, h2, h3, h4⟩
theorem tx_of (X : K.In h) (G : h.Ns mainGlobals mg) (c : He.SaysX faA fnA tsA tfA exA w h K) : Tx w K mg (e0A K) := by
  obtain ⟨x0, x1, x2, x3, x4, x5, x6, xe⟩ := exs c.more
  exact {
    empty := fun H => emB_ok xe H
    g_ALL_HANDS := He.glo_ok X G (c.t.d.fact 0 (f := .glo "ALL_HANDS") rfl)
    tu_ALL_HANDS := fun H => He.tupB_ok x0 H
    g_Book := He.glo_ok X G (c.t.d.fact 1 (f := .glo "Book") rfl)
    g_CONTENT_KINDS := He.glo_ok X G (c.t.d.fact 2 (f := .glo "CONTENT_KINDS") rfl)
    kd_CONTENT_KINDS := fun z v m => by
      have t := c.t.tab 0 (t := ((fun K => He.ga K "CONTENT_KINDS"), ["wish", "point", "set"])) rfl
      simp only [List.mem_cons, List.not_mem_nil, or_false, Prod.mk.injEq] at m
      rcases m with ⟨rfl, rfl⟩ | ⟨rfl, rfl⟩ | ⟨rfl, rfl⟩
      · exact kd_of (v := .str "let") t x1 (by simp)
      · exact kd_of (v := .str "use") t x1 (by simp)
      · exact kd_of (v := .str "number") t x1 (by simp)
    s_DONE := He.str_ok X G (c.t.d.fact 3 (f := .str "DONE" "done") rfl)
    s_GONE := He.str_ok X G (c.t.d.fact 4 (f := .str "GONE" "gone") rfl)
    g_HOLDERS := He.glo_ok X G (c.t.d.fact 5 (f := .glo "HOLDERS") rfl)
    tu_HOLDERS := fun H => He.tupB_ok x2 H
    g_Hanging := He.glo_ok X G (c.t.d.fact 6 (f := .glo "Hanging") rfl)
    g_MARK_WORDS := He.glo_ok X G (c.t.d.fact 7 (f := .glo "MARK_WORDS") rfl)
    tu_MARK_WORDS := fun H => He.tupB_ok x3 H
    i_MOST_DEEDS := He.int_ok X G (c.t.d.fact 8 (f := .int "MOST_DEEDS" 60) rfl)
    i_MOST_HAND := He.int_ok X G (c.t.d.fact 9 (f := .int "MOST_HAND" 3) rfl)
    i_MOST_KEY := He.int_ok X G (c.t.d.fact 10 (f := .int "MOST_KEY" 999) rfl)
    i_MOST_TIME := He.int_ok X G (c.t.d.fact 11 (f := .int "MOST_TIME" 999) rfl)
    i_MOST_VALUE := He.int_ok X G (c.t.d.fact 12 (f := .int "MOST_VALUE" 99) rfl)
    s_NAME_LETTERS := He.str_ok X G (c.t.d.fact 13 (f := .str "NAME_LETTERS" "abcdefghijklmnopqrstuvwxyz") rfl)
    i_PRIME := He.int_ok X G (c.t.d.fact 14 (f := .int "PRIME" 9973) rfl)
    g_Playing := He.glo_ok X G (c.t.d.fact 15 (f := .glo "Playing") rfl)
    s_RING := He.str_ok X G (c.t.d.fact 16 (f := .str "RING" "ring") rfl)
    g_ROOT := He.glo_ok X G (c.t.d.fact 17 (f := .glo "ROOT") rfl)
    tu_ROOT := fun H => He.tupB_ok x4 H
    g_State := He.glo_ok X G (c.t.d.fact 18 (f := .glo "State") rfl)
    g_TreeView := He.glo_ok X G (c.t.d.fact 19 (f := .glo "TreeView") rfl)
    g__law_body := He.glo_ok X G (c.t.d.fact 20 (f := .glo "_law_body") rfl)
    g__law_case := He.glo_ok X G (c.t.d.fact 21 (f := .glo "_law_case") rfl)
    g__law_content := He.glo_ok X G (c.t.d.fact 22 (f := .glo "_law_content") rfl)
    g__law_do := He.glo_ok X G (c.t.d.fact 23 (f := .glo "_law_do") rfl)
    g__law_drawn := He.glo_ok X G (c.t.d.fact 24 (f := .glo "_law_drawn") rfl)
    g__law_holders := He.glo_ok X G (c.t.d.fact 25 (f := .glo "_law_holders") rfl)
    g__law_is_in := He.glo_ok X G (c.t.d.fact 26 (f := .glo "_law_is_in") rfl)
    g__law_learn := He.glo_ok X G (c.t.d.fact 27 (f := .glo "_law_learn") rfl)
    g__law_made_body := He.glo_ok X G (c.t.d.fact 28 (f := .glo "_law_made_body") rfl)
    g__law_one := He.glo_ok X G (c.t.d.fact 29 (f := .glo "_law_one") rfl)
    g__law_parts := He.glo_ok X G (c.t.d.fact 30 (f := .glo "_law_parts") rfl)
    g__law_pool := He.glo_ok X G (c.t.d.fact 31 (f := .glo "_law_pool") rfl)
    g__law_program := He.glo_ok X G (c.t.d.fact 32 (f := .glo "_law_program") rfl)
    g__law_right := He.glo_ok X G (c.t.d.fact 33 (f := .glo "_law_right") rfl)
    g__law_rounds := He.glo_ok X G (c.t.d.fact 34 (f := .glo "_law_rounds") rfl)
    g__law_row := He.glo_ok X G (c.t.d.fact 35 (f := .glo "_law_row") rfl)
    g__law_seen_deeds := He.glo_ok X G (c.t.d.fact 36 (f := .glo "_law_seen_deeds") rfl)
    g__law_spoilt := He.glo_ok X G (c.t.d.fact 37 (f := .glo "_law_spoilt") rfl)
    g__law_step := He.glo_ok X G (c.t.d.fact 38 (f := .glo "_law_step") rfl)
    g__law_table := He.glo_ok X G (c.t.d.fact 39 (f := .glo "_law_table") rfl)
    g__law_take := He.glo_ok X G (c.t.d.fact 40 (f := .glo "_law_take") rfl)
    g__law_world := He.glo_ok X G (c.t.d.fact 41 (f := .glo "_law_world") rfl)
    g__law_worth := He.glo_ok X G (c.t.d.fact 42 (f := .glo "_law_worth") rfl)
    g__law_worths := He.glo_ok X G (c.t.d.fact 43 (f := .glo "_law_worths") rfl)
    g_accepts_none := He.glo_ok X G (c.t.d.fact 44 (f := .glo "accepts_none") rfl)
    g_ahead_of := He.glo_ok X G (c.t.d.fact 45 (f := .glo "ahead_of") rfl)
    g_alive_by := He.glo_ok X G (c.t.d.fact 46 (f := .glo "alive_by") rfl)
    g_alive_without := He.glo_ok X G (c.t.d.fact 47 (f := .glo "alive_without") rfl)
    b_all := He.free_ok X G (c.t.d.fact 48 (f := .free "all") rfl)
    b_any := He.free_ok X G (c.t.d.fact 49 (f := .free "any") rfl)
    g_are_named_there := He.glo_ok X G (c.t.d.fact 50 (f := .glo "are_named_there") rfl)
    b_bool := He.free_ok X G (c.t.d.fact 51 (f := .free "bool") rfl)
    g_chain_from := He.glo_ok X G (c.t.d.fact 52 (f := .glo "chain_from") rfl)
    g_check_book := He.glo_ok X G (c.t.d.fact 53 (f := .glo "check_book") rfl)
    g_check_scope_kind := He.glo_ok X G (c.t.d.fact 54 (f := .glo "check_scope_kind") rfl)
    g_check_scope_thing := He.glo_ok X G (c.t.d.fact 55 (f := .glo "check_scope_thing") rfl)
    g_check_stamps := He.glo_ok X G (c.t.d.fact 56 (f := .glo "check_stamps") rfl)
    g_check_state := He.glo_ok X G (c.t.d.fact 57 (f := .glo "check_state") rfl)
    g_checked_book := He.glo_ok X G (c.t.d.fact 58 (f := .glo "checked_book") rfl)
    b_dict := He.free_ok X G (c.t.d.fact 59 (f := .free "dict") rfl)
    g_does_hold := He.glo_ok X G (c.t.d.fact 60 (f := .glo "does_hold") rfl)
    g_ends_below := He.glo_ok X G (c.t.d.fact 61 (f := .glo "ends_below") rfl)
    g_ends_of := He.glo_ok X G (c.t.d.fact 62 (f := .glo "ends_of") rfl)
    b_enumerate := He.free_ok X G (c.t.d.fact 63 (f := .free "enumerate") rfl)
    g_has_mark_word := He.glo_ok X G (c.t.d.fact 64 (f := .glo "has_mark_word") rfl)
    g_in_stamp_order := He.glo_ok X G (c.t.d.fact 65 (f := .glo "in_stamp_order") rfl)
    b_int := He.free_ok X G (c.t.d.fact 66 (f := .free "int") rfl)
    g_is_binder := He.glo_ok X G (c.t.d.fact 67 (f := .glo "is_binder") rfl)
    g_is_body := He.glo_ok X G (c.t.d.fact 68 (f := .glo "is_body") rfl)
    g_is_closed := He.glo_ok X G (c.t.d.fact 69 (f := .glo "is_closed") rfl)
    g_is_content := He.glo_ok X G (c.t.d.fact 70 (f := .glo "is_content") rfl)
    g_is_content_body := He.glo_ok X G (c.t.d.fact 71 (f := .glo "is_content_body") rfl)
    g_is_deed := He.glo_ok X G (c.t.d.fact 72 (f := .glo "is_deed") rfl)
    g_is_let_within := He.glo_ok X G (c.t.d.fact 73 (f := .glo "is_let_within") rfl)
    g_is_line := He.glo_ok X G (c.t.d.fact 74 (f := .glo "is_line") rfl)
    g_is_make := He.glo_ok X G (c.t.d.fact 75 (f := .glo "is_make") rfl)
    g_is_name := He.glo_ok X G (c.t.d.fact 76 (f := .glo "is_name") rfl)
    g_is_named_seen := He.glo_ok X G (c.t.d.fact 77 (f := .glo "is_named_seen") rfl)
    g_is_none_row := He.glo_ok X G (c.t.d.fact 78 (f := .glo "is_none_row") rfl)
    g_is_number := He.glo_ok X G (c.t.d.fact 79 (f := .glo "is_number") rfl)
    g_is_place_name := He.glo_ok X G (c.t.d.fact 80 (f := .glo "is_place_name") rfl)
    g_is_placing_body := He.glo_ok X G (c.t.d.fact 81 (f := .glo "is_placing_body") rfl)
    g_is_seen := He.glo_ok X G (c.t.d.fact 82 (f := .glo "is_seen") rfl)
    g_is_stamp := He.glo_ok X G (c.t.d.fact 83 (f := .glo "is_stamp") rfl)
    g_is_tuple_of := He.glo_ok X G (c.t.d.fact 84 (f := .glo "is_tuple_of") rfl)
    g_is_up := He.glo_ok X G (c.t.d.fact 85 (f := .glo "is_up") rfl)
    g_is_whole := He.glo_ok X G (c.t.d.fact 86 (f := .glo "is_whole") rfl)
    g_is_word := He.glo_ok X G (c.t.d.fact 87 (f := .glo "is_word") rfl)
    b_isinstance := He.free_ok X G (c.t.d.fact 88 (f := .free "isinstance") rfl)
    g_joined_value := He.glo_ok X G (c.t.d.fact 89 (f := .glo "joined_value") rfl)
    g_last_let := He.glo_ok X G (c.t.d.fact 90 (f := .glo "last_let") rfl)
    b_len := He.free_ok X G (c.t.d.fact 91 (f := .free "len") rfl)
    b_list := He.free_ok X G (c.t.d.fact 92 (f := .free "list") rfl)
    g_mark_rows := He.glo_ok X G (c.t.d.fact 93 (f := .glo "mark_rows") rfl)
    b_max := He.free_ok X G (c.t.d.fact 94 (f := .free "max") rfl)
    b_min := He.free_ok X G (c.t.d.fact 95 (f := .free "min") rfl)
    g_named_deed := He.glo_ok X G (c.t.d.fact 96 (f := .glo "named_deed") rfl)
    g_names_in := He.glo_ok X G (c.t.d.fact 97 (f := .glo "names_in") rfl)
    g_nearest_at := He.glo_ok X G (c.t.d.fact 98 (f := .glo "nearest_at") rfl)
    g_nearest_within := He.glo_ok X G (c.t.d.fact 99 (f := .glo "nearest_within") rfl)
    g_none_paper := He.glo_ok X G (c.t.d.fact 100 (f := .glo "none_paper") rfl)
    g_parts_in := He.glo_ok X G (c.t.d.fact 101 (f := .glo "parts_in") rfl)
    g_play_through := He.glo_ok X G (c.t.d.fact 102 (f := .glo "play_through") rfl)
    b_range := He.free_ok X G (c.t.d.fact 103 (f := .free "range") rfl)
    b_sorted := He.free_ok X G (c.t.d.fact 104 (f := .free "sorted") rfl)
    b_str := He.free_ok X G (c.t.d.fact 105 (f := .free "str") rfl)
    b_sum := He.free_ok X G (c.t.d.fact 106 (f := .free "sum") rfl)
    g_told_use := He.glo_ok X G (c.t.d.fact 107 (f := .glo "told_use") rfl)
    g_told_within := He.glo_ok X G (c.t.d.fact 108 (f := .glo "told_within") rfl)
    b_tuple := He.free_ok X G (c.t.d.fact 109 (f := .free "tuple") rfl)
    g_visible_within := He.glo_ok X G (c.t.d.fact 110 (f := .glo "visible_within") rfl)
    b_zip := He.free_ok X G (c.t.d.fact 111 (f := .free "zip") rfl)
    cls_Book := He.cls_ok (c.t.d.fact 112 (f := .cls "Book") rfl)
    na_Book_by_stamp := He.noat_ok (c.t.d.fact 113 (f := .noat "Book" "by_stamp") rfl)
    mk_Book := He.mkr_ok (c.t.d.fact 114 (f := .mkr "Book") rfl)
    is_Book := isiB_ok x5
    cls_Hanging := He.cls_ok (c.t.d.fact 115 (f := .cls "Hanging") rfl)
    na_Hanging_state := He.noat_ok (c.t.d.fact 116 (f := .noat "Hanging" "state") rfl)
    na_Hanging_order := He.noat_ok (c.t.d.fact 117 (f := .noat "Hanging" "order") rfl)
    na_Hanging_parts := He.noat_ok (c.t.d.fact 118 (f := .noat "Hanging" "parts") rfl)
    mk_Hanging := He.mkr_ok (c.t.d.fact 119 (f := .mkr "Hanging") rfl)
    cls_Playing := He.cls_ok (c.t.d.fact 120 (f := .cls "Playing") rfl)
    na_Playing_own_kinds := He.noat_ok (c.t.d.fact 121 (f := .noat "Playing" "own_kinds") rfl)
    na_Playing_own_contents := He.noat_ok (c.t.d.fact 122 (f := .noat "Playing" "own_contents") rfl)
    na_Playing_own_places := He.noat_ok (c.t.d.fact 123 (f := .noat "Playing" "own_places") rfl)
    na_Playing_own_rows := He.noat_ok (c.t.d.fact 124 (f := .noat "Playing" "own_rows") rfl)
    mk_Playing := He.mkr_ok (c.t.d.fact 125 (f := .mkr "Playing") rfl)
    cls_State := He.cls_ok (c.t.d.fact 126 (f := .cls "State") rfl)
    na_State_own_kinds := He.noat_ok (c.t.d.fact 127 (f := .noat "State" "own_kinds") rfl)
    na_State_own_contents := He.noat_ok (c.t.d.fact 128 (f := .noat "State" "own_contents") rfl)
    na_State_own_places := He.noat_ok (c.t.d.fact 129 (f := .noat "State" "own_places") rfl)
    na_State_own_unders := He.noat_ok (c.t.d.fact 130 (f := .noat "State" "own_unders") rfl)
    na_State_own_line := He.noat_ok (c.t.d.fact 131 (f := .noat "State" "own_line") rfl)
    na_State_own_in := He.noat_ok (c.t.d.fact 132 (f := .noat "State" "own_in") rfl)
    mk_State := He.mkr_ok (c.t.d.fact 133 (f := .mkr "State") rfl)
    is_State := isiB_ok x6
    cls_TreeView := He.cls_ok (c.t.d.fact 134 (f := .cls "TreeView") rfl)
    na_TreeView_own_state := He.noat_ok (c.t.d.fact 135 (f := .noat "TreeView" "own_state") rfl)
    na_TreeView_own_line := He.noat_ok (c.t.d.fact 136 (f := .noat "TreeView" "own_line") rfl)
    na_TreeView_own_kids := He.noat_ok (c.t.d.fact 137 (f := .noat "TreeView" "own_kids") rfl)
    na_TreeView_own_spots := He.noat_ok (c.t.d.fact 138 (f := .noat "TreeView" "own_spots") rfl)
    mk_TreeView := He.mkr_ok (c.t.d.fact 139 (f := .mkr "TreeView") rfl)
    d_is_whole := c.t.d.def_ 0 (d := dd_is_whole) rfl
    d_is_number := c.t.d.def_ 1 (d := dd_is_number) rfl
    d_is_line := c.t.d.def_ 2 (d := dd_is_line) rfl
    d_is_tuple_of := c.t.d.def_ 3 (d := dd_is_tuple_of) rfl
    d_in_stamp_order := c.t.d.def_ 4 (d := dd_in_stamp_order) rfl
    d_is_name := c.t.d.def_ 5 (d := dd_is_name) rfl
    d_is_stamp := c.t.d.def_ 6 (d := dd_is_stamp) rfl
    d_is_place_name := c.t.d.def_ 7 (d := dd_is_place_name) rfl
    d_is_binder := c.t.d.def_ 8 (d := dd_is_binder) rfl
    d_does_hold := c.t.d.def_ 9 (d := dd_does_hold) rfl
    d_is_content := c.t.d.def_ 10 (d := dd_is_content) rfl
    d_is_make := c.t.d.def_ 11 (d := dd_is_make) rfl
    d_is_placing_body := c.t.d.def_ 12 (d := dd_is_placing_body) rfl
    d_is_content_body := c.t.d.def_ 13 (d := dd_is_content_body) rfl
    d_is_body := c.t.d.def_ 14 (d := dd_is_body) rfl
    d_is_seen := c.t.d.def_ 15 (d := dd_is_seen) rfl
    d_is_deed := c.t.d.def_ 16 (d := dd_is_deed) rfl
    d_names_in := c.t.d.def_ 17 (d := dd_names_in) rfl
    d_is_named_seen := c.t.d.def_ 18 (d := dd_is_named_seen) rfl
    d_ahead_of := c.t.d.def_ 19 (d := dd_ahead_of) rfl
    d_is_closed := c.t.d.def_ 20 (d := dd_is_closed) rfl
    d_are_named_there := c.t.d.def_ 21 (d := dd_are_named_there) rfl
    d_checked_book := c.t.d.def_ 22 (d := dd_checked_book) rfl
    d_Book_init := c.t.d.def_ 23 (d := dd_Book_init) rfl
    d_Book_getitem := c.t.d.def_ 24 (d := dd_Book_getitem) rfl
    me_Book_getitem := He.meth_ok (c.t.d.fact 140 (f := .meth "Book" "__getitem__") rfl)
    d_Book_deeds := c.t.d.def_ 25 (d := dd_Book_deeds) rfl
    me_Book_deeds := He.meth_ok (c.t.d.fact 141 (f := .meth "Book" "deeds") rfl)
    d_check_book := c.t.d.def_ 26 (d := dd_check_book) rfl
    d_check_stamps := c.t.d.def_ 27 (d := dd_check_stamps) rfl
    d_has_mark_word := c.t.d.def_ 28 (d := dd_has_mark_word) rfl
    d_named_deed := c.t.d.def_ 29 (d := dd_named_deed) rfl
    d_mark_rows := c.t.d.def_ 30 (d := dd_mark_rows) rfl
    d_is_up := c.t.d.def_ 31 (d := dd_is_up) rfl
    d_alive_by := c.t.d.def_ 32 (d := dd_alive_by) rfl
    d_alive_without := c.t.d.def_ 33 (d := dd_alive_without) rfl
    d_Playing_init := c.t.d.def_ 34 (d := dd_Playing_init) rfl
    d_Playing_can_hold := c.t.d.def_ 35 (d := dd_Playing_can_hold) rfl
    me_Playing_can_hold := He.meth_ok (c.t.d.fact 142 (f := .meth "Playing" "can_hold") rfl)
    d_Playing_can_leave := c.t.d.def_ 36 (d := dd_Playing_can_leave) rfl
    me_Playing_can_leave := He.meth_ok (c.t.d.fact 143 (f := .meth "Playing" "can_leave") rfl)
    d_Playing_chain_up := c.t.d.def_ 37 (d := dd_Playing_chain_up) rfl
    me_Playing_chain_up := He.meth_ok (c.t.d.fact 144 (f := .meth "Playing" "chain_up") rfl)
    d_Playing_make_thing := c.t.d.def_ 38 (d := dd_Playing_make_thing) rfl
    me_Playing_make_thing := He.meth_ok (c.t.d.fact 145 (f := .meth "Playing" "make_thing") rfl)
    d_Playing_move_thing := c.t.d.def_ 39 (d := dd_Playing_move_thing) rfl
    me_Playing_move_thing := He.meth_ok (c.t.d.fact 146 (f := .meth "Playing" "move_thing") rfl)
    d_Playing_drop_thing := c.t.d.def_ 40 (d := dd_Playing_drop_thing) rfl
    me_Playing_drop_thing := He.meth_ok (c.t.d.fact 147 (f := .meth "Playing" "drop_thing") rfl)
    d_Playing_put_content := c.t.d.def_ 41 (d := dd_Playing_put_content) rfl
    me_Playing_put_content := He.meth_ok (c.t.d.fact 148 (f := .meth "Playing" "put_content") rfl)
    d_Playing_do_deed := c.t.d.def_ 42 (d := dd_Playing_do_deed) rfl
    me_Playing_do_deed := He.meth_ok (c.t.d.fact 149 (f := .meth "Playing" "do_deed") rfl)
    d_play_through := c.t.d.def_ 43 (d := dd_play_through) rfl
    d_State_init := c.t.d.def_ 44 (d := dd_State_init) rfl
    d_State_all_below := c.t.d.def_ 45 (d := dd_State_all_below) rfl
    me_State_all_below := He.meth_ok (c.t.d.fact 150 (f := .meth "State" "all_below") rfl)
    d_State_look_there := c.t.d.def_ 46 (d := dd_State_look_there) rfl
    me_State_look_there := He.meth_ok (c.t.d.fact 151 (f := .meth "State" "look_there") rfl)
    d_State_look_in := c.t.d.def_ 47 (d := dd_State_look_in) rfl
    me_State_look_in := He.meth_ok (c.t.d.fact 152 (f := .meth "State" "look_in") rfl)
    d_State_look_in_of := c.t.d.def_ 48 (d := dd_State_look_in_of) rfl
    me_State_look_in_of := He.meth_ok (c.t.d.fact 153 (f := .meth "State" "look_in_of") rfl)
    d_State_is_there := c.t.d.def_ 49 (d := dd_State_is_there) rfl
    me_State_is_there := He.meth_ok (c.t.d.fact 154 (f := .meth "State" "is_there") rfl)
    d_State_is_in := c.t.d.def_ 50 (d := dd_State_is_in) rfl
    me_State_is_in := He.meth_ok (c.t.d.fact 155 (f := .meth "State" "is_in") rfl)
    d_State_kind := c.t.d.def_ 51 (d := dd_State_kind) rfl
    me_State_kind := He.meth_ok (c.t.d.fact 156 (f := .meth "State" "kind") rfl)
    d_State_content := c.t.d.def_ 52 (d := dd_State_content) rfl
    me_State_content := He.meth_ok (c.t.d.fact 157 (f := .meth "State" "content") rfl)
    d_State_under := c.t.d.def_ 53 (d := dd_State_under) rfl
    me_State_under := He.meth_ok (c.t.d.fact 158 (f := .meth "State" "under") rfl)
    d_State_line := c.t.d.def_ 54 (d := dd_State_line) rfl
    me_State_line := He.meth_ok (c.t.d.fact 159 (f := .meth "State" "line") rfl)
    d_check_state := c.t.d.def_ 55 (d := dd_check_state) rfl
    d_ends_below := c.t.d.def_ 56 (d := dd_ends_below) rfl
    d_ends_of := c.t.d.def_ 57 (d := dd_ends_of) rfl
    d_TreeView_init := c.t.d.def_ 58 (d := dd_TreeView_init) rfl
    d_TreeView_take_in := c.t.d.def_ 59 (d := dd_TreeView_take_in) rfl
    me_TreeView_take_in := He.meth_ok (c.t.d.fact 160 (f := .meth "TreeView" "take_in") rfl)
    d_is_let_within := c.t.d.def_ 60 (d := dd_is_let_within) rfl
    d_last_let := c.t.d.def_ 61 (d := dd_last_let) rfl
    d_nearest_at := c.t.d.def_ 62 (d := dd_nearest_at) rfl
    d_nearest_within := c.t.d.def_ 63 (d := dd_nearest_within) rfl
    d_chain_from := c.t.d.def_ 64 (d := dd_chain_from) rfl
    d_visible_within := c.t.d.def_ 65 (d := dd_visible_within) rfl
    d_told_within := c.t.d.def_ 66 (d := dd_told_within) rfl
    d_check_scope_thing := c.t.d.def_ 67 (d := dd_check_scope_thing) rfl
    d_check_scope_kind := c.t.d.def_ 68 (d := dd_check_scope_kind) rfl
    d_told_use := c.t.d.def_ 69 (d := dd_told_use) rfl
    d_is_word := c.t.d.def_ 70 (d := dd_is_word) rfl
    d_parts_in := c.t.d.def_ 71 (d := dd_parts_in) rfl
    d_joined_value := c.t.d.def_ 72 (d := dd_joined_value) rfl
    d_Hanging_init := c.t.d.def_ 73 (d := dd_Hanging_init) rfl
    d_Hanging_is_lost := c.t.d.def_ 74 (d := dd_Hanging_is_lost) rfl
    me_Hanging_is_lost := He.meth_ok (c.t.d.fact 161 (f := .meth "Hanging" "is_lost") rfl)
    d_Hanging_reckoned := c.t.d.def_ 75 (d := dd_Hanging_reckoned) rfl
    me_Hanging_reckoned := He.meth_ok (c.t.d.fact 162 (f := .meth "Hanging" "reckoned") rfl)
    d_none_paper := c.t.d.def_ 76 (d := dd_none_paper) rfl
    d_is_none_row := c.t.d.def_ 77 (d := dd_is_none_row) rfl
    d_accepts_none := c.t.d.def_ 78 (d := dd_accepts_none) rfl
    d_l_pool := c.t.d.def_ 79 (d := dd_l_pool) rfl
    d_l_take := c.t.d.def_ 80 (d := dd_l_take) rfl
    d_l_one := c.t.d.def_ 81 (d := dd_l_one) rfl
    d_l_rounds := c.t.d.def_ 82 (d := dd_l_rounds) rfl
    d_l_world := c.t.d.def_ 83 (d := dd_l_world) rfl
    d_l_seen_deeds := c.t.d.def_ 84 (d := dd_l_seen_deeds) rfl
    d_l_learn := c.t.d.def_ 85 (d := dd_l_learn) rfl
    d_l_content := c.t.d.def_ 86 (d := dd_l_content) rfl
    d_l_holders := c.t.d.def_ 87 (d := dd_l_holders) rfl
    d_l_made_body := c.t.d.def_ 88 (d := dd_l_made_body) rfl
    d_l_body := c.t.d.def_ 89 (d := dd_l_body) rfl
    d_l_do := c.t.d.def_ 90 (d := dd_l_do) rfl
    d_l_step := c.t.d.def_ 91 (d := dd_l_step) rfl
    d_l_drawn := c.t.d.def_ 92 (d := dd_l_drawn) rfl
    d_l_program := c.t.d.def_ 93 (d := dd_l_program) rfl
    d_l_case := c.t.d.def_ 94 (d := dd_l_case) rfl
    d_l_parts := c.t.d.def_ 95 (d := dd_l_parts) rfl
    d_l_worth := c.t.d.def_ 96 (d := dd_l_worth) rfl
    d_l_table := c.t.d.def_ 97 (d := dd_l_table) rfl
    d_l_worths := c.t.d.def_ 98 (d := dd_l_worths) rfl
    d_l_row := c.t.d.def_ 99 (d := dd_l_row) rfl
    d_l_right := c.t.d.def_ 100 (d := dd_l_right) rfl
    d_l_is_in := c.t.d.def_ 101 (d := dd_l_is_in) rfl
    d_l_spoilt := c.t.d.def_ 102 (d := dd_l_spoilt) rfl
    d_law := c.t.d.def_ 103 (d := dd_law) rfl
  }
end
end Ss
/-! The end. -/
namespace Ss
open PySem PySem.Spec PyProof.Rows L2
theorem lawAt {l : PySem.W.OpenLaw} {w : World} {h : Heap} {mg : Str → Option Value} {fl : Addr} (Y : hkA.says w h) (G : h.Ns mainGlobals mg) (hmg : mg ("law" : Str) = some (.ref fl)) :
    ∃ K : PySem.W.Frag, K.In h ∧ LamX.LawAtS l w K CX0 92 63 "_law_script" mg fl h := by
  obtain ⟨K, X, c⟩ := Y
  have T := tx_of X G c
  obtain ⟨fd, F⟩ := T.d_law
  have e := hmg.symm.trans (He.glo_ok X G (c.t.d.fact 163 (f := .glo "law") rfl))
  cases e
  have b := FunD.bindsA (ps := ["_law_script"]) F fun _ _ _ _ _ _ us hl => match us, hl with | [_], _ => rfl
  have m : defS ∈ tfA := List.mem_singleton_self _
  refine ⟨K, X, fd, [He.cT K defS], sp_law K, fun p hp => ?_, fun p hp => ?_, fun p hp => ?_, fun s u => b s [u] rfl, fun H a ns hl _ hT hS => ?_, fun base _ _ hb => ok_law T (hb _ (List.mem_singleton_self _)) F⟩
  · obtain rfl := List.mem_singleton.mp hp
    exact c.empty _ m
  · obtain rfl := List.mem_singleton.mp hp
    exact c.out _ m
  · obtain rfl := List.mem_singleton.mp hp
    exact PySem.W.codeHd_of_K X (c.hd _ m)
  · refine ⟨rfl, a, ns, rfl, hS, hl, fun p hp => ?_, fun _ => rfl⟩
    obtain rfl := List.mem_singleton.mp hp
    exact ⟨#[], hT _ (List.mem_singleton_self _), trivial, fun pos cv z => by cases z⟩
end Ss
open PySem PySem.W PySem.Calls PyProof.Rows
theorem PySem.Challenge.cw_sharedscopes_k59_whole_papers_of_no_valu_holds : PySem.Challenge.rw_sharedscopes_k59_whole_papers_of_no_valu.Holds := by
  w_on; o_law
  refine HandSHeadRun.head_any (r := OpenLaw.row PySem.Challenge.rw_sharedscopes_k59_whole_papers_of_no_valu) (q := view (OpenLaw.row PySem.Challenge.rw_sharedscopes_k59_whole_papers_of_no_valu).prog [117]) (H := Ss.hkA) (ob := Ss.obA) (M := 8000) (loose := Ss.looseA) (d := HandSHeadRun.topDef (OpenLaw.row PySem.Challenge.rw_sharedscopes_k59_whole_papers_of_no_valu).prog 117) (kwd := []) Ss.obA_eq
    (by kernel_rfl) (fun s => by kernel_rfl) Ss.runA (by kernel_rfl) (by kernel_rfl) (by kernel_rfl) (by rfl) (by first | assumption | decide +kernel) (by decide +kernel) ⟨rfl, rfl, rfl, rfl, rfl, by decide +kernel⟩ ?hw ?hc
  case hw => w_witness2
  case hc =>
    refine LamX.walk_ofTsE (l := PySem.Challenge.rw_sharedscopes_k59_whole_papers_of_no_valu) (n := 63) (k := 92) (x := "_law_script") (CX := fun _ => L2.CX0) rfl (by decide) (by kernel_rfl) ⟨rfl, by decide, by decide⟩ ?F (fun _ _ _ _ _ z => z)
    intro w mg fl h Y G hmg0
    have hmg : mg ("law" : PySem.Str) = some (.ref fl) := by
      have e : (HandSHeadRun.topDef (OpenLaw.row PySem.Challenge.rw_sharedscopes_k59_whole_papers_of_no_valu).prog 117).name = ("law" : PySem.Str) := by kernel_rfl
      rw [← e]
      exact hmg0
    exact Ss.lawAt Y G hmg
