import PyProof.Rows.All
import Wide.All
import OpenK.AllK
import Wide.FinOn
import HandS.ForMost
import HandS.ForExc
import HandS.Defaults
import HandS.HeadHook1
import HandS.HeadHook2
import PySem.Challenge.RW_pourparler_k51_whole_forest_of_actors
import KE.KStateDown
import Lean
import HandS.Head0
import HandS.Head1
import HandS.Head2
import HandS.HeadEnd
import HandS.Flow
import HandS.Deep
import HandS.IsInst
import HandS.Wide
import HandS.More
import HandS.Style
import HandS.NoneIn
import KE.KIntText
import HandS.Walk
import HandS.OwnEq
import KE.SortData
/-! part Tx -/
set_option Elab.async false
set_option linter.all false
set_option maxRecDepth 100000
set_option maxHeartbeats 4000000
/-! The text by places, the scopes, the head's data. Printed by gen_text.py. -/
namespace G
open PySem L2
def top (i : Nat) : Stmt := PySem.Challenge.pw_pourparler_k51_whole_forest_of_actors.main.body.getD i (.Pass ⟨0, 0, 0, 0⟩)
abbrev s_is_end : Stmt := top 8
abbrev s_ends_of : Stmt := top 9
abbrev s_apply : Stmt := top 10
abbrev s_evaluate : Stmt := top 11
abbrev s_cv_init : Stmt := inClass (top 13) 0
abbrev s_cv_create : Stmt := inClass (top 13) 1
abbrev s_cv_len : Stmt := inClass (top 13) 2
abbrev s_cv_mark : Stmt := inClass (top 13) 3
abbrev s_cv_mailbox : Stmt := inClass (top 13) 4
abbrev s_cv_set_mark : Stmt := inClass (top 13) 5
abbrev s_cv_send : Stmt := inClass (top 13) 6
abbrev s_cv_hear : Stmt := inClass (top 13) 7
abbrev s_cv_can_hear : Stmt := inClass (top 13) 8
abbrev s_cv_is_told : Stmt := inClass (top 13) 9
abbrev s_cv_emptied : Stmt := inClass (top 13) 10
abbrev s_cv_close : Stmt := inClass (top 13) 11
abbrev s_cv_drop : Stmt := inClass (top 13) 12
abbrev s_ac_init : Stmt := inClass (top 15) 0
abbrev s_bound : Stmt := top 16
abbrev s_st_init : Stmt := inClass (top 17) 0
abbrev s_st_newest : Stmt := inClass (top 17) 2
abbrev s_st_rest : Stmt := inClass (top 17) 7
abbrev s_st_names : Stmt := inClass (top 17) 8
abbrev s_st_running : Stmt := inClass (top 17) 9
abbrev s_st_is_ready : Stmt := inClass (top 17) 10
abbrev s_st_ready : Stmt := inClass (top 17) 11
abbrev s_st_start : Stmt := inClass (top 17) 12
abbrev s_st_put : Stmt := inClass (top 17) 13
abbrev s_st_rename : Stmt := inClass (top 17) 14
abbrev s_st_finish : Stmt := inClass (top 17) 15
abbrev s_drops : Stmt := top 19
abbrev s_without : Stmt := top 20
abbrev s_end_of : Stmt := top 21
abbrev s_step_let : Stmt := top 22
abbrev s_step_say : Stmt := top 23
abbrev s_step_close : Stmt := top 24
abbrev s_step_drop : Stmt := top 25
abbrev s_step_open : Stmt := top 26
abbrev s_step_become : Stmt := top 27
abbrev s_step_if : Stmt := top 28
abbrev s_step_hear : Stmt := top 29
abbrev s_step_simple : Stmt := top 30
abbrev s_step : Stmt := top 31
abbrev s_fall : Stmt := top 32
abbrev s_pr_init : Stmt := inClass (top 34) 0
abbrev s_pr_add_talk : Stmt := inClass (top 34) 1
abbrev s_pr_add_actor : Stmt := inClass (top 34) 2
abbrev s_pr_actor : Stmt := inClass (top 34) 4
abbrev s_l_cell : Stmt := top 36
abbrev s_l_numbers : Stmt := top 37
abbrev s_l_feed : Stmt := top 38
abbrev s_l_take : Stmt := top 39
abbrev s_l_fresh : Stmt := top 40
abbrev s_l_kind : Stmt := top 41
abbrev s_l_talk : Stmt := top 42
abbrev s_l_table : Stmt := top 43
abbrev s_l_dual : Stmt := top 44
abbrev s_l_head : Stmt := top 45
abbrev s_l_number : Stmt := top 46
abbrev s_l_test : Stmt := top 47
abbrev s_l_worker : Stmt := top 48
abbrev s_l_spare : Stmt := top 49
abbrev s_l_without : Stmt := top 50
abbrev s_l_open : Stmt := top 51
abbrev s_l_last : Stmt := top 52
abbrev s_l_stop : Stmt := top 53
abbrev s_l_rest : Stmt := top 54
abbrev s_l_next : Stmt := top 55
abbrev s_l_say : Stmt := top 56
abbrev s_l_hear : Stmt := top 57
abbrev s_l_body : Stmt := top 58
abbrev s_l_definition : Stmt := top 59
abbrev s_l_pair_definition : Stmt := top 60
abbrev s_l_main : Stmt := top 61
abbrev s_l_definitions : Stmt := top 62
abbrev s_l_program : Stmt := top 63
abbrev s_l_plays : Stmt := top 64
abbrev s_l_falls : Stmt := top 65
abbrev s_l_start : Stmt := top 66
abbrev s_l_places : Stmt := top 67
abbrev s_l_marks_fit : Stmt := top 68
abbrev s_l_holder : Stmt := top 69
abbrev s_l_root : Stmt := top 70
abbrev s_l_is_forest : Stmt := top 71
abbrev s_law : Stmt := top 72
/-! ### scopes -/
abbrev n_is_end : List Str := ["value"]
abbrev p_is_end : List Str := ["value"]
theorem sc_is_end : FnScope n_is_end p_is_end (defScope s_is_end) := ⟨rfl, rfl, rfl, by decide +kernel, rfl, by decide +kernel, by decide +kernel⟩
abbrev n_ends_of : List Str := ["names", "name"]
abbrev p_ends_of : List Str := ["names"]
theorem sc_ends_of : FnScope n_ends_of p_ends_of (defScope s_ends_of) := ⟨rfl, rfl, rfl, by decide +kernel, rfl, by decide +kernel, by decide +kernel⟩
abbrev n_apply : List Str := ["op", "one", "two"]
abbrev p_apply : List Str := ["op", "one", "two"]
theorem sc_apply : FnScope n_apply p_apply (defScope s_apply) := ⟨rfl, rfl, rfl, by decide +kernel, rfl, by decide +kernel, by decide +kernel⟩
abbrev n_evaluate : List Str := ["e", "names", "one", "two"]
abbrev p_evaluate : List Str := ["e", "names"]
theorem sc_evaluate : FnScope n_evaluate p_evaluate (defScope s_evaluate) := ⟨rfl, rfl, rfl, by decide +kernel, rfl, by decide +kernel, by decide +kernel⟩
abbrev n_cv_init : List Str := ["self"]
abbrev p_cv_init : List Str := ["self"]
theorem sc_cv_init : FnScope n_cv_init p_cv_init (defScope s_cv_init) := ⟨rfl, rfl, rfl, by decide +kernel, rfl, by decide +kernel, by decide +kernel⟩
abbrev n_cv_create : List Str := ["self"]
abbrev p_cv_create : List Str := ["self"]
theorem sc_cv_create : FnScope n_cv_create p_cv_create (defScope s_cv_create) := ⟨rfl, rfl, rfl, by decide +kernel, rfl, by decide +kernel, by decide +kernel⟩
abbrev n_cv_len : List Str := ["self"]
abbrev p_cv_len : List Str := ["self"]
theorem sc_cv_len : FnScope n_cv_len p_cv_len (defScope s_cv_len) := ⟨rfl, rfl, rfl, by decide +kernel, rfl, by decide +kernel, by decide +kernel⟩
abbrev n_cv_mark : List Str := ["self", "conversation", "side"]
abbrev p_cv_mark : List Str := ["self", "conversation", "side"]
theorem sc_cv_mark : FnScope n_cv_mark p_cv_mark (defScope s_cv_mark) := ⟨rfl, rfl, rfl, by decide +kernel, rfl, by decide +kernel, by decide +kernel⟩
abbrev n_cv_mailbox : List Str := ["self", "conversation", "side"]
abbrev p_cv_mailbox : List Str := ["self", "conversation", "side"]
theorem sc_cv_mailbox : FnScope n_cv_mailbox p_cv_mailbox (defScope s_cv_mailbox) := ⟨rfl, rfl, rfl, by decide +kernel, rfl, by decide +kernel, by decide +kernel⟩
abbrev n_cv_set_mark : List Str := ["self", "value", "mark"]
abbrev p_cv_set_mark : List Str := ["self", "value", "mark"]
theorem sc_cv_set_mark : FnScope n_cv_set_mark p_cv_set_mark (defScope s_cv_set_mark) := ⟨rfl, rfl, rfl, by decide +kernel, rfl, by decide +kernel, by decide +kernel⟩
abbrev n_cv_send : List Str := ["self", "conversation", "side", "label", "payload", "partner"]
abbrev p_cv_send : List Str := ["self", "conversation", "side", "label", "payload"]
theorem sc_cv_send : FnScope n_cv_send p_cv_send (defScope s_cv_send) := ⟨rfl, rfl, rfl, by decide +kernel, rfl, by decide +kernel, by decide +kernel⟩
abbrev n_cv_hear : List Str := ["self", "conversation", "side", "box", "message"]
abbrev p_cv_hear : List Str := ["self", "conversation", "side"]
theorem sc_cv_hear : FnScope n_cv_hear p_cv_hear (defScope s_cv_hear) := ⟨rfl, rfl, rfl, by decide +kernel, rfl, by decide +kernel, by decide +kernel⟩
abbrev n_cv_can_hear : List Str := ["self", "conversation", "side"]
abbrev p_cv_can_hear : List Str := ["self", "conversation", "side"]
theorem sc_cv_can_hear : FnScope n_cv_can_hear p_cv_can_hear (defScope s_cv_can_hear) := ⟨rfl, rfl, rfl, by decide +kernel, rfl, by decide +kernel, by decide +kernel⟩
abbrev n_cv_is_told : List Str := ["self", "conversation", "side"]
abbrev p_cv_is_told : List Str := ["self", "conversation", "side"]
theorem sc_cv_is_told : FnScope n_cv_is_told p_cv_is_told (defScope s_cv_is_told) := ⟨rfl, rfl, rfl, by decide +kernel, rfl, by decide +kernel, by decide +kernel⟩
abbrev n_cv_emptied : List Str := ["self", "conversation", "side", "found", "label", "payload"]
abbrev p_cv_emptied : List Str := ["self", "conversation", "side"]
theorem sc_cv_emptied : FnScope n_cv_emptied p_cv_emptied (defScope s_cv_emptied) := ⟨rfl, rfl, rfl, by decide +kernel, rfl, by decide +kernel, by decide +kernel⟩
abbrev n_cv_close : List Str := ["self", "conversation", "side"]
abbrev p_cv_close : List Str := ["self", "conversation", "side"]
theorem sc_cv_close : FnScope n_cv_close p_cv_close (defScope s_cv_close) := ⟨rfl, rfl, rfl, by decide +kernel, rfl, by decide +kernel, by decide +kernel⟩
abbrev n_cv_drop : List Str := ["self", "ends", "fallen", "rest", "value"]
abbrev p_cv_drop : List Str := ["self", "ends"]
theorem sc_cv_drop : FnScope n_cv_drop p_cv_drop (defScope s_cv_drop) := ⟨rfl, rfl, rfl, by decide +kernel, rfl, by decide +kernel, by decide +kernel⟩
abbrev n_ac_init : List Str := ["self", "name", "names", "rest"]
abbrev p_ac_init : List Str := ["self", "name", "names", "rest"]
theorem sc_ac_init : FnScope n_ac_init p_ac_init (defScope s_ac_init) := ⟨rfl, rfl, rfl, by decide +kernel, rfl, by decide +kernel, by decide +kernel⟩
abbrev n_bound : List Str := ["definition", "values", "result", "k"]
abbrev p_bound : List Str := ["definition", "values"]
theorem sc_bound : FnScope n_bound p_bound (defScope s_bound) := ⟨rfl, rfl, rfl, by decide +kernel, rfl, by decide +kernel, by decide +kernel⟩
abbrev n_st_init : List Str := ["self", "program", "main"]
abbrev p_st_init : List Str := ["self", "program"]
theorem sc_st_init : FnScope n_st_init p_st_init (defScope s_st_init) := ⟨rfl, rfl, rfl, by decide +kernel, rfl, by decide +kernel, by decide +kernel⟩
abbrev n_st_newest : List Str := ["self", "name"]
abbrev p_st_newest : List Str := ["self", "name"]
theorem sc_st_newest : FnScope n_st_newest p_st_newest (defScope s_st_newest) := ⟨rfl, rfl, rfl, by decide +kernel, rfl, by decide +kernel, by decide +kernel⟩
abbrev n_st_rest : List Str := ["self", "actor"]
abbrev p_st_rest : List Str := ["self", "actor"]
theorem sc_st_rest : FnScope n_st_rest p_st_rest (defScope s_st_rest) := ⟨rfl, rfl, rfl, by decide +kernel, rfl, by decide +kernel, by decide +kernel⟩
abbrev n_st_names : List Str := ["self", "actor"]
abbrev p_st_names : List Str := ["self", "actor"]
theorem sc_st_names : FnScope n_st_names p_st_names (defScope s_st_names) := ⟨rfl, rfl, rfl, by decide +kernel, rfl, by decide +kernel, by decide +kernel⟩
abbrev n_st_running : List Str := ["self", "k"]
abbrev p_st_running : List Str := ["self"]
theorem sc_st_running : FnScope n_st_running p_st_running (defScope s_st_running) := ⟨rfl, rfl, rfl, by decide +kernel, rfl, by decide +kernel, by decide +kernel⟩
abbrev n_st_is_ready : List Str := ["self", "actor", "statement", "value"]
abbrev p_st_is_ready : List Str := ["self", "actor"]
theorem sc_st_is_ready : FnScope n_st_is_ready p_st_is_ready (defScope s_st_is_ready) := ⟨rfl, rfl, rfl, by decide +kernel, rfl, by decide +kernel, by decide +kernel⟩
abbrev n_st_ready : List Str := ["self", "k"]
abbrev p_st_ready : List Str := ["self"]
theorem sc_st_ready : FnScope n_st_ready p_st_ready (defScope s_st_ready) := ⟨rfl, rfl, rfl, by decide +kernel, rfl, by decide +kernel, by decide +kernel⟩
abbrev n_st_start : List Str := ["self", "definition", "values"]
abbrev p_st_start : List Str := ["self", "definition", "values"]
theorem sc_st_start : FnScope n_st_start p_st_start (defScope s_st_start) := ⟨rfl, rfl, rfl, by decide +kernel, rfl, by decide +kernel, by decide +kernel⟩
abbrev n_st_put : List Str := ["self", "actor", "names", "rest"]
abbrev p_st_put : List Str := ["self", "actor", "names", "rest"]
theorem sc_st_put : FnScope n_st_put p_st_put (defScope s_st_put) := ⟨rfl, rfl, rfl, by decide +kernel, rfl, by decide +kernel, by decide +kernel⟩
abbrev n_st_rename : List Str := ["self", "actor", "definition", "values"]
abbrev p_st_rename : List Str := ["self", "actor", "definition", "values"]
theorem sc_st_rename : FnScope n_st_rename p_st_rename (defScope s_st_rename) := ⟨rfl, rfl, rfl, by decide +kernel, rfl, by decide +kernel, by decide +kernel⟩
abbrev n_st_finish : List Str := ["self", "actor", "status"]
abbrev p_st_finish : List Str := ["self", "actor", "status"]
theorem sc_st_finish : FnScope n_st_finish p_st_finish (defScope s_st_finish) := ⟨rfl, rfl, rfl, by decide +kernel, rfl, by decide +kernel, by decide +kernel⟩
abbrev n_drops : List Str := ["ends", "value"]
abbrev p_drops : List Str := ["ends"]
theorem sc_drops : FnScope n_drops p_drops (defScope s_drops) := ⟨rfl, rfl, rfl, by decide +kernel, rfl, by decide +kernel, by decide +kernel⟩
abbrev n_without : List Str := ["names", "values", "result", "name"]
abbrev p_without : List Str := ["names", "values"]
theorem sc_without : FnScope n_without p_without (defScope s_without) := ⟨rfl, rfl, rfl, by decide +kernel, rfl, by decide +kernel, by decide +kernel⟩
abbrev n_end_of : List Str := ["names", "name"]
abbrev p_end_of : List Str := ["names", "name"]
theorem sc_end_of : FnScope n_end_of p_end_of (defScope s_end_of) := ⟨rfl, rfl, rfl, by decide +kernel, rfl, by decide +kernel, by decide +kernel⟩
abbrev n_step_let : List Str := ["state", "actor", "statement", "names", "rest"]
abbrev p_step_let : List Str := ["state", "actor", "statement", "names", "rest"]
theorem sc_step_let : FnScope n_step_let p_step_let (defScope s_step_let) := ⟨rfl, rfl, rfl, by decide +kernel, rfl, by decide +kernel, by decide +kernel⟩
abbrev n_step_say : List Str := ["state", "actor", "statement", "names", "rest", "conversation", "side", "payload", "fallen"]
abbrev p_step_say : List Str := ["state", "actor", "statement", "names", "rest"]
theorem sc_step_say : FnScope n_step_say p_step_say (defScope s_step_say) := ⟨rfl, rfl, rfl, by decide +kernel, rfl, by decide +kernel, by decide +kernel⟩
abbrev n_step_close : List Str := ["state", "actor", "statement", "names", "rest", "conversation", "side"]
abbrev p_step_close : List Str := ["state", "actor", "statement", "names", "rest"]
theorem sc_step_close : FnScope n_step_close p_step_close (defScope s_step_close) := ⟨rfl, rfl, rfl, by decide +kernel, rfl, by decide +kernel, by decide +kernel⟩
abbrev n_step_drop : List Str := ["state", "actor", "statement", "names", "rest", "conversation", "side"]
abbrev p_step_drop : List Str := ["state", "actor", "statement", "names", "rest"]
theorem sc_step_drop : FnScope n_step_drop p_step_drop (defScope s_step_drop) := ⟨rfl, rfl, rfl, by decide +kernel, rfl, by decide +kernel, by decide +kernel⟩
abbrev n_step_open : List Str := ["state", "actor", "statement", "names", "rest", "definition", "values", "e", "conversation", "child"]
abbrev p_step_open : List Str := ["state", "actor", "statement", "names", "rest"]
theorem sc_step_open : FnScope n_step_open p_step_open (defScope s_step_open) := ⟨rfl, rfl, rfl, by decide +kernel, rfl, by decide +kernel, by decide +kernel⟩
abbrev n_step_become : List Str := ["state", "actor", "statement", "names", "definition", "values", "e"]
abbrev p_step_become : List Str := ["state", "actor", "statement", "names"]
theorem sc_step_become : FnScope n_step_become p_step_become (defScope s_step_become) := ⟨rfl, rfl, rfl, by decide +kernel, rfl, by decide +kernel, by decide +kernel⟩
abbrev n_step_if : List Str := ["state", "actor", "statement", "names"]
abbrev p_step_if : List Str := ["state", "actor", "statement", "names"]
theorem sc_step_if : FnScope n_step_if p_step_if (defScope s_step_if) := ⟨rfl, rfl, rfl, by decide +kernel, rfl, by decide +kernel, by decide +kernel⟩
abbrev n_step_hear : List Str := ["state", "actor", "statement", "names", "conversation", "side", "label", "payload", "wanted", "bound", "block"]
abbrev p_step_hear : List Str := ["state", "actor", "statement", "names"]
theorem sc_step_hear : FnScope n_step_hear p_step_hear (defScope s_step_hear) := ⟨rfl, rfl, rfl, by decide +kernel, rfl, by decide +kernel, by decide +kernel⟩
abbrev n_step_simple : List Str := ["state", "actor", "statement", "names", "rest", "head"]
abbrev p_step_simple : List Str := ["state", "actor", "statement", "names", "rest"]
theorem sc_step_simple : FnScope n_step_simple p_step_simple (defScope s_step_simple) := ⟨rfl, rfl, rfl, by decide +kernel, rfl, by decide +kernel, by decide +kernel⟩
abbrev n_step : List Str := ["state", "actor", "names", "rest", "statement"]
abbrev p_step : List Str := ["state", "actor"]
theorem sc_step : FnScope n_step p_step (defScope s_step) := ⟨rfl, rfl, rfl, by decide +kernel, rfl, by decide +kernel, by decide +kernel⟩
abbrev n_fall : List Str := ["state", "actor", "ends"]
abbrev p_fall : List Str := ["state", "actor"]
theorem sc_fall : FnScope n_fall p_fall (defScope s_fall) := ⟨rfl, rfl, rfl, by decide +kernel, rfl, by decide +kernel, by decide +kernel⟩
abbrev n_pr_init : List Str := ["self"]
abbrev p_pr_init : List Str := ["self"]
theorem sc_pr_init : FnScope n_pr_init p_pr_init (defScope s_pr_init) := ⟨rfl, rfl, rfl, by decide +kernel, rfl, by decide +kernel, by decide +kernel⟩
abbrev n_pr_add_talk : List Str := ["self", "name", "talk"]
abbrev p_pr_add_talk : List Str := ["self", "name", "talk"]
theorem sc_pr_add_talk : FnScope n_pr_add_talk p_pr_add_talk (defScope s_pr_add_talk) := ⟨rfl, rfl, rfl, by decide +kernel, rfl, by decide +kernel, by decide +kernel⟩
abbrev n_pr_add_actor : List Str := ["self", "definition"]
abbrev p_pr_add_actor : List Str := ["self", "definition"]
theorem sc_pr_add_actor : FnScope n_pr_add_actor p_pr_add_actor (defScope s_pr_add_actor) := ⟨rfl, rfl, rfl, by decide +kernel, rfl, by decide +kernel, by decide +kernel⟩
abbrev n_pr_actor : List Str := ["self", "name"]
abbrev p_pr_actor : List Str := ["self", "name"]
theorem sc_pr_actor : FnScope n_pr_actor p_pr_actor (defScope s_pr_actor) := ⟨rfl, rfl, rfl, by decide +kernel, rfl, by decide +kernel, by decide +kernel⟩
abbrev n_l_cell : List Str := ["_law_script", "_law_k"]
abbrev p_l_cell : List Str := ["_law_script", "_law_k"]
theorem sc_l_cell : FnScope n_l_cell p_l_cell (defScope s_l_cell) := ⟨rfl, rfl, rfl, by decide +kernel, rfl, by decide +kernel, by decide +kernel⟩
abbrev n_l_numbers : List Str := ["_law_cell_here", "_law_many", "_law_found", "_law_rest_here", "_law_k"]
abbrev p_l_numbers : List Str := ["_law_cell_here", "_law_many"]
theorem sc_l_numbers : FnScope n_l_numbers p_l_numbers (defScope s_l_numbers) := ⟨rfl, rfl, rfl, by decide +kernel, rfl, by decide +kernel, by decide +kernel⟩
abbrev n_l_feed : List Str := ["_law_cell_here", "_law_many"]
abbrev p_l_feed : List Str := ["_law_cell_here", "_law_many"]
theorem sc_l_feed : FnScope n_l_feed p_l_feed (defScope s_l_feed) := ⟨rfl, rfl, rfl, by decide +kernel, rfl, by decide +kernel, by decide +kernel⟩
abbrev n_l_take : List Str := ["_law_feed_here", "_law_limit", "_law_numbers_here", "_law_at"]
abbrev p_l_take : List Str := ["_law_feed_here", "_law_limit"]
theorem sc_l_take : FnScope n_l_take p_l_take (defScope s_l_take) := ⟨rfl, rfl, rfl, by decide +kernel, rfl, by decide +kernel, by decide +kernel⟩
abbrev n_l_fresh : List Str := ["_law_feed_here"]
abbrev p_l_fresh : List Str := ["_law_feed_here"]
theorem sc_l_fresh : FnScope n_l_fresh p_l_fresh (defScope s_l_fresh) := ⟨rfl, rfl, rfl, by decide +kernel, rfl, by decide +kernel, by decide +kernel⟩
abbrev n_l_kind : List Str := ["_law_feed_here", "_law_count", "_law_pick"]
abbrev p_l_kind : List Str := ["_law_feed_here", "_law_count"]
theorem sc_l_kind : FnScope n_l_kind p_l_kind (defScope s_l_kind) := ⟨rfl, rfl, rfl, by decide +kernel, rfl, by decide +kernel, by decide +kernel⟩
abbrev n_l_talk : List Str := ["_law_feed_here", "_law_count", "_law_depth", "_law_pick", "_law_rows", "_law_k"]
abbrev p_l_talk : List Str := ["_law_feed_here", "_law_count", "_law_depth"]
theorem sc_l_talk : FnScope n_l_talk p_l_talk (defScope s_l_talk) := ⟨rfl, rfl, rfl, by decide +kernel, rfl, by decide +kernel, by decide +kernel⟩
abbrev n_l_table : List Str := ["_law_feed_here", "_law_count", "_law_table_here", "_law_k", "_law_rows", "_law_j"]
abbrev p_l_table : List Str := ["_law_feed_here"]
theorem sc_l_table : FnScope n_l_table p_l_table (defScope s_l_table) := ⟨rfl, rfl, rfl, by decide +kernel, rfl, by decide +kernel, by decide +kernel⟩
abbrev n_l_dual : List Str := ["_law_talk_here", "_law_rows", "_law_label", "_law_kind_here", "_law_rest_here"]
abbrev p_l_dual : List Str := ["_law_talk_here"]
theorem sc_l_dual : FnScope n_l_dual p_l_dual (defScope s_l_dual) := ⟨rfl, rfl, rfl, by decide +kernel, rfl, by decide +kernel, by decide +kernel⟩
abbrev n_l_head : List Str := ["_law_table_here", "_law_talk_here"]
abbrev p_l_head : List Str := ["_law_table_here", "_law_talk_here"]
theorem sc_l_head : FnScope n_l_head p_l_head (defScope s_l_head) := ⟨rfl, rfl, rfl, by decide +kernel, rfl, by decide +kernel, by decide +kernel⟩
abbrev n_l_number : List Str := ["_law_feed_here", "_law_ints", "_law_pick", "_law_one"]
abbrev p_l_number : List Str := ["_law_feed_here", "_law_ints"]
theorem sc_l_number : FnScope n_l_number p_l_number (defScope s_l_number) := ⟨rfl, rfl, rfl, by decide +kernel, rfl, by decide +kernel, by decide +kernel⟩
abbrev n_l_test : List Str := ["_law_feed_here", "_law_ints", "_law_pick", "_law_one"]
abbrev p_l_test : List Str := ["_law_feed_here", "_law_ints"]
theorem sc_l_test : FnScope n_l_test p_l_test (defScope s_l_test) := ⟨rfl, rfl, rfl, by decide +kernel, rfl, by decide +kernel, by decide +kernel⟩
abbrev n_l_worker : List Str := ["_law_kind_here"]
abbrev p_l_worker : List Str := ["_law_kind_here"]
theorem sc_l_worker : FnScope n_l_worker p_l_worker (defScope s_l_worker) := ⟨rfl, rfl, rfl, by decide +kernel, rfl, by decide +kernel, by decide +kernel⟩
abbrev n_l_spare : List Str := ["_law_others", "_law_one", "_law_talk_here"]
abbrev p_l_spare : List Str := ["_law_others"]
theorem sc_l_spare : FnScope n_l_spare p_l_spare (defScope s_l_spare) := ⟨rfl, rfl, rfl, by decide +kernel, rfl, by decide +kernel, by decide +kernel⟩
abbrev n_l_without : List Str := ["_law_others", "_law_name", "_law_one", "_law_talk_here"]
abbrev p_l_without : List Str := ["_law_others", "_law_name"]
theorem sc_l_without : FnScope n_l_without p_l_without (defScope s_l_without) := ⟨rfl, rfl, rfl, by decide +kernel, rfl, by decide +kernel, by decide +kernel⟩
abbrev n_l_open : List Str := ["_law_feed_here", "_law_ints", "_law_kind_here", "_law_others", "_law_spare_here", "_law_worker_here", "_law_name", "_law_given"]
abbrev p_l_open : List Str := ["_law_feed_here", "_law_ints", "_law_kind_here", "_law_others"]
theorem sc_l_open : FnScope n_l_open p_l_open (defScope s_l_open) := ⟨rfl, rfl, rfl, by decide +kernel, rfl, by decide +kernel, by decide +kernel⟩
abbrev n_l_last : List Str := ["_law_feed_here"]
abbrev p_l_last : List Str := ["_law_feed_here"]
theorem sc_l_last : FnScope n_l_last p_l_last (defScope s_l_last) := ⟨rfl, rfl, rfl, by decide +kernel, rfl, by decide +kernel, by decide +kernel⟩
abbrev n_l_stop : List Str := ["_law_feed_here", "_law_talk_here", "_law_end", "_law_ints", "_law_others", "_law_rows", "_law_name", "_law_rest_here", "_law_spare_here", "_law_given"]
abbrev p_l_stop : List Str := ["_law_feed_here", "_law_talk_here", "_law_end", "_law_ints", "_law_others"]
theorem sc_l_stop : FnScope n_l_stop p_l_stop (defScope s_l_stop) := ⟨rfl, rfl, rfl, by decide +kernel, rfl, by decide +kernel, by decide +kernel⟩
abbrev n_l_rest : List Str := ["_law_feed_here", "_law_table_here", "_law_ints", "_law_others", "_law_depth", "_law_name", "_law_rest_here", "_law_at", "_law_talk_here"]
abbrev p_l_rest : List Str := ["_law_feed_here", "_law_table_here", "_law_ints", "_law_others", "_law_depth"]
theorem sc_l_rest : FnScope n_l_rest p_l_rest (defScope s_l_rest) := ⟨rfl, rfl, rfl, by decide +kernel, rfl, by decide +kernel, by decide +kernel⟩
abbrev n_l_next : List Str := ["_law_feed_here", "_law_table_here", "_law_talk_here", "_law_end", "_law_ints", "_law_others", "_law_depth"]
abbrev p_l_next : List Str := ["_law_feed_here", "_law_table_here", "_law_talk_here", "_law_end", "_law_ints", "_law_others", "_law_depth"]
theorem sc_l_next : FnScope n_l_next p_l_next (defScope s_l_next) := ⟨rfl, rfl, rfl, by decide +kernel, rfl, by decide +kernel, by decide +kernel⟩
abbrev n_l_say : List Str := ["_law_feed_here", "_law_table_here", "_law_head_here", "_law_end", "_law_ints", "_law_others", "_law_depth", "_law_label", "_law_kind_here", "_law_rest_here", "_law_rows", "_law_payload", "_law_known", "_law_name", "_law_talk_here", "_law_opened"]
abbrev p_l_say : List Str := ["_law_feed_here", "_law_table_here", "_law_head_here", "_law_end", "_law_ints", "_law_others", "_law_depth"]
theorem sc_l_say : FnScope n_l_say p_l_say (defScope s_l_say) := ⟨rfl, rfl, rfl, by decide +kernel, rfl, by decide +kernel, by decide +kernel⟩
abbrev n_l_hear : List Str := ["_law_feed_here", "_law_table_here", "_law_head_here", "_law_end", "_law_ints", "_law_others", "_law_depth", "_law_branches", "_law_label", "_law_kind_here", "_law_rest_here", "_law_bound", "_law_more", "_law_ends", "_law_told"]
abbrev p_l_hear : List Str := ["_law_feed_here", "_law_table_here", "_law_head_here", "_law_end", "_law_ints", "_law_others", "_law_depth"]
theorem sc_l_hear : FnScope n_l_hear p_l_hear (defScope s_l_hear) := ⟨rfl, rfl, rfl, by decide +kernel, rfl, by decide +kernel, by decide +kernel⟩
abbrev n_l_body : List Str := ["_law_feed_here", "_law_table_here", "_law_talk_here", "_law_end", "_law_ints", "_law_others", "_law_depth", "_law_head_here", "_law_pick", "_law_name", "_law_row", "_law_test_here", "_law_first"]
abbrev p_l_body : List Str := ["_law_feed_here", "_law_table_here", "_law_talk_here", "_law_end", "_law_ints", "_law_others", "_law_depth"]
theorem sc_l_body : FnScope n_l_body p_l_body (defScope s_l_body) := ⟨rfl, rfl, rfl, by decide +kernel, rfl, by decide +kernel, by decide +kernel⟩
abbrev n_l_definition : List Str := ["_law_feed_here", "_law_table_here", "_law_kind_here", "_law_depth", "_law_body_here"]
abbrev p_l_definition : List Str := ["_law_feed_here", "_law_table_here", "_law_kind_here", "_law_depth"]
theorem sc_l_definition : FnScope n_l_definition p_l_definition (defScope s_l_definition) := ⟨rfl, rfl, rfl, by decide +kernel, rfl, by decide +kernel, by decide +kernel⟩
abbrev n_l_pair_definition : List Str := ["_law_feed_here", "_law_table_here", "_law_kind_here", "_law_depth", "_law_more", "_law_body_here"]
abbrev p_l_pair_definition : List Str := ["_law_feed_here", "_law_table_here", "_law_kind_here", "_law_depth"]
theorem sc_l_pair_definition : FnScope n_l_pair_definition p_l_pair_definition (defScope s_l_pair_definition) := ⟨rfl, rfl, rfl, by decide +kernel, rfl, by decide +kernel, by decide +kernel⟩
abbrev n_l_main : List Str := ["_law_feed_here", "_law_table_here", "_law_rows", "_law_others", "_law_k", "_law_kind_here", "_law_name", "_law_opened"]
abbrev p_l_main : List Str := ["_law_feed_here", "_law_table_here"]
theorem sc_l_main : FnScope n_l_main p_l_main (defScope s_l_main) := ⟨rfl, rfl, rfl, by decide +kernel, rfl, by decide +kernel, by decide +kernel⟩
abbrev n_l_definitions : List Str := ["_law_feed_here", "_law_table_here", "_law_depth", "_law_found", "_law_name"]
abbrev p_l_definitions : List Str := ["_law_feed_here", "_law_table_here", "_law_depth"]
theorem sc_l_definitions : FnScope n_l_definitions p_l_definitions (defScope s_l_definitions) := ⟨rfl, rfl, rfl, by decide +kernel, rfl, by decide +kernel, by decide +kernel⟩
abbrev n_l_program : List Str := ["_law_table_here", "_law_main_here", "_law_definitions_here", "_law_program_here", "_law_name", "_law_definition_here"]
abbrev p_l_program : List Str := ["_law_table_here", "_law_main_here", "_law_definitions_here"]
theorem sc_l_program : FnScope n_l_program p_l_program (defScope s_l_program) := ⟨rfl, rfl, rfl, by decide +kernel, rfl, by decide +kernel, by decide +kernel⟩
abbrev n_l_plays : List Str := ["_law_script", "_law_first", "_law_limit", "_law_found", "_law_k", "_law_number_here"]
abbrev p_l_plays : List Str := ["_law_script", "_law_first", "_law_limit"]
theorem sc_l_plays : FnScope n_l_plays p_l_plays (defScope s_l_plays) := ⟨rfl, rfl, rfl, by decide +kernel, rfl, by decide +kernel, by decide +kernel⟩
abbrev n_l_falls : List Str := ["_law_cell_here", "_law_falls_here", "_law_number_here"]
abbrev p_l_falls : List Str := ["_law_cell_here"]
theorem sc_l_falls : FnScope n_l_falls p_l_falls (defScope s_l_falls) := ⟨rfl, rfl, rfl, by decide +kernel, rfl, by decide +kernel, by decide +kernel⟩
abbrev n_l_start : List Str := ["_law_script", "_law_feed_here", "_law_table_here", "_law_other"]
abbrev p_l_start : List Str := ["_law_script"]
theorem sc_l_start : FnScope n_l_start p_l_start (defScope s_l_start) := ⟨rfl, rfl, rfl, by decide +kernel, rfl, by decide +kernel, by decide +kernel⟩
abbrev n_l_places : List Str := ["_law_state", "_law_places_here", "_law_actor", "_law_names", "_law_name", "_law_end", "_law_conversation", "_law_side", "_law_label", "_law_payload"]
abbrev p_l_places : List Str := ["_law_state"]
theorem sc_l_places : FnScope n_l_places p_l_places (defScope s_l_places) := ⟨rfl, rfl, rfl, by decide +kernel, rfl, by decide +kernel, by decide +kernel⟩
abbrev n_l_marks_fit : List Str := ["_law_state", "_law_places_here", "_law_conversation", "_law_side", "_law_mark", "_law_found"]
abbrev p_l_marks_fit : List Str := ["_law_state", "_law_places_here"]
theorem sc_l_marks_fit : FnScope n_l_marks_fit p_l_marks_fit (defScope s_l_marks_fit) := ⟨rfl, rfl, rfl, by decide +kernel, rfl, by decide +kernel, by decide +kernel⟩
abbrev n_l_holder : List Str := ["_law_places_here", "_law_conversation", "_law_side", "_law_end", "_law_k", "_law_found"]
abbrev p_l_holder : List Str := ["_law_places_here", "_law_conversation", "_law_side"]
theorem sc_l_holder : FnScope n_l_holder p_l_holder (defScope s_l_holder) := ⟨rfl, rfl, rfl, by decide +kernel, rfl, by decide +kernel, by decide +kernel⟩
abbrev n_l_root : List Str := ["_law_parents", "_law_actor", "_law_k"]
abbrev p_l_root : List Str := ["_law_parents", "_law_actor"]
theorem sc_l_root : FnScope n_l_root p_l_root (defScope s_l_root) := ⟨rfl, rfl, rfl, by decide +kernel, rfl, by decide +kernel, by decide +kernel⟩
abbrev n_l_is_forest : List Str := ["_law_state", "_law_places_here", "_law_parents", "_law_conversation", "_law_marks", "_law_one", "_law_two"]
abbrev p_l_is_forest : List Str := ["_law_state", "_law_places_here"]
theorem sc_l_is_forest : FnScope n_l_is_forest p_l_is_forest (defScope s_l_is_forest) := ⟨rfl, rfl, rfl, by decide +kernel, rfl, by decide +kernel, by decide +kernel⟩
abbrev n_law : List Str := ["_law_script", "_law_table_here", "_law_main_here", "_law_definitions_here", "_law_state", "_law_falls_here", "_law_plays_here", "_law_turn", "_law_when", "_law_actor", "_law_places_here", "_law_ready", "_law_number_here"]
abbrev p_law : List Str := ["_law_script"]
theorem sc_law : FnScope n_law p_law (defScope s_law) := ⟨rfl, rfl, rfl, by decide +kernel, rfl, by decide +kernel, by decide +kernel⟩
/-! ### a def's data, for the head -/
def d_is_end : He.DefD := ⟨("is_end", none), "is_end", "is_end", defArgs s_is_end, defBody s_is_end, defScope s_is_end, [], []⟩
def d_ends_of : He.DefD := ⟨("ends_of", none), "ends_of", "ends_of", defArgs s_ends_of, defBody s_ends_of, defScope s_ends_of, [], []⟩
def d_apply : He.DefD := ⟨("apply", none), "apply", "apply", defArgs s_apply, defBody s_apply, defScope s_apply, [], []⟩
def d_evaluate : He.DefD := ⟨("evaluate", none), "evaluate", "evaluate", defArgs s_evaluate, defBody s_evaluate, defScope s_evaluate, [], []⟩
def d_cv_init : He.DefD := ⟨("Conversations", some "__init__"), "__init__", "Conversations.__init__", defArgs s_cv_init, defBody s_cv_init, defScope s_cv_init, [], []⟩
def d_cv_create : He.DefD := ⟨("Conversations", some "create"), "create", "Conversations.create", defArgs s_cv_create, defBody s_cv_create, defScope s_cv_create, [], []⟩
def d_cv_len : He.DefD := ⟨("Conversations", some "__len__"), "__len__", "Conversations.__len__", defArgs s_cv_len, defBody s_cv_len, defScope s_cv_len, [], []⟩
def d_cv_mark : He.DefD := ⟨("Conversations", some "mark"), "mark", "Conversations.mark", defArgs s_cv_mark, defBody s_cv_mark, defScope s_cv_mark, [], []⟩
def d_cv_mailbox : He.DefD := ⟨("Conversations", some "mailbox"), "mailbox", "Conversations.mailbox", defArgs s_cv_mailbox, defBody s_cv_mailbox, defScope s_cv_mailbox, [], []⟩
def d_cv_set_mark : He.DefD := ⟨("Conversations", some "set_mark"), "set_mark", "Conversations.set_mark", defArgs s_cv_set_mark, defBody s_cv_set_mark, defScope s_cv_set_mark, [], []⟩
def d_cv_send : He.DefD := ⟨("Conversations", some "send"), "send", "Conversations.send", defArgs s_cv_send, defBody s_cv_send, defScope s_cv_send, [], []⟩
def d_cv_hear : He.DefD := ⟨("Conversations", some "hear"), "hear", "Conversations.hear", defArgs s_cv_hear, defBody s_cv_hear, defScope s_cv_hear, [], []⟩
def d_cv_can_hear : He.DefD := ⟨("Conversations", some "can_hear"), "can_hear", "Conversations.can_hear", defArgs s_cv_can_hear, defBody s_cv_can_hear, defScope s_cv_can_hear, [], []⟩
def d_cv_is_told : He.DefD := ⟨("Conversations", some "is_told"), "is_told", "Conversations.is_told", defArgs s_cv_is_told, defBody s_cv_is_told, defScope s_cv_is_told, [], []⟩
def d_cv_emptied : He.DefD := ⟨("Conversations", some "emptied"), "emptied", "Conversations.emptied", defArgs s_cv_emptied, defBody s_cv_emptied, defScope s_cv_emptied, [], []⟩
def d_cv_close : He.DefD := ⟨("Conversations", some "close"), "close", "Conversations.close", defArgs s_cv_close, defBody s_cv_close, defScope s_cv_close, [], []⟩
def d_cv_drop : He.DefD := ⟨("Conversations", some "drop"), "drop", "Conversations.drop", defArgs s_cv_drop, defBody s_cv_drop, defScope s_cv_drop, [], []⟩
def d_ac_init : He.DefD := ⟨("Actor", some "__init__"), "__init__", "Actor.__init__", defArgs s_ac_init, defBody s_ac_init, defScope s_ac_init, [], []⟩
def d_bound : He.DefD := ⟨("bound", none), "bound", "bound", defArgs s_bound, defBody s_bound, defScope s_bound, [], []⟩
def d_st_init : He.DefD := ⟨("State", some "__init__"), "__init__", "State.__init__", defArgs s_st_init, defBody s_st_init, defScope s_st_init, [], []⟩
def d_st_newest : He.DefD := ⟨("State", some "newest"), "newest", "State.newest", defArgs s_st_newest, defBody s_st_newest, defScope s_st_newest, [], []⟩
def d_st_rest : He.DefD := ⟨("State", some "rest"), "rest", "State.rest", defArgs s_st_rest, defBody s_st_rest, defScope s_st_rest, [], []⟩
def d_st_names : He.DefD := ⟨("State", some "names"), "names", "State.names", defArgs s_st_names, defBody s_st_names, defScope s_st_names, [], []⟩
def d_st_running : He.DefD := ⟨("State", some "running"), "running", "State.running", defArgs s_st_running, defBody s_st_running, defScope s_st_running, [], []⟩
def d_st_is_ready : He.DefD := ⟨("State", some "is_ready"), "is_ready", "State.is_ready", defArgs s_st_is_ready, defBody s_st_is_ready, defScope s_st_is_ready, [], []⟩
def d_st_ready : He.DefD := ⟨("State", some "ready"), "ready", "State.ready", defArgs s_st_ready, defBody s_st_ready, defScope s_st_ready, [], []⟩
def d_st_start : He.DefD := ⟨("State", some "start"), "start", "State.start", defArgs s_st_start, defBody s_st_start, defScope s_st_start, [], []⟩
def d_st_put : He.DefD := ⟨("State", some "put"), "put", "State.put", defArgs s_st_put, defBody s_st_put, defScope s_st_put, [], []⟩
def d_st_rename : He.DefD := ⟨("State", some "rename"), "rename", "State.rename", defArgs s_st_rename, defBody s_st_rename, defScope s_st_rename, [], []⟩
def d_st_finish : He.DefD := ⟨("State", some "finish"), "finish", "State.finish", defArgs s_st_finish, defBody s_st_finish, defScope s_st_finish, [], []⟩
def d_drops : He.DefD := ⟨("drops", none), "drops", "drops", defArgs s_drops, defBody s_drops, defScope s_drops, [], []⟩
def d_without : He.DefD := ⟨("without", none), "without", "without", defArgs s_without, defBody s_without, defScope s_without, [], []⟩
def d_end_of : He.DefD := ⟨("end_of", none), "end_of", "end_of", defArgs s_end_of, defBody s_end_of, defScope s_end_of, [], []⟩
def d_step_let : He.DefD := ⟨("step_let", none), "step_let", "step_let", defArgs s_step_let, defBody s_step_let, defScope s_step_let, [], []⟩
def d_step_say : He.DefD := ⟨("step_say", none), "step_say", "step_say", defArgs s_step_say, defBody s_step_say, defScope s_step_say, [], []⟩
def d_step_close : He.DefD := ⟨("step_close", none), "step_close", "step_close", defArgs s_step_close, defBody s_step_close, defScope s_step_close, [], []⟩
def d_step_drop : He.DefD := ⟨("step_drop", none), "step_drop", "step_drop", defArgs s_step_drop, defBody s_step_drop, defScope s_step_drop, [], []⟩
def d_step_open : He.DefD := ⟨("step_open", none), "step_open", "step_open", defArgs s_step_open, defBody s_step_open, defScope s_step_open, [], []⟩
def d_step_become : He.DefD := ⟨("step_become", none), "step_become", "step_become", defArgs s_step_become, defBody s_step_become, defScope s_step_become, [], []⟩
def d_step_if : He.DefD := ⟨("step_if", none), "step_if", "step_if", defArgs s_step_if, defBody s_step_if, defScope s_step_if, [], []⟩
def d_step_hear : He.DefD := ⟨("step_hear", none), "step_hear", "step_hear", defArgs s_step_hear, defBody s_step_hear, defScope s_step_hear, [], []⟩
def d_step_simple : He.DefD := ⟨("step_simple", none), "step_simple", "step_simple", defArgs s_step_simple, defBody s_step_simple, defScope s_step_simple, [], []⟩
def d_step : He.DefD := ⟨("step", none), "step", "step", defArgs s_step, defBody s_step, defScope s_step, [], []⟩
def d_fall : He.DefD := ⟨("fall", none), "fall", "fall", defArgs s_fall, defBody s_fall, defScope s_fall, [], []⟩
def d_pr_init : He.DefD := ⟨("Program", some "__init__"), "__init__", "Program.__init__", defArgs s_pr_init, defBody s_pr_init, defScope s_pr_init, [], []⟩
def d_pr_add_talk : He.DefD := ⟨("Program", some "add_talk"), "add_talk", "Program.add_talk", defArgs s_pr_add_talk, defBody s_pr_add_talk, defScope s_pr_add_talk, [], []⟩
def d_pr_add_actor : He.DefD := ⟨("Program", some "add_actor"), "add_actor", "Program.add_actor", defArgs s_pr_add_actor, defBody s_pr_add_actor, defScope s_pr_add_actor, [], []⟩
def d_pr_actor : He.DefD := ⟨("Program", some "actor"), "actor", "Program.actor", defArgs s_pr_actor, defBody s_pr_actor, defScope s_pr_actor, [], []⟩
def d_l_cell : He.DefD := ⟨("_law_cell", none), "_law_cell", "_law_cell", defArgs s_l_cell, defBody s_l_cell, defScope s_l_cell, [], []⟩
def d_l_numbers : He.DefD := ⟨("_law_numbers", none), "_law_numbers", "_law_numbers", defArgs s_l_numbers, defBody s_l_numbers, defScope s_l_numbers, [], []⟩
def d_l_feed : He.DefD := ⟨("_law_feed", none), "_law_feed", "_law_feed", defArgs s_l_feed, defBody s_l_feed, defScope s_l_feed, [], []⟩
def d_l_take : He.DefD := ⟨("_law_take", none), "_law_take", "_law_take", defArgs s_l_take, defBody s_l_take, defScope s_l_take, [], []⟩
def d_l_fresh : He.DefD := ⟨("_law_fresh", none), "_law_fresh", "_law_fresh", defArgs s_l_fresh, defBody s_l_fresh, defScope s_l_fresh, [], []⟩
def d_l_kind : He.DefD := ⟨("_law_kind", none), "_law_kind", "_law_kind", defArgs s_l_kind, defBody s_l_kind, defScope s_l_kind, [], []⟩
def d_l_talk : He.DefD := ⟨("_law_talk", none), "_law_talk", "_law_talk", defArgs s_l_talk, defBody s_l_talk, defScope s_l_talk, [], []⟩
def d_l_table : He.DefD := ⟨("_law_table", none), "_law_table", "_law_table", defArgs s_l_table, defBody s_l_table, defScope s_l_table, [], []⟩
def d_l_dual : He.DefD := ⟨("_law_dual", none), "_law_dual", "_law_dual", defArgs s_l_dual, defBody s_l_dual, defScope s_l_dual, [], []⟩
def d_l_head : He.DefD := ⟨("_law_head", none), "_law_head", "_law_head", defArgs s_l_head, defBody s_l_head, defScope s_l_head, [], []⟩
def d_l_number : He.DefD := ⟨("_law_number", none), "_law_number", "_law_number", defArgs s_l_number, defBody s_l_number, defScope s_l_number, [], []⟩
def d_l_test : He.DefD := ⟨("_law_test", none), "_law_test", "_law_test", defArgs s_l_test, defBody s_l_test, defScope s_l_test, [], []⟩
def d_l_worker : He.DefD := ⟨("_law_worker", none), "_law_worker", "_law_worker", defArgs s_l_worker, defBody s_l_worker, defScope s_l_worker, [], []⟩
def d_l_spare : He.DefD := ⟨("_law_spare", none), "_law_spare", "_law_spare", defArgs s_l_spare, defBody s_l_spare, defScope s_l_spare, [], []⟩
def d_l_without : He.DefD := ⟨("_law_without", none), "_law_without", "_law_without", defArgs s_l_without, defBody s_l_without, defScope s_l_without, [], []⟩
def d_l_open : He.DefD := ⟨("_law_open", none), "_law_open", "_law_open", defArgs s_l_open, defBody s_l_open, defScope s_l_open, [], []⟩
def d_l_last : He.DefD := ⟨("_law_last", none), "_law_last", "_law_last", defArgs s_l_last, defBody s_l_last, defScope s_l_last, [], []⟩
def d_l_stop : He.DefD := ⟨("_law_stop", none), "_law_stop", "_law_stop", defArgs s_l_stop, defBody s_l_stop, defScope s_l_stop, [], []⟩
def d_l_rest : He.DefD := ⟨("_law_rest", none), "_law_rest", "_law_rest", defArgs s_l_rest, defBody s_l_rest, defScope s_l_rest, [], []⟩
def d_l_next : He.DefD := ⟨("_law_next", none), "_law_next", "_law_next", defArgs s_l_next, defBody s_l_next, defScope s_l_next, [], []⟩
def d_l_say : He.DefD := ⟨("_law_say", none), "_law_say", "_law_say", defArgs s_l_say, defBody s_l_say, defScope s_l_say, [], []⟩
def d_l_hear : He.DefD := ⟨("_law_hear", none), "_law_hear", "_law_hear", defArgs s_l_hear, defBody s_l_hear, defScope s_l_hear, [], []⟩
def d_l_body : He.DefD := ⟨("_law_body", none), "_law_body", "_law_body", defArgs s_l_body, defBody s_l_body, defScope s_l_body, [], []⟩
def d_l_definition : He.DefD := ⟨("_law_definition", none), "_law_definition", "_law_definition", defArgs s_l_definition, defBody s_l_definition, defScope s_l_definition, [], []⟩
def d_l_pair_definition : He.DefD := ⟨("_law_pair_definition", none), "_law_pair_definition", "_law_pair_definition", defArgs s_l_pair_definition, defBody s_l_pair_definition, defScope s_l_pair_definition, [], []⟩
def d_l_main : He.DefD := ⟨("_law_main", none), "_law_main", "_law_main", defArgs s_l_main, defBody s_l_main, defScope s_l_main, [], []⟩
def d_l_definitions : He.DefD := ⟨("_law_definitions", none), "_law_definitions", "_law_definitions", defArgs s_l_definitions, defBody s_l_definitions, defScope s_l_definitions, [], []⟩
def d_l_program : He.DefD := ⟨("_law_program", none), "_law_program", "_law_program", defArgs s_l_program, defBody s_l_program, defScope s_l_program, [], []⟩
def d_l_plays : He.DefD := ⟨("_law_plays", none), "_law_plays", "_law_plays", defArgs s_l_plays, defBody s_l_plays, defScope s_l_plays, [], []⟩
def d_l_falls : He.DefD := ⟨("_law_falls", none), "_law_falls", "_law_falls", defArgs s_l_falls, defBody s_l_falls, defScope s_l_falls, [], []⟩
def d_l_start : He.DefD := ⟨("_law_start", none), "_law_start", "_law_start", defArgs s_l_start, defBody s_l_start, defScope s_l_start, [], []⟩
def d_l_places : He.DefD := ⟨("_law_places", none), "_law_places", "_law_places", defArgs s_l_places, defBody s_l_places, defScope s_l_places, [], []⟩
def d_l_marks_fit : He.DefD := ⟨("_law_marks_fit", none), "_law_marks_fit", "_law_marks_fit", defArgs s_l_marks_fit, defBody s_l_marks_fit, defScope s_l_marks_fit, [], []⟩
def d_l_holder : He.DefD := ⟨("_law_holder", none), "_law_holder", "_law_holder", defArgs s_l_holder, defBody s_l_holder, defScope s_l_holder, [], []⟩
def d_l_root : He.DefD := ⟨("_law_root", none), "_law_root", "_law_root", defArgs s_l_root, defBody s_l_root, defScope s_l_root, [], []⟩
def d_l_is_forest : He.DefD := ⟨("_law_is_forest", none), "_law_is_forest", "_law_is_forest", defArgs s_l_is_forest, defBody s_l_is_forest, defScope s_l_is_forest, [], []⟩
def d_law : He.DefD := ⟨("law", none), "law", "law", defArgs s_law, defBody s_law, defScope s_law, [], []⟩
def fns : List He.DefD := [d_is_end, d_ends_of, d_apply, d_evaluate, d_cv_init, d_cv_create, d_cv_len, d_cv_mark, d_cv_mailbox, d_cv_set_mark, d_cv_send, d_cv_hear, d_cv_can_hear, d_cv_is_told, d_cv_emptied, d_cv_close, d_cv_drop, d_ac_init, d_bound, d_st_init, d_st_newest, d_st_rest, d_st_names, d_st_running, d_st_is_ready, d_st_ready, d_st_start, d_st_put, d_st_rename, d_st_finish, d_drops, d_without, d_end_of, d_step_let, d_step_say, d_step_close, d_step_drop, d_step_open, d_step_become, d_step_if, d_step_hear, d_step_simple, d_step, d_fall, d_pr_init, d_pr_add_talk, d_pr_add_actor, d_pr_actor, d_l_cell, d_l_numbers, d_l_feed, d_l_take, d_l_fresh, d_l_kind, d_l_talk, d_l_table, d_l_dual, d_l_head, d_l_number, d_l_test, d_l_worker, d_l_spare, d_l_without, d_l_open, d_l_last, d_l_stop, d_l_rest, d_l_next, d_l_say, d_l_hear, d_l_body, d_l_definition, d_l_pair_definition, d_l_main, d_l_definitions, d_l_program, d_l_plays, d_l_falls, d_l_start, d_l_places, d_l_marks_fit, d_l_holder, d_l_root, d_l_is_forest, d_law]
def fas : List He.Fa := [.glo "is_end", .glo "ends_of", .glo "apply", .glo "evaluate", .meth "Conversations" "create", .meth "Conversations" "__len__", .meth "Conversations" "mark", .meth "Conversations" "mailbox", .meth "Conversations" "set_mark", .meth "Conversations" "send", .meth "Conversations" "hear", .meth "Conversations" "can_hear", .meth "Conversations" "is_told", .meth "Conversations" "emptied", .meth "Conversations" "close", .meth "Conversations" "drop", .glo "bound", .meth "State" "newest", .meth "State" "rest", .meth "State" "names", .meth "State" "running", .meth "State" "is_ready", .meth "State" "ready", .meth "State" "start", .meth "State" "put", .meth "State" "rename", .meth "State" "finish", .glo "drops", .glo "without", .glo "end_of", .glo "step_let", .glo "step_say", .glo "step_close", .glo "step_drop", .glo "step_open", .glo "step_become", .glo "step_if", .glo "step_hear", .glo "step_simple", .glo "step", .glo "fall", .meth "Program" "add_talk", .meth "Program" "add_actor", .meth "Program" "actor", .glo "_law_cell", .glo "_law_numbers", .glo "_law_feed", .glo "_law_take", .glo "_law_fresh", .glo "_law_kind", .glo "_law_talk", .glo "_law_table", .glo "_law_dual", .glo "_law_head", .glo "_law_number", .glo "_law_test", .glo "_law_worker", .glo "_law_spare", .glo "_law_without", .glo "_law_open", .glo "_law_last", .glo "_law_stop", .glo "_law_rest", .glo "_law_next", .glo "_law_say", .glo "_law_hear", .glo "_law_body", .glo "_law_definition", .glo "_law_pair_definition", .glo "_law_main", .glo "_law_definitions", .glo "_law_program", .glo "_law_plays", .glo "_law_falls", .glo "_law_start", .glo "_law_places", .glo "_law_marks_fit", .glo "_law_holder", .glo "_law_root", .glo "_law_is_forest", .glo "law", .glo "Conversations", .cls "Conversations", .mkr "Conversations", .glo "Actor", .cls "Actor", .mkr "Actor", .glo "State", .cls "State", .mkr "State", .glo "Program", .cls "Program", .mkr "Program", .noat "Conversations" "_marks", .noat "Conversations" "_boxes", .noat "Actor" "name", .noat "Actor" "names", .noat "Actor" "rest", .noat "Actor" "status", .noat "State" "_program", .noat "State" "_newest", .noat "State" "_actors", .noat "State" "conversations", .noat "Program" "_talks", .noat "Program" "_actors", .free "len", .free "isinstance", .free "sorted", .free "range", .free "abs", .free "int", .free "min", .free "max", .free "tuple", .free "list", .free "dict", .free "str", .int "SIZE" 65536]
end G

/-! part Tp -/
set_option Elab.async false
set_option linter.all false
set_option maxRecDepth 100000
set_option maxHeartbeats 4000000
/-! What the walk knows of the top: one record. Printed by gen_text.py. -/
namespace G
open PySem L2
abbrev FnP (K : PySem.W.Frag) (x qual : Str) (st : Stmt) (f : Addr) (fd : FuncData) : Prop := FunD K x qual (defArgs st) (defBody st) (defScope st) [] [] f fd
/-- a def as it stands: its function object, how it binds -/
structure DefAt (K : PySem.W.Frag) (x qual : Str) (st : Stmt) (ps : List Str) (f : Addr) : Prop where
  ex : ∃ fd, FnP K x qual st f fd ∧ Binds K fd ps []
structure Top (K : PySem.W.Frag) (mg : Str → Option Value) : Prop where
  d_is_end : DefAt K "is_end" "is_end" s_is_end p_is_end (He.ga K "is_end")
  d_ends_of : DefAt K "ends_of" "ends_of" s_ends_of p_ends_of (He.ga K "ends_of")
  d_apply : DefAt K "apply" "apply" s_apply p_apply (He.ga K "apply")
  d_evaluate : DefAt K "evaluate" "evaluate" s_evaluate p_evaluate (He.ga K "evaluate")
  d_cv_init : DefAt K "__init__" "Conversations.__init__" s_cv_init p_cv_init (He.ma K (He.ga K "Conversations") "__init__")
  d_cv_create : DefAt K "create" "Conversations.create" s_cv_create p_cv_create (He.ma K (He.ga K "Conversations") "create")
  d_cv_len : DefAt K "__len__" "Conversations.__len__" s_cv_len p_cv_len (He.ma K (He.ga K "Conversations") "__len__")
  d_cv_mark : DefAt K "mark" "Conversations.mark" s_cv_mark p_cv_mark (He.ma K (He.ga K "Conversations") "mark")
  d_cv_mailbox : DefAt K "mailbox" "Conversations.mailbox" s_cv_mailbox p_cv_mailbox (He.ma K (He.ga K "Conversations") "mailbox")
  d_cv_set_mark : DefAt K "set_mark" "Conversations.set_mark" s_cv_set_mark p_cv_set_mark (He.ma K (He.ga K "Conversations") "set_mark")
  d_cv_send : DefAt K "send" "Conversations.send" s_cv_send p_cv_send (He.ma K (He.ga K "Conversations") "send")
  d_cv_hear : DefAt K "hear" "Conversations.hear" s_cv_hear p_cv_hear (He.ma K (He.ga K "Conversations") "hear")
  d_cv_can_hear : DefAt K "can_hear" "Conversations.can_hear" s_cv_can_hear p_cv_can_hear (He.ma K (He.ga K "Conversations") "can_hear")
  d_cv_is_told : DefAt K "is_told" "Conversations.is_told" s_cv_is_told p_cv_is_told (He.ma K (He.ga K "Conversations") "is_told")
  d_cv_emptied : DefAt K "emptied" "Conversations.emptied" s_cv_emptied p_cv_emptied (He.ma K (He.ga K "Conversations") "emptied")
  d_cv_close : DefAt K "close" "Conversations.close" s_cv_close p_cv_close (He.ma K (He.ga K "Conversations") "close")
  d_cv_drop : DefAt K "drop" "Conversations.drop" s_cv_drop p_cv_drop (He.ma K (He.ga K "Conversations") "drop")
  d_ac_init : DefAt K "__init__" "Actor.__init__" s_ac_init p_ac_init (He.ma K (He.ga K "Actor") "__init__")
  d_bound : DefAt K "bound" "bound" s_bound p_bound (He.ga K "bound")
  d_st_init : DefAt K "__init__" "State.__init__" s_st_init p_st_init (He.ma K (He.ga K "State") "__init__")
  d_st_newest : DefAt K "newest" "State.newest" s_st_newest p_st_newest (He.ma K (He.ga K "State") "newest")
  d_st_rest : DefAt K "rest" "State.rest" s_st_rest p_st_rest (He.ma K (He.ga K "State") "rest")
  d_st_names : DefAt K "names" "State.names" s_st_names p_st_names (He.ma K (He.ga K "State") "names")
  d_st_running : DefAt K "running" "State.running" s_st_running p_st_running (He.ma K (He.ga K "State") "running")
  d_st_is_ready : DefAt K "is_ready" "State.is_ready" s_st_is_ready p_st_is_ready (He.ma K (He.ga K "State") "is_ready")
  d_st_ready : DefAt K "ready" "State.ready" s_st_ready p_st_ready (He.ma K (He.ga K "State") "ready")
  d_st_start : DefAt K "start" "State.start" s_st_start p_st_start (He.ma K (He.ga K "State") "start")
  d_st_put : DefAt K "put" "State.put" s_st_put p_st_put (He.ma K (He.ga K "State") "put")
  d_st_rename : DefAt K "rename" "State.rename" s_st_rename p_st_rename (He.ma K (He.ga K "State") "rename")
  d_st_finish : DefAt K "finish" "State.finish" s_st_finish p_st_finish (He.ma K (He.ga K "State") "finish")
  d_drops : DefAt K "drops" "drops" s_drops p_drops (He.ga K "drops")
  d_without : DefAt K "without" "without" s_without p_without (He.ga K "without")
  d_end_of : DefAt K "end_of" "end_of" s_end_of p_end_of (He.ga K "end_of")
  d_step_let : DefAt K "step_let" "step_let" s_step_let p_step_let (He.ga K "step_let")
  d_step_say : DefAt K "step_say" "step_say" s_step_say p_step_say (He.ga K "step_say")
  d_step_close : DefAt K "step_close" "step_close" s_step_close p_step_close (He.ga K "step_close")
  d_step_drop : DefAt K "step_drop" "step_drop" s_step_drop p_step_drop (He.ga K "step_drop")
  d_step_open : DefAt K "step_open" "step_open" s_step_open p_step_open (He.ga K "step_open")
  d_step_become : DefAt K "step_become" "step_become" s_step_become p_step_become (He.ga K "step_become")
  d_step_if : DefAt K "step_if" "step_if" s_step_if p_step_if (He.ga K "step_if")
  d_step_hear : DefAt K "step_hear" "step_hear" s_step_hear p_step_hear (He.ga K "step_hear")
  d_step_simple : DefAt K "step_simple" "step_simple" s_step_simple p_step_simple (He.ga K "step_simple")
  d_step : DefAt K "step" "step" s_step p_step (He.ga K "step")
  d_fall : DefAt K "fall" "fall" s_fall p_fall (He.ga K "fall")
  d_pr_init : DefAt K "__init__" "Program.__init__" s_pr_init p_pr_init (He.ma K (He.ga K "Program") "__init__")
  d_pr_add_talk : DefAt K "add_talk" "Program.add_talk" s_pr_add_talk p_pr_add_talk (He.ma K (He.ga K "Program") "add_talk")
  d_pr_add_actor : DefAt K "add_actor" "Program.add_actor" s_pr_add_actor p_pr_add_actor (He.ma K (He.ga K "Program") "add_actor")
  d_pr_actor : DefAt K "actor" "Program.actor" s_pr_actor p_pr_actor (He.ma K (He.ga K "Program") "actor")
  d_l_cell : DefAt K "_law_cell" "_law_cell" s_l_cell p_l_cell (He.ga K "_law_cell")
  d_l_numbers : DefAt K "_law_numbers" "_law_numbers" s_l_numbers p_l_numbers (He.ga K "_law_numbers")
  d_l_feed : DefAt K "_law_feed" "_law_feed" s_l_feed p_l_feed (He.ga K "_law_feed")
  d_l_take : DefAt K "_law_take" "_law_take" s_l_take p_l_take (He.ga K "_law_take")
  d_l_fresh : DefAt K "_law_fresh" "_law_fresh" s_l_fresh p_l_fresh (He.ga K "_law_fresh")
  d_l_kind : DefAt K "_law_kind" "_law_kind" s_l_kind p_l_kind (He.ga K "_law_kind")
  d_l_talk : DefAt K "_law_talk" "_law_talk" s_l_talk p_l_talk (He.ga K "_law_talk")
  d_l_table : DefAt K "_law_table" "_law_table" s_l_table p_l_table (He.ga K "_law_table")
  d_l_dual : DefAt K "_law_dual" "_law_dual" s_l_dual p_l_dual (He.ga K "_law_dual")
  d_l_head : DefAt K "_law_head" "_law_head" s_l_head p_l_head (He.ga K "_law_head")
  d_l_number : DefAt K "_law_number" "_law_number" s_l_number p_l_number (He.ga K "_law_number")
  d_l_test : DefAt K "_law_test" "_law_test" s_l_test p_l_test (He.ga K "_law_test")
  d_l_worker : DefAt K "_law_worker" "_law_worker" s_l_worker p_l_worker (He.ga K "_law_worker")
  d_l_spare : DefAt K "_law_spare" "_law_spare" s_l_spare p_l_spare (He.ga K "_law_spare")
  d_l_without : DefAt K "_law_without" "_law_without" s_l_without p_l_without (He.ga K "_law_without")
  d_l_open : DefAt K "_law_open" "_law_open" s_l_open p_l_open (He.ga K "_law_open")
  d_l_last : DefAt K "_law_last" "_law_last" s_l_last p_l_last (He.ga K "_law_last")
  d_l_stop : DefAt K "_law_stop" "_law_stop" s_l_stop p_l_stop (He.ga K "_law_stop")
  d_l_rest : DefAt K "_law_rest" "_law_rest" s_l_rest p_l_rest (He.ga K "_law_rest")
  d_l_next : DefAt K "_law_next" "_law_next" s_l_next p_l_next (He.ga K "_law_next")
  d_l_say : DefAt K "_law_say" "_law_say" s_l_say p_l_say (He.ga K "_law_say")
  d_l_hear : DefAt K "_law_hear" "_law_hear" s_l_hear p_l_hear (He.ga K "_law_hear")
  d_l_body : DefAt K "_law_body" "_law_body" s_l_body p_l_body (He.ga K "_law_body")
  d_l_definition : DefAt K "_law_definition" "_law_definition" s_l_definition p_l_definition (He.ga K "_law_definition")
  d_l_pair_definition : DefAt K "_law_pair_definition" "_law_pair_definition" s_l_pair_definition p_l_pair_definition (He.ga K "_law_pair_definition")
  d_l_main : DefAt K "_law_main" "_law_main" s_l_main p_l_main (He.ga K "_law_main")
  d_l_definitions : DefAt K "_law_definitions" "_law_definitions" s_l_definitions p_l_definitions (He.ga K "_law_definitions")
  d_l_program : DefAt K "_law_program" "_law_program" s_l_program p_l_program (He.ga K "_law_program")
  d_l_plays : DefAt K "_law_plays" "_law_plays" s_l_plays p_l_plays (He.ga K "_law_plays")
  d_l_falls : DefAt K "_law_falls" "_law_falls" s_l_falls p_l_falls (He.ga K "_law_falls")
  d_l_start : DefAt K "_law_start" "_law_start" s_l_start p_l_start (He.ga K "_law_start")
  d_l_places : DefAt K "_law_places" "_law_places" s_l_places p_l_places (He.ga K "_law_places")
  d_l_marks_fit : DefAt K "_law_marks_fit" "_law_marks_fit" s_l_marks_fit p_l_marks_fit (He.ga K "_law_marks_fit")
  d_l_holder : DefAt K "_law_holder" "_law_holder" s_l_holder p_l_holder (He.ga K "_law_holder")
  d_l_root : DefAt K "_law_root" "_law_root" s_l_root p_l_root (He.ga K "_law_root")
  d_l_is_forest : DefAt K "_law_is_forest" "_law_is_forest" s_l_is_forest p_l_is_forest (He.ga K "_law_is_forest")
  d_law : DefAt K "law" "law" s_law p_law (He.ga K "law")
  g_is_end : mg "is_end" = some (.ref (He.ga K "is_end"))
  g_ends_of : mg "ends_of" = some (.ref (He.ga K "ends_of"))
  g_apply : mg "apply" = some (.ref (He.ga K "apply"))
  g_evaluate : mg "evaluate" = some (.ref (He.ga K "evaluate"))
  m_cv_create : Meth K (He.ga K "Conversations") "create" (He.ma K (He.ga K "Conversations") "create")
  m_cv_len : Meth K (He.ga K "Conversations") "__len__" (He.ma K (He.ga K "Conversations") "__len__")
  m_cv_mark : Meth K (He.ga K "Conversations") "mark" (He.ma K (He.ga K "Conversations") "mark")
  m_cv_mailbox : Meth K (He.ga K "Conversations") "mailbox" (He.ma K (He.ga K "Conversations") "mailbox")
  m_cv_set_mark : Meth K (He.ga K "Conversations") "set_mark" (He.ma K (He.ga K "Conversations") "set_mark")
  m_cv_send : Meth K (He.ga K "Conversations") "send" (He.ma K (He.ga K "Conversations") "send")
  m_cv_hear : Meth K (He.ga K "Conversations") "hear" (He.ma K (He.ga K "Conversations") "hear")
  m_cv_can_hear : Meth K (He.ga K "Conversations") "can_hear" (He.ma K (He.ga K "Conversations") "can_hear")
  m_cv_is_told : Meth K (He.ga K "Conversations") "is_told" (He.ma K (He.ga K "Conversations") "is_told")
  m_cv_emptied : Meth K (He.ga K "Conversations") "emptied" (He.ma K (He.ga K "Conversations") "emptied")
  m_cv_close : Meth K (He.ga K "Conversations") "close" (He.ma K (He.ga K "Conversations") "close")
  m_cv_drop : Meth K (He.ga K "Conversations") "drop" (He.ma K (He.ga K "Conversations") "drop")
  g_bound : mg "bound" = some (.ref (He.ga K "bound"))
  m_st_newest : Meth K (He.ga K "State") "newest" (He.ma K (He.ga K "State") "newest")
  m_st_rest : Meth K (He.ga K "State") "rest" (He.ma K (He.ga K "State") "rest")
  m_st_names : Meth K (He.ga K "State") "names" (He.ma K (He.ga K "State") "names")
  m_st_running : Meth K (He.ga K "State") "running" (He.ma K (He.ga K "State") "running")
  m_st_is_ready : Meth K (He.ga K "State") "is_ready" (He.ma K (He.ga K "State") "is_ready")
  m_st_ready : Meth K (He.ga K "State") "ready" (He.ma K (He.ga K "State") "ready")
  m_st_start : Meth K (He.ga K "State") "start" (He.ma K (He.ga K "State") "start")
  m_st_put : Meth K (He.ga K "State") "put" (He.ma K (He.ga K "State") "put")
  m_st_rename : Meth K (He.ga K "State") "rename" (He.ma K (He.ga K "State") "rename")
  m_st_finish : Meth K (He.ga K "State") "finish" (He.ma K (He.ga K "State") "finish")
  g_drops : mg "drops" = some (.ref (He.ga K "drops"))
  g_without : mg "without" = some (.ref (He.ga K "without"))
  g_end_of : mg "end_of" = some (.ref (He.ga K "end_of"))
  g_step_let : mg "step_let" = some (.ref (He.ga K "step_let"))
  g_step_say : mg "step_say" = some (.ref (He.ga K "step_say"))
  g_step_close : mg "step_close" = some (.ref (He.ga K "step_close"))
  g_step_drop : mg "step_drop" = some (.ref (He.ga K "step_drop"))
  g_step_open : mg "step_open" = some (.ref (He.ga K "step_open"))
  g_step_become : mg "step_become" = some (.ref (He.ga K "step_become"))
  g_step_if : mg "step_if" = some (.ref (He.ga K "step_if"))
  g_step_hear : mg "step_hear" = some (.ref (He.ga K "step_hear"))
  g_step_simple : mg "step_simple" = some (.ref (He.ga K "step_simple"))
  g_step : mg "step" = some (.ref (He.ga K "step"))
  g_fall : mg "fall" = some (.ref (He.ga K "fall"))
  m_pr_add_talk : Meth K (He.ga K "Program") "add_talk" (He.ma K (He.ga K "Program") "add_talk")
  m_pr_add_actor : Meth K (He.ga K "Program") "add_actor" (He.ma K (He.ga K "Program") "add_actor")
  m_pr_actor : Meth K (He.ga K "Program") "actor" (He.ma K (He.ga K "Program") "actor")
  g_l_cell : mg "_law_cell" = some (.ref (He.ga K "_law_cell"))
  g_l_numbers : mg "_law_numbers" = some (.ref (He.ga K "_law_numbers"))
  g_l_feed : mg "_law_feed" = some (.ref (He.ga K "_law_feed"))
  g_l_take : mg "_law_take" = some (.ref (He.ga K "_law_take"))
  g_l_fresh : mg "_law_fresh" = some (.ref (He.ga K "_law_fresh"))
  g_l_kind : mg "_law_kind" = some (.ref (He.ga K "_law_kind"))
  g_l_talk : mg "_law_talk" = some (.ref (He.ga K "_law_talk"))
  g_l_table : mg "_law_table" = some (.ref (He.ga K "_law_table"))
  g_l_dual : mg "_law_dual" = some (.ref (He.ga K "_law_dual"))
  g_l_head : mg "_law_head" = some (.ref (He.ga K "_law_head"))
  g_l_number : mg "_law_number" = some (.ref (He.ga K "_law_number"))
  g_l_test : mg "_law_test" = some (.ref (He.ga K "_law_test"))
  g_l_worker : mg "_law_worker" = some (.ref (He.ga K "_law_worker"))
  g_l_spare : mg "_law_spare" = some (.ref (He.ga K "_law_spare"))
  g_l_without : mg "_law_without" = some (.ref (He.ga K "_law_without"))
  g_l_open : mg "_law_open" = some (.ref (He.ga K "_law_open"))
  g_l_last : mg "_law_last" = some (.ref (He.ga K "_law_last"))
  g_l_stop : mg "_law_stop" = some (.ref (He.ga K "_law_stop"))
  g_l_rest : mg "_law_rest" = some (.ref (He.ga K "_law_rest"))
  g_l_next : mg "_law_next" = some (.ref (He.ga K "_law_next"))
  g_l_say : mg "_law_say" = some (.ref (He.ga K "_law_say"))
  g_l_hear : mg "_law_hear" = some (.ref (He.ga K "_law_hear"))
  g_l_body : mg "_law_body" = some (.ref (He.ga K "_law_body"))
  g_l_definition : mg "_law_definition" = some (.ref (He.ga K "_law_definition"))
  g_l_pair_definition : mg "_law_pair_definition" = some (.ref (He.ga K "_law_pair_definition"))
  g_l_main : mg "_law_main" = some (.ref (He.ga K "_law_main"))
  g_l_definitions : mg "_law_definitions" = some (.ref (He.ga K "_law_definitions"))
  g_l_program : mg "_law_program" = some (.ref (He.ga K "_law_program"))
  g_l_plays : mg "_law_plays" = some (.ref (He.ga K "_law_plays"))
  g_l_falls : mg "_law_falls" = some (.ref (He.ga K "_law_falls"))
  g_l_start : mg "_law_start" = some (.ref (He.ga K "_law_start"))
  g_l_places : mg "_law_places" = some (.ref (He.ga K "_law_places"))
  g_l_marks_fit : mg "_law_marks_fit" = some (.ref (He.ga K "_law_marks_fit"))
  g_l_holder : mg "_law_holder" = some (.ref (He.ga K "_law_holder"))
  g_l_root : mg "_law_root" = some (.ref (He.ga K "_law_root"))
  g_l_is_forest : mg "_law_is_forest" = some (.ref (He.ga K "_law_is_forest"))
  g_law : mg "law" = some (.ref (He.ga K "law"))
  g_cv : mg "Conversations" = some (.ref (He.ga K "Conversations"))
  c_cv : Cls K (He.ga K "Conversations")
  k_cv : Mk K (He.ga K "Conversations") (He.ma K (He.ga K "Conversations") "__init__")
  g_ac : mg "Actor" = some (.ref (He.ga K "Actor"))
  c_ac : Cls K (He.ga K "Actor")
  k_ac : Mk K (He.ga K "Actor") (He.ma K (He.ga K "Actor") "__init__")
  g_st : mg "State" = some (.ref (He.ga K "State"))
  c_st : Cls K (He.ga K "State")
  k_st : Mk K (He.ga K "State") (He.ma K (He.ga K "State") "__init__")
  g_pr : mg "Program" = some (.ref (He.ga K "Program"))
  c_pr : Cls K (He.ga K "Program")
  k_pr : Mk K (He.ga K "Program") (He.ma K (He.ga K "Program") "__init__")
  a_cv_marks : NoAttr K (He.ga K "Conversations") "_marks"
  a_cv_boxes : NoAttr K (He.ga K "Conversations") "_boxes"
  a_ac_name : NoAttr K (He.ga K "Actor") "name"
  a_ac_names : NoAttr K (He.ga K "Actor") "names"
  a_ac_rest : NoAttr K (He.ga K "Actor") "rest"
  a_ac_status : NoAttr K (He.ga K "Actor") "status"
  a_st_program : NoAttr K (He.ga K "State") "_program"
  a_st_newest : NoAttr K (He.ga K "State") "_newest"
  a_st_actors : NoAttr K (He.ga K "State") "_actors"
  a_st_conversations : NoAttr K (He.ga K "State") "conversations"
  a_pr_talks : NoAttr K (He.ga K "Program") "_talks"
  a_pr_actors : NoAttr K (He.ga K "Program") "_actors"
  f_len : mg "len" = none
  f_isinstance : mg "isinstance" = none
  f_sorted : mg "sorted" = none
  f_range : mg "range" = none
  f_abs : mg "abs" = none
  f_int : mg "int" = none
  f_min : mg "min" = none
  f_max : mg "max" = none
  f_tuple : mg "tuple" = none
  f_list : mg "list" = none
  f_dict : mg "dict" = none
  f_str : mg "str" = none
  i_SIZE : ∃ t, mg "SIZE" = some (.int 65536 t)
theorem top_of {K : PySem.W.Frag} {h : Heap} {mg : Str → Option Value} (X : K.In h) (Gn : h.Ns mainGlobals mg) (c : He.SaysD fas fns K) : Top K mg :=
  ⟨by
      obtain ⟨fd, F⟩ := c.def_ 0 (d := d_is_end) rfl
      exact ⟨fd, F, FunD.bindsN F fun _ _ _ _ _ _ us hl => match us, hl with | [_], _ => rfl⟩,
    by
      obtain ⟨fd, F⟩ := c.def_ 1 (d := d_ends_of) rfl
      exact ⟨fd, F, FunD.bindsN F fun _ _ _ _ _ _ us hl => match us, hl with | [_], _ => rfl⟩,
    by
      obtain ⟨fd, F⟩ := c.def_ 2 (d := d_apply) rfl
      exact ⟨fd, F, FunD.bindsN F fun _ _ _ _ _ _ us hl => match us, hl with | [_, _, _], _ => rfl⟩,
    by
      obtain ⟨fd, F⟩ := c.def_ 3 (d := d_evaluate) rfl
      exact ⟨fd, F, FunD.bindsN F fun _ _ _ _ _ _ us hl => match us, hl with | [_, _], _ => rfl⟩,
    by
      obtain ⟨fd, F⟩ := c.def_ 4 (d := d_cv_init) rfl
      exact ⟨fd, F, FunD.bindsN F fun _ _ _ _ _ _ us hl => match us, hl with | [_], _ => rfl⟩,
    by
      obtain ⟨fd, F⟩ := c.def_ 5 (d := d_cv_create) rfl
      exact ⟨fd, F, FunD.bindsN F fun _ _ _ _ _ _ us hl => match us, hl with | [_], _ => rfl⟩,
    by
      obtain ⟨fd, F⟩ := c.def_ 6 (d := d_cv_len) rfl
      exact ⟨fd, F, FunD.bindsN F fun _ _ _ _ _ _ us hl => match us, hl with | [_], _ => rfl⟩,
    by
      obtain ⟨fd, F⟩ := c.def_ 7 (d := d_cv_mark) rfl
      exact ⟨fd, F, FunD.bindsN F fun _ _ _ _ _ _ us hl => match us, hl with | [_, _, _], _ => rfl⟩,
    by
      obtain ⟨fd, F⟩ := c.def_ 8 (d := d_cv_mailbox) rfl
      exact ⟨fd, F, FunD.bindsN F fun _ _ _ _ _ _ us hl => match us, hl with | [_, _, _], _ => rfl⟩,
    by
      obtain ⟨fd, F⟩ := c.def_ 9 (d := d_cv_set_mark) rfl
      exact ⟨fd, F, FunD.bindsN F fun _ _ _ _ _ _ us hl => match us, hl with | [_, _, _], _ => rfl⟩,
    by
      obtain ⟨fd, F⟩ := c.def_ 10 (d := d_cv_send) rfl
      exact ⟨fd, F, FunD.bindsN F fun _ _ _ _ _ _ us hl => match us, hl with | [_, _, _, _, _], _ => rfl⟩,
    by
      obtain ⟨fd, F⟩ := c.def_ 11 (d := d_cv_hear) rfl
      exact ⟨fd, F, FunD.bindsN F fun _ _ _ _ _ _ us hl => match us, hl with | [_, _, _], _ => rfl⟩,
    by
      obtain ⟨fd, F⟩ := c.def_ 12 (d := d_cv_can_hear) rfl
      exact ⟨fd, F, FunD.bindsN F fun _ _ _ _ _ _ us hl => match us, hl with | [_, _, _], _ => rfl⟩,
    by
      obtain ⟨fd, F⟩ := c.def_ 13 (d := d_cv_is_told) rfl
      exact ⟨fd, F, FunD.bindsN F fun _ _ _ _ _ _ us hl => match us, hl with | [_, _, _], _ => rfl⟩,
    by
      obtain ⟨fd, F⟩ := c.def_ 14 (d := d_cv_emptied) rfl
      exact ⟨fd, F, FunD.bindsN F fun _ _ _ _ _ _ us hl => match us, hl with | [_, _, _], _ => rfl⟩,
    by
      obtain ⟨fd, F⟩ := c.def_ 15 (d := d_cv_close) rfl
      exact ⟨fd, F, FunD.bindsN F fun _ _ _ _ _ _ us hl => match us, hl with | [_, _, _], _ => rfl⟩,
    by
      obtain ⟨fd, F⟩ := c.def_ 16 (d := d_cv_drop) rfl
      exact ⟨fd, F, FunD.bindsN F fun _ _ _ _ _ _ us hl => match us, hl with | [_, _], _ => rfl⟩,
    by
      obtain ⟨fd, F⟩ := c.def_ 17 (d := d_ac_init) rfl
      exact ⟨fd, F, FunD.bindsN F fun _ _ _ _ _ _ us hl => match us, hl with | [_, _, _, _], _ => rfl⟩,
    by
      obtain ⟨fd, F⟩ := c.def_ 18 (d := d_bound) rfl
      exact ⟨fd, F, FunD.bindsN F fun _ _ _ _ _ _ us hl => match us, hl with | [_, _], _ => rfl⟩,
    by
      obtain ⟨fd, F⟩ := c.def_ 19 (d := d_st_init) rfl
      exact ⟨fd, F, FunD.bindsN F fun _ _ _ _ _ _ us hl => match us, hl with | [_, _], _ => rfl⟩,
    by
      obtain ⟨fd, F⟩ := c.def_ 20 (d := d_st_newest) rfl
      exact ⟨fd, F, FunD.bindsN F fun _ _ _ _ _ _ us hl => match us, hl with | [_, _], _ => rfl⟩,
    by
      obtain ⟨fd, F⟩ := c.def_ 21 (d := d_st_rest) rfl
      exact ⟨fd, F, FunD.bindsN F fun _ _ _ _ _ _ us hl => match us, hl with | [_, _], _ => rfl⟩,
    by
      obtain ⟨fd, F⟩ := c.def_ 22 (d := d_st_names) rfl
      exact ⟨fd, F, FunD.bindsN F fun _ _ _ _ _ _ us hl => match us, hl with | [_, _], _ => rfl⟩,
    by
      obtain ⟨fd, F⟩ := c.def_ 23 (d := d_st_running) rfl
      exact ⟨fd, F, FunD.bindsN F fun _ _ _ _ _ _ us hl => match us, hl with | [_], _ => rfl⟩,
    by
      obtain ⟨fd, F⟩ := c.def_ 24 (d := d_st_is_ready) rfl
      exact ⟨fd, F, FunD.bindsN F fun _ _ _ _ _ _ us hl => match us, hl with | [_, _], _ => rfl⟩,
    by
      obtain ⟨fd, F⟩ := c.def_ 25 (d := d_st_ready) rfl
      exact ⟨fd, F, FunD.bindsN F fun _ _ _ _ _ _ us hl => match us, hl with | [_], _ => rfl⟩,
    by
      obtain ⟨fd, F⟩ := c.def_ 26 (d := d_st_start) rfl
      exact ⟨fd, F, FunD.bindsN F fun _ _ _ _ _ _ us hl => match us, hl with | [_, _, _], _ => rfl⟩,
    by
      obtain ⟨fd, F⟩ := c.def_ 27 (d := d_st_put) rfl
      exact ⟨fd, F, FunD.bindsN F fun _ _ _ _ _ _ us hl => match us, hl with | [_, _, _, _], _ => rfl⟩,
    by
      obtain ⟨fd, F⟩ := c.def_ 28 (d := d_st_rename) rfl
      exact ⟨fd, F, FunD.bindsN F fun _ _ _ _ _ _ us hl => match us, hl with | [_, _, _, _], _ => rfl⟩,
    by
      obtain ⟨fd, F⟩ := c.def_ 29 (d := d_st_finish) rfl
      exact ⟨fd, F, FunD.bindsN F fun _ _ _ _ _ _ us hl => match us, hl with | [_, _, _], _ => rfl⟩,
    by
      obtain ⟨fd, F⟩ := c.def_ 30 (d := d_drops) rfl
      exact ⟨fd, F, FunD.bindsN F fun _ _ _ _ _ _ us hl => match us, hl with | [_], _ => rfl⟩,
    by
      obtain ⟨fd, F⟩ := c.def_ 31 (d := d_without) rfl
      exact ⟨fd, F, FunD.bindsN F fun _ _ _ _ _ _ us hl => match us, hl with | [_, _], _ => rfl⟩,
    by
      obtain ⟨fd, F⟩ := c.def_ 32 (d := d_end_of) rfl
      exact ⟨fd, F, FunD.bindsN F fun _ _ _ _ _ _ us hl => match us, hl with | [_, _], _ => rfl⟩,
    by
      obtain ⟨fd, F⟩ := c.def_ 33 (d := d_step_let) rfl
      exact ⟨fd, F, FunD.bindsN F fun _ _ _ _ _ _ us hl => match us, hl with | [_, _, _, _, _], _ => rfl⟩,
    by
      obtain ⟨fd, F⟩ := c.def_ 34 (d := d_step_say) rfl
      exact ⟨fd, F, FunD.bindsN F fun _ _ _ _ _ _ us hl => match us, hl with | [_, _, _, _, _], _ => rfl⟩,
    by
      obtain ⟨fd, F⟩ := c.def_ 35 (d := d_step_close) rfl
      exact ⟨fd, F, FunD.bindsN F fun _ _ _ _ _ _ us hl => match us, hl with | [_, _, _, _, _], _ => rfl⟩,
    by
      obtain ⟨fd, F⟩ := c.def_ 36 (d := d_step_drop) rfl
      exact ⟨fd, F, FunD.bindsN F fun _ _ _ _ _ _ us hl => match us, hl with | [_, _, _, _, _], _ => rfl⟩,
    by
      obtain ⟨fd, F⟩ := c.def_ 37 (d := d_step_open) rfl
      exact ⟨fd, F, FunD.bindsN F fun _ _ _ _ _ _ us hl => match us, hl with | [_, _, _, _, _], _ => rfl⟩,
    by
      obtain ⟨fd, F⟩ := c.def_ 38 (d := d_step_become) rfl
      exact ⟨fd, F, FunD.bindsN F fun _ _ _ _ _ _ us hl => match us, hl with | [_, _, _, _], _ => rfl⟩,
    by
      obtain ⟨fd, F⟩ := c.def_ 39 (d := d_step_if) rfl
      exact ⟨fd, F, FunD.bindsN F fun _ _ _ _ _ _ us hl => match us, hl with | [_, _, _, _], _ => rfl⟩,
    by
      obtain ⟨fd, F⟩ := c.def_ 40 (d := d_step_hear) rfl
      exact ⟨fd, F, FunD.bindsN F fun _ _ _ _ _ _ us hl => match us, hl with | [_, _, _, _], _ => rfl⟩,
    by
      obtain ⟨fd, F⟩ := c.def_ 41 (d := d_step_simple) rfl
      exact ⟨fd, F, FunD.bindsN F fun _ _ _ _ _ _ us hl => match us, hl with | [_, _, _, _, _], _ => rfl⟩,
    by
      obtain ⟨fd, F⟩ := c.def_ 42 (d := d_step) rfl
      exact ⟨fd, F, FunD.bindsN F fun _ _ _ _ _ _ us hl => match us, hl with | [_, _], _ => rfl⟩,
    by
      obtain ⟨fd, F⟩ := c.def_ 43 (d := d_fall) rfl
      exact ⟨fd, F, FunD.bindsN F fun _ _ _ _ _ _ us hl => match us, hl with | [_, _], _ => rfl⟩,
    by
      obtain ⟨fd, F⟩ := c.def_ 44 (d := d_pr_init) rfl
      exact ⟨fd, F, FunD.bindsN F fun _ _ _ _ _ _ us hl => match us, hl with | [_], _ => rfl⟩,
    by
      obtain ⟨fd, F⟩ := c.def_ 45 (d := d_pr_add_talk) rfl
      exact ⟨fd, F, FunD.bindsN F fun _ _ _ _ _ _ us hl => match us, hl with | [_, _, _], _ => rfl⟩,
    by
      obtain ⟨fd, F⟩ := c.def_ 46 (d := d_pr_add_actor) rfl
      exact ⟨fd, F, FunD.bindsN F fun _ _ _ _ _ _ us hl => match us, hl with | [_, _], _ => rfl⟩,
    by
      obtain ⟨fd, F⟩ := c.def_ 47 (d := d_pr_actor) rfl
      exact ⟨fd, F, FunD.bindsN F fun _ _ _ _ _ _ us hl => match us, hl with | [_, _], _ => rfl⟩,
    by
      obtain ⟨fd, F⟩ := c.def_ 48 (d := d_l_cell) rfl
      exact ⟨fd, F, FunD.bindsN F fun _ _ _ _ _ _ us hl => match us, hl with | [_, _], _ => rfl⟩,
    by
      obtain ⟨fd, F⟩ := c.def_ 49 (d := d_l_numbers) rfl
      exact ⟨fd, F, FunD.bindsN F fun _ _ _ _ _ _ us hl => match us, hl with | [_, _], _ => rfl⟩,
    by
      obtain ⟨fd, F⟩ := c.def_ 50 (d := d_l_feed) rfl
      exact ⟨fd, F, FunD.bindsN F fun _ _ _ _ _ _ us hl => match us, hl with | [_, _], _ => rfl⟩,
    by
      obtain ⟨fd, F⟩ := c.def_ 51 (d := d_l_take) rfl
      exact ⟨fd, F, FunD.bindsN F fun _ _ _ _ _ _ us hl => match us, hl with | [_, _], _ => rfl⟩,
    by
      obtain ⟨fd, F⟩ := c.def_ 52 (d := d_l_fresh) rfl
      exact ⟨fd, F, FunD.bindsN F fun _ _ _ _ _ _ us hl => match us, hl with | [_], _ => rfl⟩,
    by
      obtain ⟨fd, F⟩ := c.def_ 53 (d := d_l_kind) rfl
      exact ⟨fd, F, FunD.bindsN F fun _ _ _ _ _ _ us hl => match us, hl with | [_, _], _ => rfl⟩,
    by
      obtain ⟨fd, F⟩ := c.def_ 54 (d := d_l_talk) rfl
      exact ⟨fd, F, FunD.bindsN F fun _ _ _ _ _ _ us hl => match us, hl with | [_, _, _], _ => rfl⟩,
    by
      obtain ⟨fd, F⟩ := c.def_ 55 (d := d_l_table) rfl
      exact ⟨fd, F, FunD.bindsN F fun _ _ _ _ _ _ us hl => match us, hl with | [_], _ => rfl⟩,
    by
      obtain ⟨fd, F⟩ := c.def_ 56 (d := d_l_dual) rfl
      exact ⟨fd, F, FunD.bindsN F fun _ _ _ _ _ _ us hl => match us, hl with | [_], _ => rfl⟩,
    by
      obtain ⟨fd, F⟩ := c.def_ 57 (d := d_l_head) rfl
      exact ⟨fd, F, FunD.bindsN F fun _ _ _ _ _ _ us hl => match us, hl with | [_, _], _ => rfl⟩,
    by
      obtain ⟨fd, F⟩ := c.def_ 58 (d := d_l_number) rfl
      exact ⟨fd, F, FunD.bindsN F fun _ _ _ _ _ _ us hl => match us, hl with | [_, _], _ => rfl⟩,
    by
      obtain ⟨fd, F⟩ := c.def_ 59 (d := d_l_test) rfl
      exact ⟨fd, F, FunD.bindsN F fun _ _ _ _ _ _ us hl => match us, hl with | [_, _], _ => rfl⟩,
    by
      obtain ⟨fd, F⟩ := c.def_ 60 (d := d_l_worker) rfl
      exact ⟨fd, F, FunD.bindsN F fun _ _ _ _ _ _ us hl => match us, hl with | [_], _ => rfl⟩,
    by
      obtain ⟨fd, F⟩ := c.def_ 61 (d := d_l_spare) rfl
      exact ⟨fd, F, FunD.bindsN F fun _ _ _ _ _ _ us hl => match us, hl with | [_], _ => rfl⟩,
    by
      obtain ⟨fd, F⟩ := c.def_ 62 (d := d_l_without) rfl
      exact ⟨fd, F, FunD.bindsN F fun _ _ _ _ _ _ us hl => match us, hl with | [_, _], _ => rfl⟩,
    by
      obtain ⟨fd, F⟩ := c.def_ 63 (d := d_l_open) rfl
      exact ⟨fd, F, FunD.bindsN F fun _ _ _ _ _ _ us hl => match us, hl with | [_, _, _, _], _ => rfl⟩,
    by
      obtain ⟨fd, F⟩ := c.def_ 64 (d := d_l_last) rfl
      exact ⟨fd, F, FunD.bindsN F fun _ _ _ _ _ _ us hl => match us, hl with | [_], _ => rfl⟩,
    by
      obtain ⟨fd, F⟩ := c.def_ 65 (d := d_l_stop) rfl
      exact ⟨fd, F, FunD.bindsN F fun _ _ _ _ _ _ us hl => match us, hl with | [_, _, _, _, _], _ => rfl⟩,
    by
      obtain ⟨fd, F⟩ := c.def_ 66 (d := d_l_rest) rfl
      exact ⟨fd, F, FunD.bindsN F fun _ _ _ _ _ _ us hl => match us, hl with | [_, _, _, _, _], _ => rfl⟩,
    by
      obtain ⟨fd, F⟩ := c.def_ 67 (d := d_l_next) rfl
      exact ⟨fd, F, FunD.bindsN F fun _ _ _ _ _ _ us hl => match us, hl with | [_, _, _, _, _, _, _], _ => rfl⟩,
    by
      obtain ⟨fd, F⟩ := c.def_ 68 (d := d_l_say) rfl
      exact ⟨fd, F, FunD.bindsN F fun _ _ _ _ _ _ us hl => match us, hl with | [_, _, _, _, _, _, _], _ => rfl⟩,
    by
      obtain ⟨fd, F⟩ := c.def_ 69 (d := d_l_hear) rfl
      exact ⟨fd, F, FunD.bindsN F fun _ _ _ _ _ _ us hl => match us, hl with | [_, _, _, _, _, _, _], _ => rfl⟩,
    by
      obtain ⟨fd, F⟩ := c.def_ 70 (d := d_l_body) rfl
      exact ⟨fd, F, FunD.bindsN F fun _ _ _ _ _ _ us hl => match us, hl with | [_, _, _, _, _, _, _], _ => rfl⟩,
    by
      obtain ⟨fd, F⟩ := c.def_ 71 (d := d_l_definition) rfl
      exact ⟨fd, F, FunD.bindsN F fun _ _ _ _ _ _ us hl => match us, hl with | [_, _, _, _], _ => rfl⟩,
    by
      obtain ⟨fd, F⟩ := c.def_ 72 (d := d_l_pair_definition) rfl
      exact ⟨fd, F, FunD.bindsN F fun _ _ _ _ _ _ us hl => match us, hl with | [_, _, _, _], _ => rfl⟩,
    by
      obtain ⟨fd, F⟩ := c.def_ 73 (d := d_l_main) rfl
      exact ⟨fd, F, FunD.bindsN F fun _ _ _ _ _ _ us hl => match us, hl with | [_, _], _ => rfl⟩,
    by
      obtain ⟨fd, F⟩ := c.def_ 74 (d := d_l_definitions) rfl
      exact ⟨fd, F, FunD.bindsN F fun _ _ _ _ _ _ us hl => match us, hl with | [_, _, _], _ => rfl⟩,
    by
      obtain ⟨fd, F⟩ := c.def_ 75 (d := d_l_program) rfl
      exact ⟨fd, F, FunD.bindsN F fun _ _ _ _ _ _ us hl => match us, hl with | [_, _, _], _ => rfl⟩,
    by
      obtain ⟨fd, F⟩ := c.def_ 76 (d := d_l_plays) rfl
      exact ⟨fd, F, FunD.bindsN F fun _ _ _ _ _ _ us hl => match us, hl with | [_, _, _], _ => rfl⟩,
    by
      obtain ⟨fd, F⟩ := c.def_ 77 (d := d_l_falls) rfl
      exact ⟨fd, F, FunD.bindsN F fun _ _ _ _ _ _ us hl => match us, hl with | [_], _ => rfl⟩,
    by
      obtain ⟨fd, F⟩ := c.def_ 78 (d := d_l_start) rfl
      exact ⟨fd, F, FunD.bindsN F fun _ _ _ _ _ _ us hl => match us, hl with | [_], _ => rfl⟩,
    by
      obtain ⟨fd, F⟩ := c.def_ 79 (d := d_l_places) rfl
      exact ⟨fd, F, FunD.bindsN F fun _ _ _ _ _ _ us hl => match us, hl with | [_], _ => rfl⟩,
    by
      obtain ⟨fd, F⟩ := c.def_ 80 (d := d_l_marks_fit) rfl
      exact ⟨fd, F, FunD.bindsN F fun _ _ _ _ _ _ us hl => match us, hl with | [_, _], _ => rfl⟩,
    by
      obtain ⟨fd, F⟩ := c.def_ 81 (d := d_l_holder) rfl
      exact ⟨fd, F, FunD.bindsN F fun _ _ _ _ _ _ us hl => match us, hl with | [_, _, _], _ => rfl⟩,
    by
      obtain ⟨fd, F⟩ := c.def_ 82 (d := d_l_root) rfl
      exact ⟨fd, F, FunD.bindsN F fun _ _ _ _ _ _ us hl => match us, hl with | [_, _], _ => rfl⟩,
    by
      obtain ⟨fd, F⟩ := c.def_ 83 (d := d_l_is_forest) rfl
      exact ⟨fd, F, FunD.bindsN F fun _ _ _ _ _ _ us hl => match us, hl with | [_, _], _ => rfl⟩,
    by
      obtain ⟨fd, F⟩ := c.def_ 84 (d := d_law) rfl
      exact ⟨fd, F, FunD.bindsN F fun _ _ _ _ _ _ us hl => match us, hl with | [_], _ => rfl⟩,
    He.glo_ok X Gn (c.fact 0 (f := .glo "is_end") rfl),
    He.glo_ok X Gn (c.fact 1 (f := .glo "ends_of") rfl),
    He.glo_ok X Gn (c.fact 2 (f := .glo "apply") rfl),
    He.glo_ok X Gn (c.fact 3 (f := .glo "evaluate") rfl),
    He.meth_ok (c.fact 4 (f := .meth "Conversations" "create") rfl),
    He.meth_ok (c.fact 5 (f := .meth "Conversations" "__len__") rfl),
    He.meth_ok (c.fact 6 (f := .meth "Conversations" "mark") rfl),
    He.meth_ok (c.fact 7 (f := .meth "Conversations" "mailbox") rfl),
    He.meth_ok (c.fact 8 (f := .meth "Conversations" "set_mark") rfl),
    He.meth_ok (c.fact 9 (f := .meth "Conversations" "send") rfl),
    He.meth_ok (c.fact 10 (f := .meth "Conversations" "hear") rfl),
    He.meth_ok (c.fact 11 (f := .meth "Conversations" "can_hear") rfl),
    He.meth_ok (c.fact 12 (f := .meth "Conversations" "is_told") rfl),
    He.meth_ok (c.fact 13 (f := .meth "Conversations" "emptied") rfl),
    He.meth_ok (c.fact 14 (f := .meth "Conversations" "close") rfl),
    He.meth_ok (c.fact 15 (f := .meth "Conversations" "drop") rfl),
    He.glo_ok X Gn (c.fact 16 (f := .glo "bound") rfl),
    He.meth_ok (c.fact 17 (f := .meth "State" "newest") rfl),
    He.meth_ok (c.fact 18 (f := .meth "State" "rest") rfl),
    He.meth_ok (c.fact 19 (f := .meth "State" "names") rfl),
    He.meth_ok (c.fact 20 (f := .meth "State" "running") rfl),
    He.meth_ok (c.fact 21 (f := .meth "State" "is_ready") rfl),
    He.meth_ok (c.fact 22 (f := .meth "State" "ready") rfl),
    He.meth_ok (c.fact 23 (f := .meth "State" "start") rfl),
    He.meth_ok (c.fact 24 (f := .meth "State" "put") rfl),
    He.meth_ok (c.fact 25 (f := .meth "State" "rename") rfl),
    He.meth_ok (c.fact 26 (f := .meth "State" "finish") rfl),
    He.glo_ok X Gn (c.fact 27 (f := .glo "drops") rfl),
    He.glo_ok X Gn (c.fact 28 (f := .glo "without") rfl),
    He.glo_ok X Gn (c.fact 29 (f := .glo "end_of") rfl),
    He.glo_ok X Gn (c.fact 30 (f := .glo "step_let") rfl),
    He.glo_ok X Gn (c.fact 31 (f := .glo "step_say") rfl),
    He.glo_ok X Gn (c.fact 32 (f := .glo "step_close") rfl),
    He.glo_ok X Gn (c.fact 33 (f := .glo "step_drop") rfl),
    He.glo_ok X Gn (c.fact 34 (f := .glo "step_open") rfl),
    He.glo_ok X Gn (c.fact 35 (f := .glo "step_become") rfl),
    He.glo_ok X Gn (c.fact 36 (f := .glo "step_if") rfl),
    He.glo_ok X Gn (c.fact 37 (f := .glo "step_hear") rfl),
    He.glo_ok X Gn (c.fact 38 (f := .glo "step_simple") rfl),
    He.glo_ok X Gn (c.fact 39 (f := .glo "step") rfl),
    He.glo_ok X Gn (c.fact 40 (f := .glo "fall") rfl),
    He.meth_ok (c.fact 41 (f := .meth "Program" "add_talk") rfl),
    He.meth_ok (c.fact 42 (f := .meth "Program" "add_actor") rfl),
    He.meth_ok (c.fact 43 (f := .meth "Program" "actor") rfl),
    He.glo_ok X Gn (c.fact 44 (f := .glo "_law_cell") rfl),
    He.glo_ok X Gn (c.fact 45 (f := .glo "_law_numbers") rfl),
    He.glo_ok X Gn (c.fact 46 (f := .glo "_law_feed") rfl),
    He.glo_ok X Gn (c.fact 47 (f := .glo "_law_take") rfl),
    He.glo_ok X Gn (c.fact 48 (f := .glo "_law_fresh") rfl),
    He.glo_ok X Gn (c.fact 49 (f := .glo "_law_kind") rfl),
    He.glo_ok X Gn (c.fact 50 (f := .glo "_law_talk") rfl),
    He.glo_ok X Gn (c.fact 51 (f := .glo "_law_table") rfl),
    He.glo_ok X Gn (c.fact 52 (f := .glo "_law_dual") rfl),
    He.glo_ok X Gn (c.fact 53 (f := .glo "_law_head") rfl),
    He.glo_ok X Gn (c.fact 54 (f := .glo "_law_number") rfl),
    He.glo_ok X Gn (c.fact 55 (f := .glo "_law_test") rfl),
    He.glo_ok X Gn (c.fact 56 (f := .glo "_law_worker") rfl),
    He.glo_ok X Gn (c.fact 57 (f := .glo "_law_spare") rfl),
    He.glo_ok X Gn (c.fact 58 (f := .glo "_law_without") rfl),
    He.glo_ok X Gn (c.fact 59 (f := .glo "_law_open") rfl),
    He.glo_ok X Gn (c.fact 60 (f := .glo "_law_last") rfl),
    He.glo_ok X Gn (c.fact 61 (f := .glo "_law_stop") rfl),
    He.glo_ok X Gn (c.fact 62 (f := .glo "_law_rest") rfl),
    He.glo_ok X Gn (c.fact 63 (f := .glo "_law_next") rfl),
    He.glo_ok X Gn (c.fact 64 (f := .glo "_law_say") rfl),
    He.glo_ok X Gn (c.fact 65 (f := .glo "_law_hear") rfl),
    He.glo_ok X Gn (c.fact 66 (f := .glo "_law_body") rfl),
    He.glo_ok X Gn (c.fact 67 (f := .glo "_law_definition") rfl),
    He.glo_ok X Gn (c.fact 68 (f := .glo "_law_pair_definition") rfl),
    He.glo_ok X Gn (c.fact 69 (f := .glo "_law_main") rfl),
    He.glo_ok X Gn (c.fact 70 (f := .glo "_law_definitions") rfl),
    He.glo_ok X Gn (c.fact 71 (f := .glo "_law_program") rfl),
    He.glo_ok X Gn (c.fact 72 (f := .glo "_law_plays") rfl),
    He.glo_ok X Gn (c.fact 73 (f := .glo "_law_falls") rfl),
    He.glo_ok X Gn (c.fact 74 (f := .glo "_law_start") rfl),
    He.glo_ok X Gn (c.fact 75 (f := .glo "_law_places") rfl),
    He.glo_ok X Gn (c.fact 76 (f := .glo "_law_marks_fit") rfl),
    He.glo_ok X Gn (c.fact 77 (f := .glo "_law_holder") rfl),
    He.glo_ok X Gn (c.fact 78 (f := .glo "_law_root") rfl),
    He.glo_ok X Gn (c.fact 79 (f := .glo "_law_is_forest") rfl),
    He.glo_ok X Gn (c.fact 80 (f := .glo "law") rfl),
    He.glo_ok X Gn (c.fact 81 (f := .glo "Conversations") rfl),
    He.cls_ok (c.fact 82 (f := .cls "Conversations") rfl),
    He.mkr_ok (c.fact 83 (f := .mkr "Conversations") rfl),
    He.glo_ok X Gn (c.fact 84 (f := .glo "Actor") rfl),
    He.cls_ok (c.fact 85 (f := .cls "Actor") rfl),
    He.mkr_ok (c.fact 86 (f := .mkr "Actor") rfl),
    He.glo_ok X Gn (c.fact 87 (f := .glo "State") rfl),
    He.cls_ok (c.fact 88 (f := .cls "State") rfl),
    He.mkr_ok (c.fact 89 (f := .mkr "State") rfl),
    He.glo_ok X Gn (c.fact 90 (f := .glo "Program") rfl),
    He.cls_ok (c.fact 91 (f := .cls "Program") rfl),
    He.mkr_ok (c.fact 92 (f := .mkr "Program") rfl),
    He.noat_ok (c.fact 93 (f := .noat "Conversations" "_marks") rfl),
    He.noat_ok (c.fact 94 (f := .noat "Conversations" "_boxes") rfl),
    He.noat_ok (c.fact 95 (f := .noat "Actor" "name") rfl),
    He.noat_ok (c.fact 96 (f := .noat "Actor" "names") rfl),
    He.noat_ok (c.fact 97 (f := .noat "Actor" "rest") rfl),
    He.noat_ok (c.fact 98 (f := .noat "Actor" "status") rfl),
    He.noat_ok (c.fact 99 (f := .noat "State" "_program") rfl),
    He.noat_ok (c.fact 100 (f := .noat "State" "_newest") rfl),
    He.noat_ok (c.fact 101 (f := .noat "State" "_actors") rfl),
    He.noat_ok (c.fact 102 (f := .noat "State" "conversations") rfl),
    He.noat_ok (c.fact 103 (f := .noat "Program" "_talks") rfl),
    He.noat_ok (c.fact 104 (f := .noat "Program" "_actors") rfl),
    He.free_ok X Gn (c.fact 105 (f := .free "len") rfl),
    He.free_ok X Gn (c.fact 106 (f := .free "isinstance") rfl),
    He.free_ok X Gn (c.fact 107 (f := .free "sorted") rfl),
    He.free_ok X Gn (c.fact 108 (f := .free "range") rfl),
    He.free_ok X Gn (c.fact 109 (f := .free "abs") rfl),
    He.free_ok X Gn (c.fact 110 (f := .free "int") rfl),
    He.free_ok X Gn (c.fact 111 (f := .free "min") rfl),
    He.free_ok X Gn (c.fact 112 (f := .free "max") rfl),
    He.free_ok X Gn (c.fact 113 (f := .free "tuple") rfl),
    He.free_ok X Gn (c.fact 114 (f := .free "list") rfl),
    He.free_ok X Gn (c.fact 115 (f := .free "dict") rfl),
    He.free_ok X Gn (c.fact 116 (f := .free "str") rfl),
    He.int_ok X Gn (c.fact 117 (f := .int "SIZE" 65536) rfl)⟩
end G

/-! part Hd -/
set_option Elab.async false
set_option linter.all false
set_option maxRecDepth 100000
set_option maxHeartbeats 0
/-! The head's run. Printed by gen_text.py. -/
namespace G
open PySem PySem.Spec PyProof.Rows L2
abbrev R : PySem.W.OpenRow := PySem.W.OpenLaw.row PySem.Challenge.rw_pourparler_k51_whole_forest_of_actors
/-- what an object names, but for code objects and tables -/
def refsL (o : Obj) : List Addr := match o.data with
  | .dict es _ => es.toList.flatMap fun e => He.refV e.val
  | .func fd => He.refV fd.code
  | .cls cd => cd.ns :: cd.mro.flatMap He.refV
  | _ => []
def nextL (g : Addr → Option Obj) (as : List Addr) : List Addr := as.flatMap fun a => match g a with
  | some o => refsL o
  | none => []
def asL (g : Addr → Option Obj) : List Addr :=
  let l1 := nextL g [mainGlobals]
  let l2 := nextL g l1
  let l3 := nextL g l2
  let l4 := nextL g l3
  mainGlobals :: (l1 ++ (l2 ++ (l3 ++ l4)))
def obsL (g : Addr → Option Obj) : He.AlD := He.obsD fas fns (He.frG g (asL g))
def hk : PySem.W.Hook where
  α := He.AlD
  obs := fun s => obsL s.heap.get?
  val := fun _ => He.valD fns
  says := fun _ h => ∃ K : PySem.W.Frag, K.In h ∧ He.SaysD fas fns K
  of := fun _ _ e => ⟨_, He.frG_in, e⟩
  keeps := fun _ _ _ ⟨K, hK, c⟩ k => ⟨K, PySem.W.Frag.In.keeps hK k, c⟩
def ob (s : PySem.W.SharedT) : He.AlD := obsL (HandSHeadRun.getT s)
theorem ob_eq (s : PySem.W.SharedT) : ob s = hk.obs s.abs := by
  have e : HandSHeadRun.getT s = s.abs.heap.get? := funext (HandSHeadRun.getT_eq s)
  show obsL (HandSHeadRun.getT s) = obsL s.abs.heap.get?
  rw [e]
def loose0 : List PySem.Str := ["_wall", "Refused", "Unknown", "Clashing", "Misused", "SIZE", "is_end", "ends_of", "apply", "evaluate", "Conversations", "Actor", "bound", "State", "drops", "without", "end_of", "step_let", "step_say", "step_close", "step_drop", "step_open", "step_become", "step_if", "step_hear", "step_simple", "step", "fall", "Program", "_law_cell"]
def loose1 : List PySem.Str := ["_law_numbers", "_law_feed", "_law_take", "_law_fresh", "_law_kind", "_law_talk", "_law_table", "_law_dual", "_law_head", "_law_number", "_law_test", "_law_worker", "_law_spare", "_law_without", "_law_open", "_law_last", "_law_stop", "_law_rest", "_law_next", "_law_say", "_law_hear", "_law_body", "_law_definition", "_law_pair_definition", "_law_main", "_law_definitions", "_law_program", "_law_plays", "_law_falls", "_law_start"]
def loose2 : List PySem.Str := ["_law_places", "_law_marks_fit", "_law_holder", "_law_root", "_law_is_forest"]
def loose : List PySem.Str := loose0 ++ loose1 ++ loose2
theorem run (w : World) : HandSHeadRun.RunEq R (PySem.W.view R.prog [72]) hk ob 6000 loose w := by
  intro os
  kernel_rfl
end G

/-! part Pg -/
set_option Elab.async false
set_option linter.all false
/-! Forests by cuts: every edge has a cut that no other edge crosses. Plain Lean. -/
namespace G
/-- an end: its conversation, its side (true: side 1) -/
abbrev End := Nat × Bool
def flip (e : End) : End := (e.1, !e.2)
/-- a node of the forest: an actor, an end -/
inductive Nd where
  | a (i : Nat)
  | e (x : End)
  deriving DecidableEq
def End.nd (e : End) : Nd := .e e
/-- the cut S is crossed by no edge but those left out -/
def Resp (on : End → Prop) (cv : Nat → Prop) (loc : End → Nd) (S : Nd → Bool) (xe : End → Prop) (xc : Nat → Prop) : Prop :=
  (∀ f, on f → ¬ xe f → S (.e f) = S (loc f)) ∧ ∀ d, cv d → ¬ xc d → S (.e (d, false)) = S (.e (d, true))
structure Forest (on : End → Prop) (cv : Nat → Prop) (loc : End → Nd) : Prop where
  cl : ∀ e, on e → ∃ S : Nd → Bool, S (.e e) ≠ S (loc e) ∧ Resp on cv loc S (fun f => f = e) (fun _ => False)
  cc : ∀ c, cv c → ∃ S : Nd → Bool, S (.e (c, false)) ≠ S (.e (c, true)) ∧ Resp on cv loc S (fun _ => False) (fun d => d = c)
section
variable {on on' : End → Prop} {cv cv' : Nat → Prop} {loc loc' : End → Nd}
theorem Forest.mono (F : Forest on cv loc) (h1 : ∀ e, on' e → on e ∧ loc' e = loc e) (h2 : ∀ c, cv' c → cv c) : Forest on' cv' loc' where
  cl := fun e he => by
    obtain ⟨S, n, r1, r2⟩ := F.cl e (h1 e he).1
    refine ⟨S, by rw [(h1 e he).2]; exact n, fun f hf nf => ?_, fun d hd nd => r2 d (h2 d hd) nd⟩
    rw [(h1 f hf).2]
    exact r1 f (h1 f hf).1 nf
  cc := fun c hc => by
    obtain ⟨S, n, r1, r2⟩ := F.cc c (h2 c hc)
    refine ⟨S, n, fun f hf nf => ?_, fun d hd nd => r2 d (h2 d hd) nd⟩
    rw [(h1 f hf).2]
    exact r1 f (h1 f hf).1 nf
/-- the end e slides from where it is to y, which no cut of e's edge parts from there -/
theorem Forest.slide (F : Forest on cv loc) {e : End} {y : Nd} (he : on e) (hl : loc' e = y) (ho : ∀ f, f ≠ e → loc' f = loc f)
    (hy : ∀ S : Nd → Bool, Resp on cv loc S (fun f => f = e) (fun _ => False) → S (.e e) ≠ S (loc e) → S (loc e) = S y) : Forest on cv loc' := by
  obtain ⟨Z, nz, z1, z2⟩ := F.cl e he
  have ezy := hy Z ⟨z1, z2⟩ nz
  -- a cut S of another edge, mended by Z
  let M (S : Nd → Bool) : Nd → Bool := fun n => if Z n = Z (.e e) then xor (S n) (xor (S (.e e)) (S y)) else S n
  have hy2 : ¬ Z y = Z (.e e) := fun q => nz (q.symm.trans ezy.symm)
  have mE : ∀ S, M S (.e e) = M S y := fun S => by
    show (if Z (.e e) = Z (.e e) then _ else _) = if Z y = Z (.e e) then _ else S y
    rw [if_pos rfl, if_neg hy2]
    cases S (.e e) <;> cases S y <;> rfl
  have same : ∀ S a b, Z a = Z b → S a = S b → M S a = M S b := fun S a b q1 q2 => by
    show (if Z a = Z (.e e) then _ else _) = if Z b = Z (.e e) then _ else _
    rw [q1, q2]
  have diff : ∀ S a b, Z a = Z b → S a ≠ S b → M S a ≠ M S b := fun S a b q1 q2 => by
    show (if Z a = Z (.e e) then _ else _) ≠ if Z b = Z (.e e) then _ else _
    rw [q1]
    split
    · revert q2
      cases S a <;> cases S b <;> cases S (.e e) <;> cases S y <;> decide
    · exact q2
  refine ⟨fun f hf => ?_, fun c hc => ?_⟩
  · by_cases hfe : f = e
    · subst hfe
      refine ⟨Z, by rw [hl]; exact fun q => hy2 q.symm, fun g hg ng => ?_, z2⟩
      rw [ho g ng]
      exact z1 g hg ng
    · obtain ⟨S, n, r1, r2⟩ := F.cl f hf
      refine ⟨M S, ?_, fun g hg ng => ?_, fun d hd nd => same S _ _ (z2 d hd nd) (r2 d hd nd)⟩
      · rw [ho f hfe]
        exact diff S _ _ (z1 f hf hfe) n
      · by_cases hge : g = e
        · subst hge
          rw [hl]
          exact mE S
        · rw [ho g hge]
          exact same S _ _ (z1 g hg hge) (r1 g hg ng)
  · obtain ⟨S, n, r1, r2⟩ := F.cc c hc
    refine ⟨M S, diff S _ _ (z2 c hc (fun h => h)) n, fun g hg ng => ?_, fun d hd nd => same S _ _ (z2 d hd (fun h => h)) (r2 d hd nd)⟩
    by_cases hge : g = e
    · subst hge
      rw [hl]
      exact mE S
    · rw [ho g hge]
      exact same S _ _ (z1 g hg hge) (r1 g hg ng)
/-- a new conversation c between what stands at i and a new actor j -/
theorem Forest.grow (F : Forest on cv loc) {c i j : Nat} (hij : i ≠ j) (hn : ∀ s, ¬ on (c, s)) (hc : ¬ cv c) (hl : ∀ f, on f → loc f ≠ .a j ∧ ∀ s, loc f ≠ .e (c, s))
    (ho : ∀ f, on' f ↔ (on f ∨ f.1 = c)) (hcv : ∀ d, cv' d ↔ (cv d ∨ d = c)) (h0 : loc' (c, false) = .a i) (h1 : loc' (c, true) = .a j) (hk : ∀ f, f.1 ≠ c → loc' f = loc f) : Forest on' cv' loc' := by
  have nc : ∀ f, on f → f.1 ≠ c := fun f hf q => by
    obtain ⟨x, s⟩ := f
    subst q
    exact hn s hf
  -- a cut of an old edge, made to hold the new nodes where i is
  let M (S : Nd → Bool) : Nd → Bool := fun n => match n with
    | .a k => if k = j then S (.a i) else S (.a k)
    | .e f => if f.1 = c then S (.a i) else S (.e f)
  have mo : ∀ S f, on f → M S (.e f) = S (.e f) ∧ M S (loc f) = S (loc f) := fun S f hf => by
    refine ⟨if_neg (nc f hf), ?_⟩
    have q := hl f hf
    cases e : loc f with
    | a k => exact if_neg fun z => q.1 (by rw [e, z])
    | e g =>
      refine if_neg fun z => ?_
      obtain ⟨x, s⟩ := g
      subst z
      exact q.2 s e
  have mc : ∀ S d s, cv d → M S (.e (d, s)) = S (.e (d, s)) := fun S d s hd => if_neg fun z => hc (by rw [← z]; exact hd)
  have ea : ∀ S, M S (.a i) = S (.a i) := fun S => if_neg hij
  have ej : ∀ S, M S (.a j) = S (.a i) := fun S => if_pos rfl
  have ec : ∀ S s, M S (.e (c, s)) = S (.a i) := fun S s => if_pos rfl
  -- which new node lies behind which new edge
  let B (k : Nat) : Nd → Bool := fun n => match n with
    | .a x => decide (x = j)
    | .e f => decide (f.1 = c) && (decide (k = 0) || (decide (k = 1) && f.2))
  have bo : ∀ k f, on f → B k (.e f) = false ∧ B k (loc f) = false := fun k f hf => by
    refine ⟨?_, ?_⟩
    · show (decide (f.1 = c) && _) = false
      rw [decide_eq_false (nc f hf)]
      rfl
    · have q := hl f hf
      cases e : loc f with
      | a x => exact decide_eq_false fun z => q.1 (by rw [e, z])
      | e g =>
        show (decide (g.1 = c) && _) = false
        rw [decide_eq_false fun z => ?_]
        · rfl
        · obtain ⟨x, s⟩ := g
          subst z
          exact q.2 s e
  have bc : ∀ k d s, d ≠ c → B k (.e (d, s)) = false := fun k d s hd => by
    show (decide (d = c) && _) = false
    rw [decide_eq_false hd]
    rfl
  have bi : ∀ k, B k (.a i) = false := fun k => decide_eq_false hij
  have bj : ∀ k, B k (.a j) = true := fun k => decide_eq_true rfl
  have bn : ∀ k s, B k (.e (c, s)) = (decide (k = 0) || (decide (k = 1) && s)) := fun k s => by
    show (decide (c = c) && _) = _
    rw [decide_eq_true rfl]
    rfl
  have two : ∀ f : End, f.1 = c → f = (c, false) ∨ f = (c, true) := fun f h => by
    obtain ⟨x, s⟩ := f
    subst h
    cases s
    · exact .inl rfl
    · exact .inr rfl
  have old : ∀ S f, on f → (M S (.e f) = M S (loc' f) ↔ S (.e f) = S (loc f)) := fun S f hf => by
    rw [hk f (nc f hf), (mo S f hf).1, (mo S f hf).2]
  refine ⟨fun f hf => ?_, fun d hd => ?_⟩
  · rcases (ho f).mp hf with h | h
    · obtain ⟨S, n, r1, r2⟩ := F.cl f h
      refine ⟨M S, fun q => n ((old S f h).mp q), fun g hg ng => ?_, fun d hd nd => ?_⟩
      · rcases (ho g).mp hg with q | q
        · exact (old S g q).mpr (r1 g q ng)
        · rcases two g q with rfl | rfl
          · rw [h0, ec, ea]
          · rw [h1, ec, ej]
      · rcases (hcv d).mp hd with q | q
        · rw [mc S d _ q, mc S d _ q]
          exact r2 d q nd
        · subst q
          rw [ec, ec]
    · rcases two f h with rfl | rfl
      · refine ⟨B 0, by rw [h0, bi 0, bn 0]; decide, fun g hg ng => ?_, fun d hd nd => ?_⟩
        · rcases (ho g).mp hg with q | q
          · rw [hk g (nc g q), (bo 0 g q).1, (bo 0 g q).2]
          · rcases two g q with rfl | rfl
            · exact absurd rfl ng
            · rw [h1, bj 0, bn 0]
              decide
        · rcases (hcv d).mp hd with q | q
          · have nd : d ≠ c := fun z => hc (by rw [← z]; exact q)
            rw [bc 0 d _ nd, bc 0 d _ nd]
          · subst q
            rw [bn 0, bn 0]
            decide
      · refine ⟨B 2, by rw [h1, bj 2, bn 2]; decide, fun g hg ng => ?_, fun d hd nd => ?_⟩
        · rcases (ho g).mp hg with q | q
          · rw [hk g (nc g q), (bo 2 g q).1, (bo 2 g q).2]
          · rcases two g q with rfl | rfl
            · rw [h0, bi 2, bn 2]
              decide
            · exact absurd rfl ng
        · rcases (hcv d).mp hd with q | q
          · have nd : d ≠ c := fun z => hc (by rw [← z]; exact q)
            rw [bc 2 d _ nd, bc 2 d _ nd]
          · subst q
            rw [bn 2, bn 2]
            decide
  · rcases (hcv d).mp hd with h | h
    · obtain ⟨S, n, r1, r2⟩ := F.cc d h
      refine ⟨M S, by rw [mc S d _ h, mc S d _ h]; exact n, fun g hg ng => ?_, fun x hx nx => ?_⟩
      · rcases (ho g).mp hg with q | q
        · exact (old S g q).mpr (r1 g q ng)
        · rcases two g q with rfl | rfl
          · rw [h0, ec, ea]
          · rw [h1, ec, ej]
      · rcases (hcv x).mp hx with q | q
        · rw [mc S x _ q, mc S x _ q]
          exact r2 x q nx
        · subst q
          rw [ec, ec]
    · subst h
      refine ⟨B 1, by rw [bn 1, bn 1]; decide, fun g hg ng => ?_, fun x hx nx => ?_⟩
      · rcases (ho g).mp hg with q | q
        · rw [hk g (nc g q), (bo 1 g q).1, (bo 1 g q).2]
        · rcases two g q with rfl | rfl
          · rw [h0, bi 1, bn 1]
            decide
          · rw [h1, bj 1, bn 1]
            decide
      · rcases (hcv x).mp hx with q | q
        · have nd : x ≠ d := fun z => hc (by rw [← z]; exact q)
          rw [bc 1 x _ nd, bc 1 x _ nd]
        · exact absurd q nx
/-! ### the way from an end up to its actor has no end twice -/
def hop (loc : End → Nd) : Nat → End → Nd
  | 0, e => .e e
  | k + 1, e => match hop loc k e with
    | .e f => loc f
    | .a i => .a i
/-- no end is met again -/
theorem Forest.noback (F : Forest on cv loc) {e : End} (up : ∀ f g, on f → loc f = .e g → on g) (he : on e) : ∀ k f, hop loc (k + 1) e = .e f → f ≠ e ∧ on f := by
  obtain ⟨S, n, r1, r2⟩ := F.cl e he
  have main : ∀ k f, hop loc (k + 1) e = .e f → on f ∧ S (.e f) = S (loc e) := by
    intro k
    induction k with
    | zero =>
      intro f h
      have h : loc e = .e f := h
      exact ⟨up e f he h, by rw [h]⟩
    | succ k ih =>
      intro f h
      have h2 : (match hop loc (k + 1) e with | .e f => loc f | .a i => .a i) = .e f := h
      cases q : hop loc (k + 1) e with
      | a i => rw [q] at h2; cases h2
      | e g =>
        rw [q] at h2
        have h3 : loc g = .e f := h2
        obtain ⟨og, sg⟩ := ih g q
        have ng : g ≠ e := fun z => n (by rw [← z]; rw [z]; rw [z] at sg; exact sg)
        refine ⟨up g f og h3, ?_⟩
        rw [← h3, ← r1 g og ng]
        exact sg
  intro k f h
  obtain ⟨o, s⟩ := main k f h
  exact ⟨fun z => n (by rw [z] at s; exact s), o⟩
end
end G

/-! part Pt -/
set_option Elab.async false
set_option linter.all false
set_option maxHeartbeats 4000000
/-! Talks, expressions, blocks as plain trees, and what a well-typed block is. -/
namespace G
open PySem
inductive Kd where
  | non | int | bool | ref (d : Bool) (n : Nat)
  deriving DecidableEq
mutual
inductive Talk where
  | fin
  | ref (d : Bool) (n : Nat)
  | node (h : Bool) (r : Rows)
inductive Rows where
  | nil
  | cons (l : Str) (k : Kd) (t : Talk) (r : Rows)
end
mutual
def Talk.dual : Talk → Talk
  | .fin => .fin
  | .ref d n => .ref (!d) n
  | .node h r => .node (!h) r.dual
def Rows.dual : Rows → Rows
  | .nil => .nil
  | .cons l k t r => .cons l k t.dual r.dual
end
mutual
theorem Talk.dual_dual : ∀ t : Talk, t.dual.dual = t
  | .fin => rfl
  | .ref d n => by simp [Talk.dual]
  | .node h r => by simp [Talk.dual, Rows.dual_dual r]
theorem Rows.dual_dual : ∀ r : Rows, r.dual.dual = r
  | .nil => rfl
  | .cons l k t r => by simp [Rows.dual, Talk.dual_dual t, Rows.dual_dual r]
end
def Rows.find (l : Str) : Rows → Option (Kd × Talk)
  | .nil => none
  | .cons l' k t r => if l' = l then some (k, t) else r.find l
theorem Rows.find_dual (l : Str) : ∀ r : Rows, r.dual.find l = (r.find l).map fun x => (x.1, x.2.dual)
  | .nil => rfl
  | .cons l' k t r => by
    show (if l' = l then some (k, t.dual) else r.dual.find l) = Option.map _ (if l' = l then some (k, t) else r.find l)
    by_cases h : l' = l
    · rw [if_pos h, if_pos h]
      rfl
    · rw [if_neg h, if_neg h]
      exact Rows.find_dual l r
def Rows.len : Rows → Nat
  | .nil => 0
  | .cons _ _ _ r => r.len + 1
def Rows.labs : Rows → List Str
  | .nil => []
  | .cons l _ _ r => l :: r.labs
theorem Rows.labs_dual : ∀ r : Rows, r.dual.labs = r.labs
  | .nil => rfl
  | .cons l k t r => by
    show l :: r.dual.labs = l :: r.labs
    rw [Rows.labs_dual r]
mutual
/-- how deep a talk is; the names that it has are below n; labels differ -/
def Talk.dep : Talk → Nat
  | .fin => 0
  | .ref _ _ => 0
  | .node _ r => r.dep + 1
def Rows.dep : Rows → Nat
  | .nil => 0
  | .cons _ _ t r => max t.dep r.dep
end
def Kd.Ok (m : Nat) : Kd → Prop
  | .ref _ n => n < m
  | _ => True
/-- the labels that rows bear -/
def lab (i : Nat) : Str := if i = 0 then "a" else if i = 1 then "b" else "c"
def labs (i : Nat) : List Str := (List.range i).map lab
mutual
def Talk.Ok (m : Nat) : Talk → Prop
  | .fin => True
  | .ref _ n => n < m
  | .node _ r => r.len ≤ 3 ∧ 0 < r.len ∧ r.labs = labs r.len ∧ r.Ok m
def Rows.Ok (m : Nat) : Rows → Prop
  | .nil => True
  | .cons _ k t r => k.Ok m ∧ t.Ok m ∧ r.Ok m
end
theorem Rows.len_dual : ∀ r : Rows, r.dual.len = r.len
  | .nil => rfl
  | .cons l k t r => congrArg (· + 1) (Rows.len_dual r)
mutual
theorem Talk.ok_dual {m : Nat} : ∀ t : Talk, t.Ok m → t.dual.Ok m
  | .fin, _ => trivial
  | .ref d n, h => h
  | .node h r, q => by
    obtain ⟨a, b, c, d⟩ := q
    exact ⟨by rw [Rows.len_dual]; exact a, by rw [Rows.len_dual]; exact b, by rw [Rows.labs_dual, Rows.len_dual]; exact c, Rows.ok_dual r d⟩
theorem Rows.ok_dual {m : Nat} : ∀ r : Rows, r.Ok m → r.dual.Ok m
  | .nil, _ => trivial
  | .cons l k t r, q => ⟨q.1, Talk.ok_dual t q.2.1, Rows.ok_dual r q.2.2⟩
end
mutual
theorem Talk.dep_dual : ∀ t : Talk, t.dual.dep = t.dep
  | .fin => rfl
  | .ref d n => rfl
  | .node h r => by
    show r.dual.dep + 1 = r.dep + 1
    rw [Rows.dep_dual r]
theorem Rows.dep_dual : ∀ r : Rows, r.dual.dep = r.dep
  | .nil => rfl
  | .cons l k t r => by
    show max t.dual.dep r.dual.dep = max t.dep r.dep
    rw [Talk.dep_dual t, Rows.dep_dual r]
end
/-- what a talk stands for; the table's talks are nodes -/
def head (Tb : Nat → Talk) : Talk → Talk
  | .ref false n => Tb n
  | .ref true n => (Tb n).dual
  | t => t
theorem head_dual (Tb : Nat → Talk) : ∀ t : Talk, head Tb t.dual = (head Tb t).dual
  | .fin => rfl
  | .node h r => rfl
  | .ref true n => (Talk.dual_dual (Tb n)).symm
  | .ref false n => rfl

/-! ### expressions, blocks -/
inductive Op where
  | add | sub | mul | lt | le | eq
  deriving DecidableEq
inductive Ty where
  | int | bool | en (t : Talk)
def Op.res : Op → Ty
  | .add | .sub | .mul => .int
  | .lt | .le | .eq => .bool
inductive Exp where
  | int (n : Int) | bool (b : Bool) | var (x : Str) | neg (e : Exp) | bin (o : Op) (a b : Exp)
mutual
inductive Blk where
  | done | fail
  | become (f : Str) (es : List Exp)
  | ite (e : Exp) (b c : Blk)
  | hear (x : Str) (r : Brs) (b : Blk)
  | let_ (x : Str) (e : Exp) (b : Blk)
  | say (x l : Str) (e : Option Exp) (b : Blk)
  | close (x : Str) (b : Blk)
  | drop (x : Str) (b : Blk)
  | open_ (x f : Str) (es : List Exp) (b : Blk)
inductive Brs where
  | nil
  | cons (l : Str) (x : Option Str) (b : Blk) (r : Brs)
end
abbrev Ctx := Str → Option Ty
def Ctx.put (g : Ctx) (x : Str) (t : Ty) : Ctx := fun y => if y = x then some t else g y
def Ctx.del (g : Ctx) (x : Str) : Ctx := fun y => if y = x then none else g y
theorem Ctx.put_same {g : Ctx} {x : Str} {t : Ty} : g.put x t x = some t := if_pos rfl
theorem Ctx.put_ne {g : Ctx} {x y : Str} {t : Ty} (h : y ≠ x) : g.put x t y = g y := if_neg h
theorem Ctx.del_same {g : Ctx} {x : Str} : g.del x x = none := if_pos rfl
theorem Ctx.del_ne {g : Ctx} {x y : Str} (h : y ≠ x) : g.del x y = g y := if_neg h
def Exp.T (g : Ctx) : Exp → Ty → Prop
  | .int _, t => t = .int
  | .bool _, t => t = .bool
  | .var x, t => g x = some t
  | .neg e, t => t = .bool ∧ e.T g .bool
  | .bin o a b, t => t = o.res ∧ a.T g .int ∧ b.T g .int ∧ (o = .mul → ∃ k : Int, b = .int k ∧ 0 ≤ k ∧ k < 65536)
def Exp.dep : Exp → Nat
  | .neg e => e.dep + 1
  | .bin _ a b => max a.dep b.dep + 1
  | _ => 0
def NoEnds (g : Ctx) : Prop := ∀ x t, g x ≠ some (.en t)
/-- the arguments have these types; an end that is an argument leaves the context -/
def Args : Ctx → List Exp → List Ty → Ctx → Prop
  | g, [], [], g' => g' = g
  | g, e :: es, .en t :: ts, g' => ∃ x, e = .var x ∧ g x = some (.en t) ∧ Args (g.del x) es ts g'
  | g, e :: es, t :: ts, g' => e.T g t ∧ e.dep ≤ 3 ∧ Args g es ts g'
  | _, _, _, _ => False
def Kd.ty : Kd → Option Ty
  | .non => none
  | .int => some .int
  | .bool => some .bool
  | .ref d n => some (.en (.ref d n))
/-- a payload of a kind -/
def PayT (g : Ctx) (x : Str) : Option Exp → Option Ty → Ctx → Prop
  | none, none, g' => g' = g
  | some e, some t, g' => e ≠ .var x ∧ Args g [e] [t] g'
  | _, _, _ => False
section
variable (Tb : Nat → Talk) (Sg : Str → Option (List (Str × Ty)))
mutual
def Blk.T : Blk → Ctx → Prop
  | .done, g => NoEnds g
  | .fail, _ => True
  | .become f es, g => ∃ ps g', Sg f = some ps ∧ Args g es (ps.map (·.2)) g' ∧ NoEnds g'
  | .ite e b c, g => e.T g .bool ∧ e.dep ≤ 3 ∧ b.T g ∧ c.T g
  | .hear x r b, g => ∃ t rs, g x = some (.en t) ∧ head Tb t = .node true rs ∧ r.T g x rs ∧ b.T (g.del x)
  | .let_ x e b, g => e.T g .int ∧ e.dep ≤ 3 ∧ g x = none ∧ b.T (g.put x .int)
  | .say x l e b, g => ∃ t rs k t' g', g x = some (.en t) ∧ head Tb t = .node false rs ∧ rs.find l = some (k, t') ∧ PayT g x e k.ty g' ∧ b.T (g'.put x (.en t'))
  | .close x b, g => ∃ t, g x = some (.en t) ∧ head Tb t = .fin ∧ b.T (g.del x)
  | .drop x b, g => ∃ t, g x = some (.en t) ∧ b.T (g.del x)
  | .open_ x f es b, g => ∃ c t ps g', Sg f = some ((c, .en t) :: ps) ∧ Args g es (ps.map (·.2)) g' ∧ g x = none ∧ b.T (g'.put x (.en t.dual))
def Brs.T : Brs → Ctx → Str → Rows → Prop
  | .nil, _, _, .nil => True
  | .cons l x b r, g, c, .cons l' k t rs => l = l' ∧ (match x, k.ty with
    | none, none => b.T (g.put c (.en t))
    | some x, some u => g x = none ∧ b.T ((g.put c (.en t)).put x u)
    | _, _ => False) ∧ r.T g c rs
  | _, _, _, _ => False
end
end
def Brs.find (l : Str) : Brs → Option (Option Str × Blk)
  | .nil => none
  | .cons l' x b r => if l' = l then some (x, b) else r.find l
theorem Brs.T_find {Tb : Nat → Talk} {Sg : Str → Option (List (Str × Ty))} {g : Ctx} {c l : Str} {k : Kd} {t : Talk} : ∀ {r : Brs} {rs : Rows}, r.T Tb Sg g c rs → rs.find l = some (k, t) →
    ∃ x b, r.find l = some (x, b) ∧ (match x, k.ty with
    | none, none => b.T Tb Sg (g.put c (.en t))
    | some x, some u => g x = none ∧ b.T Tb Sg ((g.put c (.en t)).put x u)
    | _, _ => False)
  | .nil, .nil, _, h => by cases h
  | .cons l1 x b r, .cons l2 k2 t2 rs, h, q => by
    obtain ⟨e, h1, h2⟩ := (show _ ∧ _ ∧ _ from h)
    subst e
    have q : (if l1 = l then some (k2, t2) else rs.find l) = some (k, t) := q
    by_cases e : l1 = l
    · rw [if_pos e] at q
      cases q
      exact ⟨x, b, if_pos e, h1⟩
    · rw [if_neg e] at q
      obtain ⟨x', b', f, h3⟩ := Brs.T_find h2 q
      exact ⟨x', b', (if_neg e).trans f, h3⟩
  | .nil, .cons .., h, _ => h.elim
  | .cons .., .nil, h, _ => h.elim
/-- the definitions of a program -/
structure Defs where
  sg : Str → Option (List (Str × Ty))
  bd : Str → Blk
structure Defs.Ok (Tb : Nat → Talk) (D : Defs) : Prop where
  body : ∀ f ps, D.sg f = some ps → (D.bd f).T Tb D.sg fun x => ps.lookup x
  nd : ∀ f ps, D.sg f = some ps → (ps.map (·.1)).Nodup
end G

/-! part Pi -/
set_option Elab.async false
set_option linter.all false
set_option maxHeartbeats 4000000
/-! States, what holds of them before each turn, and that the parts of a step keep it. -/
namespace G
open PySem
inductive AV where
  | non | int (n : Int) | bl (b : Bool) | en (e : End)
  deriving DecidableEq
def AV.en? : AV → Option End
  | .en e => some e
  | _ => none
abbrev Names := List (Str × AV)
/-- the ends among names, or in messages -/
def endsN (m : Names) : List End := m.filterMap fun p => p.2.en?
theorem endsN_nil : endsN [] = [] := rfl
theorem endsN_app (a b : Names) : endsN (a ++ b) = endsN a ++ endsN b := List.filterMap_append
theorem endsN_en (x : Str) (e : End) (m : Names) : endsN ((x, .en e) :: m) = e :: endsN m := rfl
theorem endsN_no {x : Str} {a : AV} {m : Names} (h : a.en? = none) : endsN ((x, a) :: m) = endsN m := by
  unfold endsN
  exact List.filterMap_cons_none h
theorem mem_endsN {m : Names} {e : End} : e ∈ endsN m ↔ ∃ x, (x, AV.en e) ∈ m := by
  unfold endsN
  rw [List.mem_filterMap]
  constructor
  · rintro ⟨⟨x, a⟩, h, q⟩
    cases a with
    | en f => cases q; exact ⟨x, h⟩
    | _ => cases q
  · rintro ⟨x, h⟩
    exact ⟨_, h, rfl⟩
inductive Mark where
  | held | sent | closed | fallen
  deriving DecidableEq
structure Sta where
  n : Nat
  mark : End → Mark
  box : End → Names
  na : Nat
  run : Nat → Bool
  nm : Nat → Names
  rest : Nat → Blk
def Sta.live (s : Sta) (e : End) : Prop := e.1 < s.n ∧ (s.mark e = .held ∨ s.mark e = .sent)
def Sta.both (s : Sta) (c : Nat) : Prop := s.live (c, false) ∧ s.live (c, true)
def fset {α β : Type} [DecidableEq α] (f : α → β) (a : α) (b : β) : α → β := fun x => if x = a then b else f x
theorem fset_same {α β : Type} [DecidableEq α] {f : α → β} {a : α} {b : β} : fset f a b a = b := if_pos rfl
theorem fset_ne {α β : Type} [DecidableEq α] {f : α → β} {a x : α} {b : β} (h : x ≠ a) : fset f a b x = f x := if_neg h
/-- who holds what: lim are the ends that are about to fall -/
structure Lin (s : Sta) (lim : List End) (loc : End → Nd) : Prop where
  rn : ∀ i, s.run i = true → i < s.na
  act : ∀ i, s.run i = true → (endsN (s.nm i)).Nodup ∧ ∀ e, e ∈ endsN (s.nm i) ↔ s.live e ∧ e ∉ lim ∧ loc e = .a i
  box : ∀ f, f.1 < s.n → (endsN (s.box f)).Nodup ∧ ∀ e, e ∈ endsN (s.box f) ↔ s.live e ∧ e ∉ lim ∧ loc e = .e f
  there : ∀ e, s.live e → e ∉ lim → (∃ i, loc e = .a i ∧ s.run i = true ∧ s.mark e = .held) ∨ ∃ f, loc e = .e f ∧ s.live f ∧ s.mark e = .sent
  limN : lim.Nodup
  limL : ∀ e ∈ lim, s.live e
  dead : ∀ f, ¬ s.live f → s.box f = []
/-! ### types of values, of mailboxes -/
def VT (ty : End → Talk) : AV → Kd → Prop
  | .non, .non => True
  | .int _, .int => True
  | .bl _, .bool => True
  | .en e, .ref d n => ty e = .ref d n
  | _, _ => False
def AT (ty : End → Talk) : AV → Ty → Prop
  | .int _, .int => True
  | .bl _, .bool => True
  | .en e, .en t => ty e = t
  | _, _ => False
/-- a mailbox takes an end from one talk to another -/
def QT (Tb : Nat → Talk) (ty : End → Talk) : Talk → Names → Talk → Prop
  | t, [], t' => t = t'
  | t, (l, v) :: q, t' => ∃ r k u, head Tb t = .node true r ∧ r.find l = some (k, u) ∧ VT ty v k ∧ QT Tb ty u q t'
section
variable {Tb : Nat → Talk} {ty ty' : End → Talk}
theorem VT.congr {v : AV} {k : Kd} (h : ∀ e, v = .en e → ty' e = ty e) (q : VT ty v k) : VT ty' v k := by
  cases v <;> cases k <;> first | exact q | skip
  rename_i e d n
  show ty' e = _
  rw [h e rfl]
  exact q
theorem QT.congr : ∀ {q : Names} {t t' : Talk}, (∀ e ∈ endsN q, ty' e = ty e) → QT Tb ty t q t' → QT Tb ty' t q t'
  | [], _, _, _, h => h
  | (l, v) :: q, t, t', h, ⟨r, k, u, h1, h2, h3, h4⟩ => by
    refine ⟨r, k, u, h1, h2, h3.congr fun e z => h e ?_, QT.congr (fun e z => h e ?_) h4⟩
    · rw [z]
      exact List.mem_cons_self
    · obtain ⟨x, hx⟩ := mem_endsN.mp z
      exact mem_endsN.mpr ⟨x, List.mem_cons_of_mem _ hx⟩
theorem QT.snoc {l : Str} {v : AV} {r : Rows} {k : Kd} {u : Talk} : ∀ {q : Names} {t t' : Talk}, QT Tb ty t q t' → head Tb t' = .node true r → r.find l = some (k, u) → VT ty v k → QT Tb ty t (q ++ [(l, v)]) u
  | [], t, t', h, h1, h2, h3 => by
    have h : t = t' := h
    subst h
    exact ⟨r, k, u, h1, h2, h3, rfl⟩
  | (l1, v1) :: q, t, t', ⟨r1, k1, u1, a, b, c, d⟩, h1, h2, h3 => ⟨r1, k1, u1, a, b, c, QT.snoc d h1 h2 h3⟩
/-- who says has heard all -/
theorem QT.say {t t' : Talk} {q : Names} {r : Rows} (h : QT Tb ty t q t') (hs : head Tb t = .node false r ∨ head Tb t = .fin) : q = [] ∧ t = t' := by
  cases q with
  | nil => exact ⟨rfl, h⟩
  | cons p q =>
    obtain ⟨l, v⟩ := p
    obtain ⟨r1, k1, u1, a, b, c, d⟩ := h
    rw [a] at hs
    rcases hs with hs | hs <;> cases hs
end
/-- names fit a context -/
structure CtxOk (g : Ctx) (m : Names) (ty : End → Talk) : Prop where
  k : ∀ x t, g x = some t → ∃ a, m.lookup x = some a ∧ AT ty a t
  e : ∀ x f, m.lookup x = some (.en f) → ∃ t, g x = some (.en t)
  d : ∀ x, g x = none → m.lookup x = none
  nd : (m.map (·.1)).Nodup
structure Typ (Tb : Nat → Talk) (D : Defs) (s : Sta) (ty : End → Talk) : Prop where
  q1 : ∀ e, s.live e → ∃ t, QT Tb ty (ty e) (s.box e) t
  q2 : ∀ e, s.live e → s.live (flip e) → ∃ t, QT Tb ty (ty e) (s.box e) t ∧ QT Tb ty (ty (flip e)) (s.box (flip e)) t.dual
  code : ∀ i, s.run i = true → ∃ g, CtxOk g (s.nm i) ty ∧ (s.rest i).T Tb D.sg g
structure Inv (Tb : Nat → Talk) (D : Defs) (s : Sta) (lim : List End) (loc : End → Nd) (ty : End → Talk) : Prop where
  lin : Lin s lim loc
  typ : Typ Tb D s ty
  fo : Forest (fun e => s.live e ∧ e ∉ lim) s.both loc
theorem lookup_mem {m : Names} {x : Str} {a : AV} (nd : (m.map (·.1)).Nodup) : m.lookup x = some a ↔ (x, a) ∈ m := by
  induction m with
  | nil => simp
  | cons p r ih =>
    obtain ⟨y, b⟩ := p
    have h : (y :: r.map (·.1)).Nodup := nd
    obtain ⟨h1, h2⟩ := List.nodup_cons.mp h
    rw [List.lookup_cons]
    by_cases e : x = y
    · subst e
      have e2 : (x == x) = true := beq_self_eq_true x
      rw [e2]
      constructor
      · intro q
        cases q
        exact List.mem_cons_self
      · intro q
        rcases List.mem_cons.mp q with q | q
        · cases q; rfl
        · exact absurd (List.mem_map.mpr ⟨_, q, rfl⟩) h1
    · have e2 : (x == y) = false := beq_eq_false_iff_ne.mpr e
      rw [e2]
      show r.lookup x = some a ↔ _
      rw [ih h2, List.mem_cons]
      constructor
      · exact fun q => .inr q
      · rintro (q | q)
        · cases q; exact absurd rfl e
        · exact q
theorem CtxOk.congr {g : Ctx} {m : Names} {ty ty' : End → Talk} (h : CtxOk g m ty) (q : ∀ e ∈ endsN m, ty' e = ty e) : CtxOk g m ty' where
  k := fun x t hx => by
    obtain ⟨a, h1, h2⟩ := h.k x t hx
    refine ⟨a, h1, ?_⟩
    cases a <;> cases t <;> first | exact h2 | skip
    rename_i e u
    show ty' e = u
    rw [q e (mem_endsN.mpr ⟨x, (lookup_mem h.nd).mp h1⟩)]
    exact h2
  e := h.e
  d := h.d
  nd := h.nd
def Sta.put (s : Sta) (i : Nat) (m : Names) (b : Blk) : Sta := { s with nm := fset s.nm i m, rest := fset s.rest i b }
def Sta.kill (s : Sta) (e : End) (k : Mark) : Sta := { s with mark := fset s.mark e k, box := fset s.box e [] }
def Sta.stop (s : Sta) (i : Nat) : Sta := { s with run := fset s.run i false, nm := fset s.nm i [], rest := fset s.rest i .fail }
section
variable {Tb : Nat → Talk} {D : Defs} {s : Sta} {lim : List End} {loc : End → Nd} {ty : End → Talk}
/-- an actor goes on with other names; the ends in d are let go -/
theorem Lin.put (L : Lin s lim loc) {i : Nat} {m : Names} {b : Blk} {d : List End} (hi : s.run i = true) (hd : d.Nodup) (hds : ∀ e ∈ d, e ∈ endsN (s.nm i)) (hm : (endsN m).Nodup) (hme : ∀ e, e ∈ endsN m ↔ e ∈ endsN (s.nm i) ∧ e ∉ d) :
    Lin (s.put i m b) (lim ++ d) loc := by
  have ai := L.act i hi
  have dl : ∀ e ∈ d, s.live e ∧ e ∉ lim ∧ loc e = .a i := fun e h => (ai.2 e).mp (hds e h)
  refine ⟨L.rn, fun j hj => ?_, fun f hf => ?_, fun e he hl => ?_, ?_, fun e he => ?_, L.dead⟩
  · by_cases e : j = i
    · subst e
      show (endsN (fset s.nm j m j)).Nodup ∧ ∀ e, e ∈ endsN (fset s.nm j m j) ↔ s.live e ∧ e ∉ lim ++ d ∧ loc e = .a j
      rw [fset_same]
      refine ⟨hm, fun e => ?_⟩
      rw [hme, ai.2 e, List.mem_append]
      grind
    · show (endsN (fset s.nm i m j)).Nodup ∧ ∀ e, e ∈ endsN (fset s.nm i m j) ↔ s.live e ∧ e ∉ lim ++ d ∧ loc e = .a j
      rw [fset_ne e]
      have aj := L.act j hj
      refine ⟨aj.1, fun x => ?_⟩
      rw [aj.2 x, List.mem_append]
      constructor
      · rintro ⟨a, b, c⟩
        refine ⟨a, fun q => q.elim b fun q => ?_, c⟩
        have z := (dl x q).2.2
        rw [c] at z
        cases z
        exact e rfl
      · rintro ⟨a, b, c⟩
        exact ⟨a, fun q => b (.inl q), c⟩
  · have af := L.box f hf
    refine ⟨af.1, fun x => ?_⟩
    show x ∈ endsN (s.box f) ↔ s.live x ∧ x ∉ lim ++ d ∧ loc x = .e f
    rw [af.2 x, List.mem_append]
    constructor
    · rintro ⟨a, b, c⟩
      refine ⟨a, fun q => q.elim b fun q => ?_, c⟩
      have z := (dl x q).2.2
      rw [c] at z
      cases z
    · rintro ⟨a, b, c⟩
      exact ⟨a, fun q => b (.inl q), c⟩
  · exact L.there e he fun q => hl (List.mem_append.mpr (.inl q))
  · refine List.nodup_append.mpr ⟨L.limN, hd, fun a ha b hb q => ?_⟩
    subst q
    exact (dl a hb).2.1 ha
  · rcases List.mem_append.mp he with q | q
    · exact L.limL e q
    · exact (dl e q).1
theorem Inv.put (I : Inv Tb D s lim loc ty) {i : Nat} {m : Names} {b : Blk} {d : List End} (hi : s.run i = true) (hd : d.Nodup) (hds : ∀ e ∈ d, e ∈ endsN (s.nm i)) (hm : (endsN m).Nodup) (hme : ∀ e, e ∈ endsN m ↔ e ∈ endsN (s.nm i) ∧ e ∉ d)
    (hc : ∃ g, CtxOk g m ty ∧ b.T Tb D.sg g) : Inv Tb D (s.put i m b) (lim ++ d) loc ty := by
  obtain ⟨L, T, F⟩ := I
  refine ⟨L.put hi hd hds hm hme, ⟨T.q1, T.q2, fun j hj => ?_⟩, F.mono (fun e he => ⟨⟨he.1, fun q => he.2 (List.mem_append.mpr (.inl q))⟩, rfl⟩) fun c h => h⟩
  · by_cases e : j = i
    · subst e
      obtain ⟨g, h1, h2⟩ := hc
      refine ⟨g, ?_, ?_⟩
      · show CtxOk g (fset s.nm j m j) ty
        rw [fset_same]
        exact h1
      · show (fset s.rest j b j).T Tb D.sg g
        rw [fset_same]
        exact h2
    · obtain ⟨g, h1, h2⟩ := T.code j hj
      refine ⟨g, ?_, ?_⟩
      · show CtxOk g (fset s.nm i m j) ty
        rw [fset_ne e]
        exact h1
      · show (fset s.rest i b j).T Tb D.sg g
        rw [fset_ne e]
        exact h2
/-- an actor ends: its ends are let go -/
theorem Inv.stop (I : Inv Tb D s lim loc ty) {i : Nat} {d : List End} (hi : s.run i = true) (hd : d.Nodup) (hds : ∀ e, e ∈ d ↔ e ∈ endsN (s.nm i)) : Inv Tb D (s.stop i) (lim ++ d) loc ty := by
  obtain ⟨L, T, F⟩ := I
  have ai := L.act i hi
  have dl : ∀ e ∈ d, s.live e ∧ e ∉ lim ∧ loc e = .a i := fun e h => (ai.2 e).mp ((hds e).mp h)
  have rj : ∀ j, (s.stop i).run j = true → j ≠ i ∧ s.run j = true := fun j h => by
    have h : fset s.run i false j = true := h
    by_cases e : j = i
    · subst e
      rw [fset_same] at h
      cases h
    · rw [fset_ne e] at h
      exact ⟨e, h⟩
  refine ⟨⟨fun j h => L.rn j (rj j h).2, fun j hj => ?_, fun f hf => ?_, fun e he hl => ?_, ?_, fun e he => ?_, L.dead⟩, ⟨T.q1, T.q2, fun j hj => ?_⟩, F.mono (fun e he => ⟨⟨he.1, fun q => he.2 (List.mem_append.mpr (.inl q))⟩, rfl⟩) fun c h => h⟩
  · obtain ⟨e, hj⟩ := rj j hj
    show (endsN (fset s.nm i [] j)).Nodup ∧ ∀ e, e ∈ endsN (fset s.nm i [] j) ↔ s.live e ∧ e ∉ lim ++ d ∧ loc e = .a j
    rw [fset_ne e]
    have aj := L.act j hj
    refine ⟨aj.1, fun x => ?_⟩
    rw [aj.2 x, List.mem_append]
    constructor
    · rintro ⟨a, b, c⟩
      refine ⟨a, fun q => q.elim b fun q => ?_, c⟩
      have z := (dl x q).2.2
      rw [c] at z
      cases z
      exact e rfl
    · rintro ⟨a, b, c⟩
      exact ⟨a, fun q => b (.inl q), c⟩
  · have af := L.box f hf
    refine ⟨af.1, fun x => ?_⟩
    show x ∈ endsN (s.box f) ↔ s.live x ∧ x ∉ lim ++ d ∧ loc x = .e f
    rw [af.2 x, List.mem_append]
    constructor
    · rintro ⟨a, b, c⟩
      refine ⟨a, fun q => q.elim b fun q => ?_, c⟩
      have z := (dl x q).2.2
      rw [c] at z
      cases z
    · rintro ⟨a, b, c⟩
      exact ⟨a, fun q => b (.inl q), c⟩
  · rw [List.mem_append] at hl
    rcases L.there e he fun q => hl (.inl q) with ⟨j, h1, h2, h3⟩ | h
    · refine .inl ⟨j, h1, ?_, h3⟩
      show fset s.run i false j = true
      rw [fset_ne]
      · exact h2
      · intro q
        subst q
        exact hl (.inr ((hds e).mpr ((ai.2 e).mpr ⟨he, fun q => hl (.inl q), h1⟩)))
    · exact .inr h
  · refine List.nodup_append.mpr ⟨L.limN, hd, fun a ha b hb q => ?_⟩
    subst q
    exact (dl a hb).2.1 ha
  · rcases List.mem_append.mp he with q | q
    · exact L.limL e q
    · exact (dl e q).1
  · obtain ⟨e, hj⟩ := rj j hj
    obtain ⟨g, h1, h2⟩ := T.code j hj
    refine ⟨g, ?_, ?_⟩
    · show CtxOk g (fset s.nm i [] j) ty
      rw [fset_ne e]
      exact h1
    · show (fset s.rest i .fail j).T Tb D.sg g
      rw [fset_ne e]
      exact h2
/-- an end falls, or is closed: what was in its mailbox is let go -/
theorem Inv.kill (I : Inv Tb D s (e :: lim) loc ty) {k : Mark} (hk : k ≠ .held ∧ k ≠ .sent) : Inv Tb D (s.kill e k) (lim ++ endsN (s.box e)) loc ty := by
  obtain ⟨L, T, F⟩ := I
  have le : s.live e := L.limL e List.mem_cons_self
  obtain ⟨n1, n2⟩ := List.nodup_cons.mp L.limN
  have be := L.box e le.1
  have lv : ∀ f, (s.kill e k).live f ↔ s.live f ∧ f ≠ e := fun f => by
    show (f.1 < s.n ∧ (fset s.mark e k f = .held ∨ fset s.mark e k f = .sent)) ↔ _
    by_cases q : f = e
    · subst q
      rw [fset_same]
      constructor
      · rintro ⟨_, h | h⟩
        · exact absurd h hk.1
        · exact absurd h hk.2
      · rintro ⟨_, h⟩
        exact absurd rfl h
    · rw [fset_ne q]
      exact ⟨fun h => ⟨h, q⟩, fun h => h.1⟩
  have mk : ∀ f, f ≠ e → (s.kill e k).mark f = s.mark f := fun f q => fset_ne q
  have bx : ∀ f, f ≠ e → (s.kill e k).box f = s.box f := fun f q => fset_ne q
  have bt : ∀ c, (s.kill e k).both c → s.both c ∧ (c, false) ≠ e ∧ (c, true) ≠ e := fun c h => ⟨⟨((lv _).mp h.1).1, ((lv _).mp h.2).1⟩, ((lv _).mp h.1).2, ((lv _).mp h.2).2⟩
  have iff : ∀ (x : End) (y : Nd), (y ≠ .e e) → ((s.live x ∧ x ∉ e :: lim ∧ loc x = y) ↔ (s.kill e k).live x ∧ x ∉ lim ++ endsN (s.box e) ∧ loc x = y) := fun x y hy => by
    rw [lv x, List.mem_append, List.mem_cons]
    constructor
    · rintro ⟨a, b, c⟩
      refine ⟨⟨a, fun q => b (.inl q)⟩, ?_, c⟩
      rintro (q | q)
      · exact b (.inr q)
      · have z := ((be.2 x).mp q).2.2
        rw [c] at z
        exact hy z
    · rintro ⟨⟨a, b⟩, c, d⟩
      exact ⟨a, fun q => q.elim b fun q => c (.inl q), d⟩
  refine ⟨⟨L.rn, fun j hj => ?_, fun f hf => ?_, fun x hx hl => ?_, ?_, fun x hx => ?_, fun f hf => ?_⟩, ⟨fun x hx => ?_, fun c hc hc' => ?_, T.code⟩, F.mono (fun x hx => ⟨⟨((lv x).mp hx.1).1, ?_⟩, rfl⟩) fun c h => (bt c h).1⟩
  · have aj := L.act j hj
    exact ⟨aj.1, fun x => (aj.2 x).trans (iff x _ (by intro q; cases q))⟩
  · by_cases q : f = e
    · subst q
      show (endsN (fset s.box f [] f)).Nodup ∧ ∀ x, x ∈ endsN (fset s.box f [] f) ↔ _
      rw [fset_same]
      refine ⟨List.nodup_nil, fun x => ⟨fun h => (by cases h), ?_⟩⟩
      rintro ⟨a, b, c⟩
      rw [List.mem_append] at b
      obtain ⟨a1, a2⟩ := (lv x).mp a
      refine absurd (.inr ((be.2 x).mpr ⟨a1, ?_, c⟩)) b
      rw [List.mem_cons]
      exact fun q => q.elim a2 fun q => b (.inl q)
    · have bf := L.box f hf
      rw [bx f q]
      exact ⟨bf.1, fun x => (bf.2 x).trans (iff x _ (by intro z; cases z; exact q rfl))⟩
  · obtain ⟨a1, a2⟩ := (lv x).mp hx
    rw [List.mem_append] at hl
    have nl : x ∉ e :: lim := by
      rw [List.mem_cons]
      exact fun q => q.elim a2 fun q => hl (.inl q)
    rcases L.there x a1 nl with ⟨i, h1, h2, h3⟩ | ⟨f, h1, h2, h3⟩
    · exact .inl ⟨i, h1, h2, by rw [mk x a2]; exact h3⟩
    · refine .inr ⟨f, h1, (lv f).mpr ⟨h2, fun q => ?_⟩, by rw [mk x a2]; exact h3⟩
      subst q
      exact hl (.inr ((be.2 x).mpr ⟨a1, nl, h1⟩))
  · refine List.nodup_append.mpr ⟨n2, be.1, fun a ha b hb q => ?_⟩
    subst q
    exact ((be.2 a).mp hb).2.1 (List.mem_cons_of_mem _ ha)
  · rw [lv x]
    rcases List.mem_append.mp hx with q | q
    · exact ⟨L.limL x (List.mem_cons_of_mem _ q), fun z => n1 (by rw [← z]; exact q)⟩
    · have z := (be.2 x).mp q
      exact ⟨z.1, fun w => z.2.1 (by rw [w]; exact List.mem_cons_self)⟩
  · by_cases q : f = e
    · rw [q]
      exact fset_same
    · rw [bx f q]
      exact L.dead f fun h => hf ((lv f).mpr ⟨h, q⟩)
  · obtain ⟨a1, a2⟩ := (lv x).mp hx
    rw [bx x a2]
    exact T.q1 x a1
  · obtain ⟨a1, a2⟩ := (lv c).mp hc
    obtain ⟨b1, b2⟩ := (lv _).mp hc'
    rw [bx _ a2, bx _ b2]
    exact T.q2 c a1 b1
  · rw [List.mem_cons]
    intro q
    rcases q with q | q
    · exact ((lv x).mp hx.1).2 q
    · exact hx.2 (List.mem_append.mpr (.inl q))
end
end G

/-! part Pj -/
set_option Elab.async false
set_option linter.all false
set_option maxHeartbeats 4000000
/-! Saying, hearing, opening keep the invariant. -/
namespace G
open PySem
theorem flip_flip (e : End) : flip (flip e) = e := by
  obtain ⟨c, b⟩ := e
  cases b <;> rfl
theorem flip_ne (e : End) : flip e ≠ e := by
  obtain ⟨c, b⟩ := e
  cases b <;> intro h <;> cases h
theorem flip_fst (e : End) : (flip e).1 = e.1 := rfl
def AV.mk (v : AV) (f : End → Mark) (k : Mark) : End → Mark := match v with
  | .en e => fset f e k
  | _ => f
def AV.lc (v : AV) (f : End → Nd) (k : Nd) : End → Nd := match v with
  | .en e => fset f e k
  | _ => f
def Sta.post (s : Sta) (f : End) (l : Str) (v : AV) : Sta := { s with box := fset s.box f (s.box f ++ [(l, v)]), mark := v.mk s.mark .sent }
def Sta.take (s : Sta) (f : End) (v : AV) (q : Names) : Sta := { s with box := fset s.box f q, mark := v.mk s.mark .held }
section
variable {Tb : Nat → Talk} {D : Defs} {s : Sta} {lim : List End} {loc : End → Nd} {ty : End → Talk}
theorem Lin.notbox (L : Lin s lim loc) {i : Nat} {e : End} (hi : s.run i = true) (he : e ∈ endsN (s.nm i)) (f : End) : e ∉ endsN (s.box f) := by
  intro h
  by_cases hf : f.1 < s.n
  · have h1 := ((L.act i hi).2 e).mp he
    have h2 := ((L.box f hf).2 e).mp h
    have z := h1.2.2.symm.trans h2.2.2
    cases z
  · rw [L.dead f fun q => hf q.1] at h
    cases h
theorem Lin.notact (L : Lin s lim loc) {i j : Nat} {e : End} (hi : s.run i = true) (he : e ∈ endsN (s.nm i)) (hj : s.run j = true) (hij : j ≠ i) : e ∉ endsN (s.nm j) := by
  intro h
  have h1 := ((L.act i hi).2 e).mp he
  have h2 := ((L.act j hj).2 e).mp h
  have z := h1.2.2.symm.trans h2.2.2
  cases z
  exact hij rfl
theorem en_none {v : AV} (h : ∀ e, v ≠ .en e) : v.en? = none := by
  cases v with
  | en e => exact absurd rfl (h e)
  | _ => rfl
theorem endsN_one (l : Str) (v : AV) : endsN [(l, v)] = match v with | .en e => [e] | _ => [] := by
  cases v <;> rfl
theorem mem_one {l : Str} {v : AV} {x : End} : x ∈ endsN [(l, v)] ↔ v = .en x := by
  cases v with
  | en e =>
    show x ∈ [e] ↔ _
    rw [List.mem_singleton]
    constructor
    · intro h
      rw [h]
    · intro h
      cases h
      rfl
  | _ =>
    constructor
    · intro h
      cases h
    · intro h
      cases h
theorem mk_live {s : Sta} {v : AV} {k : Mark} (hk : k = .held ∨ k = .sent) (hv : ∀ e, v = .en e → s.live e) (f : End) :
    (f.1 < s.n ∧ (v.mk s.mark k f = .held ∨ v.mk s.mark k f = .sent)) ↔ s.live f := by
  cases v with
  | en e =>
    show (f.1 < s.n ∧ (fset s.mark e k f = .held ∨ fset s.mark e k f = .sent)) ↔ s.live f
    by_cases q : f = e
    · subst q
      rw [fset_same]
      exact ⟨fun _ => hv f rfl, fun h => ⟨h.1, hk⟩⟩
    · rw [fset_ne q]
      exact Iff.rfl
  | _ => exact Iff.rfl
/-- one end says: what its talk is behind it; the message is in the partner's mailbox -/
theorem Typ.say (T : Typ Tb D s ty) (L : Lin s lim loc) {i : Nat} {e0 : End} {r : Rows} {l : Str} {k : Kd} {t' : Talk} {v : AV} (hi : s.run i = true) (he0 : e0 ∈ endsN (s.nm i)) (hh : head Tb (ty e0) = .node false r) (hf : r.find l = some (k, t'))
    (hv : VT ty v k) (hp : ∀ e, v = .en e → e ∈ endsN (s.nm i) ∧ e ≠ e0) (bx : End → Names) (hb : ∀ f, f ≠ flip e0 → bx f = s.box f) (hbp : s.live (flip e0) → bx (flip e0) = s.box (flip e0) ++ [(l, v)]) :
    (∀ e, s.live e → ∃ t, QT Tb (fset ty e0 t') (fset ty e0 t' e) (bx e) t) ∧
    ∀ e, s.live e → s.live (flip e) → ∃ t, QT Tb (fset ty e0 t') (fset ty e0 t' e) (bx e) t ∧ QT Tb (fset ty e0 t') (fset ty e0 t' (flip e)) (bx (flip e)) t.dual := by
  have le0 : s.live e0 := (((L.act i hi).2 e0).mp he0).1
  have nb := L.notbox hi he0
  have cg : ∀ (f : End) {a b : Talk}, QT Tb ty a (s.box f) b → QT Tb (fset ty e0 t') a (s.box f) b := fun f a b h => h.congr fun e he => fset_ne fun q => nb f (by rw [← q]; exact he)
  have b0 : s.box e0 = [] := by
    obtain ⟨t, ht⟩ := T.q1 e0 le0
    exact (ht.say (.inl hh)).1
  have q0 : QT Tb (fset ty e0 t') (fset ty e0 t' e0) (bx e0) t' := by
    rw [hb e0 (flip_ne e0).symm, b0, fset_same]
    rfl
  have qp : s.live (flip e0) → QT Tb (fset ty e0 t') (fset ty e0 t' (flip e0)) (bx (flip e0)) t'.dual := fun lp => by
    obtain ⟨t, h1, h2⟩ := T.q2 e0 le0 lp
    have z := (h1.say (.inl hh)).2
    subst z
    rw [hbp lp, fset_ne (flip_ne e0)]
    have hd : head Tb (ty e0).dual = .node true r.dual := by
      rw [head_dual, hh]
      rfl
    refine QT.congr (ty := ty) (fun e he => ?_) (h2.snoc hd (by rw [Rows.find_dual, hf]; rfl) hv)
    rw [endsN_app, List.mem_append] at he
    rcases he with he | he
    · exact fset_ne fun q => nb _ (by rw [← q]; exact he)
    · exact fset_ne (hp e (mem_one.mp he)).2
  refine ⟨fun e he => ?_, fun e he he' => ?_⟩
  · by_cases h1 : e = e0
    · rw [h1]
      exact ⟨_, q0⟩
    · by_cases h2 : e = flip e0
      · rw [h2] at he ⊢
        exact ⟨_, qp he⟩
      · rw [hb e h2, fset_ne h1]
        obtain ⟨t, ht⟩ := T.q1 e he
        exact ⟨t, cg e ht⟩
  · by_cases h1 : e = e0
    · rw [h1] at he' ⊢
      exact ⟨_, q0, qp he'⟩
    · by_cases h2 : e = flip e0
      · rw [h2] at he ⊢
        refine ⟨_, qp he, ?_⟩
        rw [Talk.dual_dual, flip_flip]
        exact q0
      · have h3 : flip e ≠ e0 := fun q => h2 (by rw [← q, flip_flip])
        have h4 : flip e ≠ flip e0 := fun q => h1 (by rw [← flip_flip e, q, flip_flip])
        rw [hb e h2, fset_ne h1, hb _ h4, fset_ne h3]
        obtain ⟨t, a, b⟩ := T.q2 e he he'
        exact ⟨t, cg _ a, cg _ b⟩
theorem code_put {i : Nat} {m : Names} {b : Blk} {e0 : End} {t' : Talk} (T : Typ Tb D s ty) (L : Lin s lim loc) (hi : s.run i = true) (he0 : e0 ∈ endsN (s.nm i)) (hc : ∃ g, CtxOk g m (fset ty e0 t') ∧ b.T Tb D.sg g) :
    ∀ j, s.run j = true → ∃ g, CtxOk g (fset s.nm i m j) (fset ty e0 t') ∧ (fset s.rest i b j).T Tb D.sg g := fun j hj => by
  by_cases e : j = i
  · rw [e, fset_same, fset_same]
    exact hc
  · rw [fset_ne e, fset_ne e]
    obtain ⟨g, h1, h2⟩ := T.code j hj
    exact ⟨g, h1.congr fun x hx => fset_ne fun q => L.notact hi he0 hj e (by rw [← q]; exact hx), h2⟩
/-- said to a partner that is there -/
theorem Inv.say (I : Inv Tb D s [] loc ty) {i : Nat} {e0 : End} {r : Rows} {l : Str} {k : Kd} {t' : Talk} {v : AV} {m : Names} {b : Blk} (hi : s.run i = true) (he0 : e0 ∈ endsN (s.nm i)) (hh : head Tb (ty e0) = .node false r) (hf : r.find l = some (k, t'))
    (hv : VT ty v k) (hp : ∀ e, v = .en e → e ∈ endsN (s.nm i) ∧ e ≠ e0) (hm : (endsN m).Nodup) (hme : ∀ e, e ∈ endsN m ↔ e ∈ endsN (s.nm i) ∧ v ≠ .en e) (hc : ∃ g, CtxOk g m (fset ty e0 t') ∧ b.T Tb D.sg g) (lp : s.live (flip e0)) :
    ∃ loc', Inv Tb D ((s.put i m b).post (flip e0) l v) [] loc' (fset ty e0 t') := by
  obtain ⟨L, T, F⟩ := I
  have ai := L.act i hi
  have hvl : ∀ e, v = .en e → s.live e ∧ loc e = .a i ∧ e ≠ e0 := fun e h => ⟨((ai.2 e).mp (hp e h).1).1, ((ai.2 e).mp (hp e h).1).2.2, (hp e h).2⟩
  have lv : ∀ f, ((s.put i m b).post (flip e0) l v).live f ↔ s.live f := mk_live (s := s) (.inr rfl) fun e h => (hvl e h).1
  have le0 := ((ai.2 e0).mp he0)
  have ty' := T.say L hi he0 hh hf hv hp (fset s.box (flip e0) (s.box (flip e0) ++ [(l, v)])) (fun f hf => fset_ne hf) fun _ => fset_same
  have lc : ∀ f, v ≠ .en f → v.lc loc (.e (flip e0)) f = loc f := fun f h => by
    cases v with
    | en e => exact fset_ne fun q => h (by rw [q])
    | _ => rfl
  have lc1 : ∀ f, v = .en f → v.lc loc (.e (flip e0)) f = .e (flip e0) := fun f h => by
    subst h
    exact fset_same
  have mk : ∀ f, v ≠ .en f → v.mk s.mark .sent f = s.mark f := fun f h => by
    cases v with
    | en e => exact fset_ne fun q => h (by rw [q])
    | _ => rfl
  have mk1 : ∀ f, v = .en f → v.mk s.mark .sent f = .sent := fun f h => by
    subst h
    exact fset_same
  refine ⟨v.lc loc (.e (flip e0)), ⟨L.rn, fun j hj => ?_, fun f hf => ?_, fun e he _ => ?_, List.nodup_nil, fun e he => (by cases he), fun f hf => ?_⟩, ⟨fun e he => ty'.1 e ((lv e).mp he), fun e he he' => ty'.2 e ((lv e).mp he) ((lv _).mp he'), code_put T L hi he0 hc⟩, ?_⟩
  · by_cases e : j = i
    · subst e
      show (endsN (fset s.nm j m j)).Nodup ∧ ∀ e, e ∈ endsN (fset s.nm j m j) ↔ _
      rw [fset_same]
      refine ⟨hm, fun x => ?_⟩
      rw [hme, ai.2 x, lv x]
      constructor
      · rintro ⟨⟨a, b, c⟩, d⟩
        exact ⟨a, b, by rw [lc x d]; exact c⟩
      · rintro ⟨a, b, c⟩
        by_cases d : v = .en x
        · rw [lc1 x d] at c
          cases c
        · rw [lc x d] at c
          exact ⟨⟨a, b, c⟩, d⟩
    · show (endsN (fset s.nm i m j)).Nodup ∧ ∀ e, e ∈ endsN (fset s.nm i m j) ↔ _
      rw [fset_ne e]
      have aj := L.act j hj
      refine ⟨aj.1, fun x => ?_⟩
      rw [aj.2 x, lv x]
      by_cases d : v = .en x
      · rw [lc1 x d, (hvl x d).2.1]
        constructor
        · rintro ⟨_, _, c⟩
          cases c
          exact absurd rfl e
        · rintro ⟨_, _, c⟩
          cases c
      · rw [lc x d]
  · have bf := L.box f hf
    show (endsN (fset s.box (flip e0) (s.box (flip e0) ++ [(l, v)]) f)).Nodup ∧ ∀ e, e ∈ endsN (fset s.box (flip e0) (s.box (flip e0) ++ [(l, v)]) f) ↔ _
    by_cases q : f = flip e0
    · subst q
      rw [fset_same, endsN_app]
      refine ⟨List.nodup_append.mpr ⟨bf.1, ?_, fun a ha c hc q => ?_⟩, fun x => ?_⟩
      · rw [endsN_one]
        split <;> simp
      · subst q
        exact L.notbox hi (hp a (mem_one.mp hc)).1 _ ha
      · rw [List.mem_append, mem_one, bf.2 x, lv x]
        by_cases d : v = .en x
        · rw [lc1 x d]
          exact ⟨fun _ => ⟨(hvl x d).1, by simp, rfl⟩, fun _ => .inr d⟩
        · rw [lc x d]
          exact ⟨fun h => h.elim (fun h => h) fun h => absurd h d, fun h => .inl h⟩
    · rw [fset_ne q]
      refine ⟨bf.1, fun x => ?_⟩
      rw [bf.2 x, lv x]
      by_cases d : v = .en x
      · rw [lc1 x d, (hvl x d).2.1]
        constructor
        · rintro ⟨_, _, c⟩
          cases c
        · rintro ⟨_, _, c⟩
          cases c
          exact absurd rfl q
      · rw [lc x d]
  · have he := (lv e).mp he
    by_cases d : v = .en e
    · exact .inr ⟨flip e0, lc1 e d, (lv _).mpr lp, mk1 e d⟩
    · rcases L.there e he (by simp) with ⟨j, h1, h2, h3⟩ | ⟨f, h1, h2, h3⟩
      · exact .inl ⟨j, (lc e d).trans h1, h2, (mk e d).trans h3⟩
      · exact .inr ⟨f, (lc e d).trans h1, (lv f).mpr h2, (mk e d).trans h3⟩
  · have nf : f ≠ flip e0 := fun q => hf ((lv f).mpr (by rw [q]; exact lp))
    show fset s.box (flip e0) _ f = []
    rw [fset_ne nf]
    exact L.dead f fun h => hf ((lv f).mpr h)
  · have F2 : Forest (fun e => s.live e ∧ e ∉ ([] : List End)) s.both (v.lc loc (.e (flip e0))) := by
      cases v with
      | en e =>
        refine F.slide (e := e) (y := .e (flip e0)) ⟨(hvl e rfl).1, by simp⟩ fset_same (fun f h => fset_ne h) fun S R n => ?_
        -- from the actor over its end to the partner
        have h1 := R.1 e0 ⟨le0.1, by simp⟩ (hvl e rfl).2.2.symm
        have bt : s.both e0.1 := by
          obtain ⟨c, d⟩ := e0
          cases d
          · exact ⟨le0.1, lp⟩
          · exact ⟨lp, le0.1⟩
        have h2 := R.2 e0.1 bt (fun h => h)
        rw [(hvl e rfl).2.1, ← le0.2.2, ← h1]
        obtain ⟨c, d⟩ := e0
        cases d
        · exact h2
        · exact h2.symm
      | _ => exact F
    exact F2.mono (fun e he => ⟨⟨(lv e).mp he.1, he.2⟩, rfl⟩) fun c hc => ⟨(lv _).mp hc.1, (lv _).mp hc.2⟩
def AV.ends (v : AV) : List End := match v with
  | .en e => [e]
  | _ => []
theorem mem_ends {v : AV} {x : End} : x ∈ v.ends ↔ v = .en x := by
  cases v with
  | en e =>
    show x ∈ [e] ↔ _
    rw [List.mem_singleton]
    constructor
    · intro h
      rw [h]
    · intro h
      cases h
      rfl
  | _ =>
    constructor
    · intro h
      cases h
    · intro h
      cases h
theorem ends_nodup (v : AV) : v.ends.Nodup := by
  cases v <;> simp [AV.ends]
/-- said to a partner that is gone -/
theorem Inv.lost (I : Inv Tb D s [] loc ty) {i : Nat} {e0 : End} {r : Rows} {l : Str} {k : Kd} {t' : Talk} {v : AV} {m : Names} {b : Blk} (hi : s.run i = true) (he0 : e0 ∈ endsN (s.nm i)) (hh : head Tb (ty e0) = .node false r) (hf : r.find l = some (k, t'))
    (hv : VT ty v k) (hp : ∀ e, v = .en e → e ∈ endsN (s.nm i) ∧ e ≠ e0) (hm : (endsN m).Nodup) (hme : ∀ e, e ∈ endsN m ↔ e ∈ endsN (s.nm i) ∧ v ≠ .en e) (hc : ∃ g, CtxOk g m (fset ty e0 t') ∧ b.T Tb D.sg g) (lp : ¬ s.live (flip e0)) :
    Inv Tb D (s.put i m b) v.ends loc (fset ty e0 t') := by
  have ty' := I.typ.say I.lin hi he0 hh hf hv hp s.box (fun f _ => rfl) fun h => absurd h lp
  refine ⟨?_, ⟨ty'.1, ty'.2, code_put I.typ I.lin hi he0 hc⟩, I.fo.mono (fun e he => ⟨⟨he.1, by simp⟩, rfl⟩) fun c h => h⟩
  have K := I.lin.put (m := m) (b := b) (d := v.ends) hi (ends_nodup v) (fun e he => (hp e (mem_ends.mp he)).1) hm (fun e => by rw [hme, mem_ends])
  rw [List.nil_append] at K
  exact K
end
end G

/-! part Pk -/
set_option Elab.async false
set_option linter.all false
set_option maxHeartbeats 4000000
/-! Hearing and opening keep the invariant. -/
namespace G
open PySem
section
variable {Tb : Nat → Talk} {D : Defs} {s : Sta} {lim : List End} {loc : End → Nd} {ty : End → Talk}
/-- an end hears the oldest message of its mailbox -/
theorem Inv.hear (I : Inv Tb D s [] loc ty) {i : Nat} {e0 : End} {r : Rows} {l : Str} {k : Kd} {t' : Talk} {v : AV} {q : Names} {m : Names} {b : Blk} (hi : s.run i = true) (he0 : e0 ∈ endsN (s.nm i)) (hh : head Tb (ty e0) = .node true r)
    (hb : s.box e0 = (l, v) :: q) (hf : r.find l = some (k, t')) (hm : (endsN m).Nodup) (hme : ∀ e, e ∈ endsN m ↔ e ∈ endsN (s.nm i) ∨ v = .en e) (hc : ∃ g, CtxOk g m (fset ty e0 t') ∧ b.T Tb D.sg g) :
    ∃ loc', Inv Tb D ((s.put i m b).take e0 v q) [] loc' (fset ty e0 t') := by
  obtain ⟨L, T, F⟩ := I
  have ai := L.act i hi
  have le0 := (ai.2 e0).mp he0
  have nb := L.notbox hi he0
  have be := L.box e0 le0.1.1
  rw [hb] at be
  have inb : ∀ x, v = .en x → x ∈ endsN ((l, v) :: q) := fun x h => by
    rw [h]
    exact List.mem_cons_self
  have hvl : ∀ x, v = .en x → s.live x ∧ loc x = .e e0 ∧ x ≠ e0 ∧ x ∉ endsN q := fun x h => by
    have z := (be.2 x).mp (inb x h)
    refine ⟨z.1, z.2.2, fun w => ?_, ?_⟩
    · have z2 := le0.2.2
      rw [← w, z.2.2] at z2
      cases z2
    · have z3 := be.1
      rw [h, endsN_en] at z3
      exact (List.nodup_cons.mp z3).1
  have qin : ∀ x, x ∈ endsN q ↔ x ∈ endsN ((l, v) :: q) ∧ v ≠ .en x := fun x => by
    by_cases h : v = .en x
    · exact ⟨fun z => absurd z (hvl x h).2.2.2, fun z => absurd h z.2⟩
    · have e2 : x ∈ endsN ((l, v) :: q) ↔ x ∈ endsN q := by
        rw [mem_endsN, mem_endsN]
        constructor
        · rintro ⟨y, hy⟩
          rcases List.mem_cons.mp hy with z | z
          · have z2 := congrArg (·.2) z
            exact absurd z2.symm h
          · exact ⟨y, z⟩
        · rintro ⟨y, hy⟩
          exact ⟨y, List.mem_cons_of_mem _ hy⟩
      rw [e2]
      exact ⟨fun z => ⟨z, h⟩, fun z => z.1⟩
  have lv : ∀ f, ((s.put i m b).take e0 v q).live f ↔ s.live f := mk_live (s := s) (.inl rfl) fun e h => (hvl e h).1
  have lc : ∀ f, v ≠ .en f → v.lc loc (.a i) f = loc f := fun f h => by
    cases v with
    | en e => exact fset_ne fun q => h (by rw [q])
    | _ => rfl
  have lc1 : ∀ f, v = .en f → v.lc loc (.a i) f = .a i := fun f h => by
    subst h
    exact fset_same
  have mk : ∀ f, v ≠ .en f → v.mk s.mark .held f = s.mark f := fun f h => by
    cases v with
    | en e => exact fset_ne fun q => h (by rw [q])
    | _ => rfl
  have mk1 : ∀ f, v = .en f → v.mk s.mark .held f = .held := fun f h => by
    subst h
    exact fset_same
  have cg : ∀ (bx : Names) {a b : Talk}, e0 ∉ endsN bx → QT Tb ty a bx b → QT Tb (fset ty e0 t') a bx b := fun bx a b nb h => h.congr fun e he => fset_ne fun q => nb (by rw [← q]; exact he)
  have nq : e0 ∉ endsN q := fun z => nb e0 (by rw [hb]; exact ((qin e0).mp z).1)
  have tl : ∀ t, QT Tb ty (ty e0) (s.box e0) t → QT Tb (fset ty e0 t') t' q t := fun t h => by
    rw [hb] at h
    obtain ⟨r1, k1, u1, a, b, c, d⟩ := h
    rw [hh] at a
    cases a
    rw [hf] at b
    cases b
    exact cg _ nq d
  have bx : ∀ f, f ≠ e0 → fset s.box e0 q f = s.box f := fun f h => fset_ne h
  refine ⟨v.lc loc (.a i), ⟨L.rn, fun j hj => ?_, fun f hf => ?_, fun e he _ => ?_, List.nodup_nil, fun e he => (by cases he), fun f hf => ?_⟩, ⟨fun e he => ?_, fun e he he' => ?_, code_put T L hi he0 hc⟩, ?_⟩
  · by_cases e : j = i
    · subst e
      show (endsN (fset s.nm j m j)).Nodup ∧ ∀ e, e ∈ endsN (fset s.nm j m j) ↔ _
      rw [fset_same]
      refine ⟨hm, fun x => ?_⟩
      rw [hme, ai.2 x, lv x]
      by_cases d : v = .en x
      · rw [lc1 x d]
        exact ⟨fun _ => ⟨(hvl x d).1, by simp, rfl⟩, fun _ => .inr d⟩
      · rw [lc x d]
        exact ⟨fun h => h.elim (fun h => h) fun h => absurd h d, fun h => .inl h⟩
    · show (endsN (fset s.nm i m j)).Nodup ∧ ∀ e, e ∈ endsN (fset s.nm i m j) ↔ _
      rw [fset_ne e]
      have aj := L.act j hj
      refine ⟨aj.1, fun x => ?_⟩
      rw [aj.2 x, lv x]
      by_cases d : v = .en x
      · rw [lc1 x d, (hvl x d).2.1]
        constructor
        · rintro ⟨_, _, c⟩
          cases c
        · rintro ⟨_, _, c⟩
          cases c
          exact absurd rfl e
      · rw [lc x d]
  · show (endsN (fset s.box e0 q f)).Nodup ∧ ∀ e, e ∈ endsN (fset s.box e0 q f) ↔ _
    by_cases w : f = e0
    · subst w
      rw [fset_same]
      refine ⟨?_, fun x => ?_⟩
      · have z := be.1
        have sub : (endsN q).Sublist (endsN ((l, v) :: q)) := (List.sublist_cons_self (l, v) q).filterMap _
        exact z.sublist sub
      · rw [qin x, be.2 x, lv x]
        constructor
        · rintro ⟨⟨a, b, c⟩, d⟩
          exact ⟨a, b, by rw [lc x d]; exact c⟩
        · rintro ⟨a, b, c⟩
          by_cases d : v = .en x
          · rw [lc1 x d] at c
            cases c
          · rw [lc x d] at c
            exact ⟨⟨a, b, c⟩, d⟩
    · rw [fset_ne w]
      have bf := L.box f hf
      refine ⟨bf.1, fun x => ?_⟩
      rw [bf.2 x, lv x]
      by_cases d : v = .en x
      · rw [lc1 x d, (hvl x d).2.1]
        constructor
        · rintro ⟨_, _, c⟩
          cases c
          exact absurd rfl w
        · rintro ⟨_, _, c⟩
          cases c
      · rw [lc x d]
  · have he := (lv e).mp he
    by_cases d : v = .en e
    · exact .inl ⟨i, lc1 e d, hi, mk1 e d⟩
    · rcases L.there e he (by simp) with ⟨j, h1, h2, h3⟩ | ⟨f, h1, h2, h3⟩
      · exact .inl ⟨j, (lc e d).trans h1, h2, (mk e d).trans h3⟩
      · exact .inr ⟨f, (lc e d).trans h1, (lv f).mpr h2, (mk e d).trans h3⟩
  · have nf : ¬ s.live f := fun h => hf ((lv f).mpr h)
    show fset s.box e0 q f = []
    rw [fset_ne fun z => nf (by rw [z]; exact le0.1)]
    exact L.dead f nf
  · have he := (lv e).mp he
    show ∃ t, QT Tb (fset ty e0 t') (fset ty e0 t' e) (fset s.box e0 q e) t
    by_cases w : e = e0
    · rw [w, fset_same, fset_same]
      obtain ⟨t, h⟩ := T.q1 e0 le0.1
      exact ⟨t, tl t h⟩
    · rw [fset_ne w, fset_ne w]
      obtain ⟨t, h⟩ := T.q1 e he
      exact ⟨t, cg _ (nb e) h⟩
  · have he := (lv e).mp he
    have he' := (lv _).mp he'
    show ∃ t, QT Tb (fset ty e0 t') (fset ty e0 t' e) (fset s.box e0 q e) t ∧ QT Tb (fset ty e0 t') (fset ty e0 t' (flip e)) (fset s.box e0 q (flip e)) t.dual
    obtain ⟨t, h1, h2⟩ := T.q2 e he he'
    by_cases w : e = e0
    · rw [w, fset_same, fset_same, fset_ne (flip_ne e0), fset_ne (flip_ne e0)]
      rw [w] at h1 h2
      exact ⟨t, tl t h1, cg _ (nb _) h2⟩
    · by_cases w2 : flip e = e0
      · rw [w2, fset_same, fset_same, fset_ne w, fset_ne w]
        rw [w2] at h2
        exact ⟨t, cg _ (nb _) h1, tl _ h2⟩
      · rw [fset_ne w, fset_ne w, fset_ne w2, fset_ne w2]
        exact ⟨t, cg _ (nb _) h1, cg _ (nb _) h2⟩
  · have F2 : Forest (fun e => s.live e ∧ e ∉ ([] : List End)) s.both (v.lc loc (.a i)) := by
      cases v with
      | en e =>
        refine F.slide (e := e) (y := .a i) ⟨(hvl e rfl).1, by simp⟩ fset_same (fun f h => fset_ne h) fun S R n => ?_
        have h1 := R.1 e0 ⟨le0.1, by simp⟩ (hvl e rfl).2.2.1.symm
        rw [(hvl e rfl).2.1, h1, le0.2.2]
      | _ => exact F
    exact F2.mono (fun e he => ⟨⟨(lv e).mp he.1, he.2⟩, rfl⟩) fun c hc => ⟨(lv _).mp hc.1, (lv _).mp hc.2⟩

/-! ### opening -/
/-- some ends slide from x over the conversation c to y -/
theorem Forest.slides {on : End → Prop} {cv : Nat → Prop} {x y : Nd} {c : Nat} (h0 : on (c, false)) (h1 : on (c, true)) (hc : cv c) : ∀ (d : List End) (loc : End → Nd), Forest on cv loc → (∀ e ∈ d, on e ∧ loc e = x ∧ e.1 ≠ c) → d.Nodup → loc (c, false) = x → loc (c, true) = y →
    Forest on cv fun e => if e ∈ d then y else loc e
  | [], loc, F, _, _, _, _ => by
    have e : (fun e => if e ∈ ([] : List End) then y else loc e) = loc := by
      funext e
      simp
    rw [e]
    exact F
  | e :: d, loc, F, hd, nd, l0, l1 => by
    obtain ⟨n1, n2⟩ := List.nodup_cons.mp nd
    have he := hd e List.mem_cons_self
    have F1 : Forest on cv (fset loc e y) := F.slide he.1 fset_same (fun f h => fset_ne h) fun S R n => by
      have q0 := R.1 (c, false) h0 fun z => he.2.2 (by rw [← z])
      have q1 := R.1 (c, true) h1 fun z => he.2.2 (by rw [← z])
      have q2 := R.2 c hc fun h => h
      rw [he.2.1, ← l0, ← q0, q2, q1, l1]
    have F2 := Forest.slides h0 h1 hc d (fset loc e y) F1 (fun f hf => by
      have z := hd f (List.mem_cons_of_mem _ hf)
      exact ⟨z.1, by rw [fset_ne fun q => n1 (by rw [← q]; exact hf)]; exact z.2.1, z.2.2⟩) n2 ((fset_ne fun q => he.2.2 (congrArg (·.1) q.symm)).trans l0) ((fset_ne fun q => he.2.2 (congrArg (·.1) q.symm)).trans l1)
    have e2 : (fun f => if f ∈ e :: d then y else loc f) = fun f => if f ∈ d then y else fset loc e y f := by
      funext f
      by_cases q : f = e
      · subst q
        rw [if_pos List.mem_cons_self, if_neg n1, fset_same]
      · rw [fset_ne q]
        by_cases q2 : f ∈ d
        · rw [if_pos q2, if_pos (List.mem_cons_of_mem _ q2)]
        · rw [if_neg q2, if_neg]
          rw [List.mem_cons]
          exact fun z => z.elim q q2
    rw [e2]
    exact F2
def Sta.open_ (s : Sta) (i : Nat) (m : Names) (b : Blk) (m2 : Names) (b2 : Blk) : Sta where
  n := s.n + 1
  mark := fun e => if e.1 = s.n then .held else s.mark e
  box := fun e => if e.1 = s.n then [] else s.box e
  na := s.na + 1
  run := fset s.run s.na true
  nm := fset (fset s.nm s.na m2) i m
  rest := fset (fset s.rest s.na b2) i b
def oty (ty : End → Talk) (n : Nat) (t : Talk) : End → Talk := fun e => if e.1 = n then (if e.2 = true then t else t.dual) else ty e
theorem Inv.opens (I : Inv Tb D s [] loc ty) {i : Nat} {m m2 : Names} {b b2 : Blk} {d : List End} {t : Talk} (hi : s.run i = true) (hd : d.Nodup) (hds : ∀ e ∈ d, e ∈ endsN (s.nm i))
    (hm : (endsN m).Nodup) (hme : ∀ e, e ∈ endsN m ↔ (e ∈ endsN (s.nm i) ∧ e ∉ d) ∨ e = (s.n, false)) (hm2 : (endsN m2).Nodup) (hme2 : ∀ e, e ∈ endsN m2 ↔ e ∈ d ∨ e = (s.n, true))
    (hc : ∃ g, CtxOk g m (oty ty s.n t) ∧ b.T Tb D.sg g) (hc2 : ∃ g, CtxOk g m2 (oty ty s.n t) ∧ b2.T Tb D.sg g) :
    ∃ loc', Inv Tb D (s.open_ i m b m2 b2) [] loc' (oty ty s.n t) := by
  obtain ⟨L, T, F⟩ := I
  have ai := L.act i hi
  have hin : i < s.na := L.rn i hi
  have dl : ∀ e ∈ d, s.live e ∧ e ∉ ([] : List End) ∧ loc e = .a i := fun e h => (ai.2 e).mp (hds e h)
  have dn : ∀ e ∈ d, e.1 ≠ s.n := fun e h => Nat.ne_of_lt (dl e h).1.1
  let loc1 : End → Nd := fun e => if e.1 = s.n then (if e.2 = true then .a s.na else .a i) else loc e
  let loc2 : End → Nd := fun e => if e ∈ d then .a s.na else loc1 e
  have lv : ∀ f, (s.open_ i m b m2 b2).live f ↔ s.live f ∨ f.1 = s.n := fun f => by
    show (f.1 < s.n + 1 ∧ ((if f.1 = s.n then Mark.held else s.mark f) = .held ∨ (if f.1 = s.n then Mark.held else s.mark f) = .sent)) ↔ _
    by_cases q : f.1 = s.n
    · rw [if_pos q]
      exact ⟨fun _ => .inr q, fun _ => ⟨by omega, .inl rfl⟩⟩
    · rw [if_neg q]
      constructor
      · rintro ⟨a, b⟩
        exact .inl ⟨by omega, b⟩
      · rintro (⟨a, b⟩ | a)
        · exact ⟨by omega, b⟩
        · exact absurd a q
  have nl : ∀ f, s.live f → f.1 ≠ s.n := fun f h => Nat.ne_of_lt h.1
  have bt : ∀ c, (s.open_ i m b m2 b2).both c ↔ s.both c ∨ c = s.n := fun c => by
    show _ ∧ _ ↔ _
    rw [lv, lv]
    constructor
    · rintro ⟨a | a, b | b⟩
      · exact .inl ⟨a, b⟩
      · exact .inr b
      · exact .inr a
      · exact .inr a
    · rintro (⟨a, b⟩ | a)
      · exact ⟨.inl a, .inl b⟩
      · exact ⟨.inr a, .inr a⟩
  have lo1 : ∀ f, f.1 ≠ s.n → loc1 f = loc f := fun f h => if_neg h
  have lo2 : ∀ f, f.1 ≠ s.n → f ∉ d → loc2 f = loc f := fun f h h2 => (if_neg h2).trans (lo1 f h)
  have l2d : ∀ f, f ∈ d → loc2 f = .a s.na := fun f h => if_pos h
  have l20 : loc2 (s.n, false) = .a i := by
    show (if (s.n, false) ∈ d then _ else if s.n = s.n then _ else _) = _
    rw [if_neg fun h => dn _ h rfl, if_pos rfl]
    rfl
  have l21 : loc2 (s.n, true) = .a s.na := by
    show (if (s.n, true) ∈ d then _ else if s.n = s.n then _ else _) = _
    rw [if_neg fun h => dn _ h rfl, if_pos rfl]
    rfl
  have two : ∀ f : End, f.1 = s.n → f = (s.n, false) ∨ f = (s.n, true) := fun f h => by
    obtain ⟨x, z⟩ := f
    subst h
    cases z
    · exact .inl rfl
    · exact .inr rfl
  have rn2 : ∀ j, fset s.run s.na true j = true → j = s.na ∨ (s.run j = true ∧ j ≠ s.na) := fun j h => by
    by_cases q : j = s.na
    · exact .inl q
    · rw [fset_ne q] at h
      exact .inr ⟨h, q⟩
  have noa : ∀ f, s.live f → loc f ≠ .a s.na := fun f h q => by
    rcases L.there f h (by simp) with ⟨j, h1, h2, _⟩ | ⟨g, h1, _⟩
    · rw [q] at h1
      cases h1
      exact absurd (L.rn _ h2) (Nat.lt_irrefl _)
    · rw [q] at h1
      cases h1
  have tyo : ∀ e, e.1 ≠ s.n → oty ty s.n t e = ty e := fun e h => if_neg h
  have lbox : ∀ f e, e ∈ endsN (s.box f) → s.live e := fun f e h => by
    by_cases hf : f.1 < s.n
    · exact ((L.box f hf).2 e |>.mp h).1
    · rw [L.dead f fun q => hf q.1] at h
      cases h
  have cg : ∀ f {a b : Talk}, QT Tb ty a (s.box f) b → QT Tb (oty ty s.n t) a (s.box f) b := fun f a b h => h.congr fun e he => tyo e (nl e (lbox f e he))
  refine ⟨loc2, ⟨fun j hj => ?_, fun j hj => ?_, fun f hf => ?_, fun e he _ => ?_, List.nodup_nil, fun e he => (by cases he), fun f hf => ?_⟩, ⟨fun e he => ?_, fun e he he' => ?_, fun j hj => ?_⟩, ?_⟩
  · rcases rn2 j hj with h | h
    · show j < s.na + 1
      omega
    · have z := L.rn j h.1
      show j < s.na + 1
      omega
  · show (endsN (fset (fset s.nm s.na m2) i m j)).Nodup ∧ ∀ e, e ∈ endsN (fset (fset s.nm s.na m2) i m j) ↔ _
    by_cases q : j = i
    · subst q
      rw [fset_same]
      refine ⟨hm, fun x => ?_⟩
      rw [hme, ai.2 x, lv x]
      constructor
      · rintro (⟨⟨a, _, c⟩, e⟩ | e)
        · exact ⟨.inl a, by simp, by rw [lo2 x (nl x a) e]; exact c⟩
        · subst e
          exact ⟨.inr rfl, by simp, l20⟩
      · rintro ⟨a, b, c⟩
        by_cases h : x ∈ d
        · rw [l2d x h] at c
          cases c
          exact absurd hin (Nat.lt_irrefl _)
        · rcases a with a | a
          · rw [lo2 x (nl x a) h] at c
            exact .inl ⟨⟨a, b, c⟩, h⟩
          · rcases two x a with e | e
            · exact .inr e
            · rw [e, l21] at c
              cases c
              exact absurd hin (Nat.lt_irrefl _)
    · rw [fset_ne q]
      rcases rn2 j hj with h | ⟨h, h'⟩
      · subst h
        rw [fset_same]
        refine ⟨hm2, fun x => ?_⟩
        rw [hme2, lv x]
        constructor
        · rintro (h | h)
          · exact ⟨.inl (dl x h).1, by simp, l2d x h⟩
          · subst h
            exact ⟨.inr rfl, by simp, l21⟩
        · rintro ⟨a, b, c⟩
          by_cases h : x ∈ d
          · exact .inl h
          · rcases a with a | a
            · rw [lo2 x (nl x a) h] at c
              exact absurd c (noa x a)
            · rcases two x a with e | e
              · rw [e, l20] at c
                cases c
                exact absurd hin (Nat.lt_irrefl _)
              · exact .inr e
      · rw [fset_ne h']
        have aj := L.act j h
        refine ⟨aj.1, fun x => ?_⟩
        rw [aj.2 x, lv x]
        constructor
        · rintro ⟨a, b, c⟩
          refine ⟨.inl a, b, ?_⟩
          rw [lo2 x (nl x a)]
          · exact c
          · intro w
            rw [(dl x w).2.2] at c
            cases c
            exact q rfl
        · rintro ⟨a, b, c⟩
          by_cases w : x ∈ d
          · rw [l2d x w] at c
            cases c
            exact absurd rfl h'
          · rcases a with a | a
            · rw [lo2 x (nl x a) w] at c
              exact ⟨a, b, c⟩
            · rcases two x a with e | e
              · rw [e, l20] at c
                cases c
                exact absurd rfl q
              · rw [e, l21] at c
                cases c
                exact absurd rfl h'
  · show (endsN (if f.1 = s.n then [] else s.box f)).Nodup ∧ ∀ e, e ∈ endsN (if f.1 = s.n then [] else s.box f) ↔ _
    by_cases q : f.1 = s.n
    · rw [if_pos q]
      refine ⟨List.nodup_nil, fun x => ⟨fun h => (by cases h), ?_⟩⟩
      rintro ⟨a, b, c⟩
      rw [lv x] at a
      by_cases w : x ∈ d
      · rw [l2d x w] at c
        cases c
      · rcases a with a | a
        · rw [lo2 x (nl x a) w] at c
          rcases L.there x a (by simp) with ⟨j, h1, _⟩ | ⟨g, h1, h2, _⟩
          · rw [c] at h1
            cases h1
          · rw [c] at h1
            cases h1
            exact absurd h2.1 (by omega)
        · rcases two x a with e | e
          · rw [e, l20] at c
            cases c
          · rw [e, l21] at c
            cases c
    · rw [if_neg q]
      have hf' : f.1 < s.n + 1 := hf
      have bf := L.box f (by omega)
      refine ⟨bf.1, fun x => ?_⟩
      rw [bf.2 x, lv x]
      constructor
      · rintro ⟨a, b, c⟩
        refine ⟨.inl a, b, ?_⟩
        rw [lo2 x (nl x a)]
        · exact c
        · intro w
          rw [(dl x w).2.2] at c
          cases c
      · rintro ⟨a, b, c⟩
        by_cases w : x ∈ d
        · rw [l2d x w] at c
          cases c
        · rcases a with a | a
          · rw [lo2 x (nl x a) w] at c
            exact ⟨a, b, c⟩
          · rcases two x a with e | e
            · rw [e, l20] at c
              cases c
            · rw [e, l21] at c
              cases c
  · show (∃ j, loc2 e = .a j ∧ fset s.run s.na true j = true ∧ (if e.1 = s.n then Mark.held else s.mark e) = .held) ∨ ∃ f, loc2 e = .e f ∧ (s.open_ i m b m2 b2).live f ∧ (if e.1 = s.n then Mark.held else s.mark e) = .sent
    have ri : fset s.run s.na true i = true := by
      rw [fset_ne (Nat.ne_of_lt hin)]
      exact hi
    by_cases q : e.1 = s.n
    · rw [if_pos q]
      rcases two e q with w | w
      · rw [w]
        exact .inl ⟨i, l20, ri, rfl⟩
      · rw [w]
        exact .inl ⟨s.na, l21, fset_same, rfl⟩
    · rw [if_neg q]
      have he := ((lv e).mp he).resolve_right q
      rcases L.there e he (by simp) with ⟨j, h1, h2, h3⟩ | ⟨f, h1, h2, h3⟩
      · by_cases w : e ∈ d
        · exact .inl ⟨s.na, l2d e w, fset_same, h3⟩
        · refine .inl ⟨j, (lo2 e q w).trans h1, ?_, h3⟩
          rw [fset_ne (Nat.ne_of_lt (L.rn j h2))]
          exact h2
      · have w : e ∉ d := fun w => by
          rw [(dl e w).2.2] at h1
          cases h1
        exact .inr ⟨f, (lo2 e q w).trans h1, (lv f).mpr (.inl h2), h3⟩
  · show (if f.1 = s.n then [] else s.box f) = []
    by_cases q : f.1 = s.n
    · rw [if_pos q]
    · rw [if_neg q]
      exact L.dead f fun h => hf ((lv f).mpr (.inl h))
  · show ∃ u, QT Tb (oty ty s.n t) (oty ty s.n t e) (if e.1 = s.n then [] else s.box e) u
    by_cases q : e.1 = s.n
    · rw [if_pos q]
      exact ⟨_, rfl⟩
    · rw [if_neg q, tyo e q]
      obtain ⟨u, h⟩ := T.q1 e (((lv e).mp he).resolve_right q)
      exact ⟨u, cg e h⟩
  · show ∃ u, QT Tb (oty ty s.n t) (oty ty s.n t e) (if e.1 = s.n then [] else s.box e) u ∧ QT Tb (oty ty s.n t) (oty ty s.n t (flip e)) (if e.1 = s.n then [] else s.box (flip e)) u.dual
    by_cases q : e.1 = s.n
    · rw [if_pos q, if_pos q]
      refine ⟨_, rfl, ?_⟩
      show oty ty s.n t (flip e) = (oty ty s.n t e).dual
      obtain ⟨c, z⟩ := e
      subst q
      cases z
      · show (if s.n = s.n then t else _) = (if s.n = s.n then t.dual else _).dual
        rw [if_pos rfl, if_pos rfl, Talk.dual_dual]
      · show (if s.n = s.n then t.dual else _) = (if s.n = s.n then t else _).dual
        rw [if_pos rfl, if_pos rfl]
    · have q' : (flip e).1 ≠ s.n := q
      rw [if_neg q, if_neg q, tyo e q, tyo _ q']
      obtain ⟨u, h1, h2⟩ := T.q2 e (((lv e).mp he).resolve_right q) (((lv _).mp he').resolve_right q')
      exact ⟨u, cg _ h1, cg _ h2⟩
  · show ∃ g, CtxOk g (fset (fset s.nm s.na m2) i m j) (oty ty s.n t) ∧ (fset (fset s.rest s.na b2) i b j).T Tb D.sg g
    by_cases q : j = i
    · rw [q, fset_same, fset_same]
      exact hc
    · rw [fset_ne q, fset_ne q]
      rcases rn2 j hj with h | ⟨h, h'⟩
      · rw [h, fset_same, fset_same]
        exact hc2
      · rw [fset_ne h', fset_ne h']
        obtain ⟨g, a, b⟩ := T.code j h
        exact ⟨g, a.congr fun e he => tyo e (nl e (((L.act j h).2 e).mp he).1), b⟩
  · have F1 : Forest (fun e => (s.open_ i m b m2 b2).live e ∧ e ∉ ([] : List End)) (s.open_ i m b m2 b2).both loc1 := by
      refine F.grow (c := s.n) (i := i) (j := s.na) (Nat.ne_of_lt hin) (fun z h => absurd h.1.1 (Nat.lt_irrefl _)) (fun h => absurd h.1.1 (Nat.lt_irrefl _)) (fun f hf => ⟨noa f hf.1, fun z q => ?_⟩) (fun f => ?_) bt ?_ ?_ lo1
      · rcases L.there f hf.1 (by simp) with ⟨j, h1, _⟩ | ⟨g, h1, h2, _⟩
        · rw [q] at h1
          cases h1
        · rw [q] at h1
          cases h1
          exact absurd h2.1 (Nat.lt_irrefl _)
      · show (_ ∧ _) ↔ _
        rw [lv f]
        simp
      · show (if s.n = s.n then _ else _) = _
        rw [if_pos rfl]
        rfl
      · show (if s.n = s.n then _ else _) = _
        rw [if_pos rfl]
        rfl
    refine Forest.slides (c := s.n) (x := .a i) (y := .a s.na) ⟨(lv _).mpr (.inr rfl), by simp⟩ ⟨(lv _).mpr (.inr rfl), by simp⟩ ((bt _).mpr (.inr rfl)) d loc1 F1 (fun e he => ⟨⟨(lv e).mpr (.inl (dl e he).1), by simp⟩, ?_, dn e he⟩) hd ?_ ?_
    · rw [lo1 e (dn e he)]
      exact (dl e he).2.2
    · show (if s.n = s.n then _ else _) = _
      rw [if_pos rfl]
      rfl
    · show (if s.n = s.n then _ else _) = _
      rw [if_pos rfl]
      rfl
end
end G

/-! part Pl -/
set_option Elab.async false
set_option linter.all false
set_option maxHeartbeats 4000000
/-! What the law asks, out of the invariant. -/
namespace G
open PySem
theorem pigeon : ∀ (n : Nat) (l : List Nat), l.Nodup → (∀ x ∈ l, x < n) → l.length ≤ n
  | 0, l, _, h => by
    cases l with
    | nil => exact Nat.le_refl _
    | cons a r => exact absurd (h a List.mem_cons_self) (Nat.not_lt_zero _)
  | n + 1, l, nd, h => by
    by_cases q : n ∈ l
    · have h1 := pigeon n (l.erase n) (nd.erase n) fun x hx => by
        have z := (List.Nodup.mem_erase_iff nd).mp hx
        have := h x z.2
        omega
      rw [List.length_erase_of_mem q] at h1
      omega
    · have h1 := pigeon n l nd fun x hx => by
        have z := h x hx
        have w : x ≠ n := fun e => q (by rw [← e]; exact hx)
        omega
      omega
def code (e : End) : Nat := 2 * e.1 + (if e.2 = true then 1 else 0)
theorem code_inj {a b : End} (h : code a = code b) : a = b := by
  obtain ⟨x, s⟩ := a
  obtain ⟨y, t⟩ := b
  have h : 2 * x + (if s = true then 1 else 0) = 2 * y + (if t = true then 1 else 0) := h
  cases s <;> cases t <;> simp at h
  · have e : x = y := by omega
    rw [e]
  · omega
  · omega
  · have e : x = y := by omega
    rw [e]
/-- the way up from an end -/
inductive Up (loc : End → Nd) : End → Nat → Prop where
  | here {e : End} {i : Nat} : loc e = .a i → Up loc e i
  | more {e f : End} {i : Nat} : loc e = .e f → Up loc f i → Up loc e i
section
variable {Tb : Nat → Talk} {D : Defs} {s : Sta} {loc : End → Nd} {ty : End → Talk}
theorem hop_hop {loc : End → Nd} {e f : End} {j : Nat} (h : hop loc j e = .e f) : ∀ m, hop loc m f = hop loc (j + m) e
  | 0 => h.symm
  | m + 1 => by
    show (match hop loc m f with | .e f => loc f | .a i => .a i) = (match hop loc (j + m) e with | .e f => loc f | .a i => .a i)
    rw [hop_hop h m]
theorem hop_down {loc : End → Nd} {e f : End} : ∀ {k : Nat} (j : Nat), j ≤ k → hop loc k e = .e f → ∃ g, hop loc j e = .e g
  | 0, j, hj, h => ⟨f, by rw [show j = 0 by omega]; exact h⟩
  | k + 1, j, hj, h => by
    by_cases q : j = k + 1
    · rw [q]
      exact ⟨f, h⟩
    · cases z : hop loc k e with
      | a i =>
        have h2 : (match hop loc k e with | .e f => loc f | .a i => .a i) = .e f := h
        rw [z] at h2
        cases h2
      | e g => exact hop_down j (by omega) z
/-- the way up is short -/
theorem Inv.short (I : Inv Tb D s [] loc ty) {e : End} (he : s.live e) {k : Nat} {f : End} (h : hop loc k e = .e f) : k < 2 * s.n := by
  have up : ∀ f g, (s.live f ∧ f ∉ ([] : List End)) → loc f = .e g → (s.live g ∧ g ∉ ([] : List End)) := fun f g hf hg => by
    rcases I.lin.there f hf.1 hf.2 with ⟨i, h1, _⟩ | ⟨x, h1, h2, _⟩
    · rw [hg] at h1
      cases h1
    · rw [hg] at h1
      cases h1
      exact ⟨h2, by simp⟩
  have lv : ∀ j g, hop loc j e = .e g → s.live g := fun j => by
    induction j with
    | zero =>
      intro g hg
      have hg : Nd.e e = .e g := hg
      cases hg
      exact he
    | succ j ih =>
      intro g hg
      have h2 : (match hop loc j e with | .e f => loc f | .a i => .a i) = .e g := hg
      cases z : hop loc j e with
      | a i => rw [z] at h2; cases h2
      | e x =>
        rw [z] at h2
        exact (up x g ⟨ih x z, by simp⟩ h2).1
  -- the ends met, as numbers
  let g (j : Nat) : End := match hop loc j e with
    | .e x => x
    | .a _ => e
  have hg : ∀ j, j ≤ k → hop loc j e = .e (g j) := fun j hj => by
    obtain ⟨x, hx⟩ := hop_down j hj h
    show _ = Nd.e (match hop loc j e with | .e x => x | .a _ => e)
    rw [hx]
  have inj : ∀ i j, i < j → j ≤ k → g i ≠ g j := fun i j hij hj q => by
    have hi := hg i (by omega)
    have z := I.fo.noback (e := g i) up ⟨lv i _ hi, by simp⟩ (j - i - 1) (g j) (by
      rw [hop_hop hi, show i + (j - i - 1 + 1) = j by omega]
      exact hg j hj)
    exact z.1 q.symm
  have nd : ((List.range (k + 1)).map fun j => code (g j)).Nodup := by
    refine List.pairwise_map.mpr (List.Pairwise.imp_of_mem (fun {a b} ha hb hab q => ?_) (List.pairwise_lt_range (n := k + 1)))
    have h1 := List.mem_range.mp hb
    exact inj a b hab (by omega) (code_inj q)
  have z := pigeon (2 * s.n) _ nd fun x hx => by
    obtain ⟨j, hj, rfl⟩ := List.mem_map.mp hx
    have l1 := (lv j _ (hg j (by have := List.mem_range.mp hj; omega))).1
    unfold code
    split <;> omega
  rw [List.length_map, List.length_range] at z
  omega
theorem Up.cut {loc : End → Nd} {S : Nd → Bool} (hS : ∀ f, s.live f → S (.e f) = S (loc f)) (up : ∀ f g, s.live f → loc f = .e g → s.live g) : ∀ {e : End} {i : Nat}, Up loc e i → s.live e → S (.e e) = S (.a i) := fun h => by
  induction h with
  | here h =>
    intro he
    rw [hS _ he, h]
  | more h _ ih =>
    intro he
    rw [hS _ he, h]
    exact ih (up _ _ he h)
theorem Inv.up (I : Inv Tb D s [] loc ty) (f g : End) (hf : s.live f) (hg : loc f = .e g) : s.live g := by
  rcases I.lin.there f hf (by simp) with ⟨i, h1, _⟩ | ⟨x, h1, h2, _⟩
  · rw [hg] at h1
    cases h1
  · rw [hg] at h1
    cases h1
    exact h2
/-- the table of parents, ahead of the conversation c: it never leads over an edge that is not yet looked at -/
def Uf (s : Sta) (loc : End → Nd) (c : Nat) (par : Nat → Option Nat) : Prop :=
  ∀ S : Nd → Bool, (∀ f, s.live f → S (.e f) = S (loc f)) → (∀ d, d < c → s.both d → S (.e (d, false)) = S (.e (d, true))) → ∀ k v, par k = some v → S (.a k) = S (.a v)
/-- a walk along parents -/
inductive Wk (par : Nat → Option Nat) : Nat → Nat → Prop where
  | stay {a : Nat} : Wk par a a
  | go {a b c : Nat} : Wk par a b → par b = some c → Wk par a c
theorem Wk.cut {par : Nat → Option Nat} {S : Nd → Bool} (h : ∀ k v, par k = some v → S (.a k) = S (.a v)) {a b : Nat} (w : Wk par a b) : S (.a a) = S (.a b) := by
  induction w with
  | stay => rfl
  | go _ q ih => rw [ih, h _ _ q]
theorem uf_zero (s : Sta) (loc : End → Nd) : Uf s loc 0 fun _ => none := fun _ _ _ _ _ h => by cases h
theorem Uf.skip {par : Nat → Option Nat} {c : Nat} (U : Uf s loc c par) : Uf s loc (c + 1) par := fun S h1 h2 => U S h1 fun d hd => h2 d (by omega)
/-- both roots differ, and may be joined -/
theorem Uf.join (I : Inv Tb D s [] loc ty) {par : Nat → Option Nat} {c a1 a2 r1 r2 : Nat} (U : Uf s loc c par) (hc : s.both c) (u1 : Up loc (c, false) a1) (u2 : Up loc (c, true) a2) (w1 : Wk par a1 r1) (w2 : Wk par a2 r2) :
    r1 ≠ r2 ∧ Uf s loc (c + 1) (fset par r1 (some r2)) := by
  constructor
  · obtain ⟨S, n, q1, q2⟩ := I.fo.cc c hc
    have h1 : ∀ f, s.live f → S (.e f) = S (loc f) := fun f hf => q1 f ⟨hf, by simp⟩ fun h => h
    have h2 := U S h1 fun d hd hb => q2 d hb (Nat.ne_of_lt hd)
    intro e
    apply n
    rw [u1.cut h1 I.up hc.1, u2.cut h1 I.up hc.2, w1.cut h2, w2.cut h2, e]
  · intro S h1 h2 k v hk
    have h3 := U S h1 fun d hd => h2 d (by omega)
    by_cases q : k = r1
    · rw [q, fset_same] at hk
      cases hk
      rw [q, ← w1.cut h3, ← w2.cut h3, ← u1.cut h1 I.up hc.1, ← u2.cut h1 I.up hc.2]
      exact h2 c (by omega) hc
    · rw [fset_ne q] at hk
      exact h3 k v hk
/-! ### places -/
abbrev Pls := List (End × Nd)
def plA (s : Sta) (i : Nat) : Pls := (endsN (s.nm i)).map fun e => (e, .a i)
def plB (s : Sta) (f : End) : Pls := (endsN (s.box f)).map fun e => (e, .e f)
def runL (s : Sta) : List Nat := (List.range s.na).filter fun i => s.run i
def sidesL (n : Nat) : List End := (List.range n).flatMap fun c => [(c, false), (c, true)]
def places (s : Sta) : Pls := (runL s).flatMap (plA s) ++ (sidesL s.n).flatMap (plB s)
def found (p : Pls) (e : End) : List Nd := (p.filter fun x => decide (x.1 = e)).map (·.2)
theorem found_app (p q : Pls) (e : End) : found (p ++ q) e = found p e ++ found q e := by
  unfold found
  rw [List.filter_append, List.map_append]
theorem found_flat {α : Type} (g : α → Pls) (e : End) : ∀ l : List α, found (l.flatMap g) e = l.flatMap fun x => found (g x) e
  | [] => rfl
  | x :: l => by
    rw [List.flatMap_cons, found_app, found_flat g e l, List.flatMap_cons]
theorem found_map (l : List End) (y : Nd) (e : End) (nd : l.Nodup) : found (l.map fun x => (x, y)) e = if e ∈ l then [y] else [] := by
  induction l with
  | nil => rfl
  | cons x l ih =>
    obtain ⟨n1, n2⟩ := List.nodup_cons.mp nd
    have ih := ih n2
    unfold found at ih ⊢
    rw [List.map_cons, List.filter_cons]
    by_cases q : x = e
    · subst q
      rw [if_neg n1] at ih
      rw [if_pos (decide_eq_true rfl), List.map_cons, ih, if_pos List.mem_cons_self]
    · rw [if_neg (by simp [q]), ih]
      by_cases w : e ∈ l
      · rw [if_pos w, if_pos (List.mem_cons_of_mem _ w)]
      · rw [if_neg w, if_neg]
        rw [List.mem_cons]
        exact fun z => z.elim (fun z => q z.symm) w
theorem flat_none {α β : Type} {g : α → List β} : ∀ {l : List α}, (∀ x ∈ l, g x = []) → l.flatMap g = []
  | [], _ => rfl
  | x :: l, h => by
    rw [List.flatMap_cons, h x List.mem_cons_self, flat_none fun y hy => h y (List.mem_cons_of_mem _ hy)]
    rfl
theorem flat_one {α β : Type} {g : α → List β} {x : α} : ∀ {l : List α}, l.Nodup → x ∈ l → (∀ y ∈ l, y ≠ x → g y = []) → l.flatMap g = g x
  | [], _, h, _ => by cases h
  | y :: l, nd, h, k => by
    obtain ⟨n1, n2⟩ := List.nodup_cons.mp nd
    rw [List.flatMap_cons]
    rcases List.mem_cons.mp h with q | q
    · subst q
      rw [flat_none fun z hz => k z (List.mem_cons_of_mem _ hz) fun w => n1 (by rw [← w]; exact hz), List.append_nil]
    · rw [k y List.mem_cons_self fun w => n1 (by rw [w]; exact q), List.nil_append]
      exact flat_one n2 q fun z hz => k z (List.mem_cons_of_mem _ hz)
theorem mem_sides {n : Nat} {f : End} : f ∈ sidesL n ↔ f.1 < n := by
  unfold sidesL
  rw [List.mem_flatMap]
  constructor
  · rintro ⟨c, hc, h⟩
    have hc := List.mem_range.mp hc
    simp at h
    rcases h with h | h
    · rw [h]
      exact hc
    · rw [h]
      exact hc
  · intro h
    obtain ⟨c, b⟩ := f
    refine ⟨c, List.mem_range.mpr h, ?_⟩
    cases b <;> simp
theorem nd_sides : ∀ n, (sidesL n).Nodup
  | 0 => List.nodup_nil
  | n + 1 => by
    have e : sidesL (n + 1) = sidesL n ++ [(n, false), (n, true)] := by
      unfold sidesL
      rw [List.range_succ, List.flatMap_append]
      simp
    rw [e]
    refine List.nodup_append.mpr ⟨nd_sides n, by simp, fun a ha b hb q => ?_⟩
    subst q
    have h1 := mem_sides.mp ha
    simp at hb
    rcases hb with h | h
    · rw [h] at h1
      exact absurd h1 (Nat.lt_irrefl _)
    · rw [h] at h1
      exact absurd h1 (Nat.lt_irrefl _)
theorem mem_runL (L : Lin s [] loc) {i : Nat} : i ∈ runL s ↔ s.run i = true := by
  unfold runL
  rw [List.mem_filter, List.mem_range]
  exact ⟨fun h => h.2, fun h => ⟨L.rn i h, h⟩⟩
theorem nd_runL (s : Sta) : (runL s).Nodup := List.nodup_range.filter _
open Classical in
/-- each end that is there stands at its one place -/
theorem Inv.found (I : Inv Tb D s [] loc ty) (e : End) : (s.live e → found (places s) e = [loc e]) ∧ (¬ s.live e → G.found (places s) e = []) := by
  have fa : ∀ i, s.run i = true → G.found (plA s i) e = if s.live e ∧ loc e = .a i then [Nd.a i] else [] := fun i hi => by
    have a := I.lin.act i hi
    unfold plA
    rw [found_map _ _ _ a.1]
    by_cases q : e ∈ endsN (s.nm i)
    · have z := (a.2 e).mp q
      rw [if_pos q, if_pos ⟨z.1, z.2.2⟩]
    · rw [if_neg q, if_neg]
      exact fun z => q ((a.2 e).mpr ⟨z.1, by simp, z.2⟩)
  have fb : ∀ f, f.1 < s.n → G.found (plB s f) e = if s.live e ∧ loc e = .e f then [Nd.e f] else [] := fun f hf => by
    have a := I.lin.box f hf
    unfold plB
    rw [found_map _ _ _ a.1]
    by_cases q : e ∈ endsN (s.box f)
    · have z := (a.2 e).mp q
      rw [if_pos q, if_pos ⟨z.1, z.2.2⟩]
    · rw [if_neg q, if_neg]
      exact fun z => q ((a.2 e).mpr ⟨z.1, by simp, z.2⟩)
  unfold places
  rw [found_app, found_flat, found_flat]
  constructor
  · intro he
    rcases I.lin.there e he (by simp) with ⟨i, h1, h2, _⟩ | ⟨f, h1, h2, _⟩
    · rw [flat_one (nd_runL s) ((mem_runL I.lin).mpr h2) fun y hy q => ?_, fa i h2, if_pos ⟨he, h1⟩, flat_none fun f hf => ?_, List.append_nil, h1]
      · rw [fb f (mem_sides.mp hf), if_neg]
        rintro ⟨_, z⟩
        rw [h1] at z
        cases z
      · rw [fa y ((mem_runL I.lin).mp hy), if_neg]
        rintro ⟨_, z⟩
        rw [h1] at z
        cases z
        exact q rfl
    · rw [flat_none fun i hi => ?_, List.nil_append, flat_one (nd_sides s.n) (mem_sides.mpr h2.1) fun y hy q => ?_, fb f h2.1, if_pos ⟨he, h1⟩, h1]
      · rw [fb y (mem_sides.mp hy), if_neg]
        rintro ⟨_, z⟩
        rw [h1] at z
        cases z
        exact q rfl
      · rw [fa i ((mem_runL I.lin).mp hi), if_neg]
        rintro ⟨_, z⟩
        rw [h1] at z
        cases z
  · intro he
    rw [flat_none fun i hi => ?_, flat_none fun f hf => ?_]
    · rfl
    · rw [fb f (mem_sides.mp hf), if_neg fun z => he z.1]
    · rw [fa i ((mem_runL I.lin).mp hi), if_neg fun z => he z.1]
end
end G

/-! part Pm -/
set_option Elab.async false
set_option linter.all false
set_option maxHeartbeats 4000000
/-! Names and contexts: a name more, a name less. -/
namespace G
open PySem
variable {g : Ctx} {m : Names} {ty : End → Talk} {x : Str} {a : AV} {t : Ty} {e : End}
theorem lk_app {m : Names} {x y : Str} {a : AV} : (m ++ [(x, a)]).lookup y = match m.lookup y with
    | some b => some b
    | none => if y = x then some a else none := by
  induction m with
  | nil =>
    show List.lookup y [(x, a)] = _
    rw [List.lookup_cons]
    by_cases h : y = x
    · rw [h, beq_self_eq_true]
      simp
    · rw [beq_eq_false_iff_ne.mpr h]
      simp [h]
  | cons p r ih =>
    obtain ⟨z, b⟩ := p
    show List.lookup y ((z, b) :: (r ++ [(x, a)])) = _
    rw [List.lookup_cons, List.lookup_cons]
    by_cases h : y = z
    · rw [h, beq_self_eq_true]
    · rw [beq_eq_false_iff_ne.mpr h]
      exact ih
theorem CtxOk.put (h : CtxOk g m ty) (hx : g x = none) (ha : AT ty a t) : CtxOk (g.put x t) (m ++ [(x, a)]) ty where
  k := fun y u hy => by
    rw [lk_app]
    by_cases c : y = x
    · subst c
      rw [Ctx.put_same] at hy
      cases hy
      rw [h.d _ hx]
      exact ⟨a, by simp, ha⟩
    · rw [Ctx.put_ne c] at hy
      obtain ⟨b, h1, h2⟩ := h.k y u hy
      exact ⟨b, by rw [h1], h2⟩
  e := fun y f hy => by
    rw [lk_app] at hy
    by_cases c : y = x
    · subst c
      rw [h.d _ hx] at hy
      have hy : (if y = y then some a else none) = some (AV.en f) := hy
      rw [if_pos rfl] at hy
      cases hy
      rw [Ctx.put_same]
      cases t with
      | en u => exact ⟨u, rfl⟩
      | int => exact ha.elim
      | bool => exact ha.elim
    · rw [Ctx.put_ne c]
      cases e : m.lookup y with
      | none =>
        rw [e] at hy
        have hy : (if y = x then some a else none) = some (AV.en f) := hy
        rw [if_neg c] at hy
        cases hy
      | some b =>
        rw [e] at hy
        cases hy
        exact h.e y f e
  d := fun y hy => by
    by_cases c : y = x
    · subst c
      rw [Ctx.put_same] at hy
      cases hy
    · rw [Ctx.put_ne c] at hy
      rw [lk_app, h.d y hy]
      exact if_neg c
  nd := by
    rw [List.map_append]
    refine List.nodup_append.mpr ⟨h.nd, by simp, fun y hy z hz q => ?_⟩
    have hz : z = x := by simpa using hz
    obtain ⟨p, hp, e⟩ := List.mem_map.mp hy
    have h1 := (lookup_mem h.nd).mpr (show (p.1, p.2) ∈ m from hp)
    rw [e, q, hz, h.d _ hx] at h1
    cases h1
theorem lk_filter {m : Names} {q : Str × AV → Bool} (nd : (m.map (·.1)).Nodup) {y : Str} {b : AV} : (m.filter q).lookup y = some b ↔ m.lookup y = some b ∧ q (y, b) = true := by
  have nd2 : ((m.filter q).map (·.1)).Nodup := List.Sublist.nodup (List.Sublist.map _ List.filter_sublist) nd
  rw [lookup_mem nd2, lookup_mem nd, List.mem_filter]
/-- the name of an end that is let go leaves -/
theorem CtxOk.cut {q : Str × AV → Bool} {g' : Ctx} (h : CtxOk g m ty) (h1 : ∀ y b, m.lookup y = some b → q (y, b) = true → g' y = g y) (h2 : ∀ y u, g' y = some u → g y = some u ∧ ∀ b, m.lookup y = some b → q (y, b) = true) : CtxOk g' (m.filter q) ty where
  k := fun y u hy => by
    obtain ⟨h3, h4⟩ := h2 y u hy
    obtain ⟨b, h5, h6⟩ := h.k y u h3
    exact ⟨b, (lk_filter h.nd).mpr ⟨h5, h4 b h5⟩, h6⟩
  e := fun y f hy => by
    obtain ⟨h3, h4⟩ := (lk_filter h.nd).mp hy
    rw [h1 y _ h3 h4]
    exact h.e y f h3
  d := fun y hy => by
    cases e : (m.filter q).lookup y with
    | none => rfl
    | some b =>
      obtain ⟨h3, h4⟩ := (lk_filter h.nd).mp e
      rw [h1 y b h3 h4] at hy
      rw [h.d y hy] at h3
      cases h3
  nd := List.Sublist.nodup (List.Sublist.map _ List.filter_sublist) h.nd
theorem mem_endsN_filter {q : Str × AV → Bool} : e ∈ endsN (m.filter q) ↔ ∃ x, (x, AV.en e) ∈ m ∧ q (x, .en e) = true := by
  rw [mem_endsN]
  constructor
  · rintro ⟨x, h⟩
    exact ⟨x, (List.mem_filter.mp h).1, (List.mem_filter.mp h).2⟩
  · rintro ⟨x, h1, h2⟩
    exact ⟨x, List.mem_filter.mpr ⟨h1, h2⟩⟩
theorem endsN_filter_nd {q : Str × AV → Bool} (h : (endsN m).Nodup) : (endsN (m.filter q)).Nodup := by
  refine List.Sublist.nodup ?_ h
  unfold endsN
  exact List.Sublist.filterMap _ List.filter_sublist
/-- an end has one name -/
theorem name_one {y : Str} : ∀ {m : Names}, (endsN m).Nodup → (x, AV.en e) ∈ m → (y, AV.en e) ∈ m → (x, AV.en e) = (y, AV.en e)
  | [], _, h, _ => by cases h
  | (z, b) :: m, nd, h1, h2 => by
    have key : ∀ {w : Str}, (w, AV.en e) = (z, b) → (∀ {v : Str}, (v, AV.en e) ∈ m → False) := fun {w} hw {v} hv => by
      cases hw
      rw [endsN_en] at nd
      exact (List.nodup_cons.mp nd).1 (mem_endsN.mpr ⟨v, hv⟩)
    rcases List.mem_cons.mp h1 with a1 | a1 <;> rcases List.mem_cons.mp h2 with a2 | a2
    · rw [a1, a2]
    · exact (key a1 a2).elim
    · exact (key a2 a1).elim
    · refine name_one (m := m) ?_ a1 a2
      have : endsN ((z, b) :: m) = endsN [(z, b)] ++ endsN m := endsN_app [(z, b)] m
      rw [this] at nd
      exact (List.nodup_append.mp nd).2.1
/-- an end's name leaves the names and the context -/
theorem CtxOk.del (h : CtxOk g m ty) (nd : (endsN m).Nodup) (hx : m.lookup x = some (.en e)) : CtxOk (g.del x) (m.filter fun p => !decide (p.2 = .en e)) ty := by
  refine h.cut (fun y b h1 h2 => ?_) fun y u hy => ?_
  · refine Ctx.del_ne fun c => ?_
    subst c
    rw [hx] at h1
    cases h1
    simp at h2
  · by_cases c : y = x
    · subst c
      rw [Ctx.del_same] at hy
      cases hy
    · rw [Ctx.del_ne c] at hy
      refine ⟨hy, fun b hb => ?_⟩
      have hne : b ≠ .en e := fun z => by
        subst z
        have := name_one nd ((lookup_mem h.nd).mp hx) ((lookup_mem h.nd).mp hb)
        cases this
        exact c rfl
      show (!decide (b = .en e)) = true
      rw [decide_eq_false hne]
      rfl
end G

/-! part Pn -/
set_option Elab.async false
set_option linter.all false
set_option maxHeartbeats 4000000
/-! Arguments: the ends that go with them. -/
namespace G
open PySem
variable {ty : End → Talk}
/-- what the arguments come to -/
def EvL (m : Names) (ty : End → Talk) : List Exp → List Ty → List AV → Prop
  | [], [], [] => True
  | e :: es, t :: ts, a :: as => (AT ty a t ∧ ∀ x, e = .var x → m.lookup x = some a) ∧ EvL m ty es ts as
  | _, _, _ => False
theorem Args.var {y : Str} : ∀ {es : List Exp} {ts : List Ty} {g g' : Ctx}, Args g es ts g' → .var y ∈ es → g y ≠ none
  | [], _, _, _, _, h => by cases h
  | e :: es, [], _, _, h, _ => by cases e <;> exact h.elim
  | e :: es, .en t :: ts, g, g', h, hy => by
    obtain ⟨x, rfl, hx, h1⟩ := (show ∃ x, e = .var x ∧ g x = some (.en t) ∧ Args (g.del x) es ts g' from h)
    rcases List.mem_cons.mp hy with q | q
    · cases q
      rw [hx]
      simp
    · intro z
      refine Args.var h1 q ?_
      by_cases c : y = x
      · rw [c, Ctx.del_same]
      · rw [Ctx.del_ne c]
        exact z
  | e :: es, .int :: ts, g, g', h, hy => by
    obtain ⟨h1, h2, h3⟩ := (show e.T g .int ∧ e.dep ≤ 3 ∧ Args g es ts g' from h)
    rcases List.mem_cons.mp hy with q | q
    · subst q
      have h1 : g y = some .int := h1
      rw [h1]
      simp
    · exact Args.var h3 q
  | e :: es, .bool :: ts, g, g', h, hy => by
    obtain ⟨h1, h2, h3⟩ := (show e.T g .bool ∧ e.dep ≤ 3 ∧ Args g es ts g' from h)
    rcases List.mem_cons.mp hy with q | q
    · subst q
      have h1 : g y = some .bool := h1
      rw [h1]
      simp
    · exact Args.var h3 q
theorem EvL.imp {m m' : Names} : ∀ {es : List Exp} {ts : List Ty} {as : List AV}, (∀ y a, .var y ∈ es → m.lookup y = some a → m'.lookup y = some a) → EvL m ty es ts as → EvL m' ty es ts as
  | [], [], [], _, _ => trivial
  | e :: es, t :: ts, a :: as, k, ⟨⟨h1, h2⟩, h3⟩ => ⟨⟨h1, fun x hx => k x a (by rw [hx]; exact List.mem_cons_self) (h2 x hx)⟩, EvL.imp (fun y b hy => k y b (List.mem_cons_of_mem _ hy)) h3⟩
  | [], [], _ :: _, _, h => h.elim
  | [], _ :: _, _, _, h => h.elim
  | _ :: _, [], _, _, h => h.elim
  | _ :: _, _ :: _, [], _, h => h.elim
def endsA (as : List AV) : List End := as.filterMap AV.en?
def cutE (m : Names) (d : List End) : Names := m.filter fun p => !(d.any fun e => decide (p.2 = .en e))
theorem cutE_cons {m : Names} {e : End} {d : List End} : cutE (m.filter fun p => !decide (p.2 = .en e)) d = cutE m (e :: d) := by
  unfold cutE
  rw [List.filter_filter]
  congr 1
  funext p
  simp only [List.any_cons, Bool.not_or]
  exact Bool.and_comm _ _
theorem Args.ok : ∀ {es : List Exp} {ts : List Ty} {as : List AV} {g g' : Ctx} {m : Names}, CtxOk g m ty → (endsN m).Nodup → Args g es ts g' → EvL m ty es ts as → (endsA as).Nodup ∧ (∀ e ∈ endsA as, e ∈ endsN m) ∧ CtxOk g' (cutE m (endsA as)) ty
  | [], [], [], g, g', m, hc, nd, h, _ => by
    have h : g' = g := h
    subst h
    refine ⟨List.nodup_nil, fun e he => (by cases he), ?_⟩
    have e : cutE m (endsA []) = m := by
      unfold cutE endsA
      simp
    rw [e]
    exact hc
  | [], [], _ :: _, _, _, _, _, _, _, h => h.elim
  | [], _ :: _, _, _, _, _, _, _, h, _ => h.elim
  | _ :: _, [], _, _, _, _, _, _, _, h => h.elim
  | _ :: _, _ :: _, [], _, _, _, _, _, _, h => h.elim
  | e :: es, .int :: ts, a :: as, g, g', m, hc, nd, h, ⟨⟨h1, h2⟩, h3⟩ => by
    obtain ⟨_, _, h6⟩ := (show e.T g .int ∧ e.dep ≤ 3 ∧ Args g es ts g' from h)
    have ea : endsA (a :: as) = endsA as := by
      cases a <;> first | rfl | exact h1.elim
    rw [ea]
    exact Args.ok hc nd h6 h3
  | e :: es, .bool :: ts, a :: as, g, g', m, hc, nd, h, ⟨⟨h1, h2⟩, h3⟩ => by
    obtain ⟨_, _, h6⟩ := (show e.T g .bool ∧ e.dep ≤ 3 ∧ Args g es ts g' from h)
    have ea : endsA (a :: as) = endsA as := by
      cases a <;> first | rfl | exact h1.elim
    rw [ea]
    exact Args.ok hc nd h6 h3
  | e :: es, .en t :: ts, a :: as, g, g', m, hc, nd, h, ⟨⟨h1, h2⟩, h3⟩ => by
    obtain ⟨x, rfl, hx, h6⟩ := (show ∃ x, e = .var x ∧ g x = some (.en t) ∧ Args (g.del x) es ts g' from h)
    have hl := h2 x rfl
    cases a with
    | en f =>
      have hc1 := hc.del nd hl
      have nd1 : (endsN (m.filter fun p => !decide (p.2 = .en f))).Nodup := endsN_filter_nd nd
      have h3' : EvL (m.filter fun p => !decide (p.2 = .en f)) ty es ts as := h3.imp fun y b hy hb => by
        refine (lk_filter hc.nd).mpr ⟨hb, ?_⟩
        have ny := Args.var h6 hy
        have hne : b ≠ .en f := fun z => by
          subst z
          have := name_one nd ((lookup_mem hc.nd).mp hl) ((lookup_mem hc.nd).mp hb)
          cases this
          exact ny Ctx.del_same
        show (!decide (b = .en f)) = true
        rw [decide_eq_false hne]
        rfl
      obtain ⟨i1, i2, i3⟩ := Args.ok hc1 nd1 h6 h3'
      have ea : endsA (.en f :: as) = f :: endsA as := rfl
      rw [ea]
      refine ⟨List.nodup_cons.mpr ⟨fun z => ?_, i1⟩, fun e he => ?_, ?_⟩
      · obtain ⟨y, _, h8⟩ := mem_endsN_filter.mp (i2 f z)
        simp at h8
      · rcases List.mem_cons.mp he with q | q
        · rw [q]
          exact mem_endsN.mpr ⟨x, (lookup_mem hc.nd).mp hl⟩
        · obtain ⟨y, h8, _⟩ := mem_endsN_filter.mp (i2 e q)
          exact mem_endsN.mpr ⟨y, h8⟩
      · rw [← cutE_cons]
        exact i3
    | _ => exact h1.elim
end G

/-! part Pq -/
set_option Elab.async false
set_option linter.all false
set_option maxHeartbeats 4000000
/-! Arguments one by one; parameters bound to them. -/
namespace G
open PySem
variable {ty : End → Talk}
theorem Exp.T.mono {g g1 : Ctx} (h : ∀ x t, g1 x = some t → g x = some t) : ∀ {e : Exp} {t : Ty}, e.T g1 t → e.T g t
  | .int _, _, q => q
  | .bool _, _, q => q
  | .var x, t, q => h x t q
  | .neg e, t, ⟨q1, q2⟩ => ⟨q1, Exp.T.mono h q2⟩
  | .bin o a b, t, ⟨q1, q2, q3, q4⟩ => ⟨q1, Exp.T.mono h q2, Exp.T.mono h q3, q4⟩
theorem del_sub {g : Ctx} {x : Str} (y : Str) (t : Ty) (h : g.del x y = some t) : g y = some t := by
  by_cases c : y = x
  · subst c
    rw [Ctx.del_same] at h
    cases h
  · rw [Ctx.del_ne c] at h
    exact h
theorem del_none {g : Ctx} {x y : Str} (h : g y = none) : g.del x y = none := by
  by_cases c : y = x
  · rw [c]
    exact Ctx.del_same
  · rw [Ctx.del_ne c]
    exact h
theorem Args.at_ : ∀ {es : List Exp} {ts : List Ty} {g g' : Ctx} {i : Nat} {e : Exp} {t : Ty}, Args g es ts g' → es[i]? = some e → ts[i]? = some t → e.T g t ∧ e.dep ≤ 3
  | [], _, _, _, i, _, _, _, h, _ => by simp at h
  | e :: es, [], _, _, _, _, _, h, _, _ => by cases e <;> exact h.elim
  | e :: es, .en u :: ts, g, g', 0, e', t', h, h1, h2 => by
    cases h1
    cases h2
    obtain ⟨y, rfl, hy, _⟩ := (show ∃ x, e = .var x ∧ g x = some (.en u) ∧ Args (g.del x) es ts g' from h)
    exact ⟨hy, Nat.zero_le _⟩
  | e :: es, .en u :: ts, g, g', i + 1, e', t', h, h1, h2 => by
    obtain ⟨y, _, _, h6⟩ := (show ∃ x, e = .var x ∧ g x = some (.en u) ∧ Args (g.del x) es ts g' from h)
    obtain ⟨a, b⟩ := Args.at_ (i := i) h6 h1 h2
    exact ⟨a.mono del_sub, b⟩
  | e :: es, .int :: ts, g, g', 0, e', t', h, h1, h2 => by
    cases h1
    cases h2
    obtain ⟨h4, h5, h6⟩ := (show e.T g .int ∧ e.dep ≤ 3 ∧ Args g es ts g' from h)
    exact ⟨h4, h5⟩
  | e :: es, .int :: ts, g, g', i + 1, e', t', h, h1, h2 => by
    obtain ⟨h4, h5, h6⟩ := (show e.T g .int ∧ e.dep ≤ 3 ∧ Args g es ts g' from h)
    exact Args.at_ (i := i) h6 h1 h2
  | e :: es, .bool :: ts, g, g', 0, e', t', h, h1, h2 => by
    cases h1
    cases h2
    obtain ⟨h4, h5, h6⟩ := (show e.T g .bool ∧ e.dep ≤ 3 ∧ Args g es ts g' from h)
    exact ⟨h4, h5⟩
  | e :: es, .bool :: ts, g, g', i + 1, e', t', h, h1, h2 => by
    obtain ⟨h4, h5, h6⟩ := (show e.T g .bool ∧ e.dep ≤ 3 ∧ Args g es ts g' from h)
    exact Args.at_ (i := i) h6 h1 h2
theorem Args.len : ∀ {es : List Exp} {ts : List Ty} {g g' : Ctx}, Args g es ts g' → es.length = ts.length
  | [], [], _, _, _ => rfl
  | [], _ :: _, _, _, h => h.elim
  | e :: es, [], _, _, h => by cases e <;> exact h.elim
  | e :: es, .en u :: ts, g, g', h => by
    obtain ⟨y, _, _, h6⟩ := (show ∃ x, e = .var x ∧ g x = some (.en u) ∧ Args (g.del x) es ts g' from h)
    exact congrArg (· + 1) (Args.len h6)
  | e :: es, .int :: ts, g, g', h => congrArg (· + 1) (Args.len (show e.T g .int ∧ e.dep ≤ 3 ∧ Args g es ts g' from h).2.2)
  | e :: es, .bool :: ts, g, g', h => congrArg (· + 1) (Args.len (show e.T g .bool ∧ e.dep ≤ 3 ∧ Args g es ts g' from h).2.2)
theorem Args.sub {x : Str} : ∀ {es : List Exp} {ts : List Ty} {g g' : Ctx}, Args g es ts g' → g x = none → g' x = none
  | [], [], g, g', h, q => by
    have h : g' = g := h
    rw [h]
    exact q
  | [], _ :: _, _, _, h, _ => h.elim
  | e :: es, [], _, _, h, _ => by cases e <;> exact h.elim
  | e :: es, .en u :: ts, g, g', h, q => by
    obtain ⟨y, _, _, h6⟩ := (show ∃ x, e = .var x ∧ g x = some (.en u) ∧ Args (g.del x) es ts g' from h)
    exact Args.sub h6 (del_none q)
  | e :: es, .int :: ts, g, g', h, q => Args.sub (show e.T g .int ∧ e.dep ≤ 3 ∧ Args g es ts g' from h).2.2 q
  | e :: es, .bool :: ts, g, g', h, q => Args.sub (show e.T g .bool ∧ e.dep ≤ 3 ∧ Args g es ts g' from h).2.2 q
theorem EvL.snoc {m : Names} {e : Exp} {t : Ty} {a : AV} (h : AT ty a t ∧ ∀ x, e = .var x → m.lookup x = some a) : ∀ {es : List Exp} {ts : List Ty} {as : List AV}, EvL m ty es ts as → EvL m ty (es ++ [e]) (ts ++ [t]) (as ++ [a])
  | [], [], [], _ => ⟨h, trivial⟩
  | _ :: _, _ :: _, _ :: _, ⟨h1, h2⟩ => ⟨h1, EvL.snoc h h2⟩
  | [], [], _ :: _, q => q.elim
  | [], _ :: _, _, q => q.elim
  | _ :: _, [], _, q => q.elim
  | _ :: _, _ :: _, [], q => q.elim
def ATs (ty : End → Talk) : List Ty → List AV → Prop
  | [], [] => True
  | t :: ts, a :: as => AT ty a t ∧ ATs ty ts as
  | _, _ => False
theorem EvL.ats {m : Names} : ∀ {es : List Exp} {ts : List Ty} {as : List AV}, EvL m ty es ts as → ATs ty ts as
  | [], [], [], _ => trivial
  | _ :: _, _ :: _, _ :: _, ⟨h1, h2⟩ => ⟨h1.1, EvL.ats h2⟩
  | [], [], _ :: _, q => q.elim
  | [], _ :: _, _, q => q.elim
  | _ :: _, [], _, q => q.elim
  | _ :: _, _ :: _, [], q => q.elim
theorem ATs.len : ∀ {ts : List Ty} {as : List AV}, ATs ty ts as → as.length = ts.length
  | [], [], _ => rfl
  | _ :: _, _ :: _, ⟨_, h⟩ => congrArg (· + 1) (ATs.len h)
  | [], _ :: _, h => h.elim
  | _ :: _, [], h => h.elim
theorem AT.congr {ty' : End → Talk} {a : AV} {t : Ty} (h : ∀ e, a = .en e → ty' e = ty e) (q : AT ty a t) : AT ty' a t := by
  cases a <;> cases t <;> first | exact q | skip
  rename_i e u
  show ty' e = u
  rw [h e rfl]
  exact q
theorem ATs.congr {ty' : End → Talk} : ∀ {ts : List Ty} {as : List AV}, (∀ e ∈ endsA as, ty' e = ty e) → ATs ty ts as → ATs ty' ts as
  | [], [], _, _ => trivial
  | t :: ts, a :: as, h, ⟨h1, h2⟩ => by
    have sub : ∀ e ∈ endsA as, e ∈ endsA (a :: as) := fun e he => by
      cases a <;> first | exact he | exact List.mem_cons_of_mem _ he
    refine ⟨h1.congr fun e z => h e ?_, ATs.congr (fun e he => h e (sub e he)) h2⟩
    rw [z]
    exact List.mem_cons_self
  | [], _ :: _, _, h => h.elim
  | _ :: _, [], _, h => h.elim
theorem bnd_some : ∀ {ps : List (Str × Ty)} {as : List AV} {x : Str} {t : Ty}, ATs ty (ps.map (·.2)) as → ps.lookup x = some t → ∃ a, ((ps.map (·.1)).zip as).lookup x = some a ∧ AT ty a t
  | [], _, x, t, _, h => by cases h
  | (y, u) :: ps, a :: as, x, t, ⟨h1, h2⟩, h => by
    show ∃ b, List.lookup x ((y, a) :: (ps.map (·.1)).zip as) = some b ∧ AT ty b t
    rw [List.lookup_cons] at h ⊢
    by_cases c : x = y
    · rw [c, beq_self_eq_true] at h ⊢
      cases h
      exact ⟨a, rfl, h1⟩
    · rw [beq_eq_false_iff_ne.mpr c] at h ⊢
      exact bnd_some h2 h
  | _ :: _, [], _, _, h, _ => h.elim
theorem bnd_none : ∀ {ps : List (Str × Ty)} {as : List AV} {x : Str}, ps.lookup x = none → ((ps.map (·.1)).zip as).lookup x = none
  | [], _, x, _ => rfl
  | (y, u) :: ps, a :: as, x, h => by
    show List.lookup x ((y, a) :: (ps.map (·.1)).zip as) = none
    rw [List.lookup_cons] at h ⊢
    by_cases c : x = y
    · rw [c, beq_self_eq_true] at h
      cases h
    · rw [beq_eq_false_iff_ne.mpr c] at h ⊢
      exact bnd_none h
  | _ :: _, [], _, _ => rfl
theorem CtxOk.bnd {ps : List (Str × Ty)} {as : List AV} (h : ATs ty (ps.map (·.2)) as) (nd : (ps.map (·.1)).Nodup) : CtxOk (fun x => ps.lookup x) ((ps.map (·.1)).zip as) ty where
  k := fun x t hx => bnd_some h hx
  e := fun x f hx => by
    cases q : ps.lookup x with
    | none =>
      rw [bnd_none q] at hx
      cases hx
    | some t =>
      obtain ⟨a, h1, h2⟩ := bnd_some h q
      rw [h1] at hx
      cases hx
      cases t with
      | en u => exact ⟨u, rfl⟩
      | int => exact h2.elim
      | bool => exact h2.elim
  d := fun x hx => bnd_none hx
  nd := by
    rw [List.map_fst_zip]
    · exact nd
    · have := h.len
      rw [List.length_map] at this ⊢
      omega
theorem endsN_zip {ks : List Str} {as : List AV} (h : as.length = ks.length) : endsN (ks.zip as) = endsA as := by
  unfold endsN endsA
  conv => rhs; rw [← List.map_snd_zip (l₁ := ks) (l₂ := as) (by omega)]
  rw [List.filterMap_map]
  rfl
/-- an end goes on in its talk -/
theorem CtxOk.retype {g : Ctx} {m : Names} {x : Str} {e : End} {t' : Talk} (h : CtxOk g m ty) (nd : (endsN m).Nodup) (hx : m.lookup x = some (.en e)) : CtxOk (g.put x (.en t')) m (fset ty e t') where
  k := fun y u hy => by
    by_cases c : y = x
    · subst c
      rw [Ctx.put_same] at hy
      cases hy
      exact ⟨.en e, hx, fset_same⟩
    · rw [Ctx.put_ne c] at hy
      obtain ⟨a, h1, h2⟩ := h.k y u hy
      refine ⟨a, h1, h2.congr fun f z => ?_⟩
      subst z
      refine fset_ne fun z => ?_
      subst z
      have := name_one nd ((lookup_mem h.nd).mp hx) ((lookup_mem h.nd).mp h1)
      cases this
      exact c rfl
  e := fun y f hy => by
    by_cases c : y = x
    · exact ⟨t', by rw [c]; exact Ctx.put_same⟩
    · rw [Ctx.put_ne c]
      exact h.e y f hy
  d := fun y hy => by
    by_cases c : y = x
    · subst c
      rw [Ctx.put_same] at hy
      cases hy
    · rw [Ctx.put_ne c] at hy
      exact h.d y hy
  nd := h.nd
end G

/-! part Tl -/
set_option Elab.async false
set_option linter.all false
set_option maxRecDepth 100000
set_option maxHeartbeats 4000000
/-! Calls of defs by arity, the rule for a def, small words over heaps. Printed by gen_tl.py. -/
namespace G
open PySem PySem.Spec PyProof.Rows L2
abbrev Sp0 := List V → Hp → VK → Prop
def S0 (g : Hp → VK → Prop) : Sp0 := fun vs H Q => match vs with
  | [] => g H Q
  | _ => False
theorem S0.len {g : Hp → VK → Prop} {vs : List V} {H : Hp} {Q : VK} (h : S0 g vs H Q) : ∃ (_ : True), vs = [] ∧ g H Q := by
  unfold S0 at h
  split at h
  · exact ⟨trivial, rfl, h⟩
  · exact h.elim
def S1 (g : V → Hp → VK → Prop) : Sp0 := fun vs H Q => match vs with
  | [v1] => g v1 H Q
  | _ => False
theorem S1.len {g : V → Hp → VK → Prop} {vs : List V} {H : Hp} {Q : VK} (h : S1 g vs H Q) : ∃ v1, vs = [v1] ∧ g v1 H Q := by
  unfold S1 at h
  split at h
  · exact ⟨_, rfl, h⟩
  · exact h.elim
def S2 (g : V → V → Hp → VK → Prop) : Sp0 := fun vs H Q => match vs with
  | [v1, v2] => g v1 v2 H Q
  | _ => False
theorem S2.len {g : V → V → Hp → VK → Prop} {vs : List V} {H : Hp} {Q : VK} (h : S2 g vs H Q) : ∃ v1 v2, vs = [v1, v2] ∧ g v1 v2 H Q := by
  unfold S2 at h
  split at h
  · exact ⟨_, _, rfl, h⟩
  · exact h.elim
def S3 (g : V → V → V → Hp → VK → Prop) : Sp0 := fun vs H Q => match vs with
  | [v1, v2, v3] => g v1 v2 v3 H Q
  | _ => False
theorem S3.len {g : V → V → V → Hp → VK → Prop} {vs : List V} {H : Hp} {Q : VK} (h : S3 g vs H Q) : ∃ v1 v2 v3, vs = [v1, v2, v3] ∧ g v1 v2 v3 H Q := by
  unfold S3 at h
  split at h
  · exact ⟨_, _, _, rfl, h⟩
  · exact h.elim
def S4 (g : V → V → V → V → Hp → VK → Prop) : Sp0 := fun vs H Q => match vs with
  | [v1, v2, v3, v4] => g v1 v2 v3 v4 H Q
  | _ => False
theorem S4.len {g : V → V → V → V → Hp → VK → Prop} {vs : List V} {H : Hp} {Q : VK} (h : S4 g vs H Q) : ∃ v1 v2 v3 v4, vs = [v1, v2, v3, v4] ∧ g v1 v2 v3 v4 H Q := by
  unfold S4 at h
  split at h
  · exact ⟨_, _, _, _, rfl, h⟩
  · exact h.elim
def S5 (g : V → V → V → V → V → Hp → VK → Prop) : Sp0 := fun vs H Q => match vs with
  | [v1, v2, v3, v4, v5] => g v1 v2 v3 v4 v5 H Q
  | _ => False
theorem S5.len {g : V → V → V → V → V → Hp → VK → Prop} {vs : List V} {H : Hp} {Q : VK} (h : S5 g vs H Q) : ∃ v1 v2 v3 v4 v5, vs = [v1, v2, v3, v4, v5] ∧ g v1 v2 v3 v4 v5 H Q := by
  unfold S5 at h
  split at h
  · exact ⟨_, _, _, _, _, rfl, h⟩
  · exact h.elim
def S6 (g : V → V → V → V → V → V → Hp → VK → Prop) : Sp0 := fun vs H Q => match vs with
  | [v1, v2, v3, v4, v5, v6] => g v1 v2 v3 v4 v5 v6 H Q
  | _ => False
theorem S6.len {g : V → V → V → V → V → V → Hp → VK → Prop} {vs : List V} {H : Hp} {Q : VK} (h : S6 g vs H Q) : ∃ v1 v2 v3 v4 v5 v6, vs = [v1, v2, v3, v4, v5, v6] ∧ g v1 v2 v3 v4 v5 v6 H Q := by
  unfold S6 at h
  split at h
  · exact ⟨_, _, _, _, _, _, rfl, h⟩
  · exact h.elim
def S7 (g : V → V → V → V → V → V → V → Hp → VK → Prop) : Sp0 := fun vs H Q => match vs with
  | [v1, v2, v3, v4, v5, v6, v7] => g v1 v2 v3 v4 v5 v6 v7 H Q
  | _ => False
theorem S7.len {g : V → V → V → V → V → V → V → Hp → VK → Prop} {vs : List V} {H : Hp} {Q : VK} (h : S7 g vs H Q) : ∃ v1 v2 v3 v4 v5 v6 v7, vs = [v1, v2, v3, v4, v5, v6, v7] ∧ g v1 v2 v3 v4 v5 v6 v7 H Q := by
  unfold S7 at h
  split at h
  · exact ⟨_, _, _, _, _, _, _, rfl, h⟩
  · exact h.elim
/-- a def keeps its promise, at a level -/
structure FnG (P : Program) (w : World) (K : PySem.W.Frag) (mg : Str → Option Value) (base : Heap) (k : Nat) (f : Addr) (ps : List Str) (sp : Sp0) : Prop where
  ex : ∃ fd, FnOk P w K mg base CX0 k f fd ps (fun vs H Q _ => sp vs H Q) ∧ Binds K fd ps []
  kp : PySem.W.keepIn K (.ref f) = true
theorem FnG.up {P : Program} {w : World} {K : PySem.W.Frag} {mg : Str → Option Value} {base : Heap} {j k : Nat} {f : Addr} {ps : List Str} {sp : Sp0} (F : FnG P w K mg base j f ps sp) (h : j ≤ k) : FnG P w K mg base k f ps sp := by
  obtain ⟨⟨fd, F1, b⟩, kp⟩ := F
  exact ⟨⟨fd, F1.mono h, b⟩, kp⟩
def tcl (sp : Sp0) (t : TA) : TE := fun σ H Q => t σ H fun vs H1 => sp vs H1 Q
theorem tcl_eq (sp : Sp0) (t : TA) : tCall (fun vs H Q _ => sp vs H Q) [] E0 t = tcl sp t := by
  funext σ H Q
  show t σ H (fun vs H1 => sp (vs ++ []) H1 Q) = t σ H (fun vs H1 => sp vs H1 Q)
  simp only [List.append_nil]
def tml (C : Addr) (m : Str) (sp : Sp0) (ta : TE) (t : TA) : TE := fun σ H Q => ta σ H fun x H1 => ∃ a dx fs, x = .ref a ∧ H1 a = some (.ins C dx fs) ∧ fs.lookup m = none ∧ t σ H1 fun vs H2 => sp (x :: vs) H2 Q
theorem tml_eq (C : Addr) (m : Str) (sp : Sp0) (ta : TE) (t : TA) : tMeth C m (fun vs H Q _ => sp vs H Q) [] E0 ta t = tml C m sp ta t := by
  funext σ H Q
  show ta σ H (fun x H1 => ∃ a dx fs, x = .ref a ∧ H1 a = some (.ins C dx fs) ∧ fs.lookup m = none ∧ t σ H1 fun vs H2 => sp (x :: (vs ++ [])) H2 Q) = _
  simp only [List.append_nil]
  rfl
def tmk (C : Addr) (sp : Sp0) (t : TA) : TE := fun σ H Q => t σ H fun vs H1 => ∀ x dx, H1 x = none → H1 dx = none → dx ≠ x → sp (.ref x :: vs) (upd (upd H1 dx (.own x)) x (.ins C dx [])) (fun v H2 => v = .non ∧ Q (.ref x) H2)
theorem tmk_eq (C : Addr) (sp : Sp0) (t : TA) : tMake C (fun vs H Q _ => sp vs H Q) [] E0 t = tmk C sp t := by
  funext σ H Q
  show t σ H (fun vs H1 => ∀ x dx, H1 x = none → H1 dx = none → dx ≠ x → sp (.ref x :: (vs ++ [])) (upd (upd H1 dx (.own x)) x (.ins C dx [])) (fun v H2 => v = .non ∧ Q (.ref x) H2)) = _
  simp only [List.append_nil]
  rfl
section
variable {X : Cx} {k : Nat} {f C : Addr} {ps : List Str} {sp : Sp0} {x m : Str} {p pos apos : Pos} {e o : Expr} {es : List Expr} {ta : TE} {t : TA}
theorem pcall (F : FnG X.prog X.w X.K X.mg X.base k f ps sp) (hr : Room k X.A) (hm : X.mg x = some (.ref f)) (ha : PA X (e :: es) t) (hg : Gl X x := by rfl) (hdb : (x == ("__debug__" : Str)) = false := by decide)
    (he : starEach (e :: es) X.env = (false, eval e X.env) :: starEach es X.env := by rfl) (hpl : (backTo pos (starEach es X.env)).any (·.1) = false := by rfl) : PE X (.Call (.Name x p) (e :: es) [] pos) (tcl sp t) := by
  obtain ⟨⟨fd, F1, b⟩, kp⟩ := F
  rw [← tcl_eq]
  exact pe_call F1 hr hg hm kp b .nil pass0 ha hdb he hpl
theorem pmeth {pl : Sem Bool} (ho : PE X o ta) (c : Cls X.K C) (hm : Meth X.K C m f) (F : FnG X.prog X.w X.K X.mg X.base k f ps sp) (hr : Room k X.A) (ha : PA X (e :: es) t)
    (hst : starEach (e :: es) X.env = (false, eval e X.env) :: starEach es X.env := by rfl) (hpl : (backTo pos (starEach es X.env)).any (·.1) = false := by rfl)
    (ht : eval (.Call (.Attribute o m apos) (e :: es) [] pos) X.env = (do
      let ov ← eval o X.env
      standAt apos.atName
      let (f, first) ← holding [ov] (getMethod ov m pl)
      callWith pos f first (backTo pos (starEach (e :: es) X.env)) (backToKw pos (keywordEach [] X.env))) := by rfl) : PE X (.Call (.Attribute o m apos) (e :: es) [] pos) (tml C m sp ta t) := by
  obtain ⟨⟨fd, F1, b⟩, kp⟩ := F
  rw [← tml_eq]
  exact pe_meth ho c hm F1 hr b .nil pass0 ha hst hpl ht
theorem pmeth0 {pl : Sem Bool} (ho : PE X o ta) (c : Cls X.K C) (hm : Meth X.K C m f) (F : FnG X.prog X.w X.K X.mg X.base k f ps sp) (hr : Room k X.A)
    (ht : eval (.Call (.Attribute o m apos) [] [] pos) X.env = (do
      let ov ← eval o X.env
      standAt apos.atName
      let (f, first) ← holding [ov] (getMethod ov m pl)
      callWith pos f first (backTo pos (starEach [] X.env)) (backToKw pos (keywordEach [] X.env))) := by rfl) : PE X (.Call (.Attribute o m apos) [] [] pos) (tml C m sp ta tNil) := by
  obtain ⟨⟨fd, F1, b⟩, kp⟩ := F
  rw [← tml_eq]
  exact pe_meth0 ho c hm F1 hr b .nil pass0 ht
theorem pmake (M : Mk X.K C f) (F : FnG X.prog X.w X.K X.mg X.base k f ps sp) (hr : Room (k + 1) X.A) (hm : X.mg x = some (.ref C)) (ha : PA X (e :: es) t) (hg : Gl X x := by rfl) (hdb : (x == ("__debug__" : Str)) = false := by decide)
    (he : starEach (e :: es) X.env = (false, eval e X.env) :: starEach es X.env := by rfl) (hpl : (backTo pos (starEach es X.env)).any (·.1) = false := by rfl) : PE X (.Call (.Name x p) (e :: es) [] pos) (tmk C sp t) := by
  obtain ⟨⟨fd, F1, b⟩, kp⟩ := F
  rw [← tmk_eq]
  exact pe_make M F1 hr hg hm b .nil pass0 ha hdb he hpl
theorem pmake0 (M : Mk X.K C f) (F : FnG X.prog X.w X.K X.mg X.base k f ps sp) (hr : Room (k + 1) X.A) (hm : X.mg x = some (.ref C)) (hg : Gl X x := by rfl) (hdb : (x == ("__debug__" : Str)) = false := by decide) : PE X (.Call (.Name x p) [] [] pos) (tmk C sp tNil) := by
  obtain ⟨⟨fd, F1, b⟩, kp⟩ := F
  rw [← tmk_eq]
  exact pe_make0 M F1 hr hg hm b .nil pass0 hdb
end
section
variable {P : Program} {w : World} {K : PySem.W.Frag} {mg : Str → Option Value} {base : Heap} {x qual : Str} {st : Stmt} {N ps : List Str} {k : Nat} {f : Addr}
/-- the context of a def's body -/
abbrev Bd (P : Program) (w : World) (K : PySem.W.Frag) (mg : Str → Option Value) (base : Heap) (N : List Str) (qual : Str) (st : Stmt) (f : Addr) (cdv : Value) (A : Around) (outer : List Env) (s : Shared) (H : Hp) (E : XK) : Cx :=
  (cxOf CX0 P w K mg base N qual (defScope st) f cdv A outer s H E).nox
/-- THE RULE for a def -/
theorem FnG.of {sp : Sp0} (Df : DefAt K x qual st ps f) (S : FnScope N ps (defScope st)) (len : ∀ vs H Q, sp vs H Q → vs.length = ps.length)
    (body : ∀ (cdv : Value) (A : Around) (outer : List Env) (s : Shared) (H : Hp) (vs : List V) (Q : VK) (E : XK), Room k (A.deeper (envOfC qual (defScope st) s.heap.objs.size f cdv)) → sp vs H Q →
      ∃ t, PSs (Bd P w K mg base N qual st f cdv A outer s H E) (defBody st) t ∧ t { nx := fun _ H' => Q .non H', rt := Q } (start N vs) H) : FnG P w K mg base (k + 1) f ps sp := by
  obtain ⟨fd, F, b⟩ := Df.ex
  refine ⟨⟨fd, F.ok S (fun vs H Q _ h => len vs H Q h) fun cdv A outer s H vs Q E hr h => ?_, b⟩, F.kp⟩
  obtain ⟨t, h1, h2⟩ := body cdv A outer s H vs Q E hr h
  exact ⟨t, h1.nox, h2⟩
theorem FnG.of0 {g : Hp → VK → Prop} (Df : DefAt K x qual st ps f) (S : FnScope N ps (defScope st)) (len : ps.length = 0)
    (body : ∀ (cdv : Value) (A : Around) (outer : List Env) (s : Shared) (H : Hp) (Q : VK) (E : XK), Room k (A.deeper (envOfC qual (defScope st) s.heap.objs.size f cdv)) → g H Q →
      ∃ t, PSs (Bd P w K mg base N qual st f cdv A outer s H E) (defBody st) t ∧ t { nx := fun _ H' => Q .non H', rt := Q } (start N []) H) : FnG P w K mg base (k + 1) f ps (S0 g) :=
  FnG.of Df S (fun vs H Q h => by obtain ⟨_, rfl, _⟩ := h.len; exact len.symm) fun cdv A outer s H vs Q E hr h => by
    obtain ⟨_, rfl, h⟩ := h.len
    exact body cdv A outer s H Q E hr h
theorem FnG.of1 {g : V → Hp → VK → Prop} (Df : DefAt K x qual st ps f) (S : FnScope N ps (defScope st)) (len : ps.length = 1)
    (body : ∀ (cdv : Value) (A : Around) (outer : List Env) (s : Shared) (H : Hp) (v1 : V) (Q : VK) (E : XK), Room k (A.deeper (envOfC qual (defScope st) s.heap.objs.size f cdv)) → g v1 H Q →
      ∃ t, PSs (Bd P w K mg base N qual st f cdv A outer s H E) (defBody st) t ∧ t { nx := fun _ H' => Q .non H', rt := Q } (start N [v1]) H) : FnG P w K mg base (k + 1) f ps (S1 g) :=
  FnG.of Df S (fun vs H Q h => by obtain ⟨_, rfl, _⟩ := h.len; exact len.symm) fun cdv A outer s H vs Q E hr h => by
    obtain ⟨v1, rfl, h⟩ := h.len
    exact body cdv A outer s H v1 Q E hr h
theorem FnG.of2 {g : V → V → Hp → VK → Prop} (Df : DefAt K x qual st ps f) (S : FnScope N ps (defScope st)) (len : ps.length = 2)
    (body : ∀ (cdv : Value) (A : Around) (outer : List Env) (s : Shared) (H : Hp) (v1 v2 : V) (Q : VK) (E : XK), Room k (A.deeper (envOfC qual (defScope st) s.heap.objs.size f cdv)) → g v1 v2 H Q →
      ∃ t, PSs (Bd P w K mg base N qual st f cdv A outer s H E) (defBody st) t ∧ t { nx := fun _ H' => Q .non H', rt := Q } (start N [v1, v2]) H) : FnG P w K mg base (k + 1) f ps (S2 g) :=
  FnG.of Df S (fun vs H Q h => by obtain ⟨_, _, rfl, _⟩ := h.len; exact len.symm) fun cdv A outer s H vs Q E hr h => by
    obtain ⟨v1, v2, rfl, h⟩ := h.len
    exact body cdv A outer s H v1 v2 Q E hr h
theorem FnG.of3 {g : V → V → V → Hp → VK → Prop} (Df : DefAt K x qual st ps f) (S : FnScope N ps (defScope st)) (len : ps.length = 3)
    (body : ∀ (cdv : Value) (A : Around) (outer : List Env) (s : Shared) (H : Hp) (v1 v2 v3 : V) (Q : VK) (E : XK), Room k (A.deeper (envOfC qual (defScope st) s.heap.objs.size f cdv)) → g v1 v2 v3 H Q →
      ∃ t, PSs (Bd P w K mg base N qual st f cdv A outer s H E) (defBody st) t ∧ t { nx := fun _ H' => Q .non H', rt := Q } (start N [v1, v2, v3]) H) : FnG P w K mg base (k + 1) f ps (S3 g) :=
  FnG.of Df S (fun vs H Q h => by obtain ⟨_, _, _, rfl, _⟩ := h.len; exact len.symm) fun cdv A outer s H vs Q E hr h => by
    obtain ⟨v1, v2, v3, rfl, h⟩ := h.len
    exact body cdv A outer s H v1 v2 v3 Q E hr h
theorem FnG.of4 {g : V → V → V → V → Hp → VK → Prop} (Df : DefAt K x qual st ps f) (S : FnScope N ps (defScope st)) (len : ps.length = 4)
    (body : ∀ (cdv : Value) (A : Around) (outer : List Env) (s : Shared) (H : Hp) (v1 v2 v3 v4 : V) (Q : VK) (E : XK), Room k (A.deeper (envOfC qual (defScope st) s.heap.objs.size f cdv)) → g v1 v2 v3 v4 H Q →
      ∃ t, PSs (Bd P w K mg base N qual st f cdv A outer s H E) (defBody st) t ∧ t { nx := fun _ H' => Q .non H', rt := Q } (start N [v1, v2, v3, v4]) H) : FnG P w K mg base (k + 1) f ps (S4 g) :=
  FnG.of Df S (fun vs H Q h => by obtain ⟨_, _, _, _, rfl, _⟩ := h.len; exact len.symm) fun cdv A outer s H vs Q E hr h => by
    obtain ⟨v1, v2, v3, v4, rfl, h⟩ := h.len
    exact body cdv A outer s H v1 v2 v3 v4 Q E hr h
theorem FnG.of5 {g : V → V → V → V → V → Hp → VK → Prop} (Df : DefAt K x qual st ps f) (S : FnScope N ps (defScope st)) (len : ps.length = 5)
    (body : ∀ (cdv : Value) (A : Around) (outer : List Env) (s : Shared) (H : Hp) (v1 v2 v3 v4 v5 : V) (Q : VK) (E : XK), Room k (A.deeper (envOfC qual (defScope st) s.heap.objs.size f cdv)) → g v1 v2 v3 v4 v5 H Q →
      ∃ t, PSs (Bd P w K mg base N qual st f cdv A outer s H E) (defBody st) t ∧ t { nx := fun _ H' => Q .non H', rt := Q } (start N [v1, v2, v3, v4, v5]) H) : FnG P w K mg base (k + 1) f ps (S5 g) :=
  FnG.of Df S (fun vs H Q h => by obtain ⟨_, _, _, _, _, rfl, _⟩ := h.len; exact len.symm) fun cdv A outer s H vs Q E hr h => by
    obtain ⟨v1, v2, v3, v4, v5, rfl, h⟩ := h.len
    exact body cdv A outer s H v1 v2 v3 v4 v5 Q E hr h
theorem FnG.of6 {g : V → V → V → V → V → V → Hp → VK → Prop} (Df : DefAt K x qual st ps f) (S : FnScope N ps (defScope st)) (len : ps.length = 6)
    (body : ∀ (cdv : Value) (A : Around) (outer : List Env) (s : Shared) (H : Hp) (v1 v2 v3 v4 v5 v6 : V) (Q : VK) (E : XK), Room k (A.deeper (envOfC qual (defScope st) s.heap.objs.size f cdv)) → g v1 v2 v3 v4 v5 v6 H Q →
      ∃ t, PSs (Bd P w K mg base N qual st f cdv A outer s H E) (defBody st) t ∧ t { nx := fun _ H' => Q .non H', rt := Q } (start N [v1, v2, v3, v4, v5, v6]) H) : FnG P w K mg base (k + 1) f ps (S6 g) :=
  FnG.of Df S (fun vs H Q h => by obtain ⟨_, _, _, _, _, _, rfl, _⟩ := h.len; exact len.symm) fun cdv A outer s H vs Q E hr h => by
    obtain ⟨v1, v2, v3, v4, v5, v6, rfl, h⟩ := h.len
    exact body cdv A outer s H v1 v2 v3 v4 v5 v6 Q E hr h
theorem FnG.of7 {g : V → V → V → V → V → V → V → Hp → VK → Prop} (Df : DefAt K x qual st ps f) (S : FnScope N ps (defScope st)) (len : ps.length = 7)
    (body : ∀ (cdv : Value) (A : Around) (outer : List Env) (s : Shared) (H : Hp) (v1 v2 v3 v4 v5 v6 v7 : V) (Q : VK) (E : XK), Room k (A.deeper (envOfC qual (defScope st) s.heap.objs.size f cdv)) → g v1 v2 v3 v4 v5 v6 v7 H Q →
      ∃ t, PSs (Bd P w K mg base N qual st f cdv A outer s H E) (defBody st) t ∧ t { nx := fun _ H' => Q .non H', rt := Q } (start N [v1, v2, v3, v4, v5, v6, v7]) H) : FnG P w K mg base (k + 1) f ps (S7 g) :=
  FnG.of Df S (fun vs H Q h => by obtain ⟨_, _, _, _, _, _, _, rfl, _⟩ := h.len; exact len.symm) fun cdv A outer s H vs Q E hr h => by
    obtain ⟨v1, v2, v3, v4, v5, v6, v7, rfl, h⟩ := h.len
    exact body cdv A outer s H v1 v2 v3 v4 v5 v6 v7 Q E hr h
end
/-! ### heaps -/
/-- all stands but what is at p -/
def Kp (p : Addr) (H H' : Hp) : Prop := ∀ b o, b ≠ p → H b = some o → H' b = some o
theorem Kp.refl (p : Addr) (H : Hp) : Kp p H H := fun _ _ _ h => h
theorem Kp.trans {p : Addr} {H H1 H2 : Hp} (a : Kp p H H1) (b : Kp p H1 H2) : Kp p H H2 := fun c o n h => b c o n (a c o n h)
theorem Kp.new {p q : Addr} {H : Hp} {o : HO} (h : H q = none) : Kp p H (upd H q o) := fun b u _ e => by
  rw [upd_ne (ne_of_none e h)]
  exact e
theorem Kp.at_ {p : Addr} {H : Hp} {o : HO} : Kp p H (upd H p o) := fun b u n e => by
  rw [upd_ne n]
  exact e
theorem Kp.of {p : Addr} {H H' : Hp} (s : Same H H') : Kp p H H' := fun b o _ h => s b o h
theorem Kp.free {p q : Addr} {H H' : Hp} (k : Kp p H H') (hp : q ≠ p) (h : H' q = none) : H q = none := by
  cases e : H q with
  | none => rfl
  | some o =>
    rw [k q o hp e] at h
    cases h
theorem Kp.put {p q : Addr} {H H' : Hp} {o : HO} (k : Kp p H H') (h : H q = none) : Kp p H (upd H' q o) := fun b u n e => by
  rw [upd_ne (ne_of_none e h)]
  exact k b u n e
/-- the tuples stand -/
def Tu (H H' : Hp) : Prop := ∀ b xs, H b = some (.tup xs) → H' b = some (.tup xs)
theorem Tu.refl (H : Hp) : Tu H H := fun _ _ h => h
theorem Tu.trans {H H1 H2 : Hp} (a : Tu H H1) (b : Tu H1 H2) : Tu H H2 := fun c o h => b c o (a c o h)
theorem Tu.new {q : Addr} {H : Hp} {o : HO} (h : H q = none) : Tu H (upd H q o) := fun b u e => by
  rw [upd_ne (ne_of_none e h)]
  exact e
theorem Tu.at_ {q : Addr} {H : Hp} {o u : HO} (h : H q = some u) (hu : ∀ xs, u ≠ .tup xs) : Tu H (upd H q o) := fun b xs e => by
  rw [upd_ne (ne_of e h fun z => hu xs z.symm)]
  exact e
theorem Same.tu {H H' : Hp} (s : Same H H') : Tu H H' := fun b xs h => s b _ h
theorem Same.new {q : Addr} {H : Hp} {o : HO} (h : H q = none) : Same H (upd H q o) := fun b u e => by
  rw [upd_ne (ne_of_none e h)]
  exact e
/-! ### tests that are known -/
theorem if_t {c : TT} {t1 t2 : TS} {D : Ends} {σ : L2.St} {H : Hp} (b : Bool) (h : ∀ Q : Bool → Hp → Prop, Q b H → c σ H Q) (h1 : b = true → t1 D σ H) (h2 : b = false → t2 D σ H) : tIfS c t1 t2 D σ H := by
  refine h (fun b H1 => if b = true then t1 D σ H1 else t2 D σ H1) ?_
  cases b with
  | true => exact iteT (h1 rfl)
  | false => exact iteF (h2 rfl)
theorem if_or {c d : TT} {t1 t2 : TS} {D : Ends} {σ : L2.St} {H : Hp} (a b : Bool) (h : ∀ Q : Bool → Hp → Prop, Q a H → c σ H Q) (h' : a = false → ∀ Q : Bool → Hp → Prop, Q b H → d σ H Q) (h1 : a = true ∨ b = true → t1 D σ H) (h2 : a = false → b = false → t2 D σ H) : tIfS (tOr c d) t1 t2 D σ H := by
  refine if_t (a || b) (fun Q q => h _ ?_) (fun e => h1 (Bool.or_eq_true_iff.mp e)) fun e => h2 (Bool.or_eq_false_iff.mp e).1 (Bool.or_eq_false_iff.mp e).2
  cases a with
  | true => exact iteT q
  | false => exact iteF (h' rfl Q q)
theorem if_and {c d : TT} {t1 t2 : TS} {D : Ends} {σ : L2.St} {H : Hp} (a b : Bool) (h : ∀ Q : Bool → Hp → Prop, Q a H → c σ H Q) (h' : a = true → ∀ Q : Bool → Hp → Prop, Q b H → d σ H Q) (h1 : a = true → b = true → t1 D σ H) (h2 : a = false ∨ b = false → t2 D σ H) : tIfS (tAnd c d) t1 t2 D σ H := by
  refine if_t (a && b) (fun Q q => h _ ?_) (fun e => h1 (Bool.and_eq_true_iff.mp e).1 (Bool.and_eq_true_iff.mp e).2) fun e => h2 (by cases a <;> cases b <;> first | exact .inl rfl | exact .inr rfl | cases e)
  cases a with
  | true => exact iteT (h' rfl Q q)
  | false => exact iteF q
theorem if_H {c : TT} {t1 t2 : TS} {D : Ends} {σ : L2.St} {H : Hp} (Yes No : Hp → Prop) (h : ∀ Q : Bool → Hp → Prop, (∀ H1, Yes H1 → Q true H1) → (∀ H1, No H1 → Q false H1) → c σ H Q) (h1 : ∀ H1, Yes H1 → t1 D σ H1) (h2 : ∀ H1, No H1 → t2 D σ H1) : tIfS c t1 t2 D σ H :=
  h (fun b H1 => if b = true then t1 D σ H1 else t2 D σ H1) (fun H1 y => iteT (h1 H1 y)) fun H1 n => iteF (h2 H1 n)
/-- what comes behind an if, told once -/
theorem if_k {c : TT} {t1 t2 : TS} {nx bk ct : L2.St → Hp → Prop} {rt : VK} {σ : L2.St} {H : Hp} (Mid : L2.St → Hp → Prop) (key : ∀ σ' H', Mid σ' H' → nx σ' H') (h : (∀ σ' H', Mid σ' H' → nx σ' H') → tIfS c t1 t2 ⟨nx, rt, bk, ct⟩ σ H) : tIfS c t1 t2 ⟨nx, rt, bk, ct⟩ σ H := h key
theorem q_b {Q : Bool → Hp → Prop} {H : Hp} {b : Bool} (ht : b = true → Q true H) (hf : b = false → Q false H) : Q b H := by
  cases b with
  | true => exact ht rfl
  | false => exact hf rfl
theorem dec_t {p : Prop} [Decidable p] (h : decide p = true) : p := of_decide_eq_true h
theorem dec_f {p : Prop} [Decidable p] (h : decide p = false) : ¬ p := of_decide_eq_false h
theorem le_line {n : Nat} (h : n ≤ 1000000) : n ≤ sizeLine := Nat.le_trans h (by decide)
theorem lt_line {n : Nat} (h : n < 1000000) : n < sizeLine := Nat.lt_of_lt_of_le h (by decide)
/-! ### rules that name K, for within a comprehension -/
section
variable {X : Cx}
theorem ix_listK (K : PySem.W.Frag) (e : X.K = K := by rfl) : IxR X (rIxL K) := by
  subst e
  exact ix_list
theorem ix_tupK (K : PySem.W.Frag) (e : X.K = K := by rfl) : IxR X (rIxT K) := by
  subst e
  exact ix_tup
theorem op_eqDK (K : PySem.W.Frag) (hu : X.A.units + 64 < cLine) (e : X.K = K := by rfl) : OpR X (compareOp .Eq) (rEqD K) := by
  subst e
  exact op_eqD hu
theorem op_neDK (K : PySem.W.Frag) (hu : X.A.units + 64 < cLine) (e : X.K = K := by rfl) : OpR X (compareOp .NotEq) (rNeD K) := by
  subst e
  exact op_neD hu
theorem pe_fldK {e : Expr} {f : Str} {pos : Pos} {ta : TE} (K : PySem.W.Frag) (he : PE X e ta) (hb : attributeBase e f X.env (eval e X.env) = eval e X.env) (q : X.K = K := by rfl) : PE X (.Attribute e f pos) (tFld K ta f) := by
  subst q
  exact pe_fld he hb
end
end G

/-! part W1 -/
set_option Elab.async false
set_option linter.all false
set_option maxRecDepth 100000
set_option maxHeartbeats 4000000
/-! The script's cells, the numbers drawn, the feed. -/
namespace G
open PySem PySem.Spec PyProof.Rows L2
variable {P : Program} {w : World} {K : PySem.W.Frag} {mg : Str → Option Value} {base : Heap}
def spCell (K : PySem.W.Frag) : V → V → Hp → VK → Prop := fun a b H Q => ∃ (p : Addr) (ns : List Int) (k : Int), a = .ref p ∧ b = .int k ∧ SqL K H p (ns.map V.int) ∧ 0 ≤ k ∧ ∀ i, Q (.int i) H
theorem get_map {ns : List Int} {k : Int} (h0 : 0 ≤ k) (h : k < ((ns.map V.int).length : Nat)) : ∃ v : Int, v ∈ ns ∧ atI (ns.map V.int) k = some (.int v) := by
  rw [List.length_map] at h
  have hk : k.toNat < ns.length := by omega
  have ek : k = ((k.toNat : Nat) : Int) := by omega
  rw [ek]
  exact ⟨ns[k.toNat], List.getElem_mem _, atI_nat (by rw [List.getElem?_map, List.getElem?_eq_getElem hk] <;> rfl)⟩
theorem ok_l_cell (T : Top K mg) : FnG P w K mg base 1 (He.ga K "_law_cell") p_l_cell (S2 (spCell K)) := by
  refine FnG.of2 T.d_l_cell sc_l_cell rfl fun cdv A outer s H a b Q E hr h => ⟨_, (pss_cons (ps_if (pt_cmpR op_lt (pv 1) (pe_callB call_len_seq (by rfl) T.f_len PySem.boot_len (pa_cons (pv 0) pa_nil)) (nomark _)) (pss_one (ps_ret (pe_callTy call_int1 (by rfl) T.f_int (by decide +kernel) (pa_cons (pe_ix ix_list (pv 0) (pv 1) (fun _ _ => rfl)) pa_nil)))) pss_nil)
    (pss_one (ps_ret pe_int))), ?_⟩
  obtain ⟨p, ns, k, rfl, rfl, hS, h0, q⟩ := h
  refine ⟨_, rfl, _, rfl, p, _, rfl, .inl hS, _, _, rfl, rfl, _, rfl, ?_⟩
  refine ite2 (fun c => ?_) (fun c => ?_)
  · obtain ⟨v, _, hv⟩ := get_map h0 (of_decide_eq_true c)
    exact ⟨_, rfl, _, rfl, p, _, _, _, rfl, rfl, hS, hv, .inl ⟨_, rfl, q _⟩⟩
  · exact q 0
/-- a list of so many numbers, none below 0 -/
def Nums (H : Hp) (p : Addr) (n : Nat) : Prop := ∃ ns : List Int, H p = some (.lst (ns.map V.int)) ∧ ns.length = n ∧ ∀ z ∈ ns, 0 ≤ z
def spNumbers : V → V → Hp → VK → Prop := fun a b H Q => ∃ (i : Int) (m : Nat), a = .int i ∧ b = .int m ∧ m ≤ 60 ∧ ∀ p H', Same H H' → H p = none → Nums H' p m → Q (.ref p) H'
theorem Nums.snoc {H : Hp} {p : Addr} {n : Nat} {z : Int} (h : Nums H p n) (hn : n ≤ 60) (hz : 0 ≤ z) : ∃ xs : List V, H p = some (.lst xs) ∧ xs.length < sizeLine ∧ Nums (upd H p (.lst (xs ++ [.int z]))) p (n + 1) := by
  obtain ⟨ns, h1, h2, h3⟩ := h
  refine ⟨_, h1, lt_line (by rw [List.length_map]; omega), ns ++ [z], ?_, by rw [List.length_append, h2]; rfl, fun y hy => ?_⟩
  · rw [upd_same, List.map_append]
    rfl
  · rcases List.mem_append.mp hy with e | e
    · exact h3 y e
    · rw [List.mem_singleton.mp e]
      exact hz
theorem Same.put {H H' : Hp} {p : Addr} {o : HO} (s : Same H H') (h : H p = none) : Same H (upd H' p o) := fun b u e => by
  rw [upd_ne (ne_of_none e h)]
  exact s b u e
theorem ok_l_numbers (T : Top K mg) : FnG P w K mg base 1 (He.ga K "_law_numbers") p_l_numbers (S2 spNumbers) := by
  refine FnG.of2 T.d_l_numbers sc_l_numbers rfl fun cdv A outer s H a b Q E hr h => ⟨_, (pss_cons (ps_set (i := 2) sc_l_numbers.nd rfl (Or.inl rfl) (pe_lst pa_nil))
    (pss_cons (ps_set (i := 3) sc_l_numbers.nd rfl (Or.inl rfl) (pe_callB call_abs (by rfl) T.f_abs (by decide +kernel) (pa_cons (pv 0) pa_nil)))
    (pss_cons (ps_if (pt_cmpR op_ge (pv 3) pe_int (nomark _)) (pss_cons (ps_for PassesOwn.never rfl (pi_range1 (by rfl) T.f_range (pa_cons (pv 1) pa_nil)) (pg_name (i := 4) sc_l_numbers.nd rfl (Or.inl rfl)) (pss_cons (ps_expr (pe_bm PySem.F.plainAttrs_list PySem.F.slot_list_append PySem.F.type_list_append mt_append (pv 2) (pa_cons (pe_op op_mod (pe_callTy call_int1 (by rfl) T.f_int (by decide +kernel) (pa_cons (pv 3) pa_nil)) pe_int) pa_nil)))
    (pss_one (ps_set (i := 3) sc_l_numbers.nd rfl (Or.inl rfl) (pe_op op_fdiv (pv 3) pe_int)))))
    (pss_one (ps_ret (pv 2)))) pss_nil)
    (pss_cons (ps_for PassesOwn.never rfl (pi_range1 (by rfl) T.f_range (pa_cons (pv 1) pa_nil)) (pg_name (i := 4) sc_l_numbers.nd rfl (Or.inl rfl)) (pss_cons (ps_set (i := 3) sc_l_numbers.nd rfl (Or.inl rfl) (pe_op op_mod (pe_callTy call_int1 (by rfl) T.f_int (by decide +kernel) (pa_cons (pe_op op_add (pe_op op_add (pe_op op_mul (pv 3) pe_int) (pe_op op_mul (pv 4) pe_int)) pe_int) pa_nil)) pe_int))
    (pss_one (ps_expr (pe_bm PySem.F.plainAttrs_list PySem.F.slot_list_append PySem.F.type_list_append mt_append (pv 2) (pa_cons (pe_op op_mod (pe_op op_mod (pe_callTy call_int1 (by rfl) T.f_int (by decide +kernel) (pa_cons (pe_op op_mul (pv 3) pe_int) pa_nil)) pe_int) pe_int) pa_nil))))))
    (pss_one (ps_ret (pv 2))))))), ?_⟩
  obtain ⟨i, m, rfl, rfl, hm, q⟩ := h
  refine ⟨Nat.zero_le _, fun p hp => ?_⟩
  have s0 : Same H (upd H p (.lst [])) := Same.new hp
  have n0 : Nums (upd H p (.lst [])) p 0 := ⟨[], upd_same, rfl, fun _ h => by cases h⟩
  refine ⟨_, rfl, _, rfl, ?_⟩
  obtain ⟨r, hr0, er⟩ : ∃ r : Int, 0 ≤ r ∧ (if i < 0 then -i else i) = r := ⟨_, by split <;> omega, rfl⟩
  rw [er]
  refine ⟨_, rfl, _, _, rfl, rfl, _, rfl, ?_⟩
  refine ite2 (fun c => ?_) (fun c => ?_)
  · refine ⟨_, rfl, _, rfl, by omega, by omega, for_range (n := m) (fun j σ H' => ∃ (r : Int) (v : Option V), σ = [some (.int i), some (.int m), some (.ref p), some (.int r), v] ∧ 0 ≤ r ∧ Same H H' ∧ Nums H' p j)
      ⟨r, none, rfl, hr0, s0, n0⟩ ?_ ?_⟩
    · rintro j σ H' hj ⟨r, v, rfl, h0, sm, N⟩
      obtain ⟨xs, h1, h2, h3⟩ := N.snoc (z := r % 1048576) (by omega) (by omega)
      refine ⟨_, rfl, .inl ⟨rfl, _, SqL.of h1⟩, _, rfl, .inl ⟨_, rfl, _, _, rfl, rfl, (by show (0 : Int) < _; decide), _, _, _, rfl, rfl, h1, h2, ?_⟩⟩
      refine ⟨_, rfl, _, _, rfl, rfl, ⟨by decide, by decide⟩, ?_⟩
      exact ⟨r / 1048576, _, rfl, by omega, Same.put sm hp, h3⟩
    · rintro σ H' ⟨r, v, rfl, h0, sm, N⟩
      exact ⟨_, rfl, q p H' sm hp N⟩
  · have c' : r < 1000000000000000000 := by
      have := of_decide_eq_false (Bool.eq_false_iff.mpr c)
      omega
    refine ⟨_, rfl, _, rfl, by omega, by omega, for_range (n := m) (fun j σ H' => ∃ (r : Int) (v : Option V), σ = [some (.int i), some (.int m), some (.ref p), some (.int r), v] ∧ 0 ≤ r ∧ r < 1000000000000000000 ∧ Same H H' ∧ Nums H' p j)
      ⟨r, none, rfl, hr0, c', s0, n0⟩ ?_ ?_⟩
    · rintro j σ H' hj ⟨r, v, rfl, h0, h9, sm, N⟩
      refine ⟨_, rfl, _, _, rfl, rfl, .inl ⟨by omega, by omega⟩, _, rfl, _, _, rfl, rfl, .inl ⟨by omega, by omega⟩, _, _, rfl, rfl, _, _, rfl, rfl, .inl ⟨_, rfl, _, _, rfl, rfl, (by show (0 : Int) < _; decide), ?_⟩⟩
      obtain ⟨xs, h1, h2, h3⟩ := N.snoc (z := (r * 48271 + (0 + (j : Int)) * 7919 + 11) % 2147483647 * 69621 % 2147483629 % 1048576) (by omega) (by omega)
      refine ⟨_, rfl, .inl ⟨rfl, _, SqL.of h1⟩, _, rfl, _, _, rfl, rfl, .inl ⟨by omega, by omega⟩, .inl ⟨_, rfl, _, _, rfl, rfl, (by show (0 : Int) < _; decide), _, _, rfl, rfl, (by show (0 : Int) < _; decide), _, _, _, rfl, rfl, h1, h2, ?_⟩⟩
      exact ⟨_, _, rfl, by omega, by omega, Same.put sm hp, h3⟩
    · rintro σ H' ⟨r, v, rfl, h0, h9, sm, N⟩
      exact ⟨_, rfl, q p H' sm hp N⟩
/-! ### the feed: so many draws are left (n), so many fresh names are made (f) -/
def kA : Key := .inr "at"
def kN : Key := .inr "numbers"
def kF : Key := .inr "fresh"
def kB : Key := .inr "bool"
def fdK (l : Addr) (k f : Nat) (b : Str) : List (Key × V) := [(kA, .int k), (kN, .ref l), (kF, .int f), (kB, .str b)]
def LIM : Nat := 67108864
/-- where a feed stands: its dict, its list of numbers -/
structure Fd where
  p : Addr
  l : Addr
def FeedAt (H : Hp) (g : Fd) (n f : Nat) (b : Str) : Prop := ∃ (m k : Nat), H g.p = some (.dK (fdK g.l k f b)) ∧ Nums H g.l m ∧ 0 < m ∧ m ≤ 60 ∧ k + n ≤ LIM ∧ f + n ≤ LIM
theorem FeedAt.le {H : Hp} {g : Fd} {n m f : Nat} {b : Str} (h : FeedAt H g n f b) (e : m ≤ n) : FeedAt H g m f b := by
  obtain ⟨c, k, h1, h2, h3, h4, h5, h6⟩ := h
  exact ⟨c, k, h1, h2, h3, h4, by omega, by omega⟩
theorem FeedAt.same {H H' : Hp} {g : Fd} {n f : Nat} {b : Str} (h : FeedAt H g n f b) (s : Same H H') : FeedAt H' g n f b := by
  obtain ⟨c, k, h1, ⟨ns, h2, h7⟩, h3⟩ := h
  exact ⟨c, k, s _ _ h1, ⟨ns, s _ _ h2, h7⟩, h3⟩
theorem FeedAt.d {H : Hp} {g : Fd} {n f : Nat} {b : Str} (h : FeedAt H g n f b) : ∃ kvs, H g.p = some (.dK kvs) := by
  obtain ⟨c, k, h1, _⟩ := h
  exact ⟨_, h1⟩
/-- an object that was not there when the feed was is none of the feed's -/
theorem FeedAt.not {H : Hp} {g : Fd} {n f : Nat} {b : Str} (h : FeedAt H g n f b) {q : Addr} (hq : H q = none) : g.p ≠ q ∧ g.l ≠ q := by
  obtain ⟨c, k, h1, ⟨ns, h2, _⟩, _⟩ := h
  exact ⟨ne_of_none h1 hq, ne_of_none h2 hq⟩
theorem FeedAt.put {H : Hp} {g : Fd} {n f : Nat} {b : Str} (h : FeedAt H g n f b) {q : Addr} {o : HO} (hq : g.p ≠ q ∧ g.l ≠ q) : FeedAt (upd H q o) g n f b := by
  obtain ⟨c, k, h1, ⟨ns, h2, h7⟩, h3⟩ := h
  exact ⟨c, k, by rw [upd_ne hq.1]; exact h1, ⟨ns, by rw [upd_ne hq.2]; exact h2, h7⟩, h3⟩
theorem FeedAt.new {H : Hp} {g : Fd} {q : Addr} {n f : Nat} {b : Str} {o : HO} (h : FeedAt H g n f b) (hq : H q = none) : FeedAt (upd H q o) g n f b := h.same (Same.new hq)
theorem ne_k : kA ≠ kN ∧ kA ≠ kF ∧ kA ≠ kB ∧ kN ≠ kF ∧ kN ≠ kB ∧ kF ≠ kB := by decide +kernel
section
variable (l : Addr) (k f : Nat) (b : Str)
theorem valV_cons {κ : Type} [DecidableEq κ] {p : κ × V} {r : List (κ × V)} {y : κ} : valV (p :: r) y = if p.1 = y then some p.2 else valV r y := by
  unfold valV
  rw [List.find?_cons]
  by_cases h : p.1 = y
  · simp [h]
  · simp [h]
theorem fd_A : valV (fdK l k f b) kA = some (.int k) := by
  unfold fdK
  rw [valV_cons, if_pos rfl]
theorem fd_N : valV (fdK l k f b) kN = some (.ref l) := by
  unfold fdK
  rw [valV_cons, if_neg ne_k.1, valV_cons, if_pos rfl]
theorem fd_F : valV (fdK l k f b) kF = some (.int f) := by
  unfold fdK
  rw [valV_cons, if_neg ne_k.2.1, valV_cons, if_neg ne_k.2.2.2.1, valV_cons, if_pos rfl]
theorem fd_B : valV (fdK l k f b) kB = some (.str b) := by
  unfold fdK
  rw [valV_cons, if_neg ne_k.2.2.1, valV_cons, if_neg ne_k.2.2.2.2.1, valV_cons, if_neg ne_k.2.2.2.2.2, valV_cons, if_pos rfl]
theorem fd_pA (v : Int) : putK (fdK l k f b) kA (.int v) = [(kA, .int v), (kN, .ref l), (kF, .int f), (kB, .str b)] := by
  obtain ⟨h1, h2, h3, h4, h5, h6⟩ := ne_k
  simp [putK, fdK, h1.symm, h2.symm, h3.symm]
theorem fd_pF (v : Int) : putK (fdK l k f b) kF (.int v) = [(kA, .int k), (kN, .ref l), (kF, .int v), (kB, .str b)] := by
  obtain ⟨h1, h2, h3, h4, h5, h6⟩ := ne_k
  simp [putK, fdK, h2, h4, h6.symm]
theorem fd_pB (v : Str) : putK (fdK l k f b) kB (.str v) = fdK l k f v := by
  obtain ⟨h1, h2, h3, h4, h5, h6⟩ := ne_k
  simp [putK, fdK, h3, h5, h6]
end
theorem dget_of {H : Hp} {a : Addr} {kvs : List (Key × V)} {k : Key} {v : V} (e : H a = some (.dK kvs)) (h : valV kvs k = some v) : DGet H a (kV k) (some v) := by
  rw [← h]
  exact DGet.k e
def spTake : V → V → Hp → VK → Prop := fun a b H Q => ∃ (g : Fd) (n f : Nat) (z : Str) (m : Int), a = .ref g.p ∧ b = .int m ∧ 0 < m ∧ FeedAt H g (n + 1) f z ∧ ∀ r H', 0 ≤ r → r < m → Kp g.p H H' → FeedAt H' g n f z → Q (.int r) H'
theorem ok_l_take (T : Top K mg) : FnG P w K mg base 1 (He.ga K "_law_take") p_l_take (S2 spTake) := by
  refine FnG.of2 T.d_l_take sc_l_take rfl fun cdv A outer s H a b Q E hr h => ?_
  have hu := hu_of hr
  refine ⟨_, (pss_cons (ps_set (i := 2) sc_l_take.nd rfl (Or.inl rfl) (pe_dget hu (pv 0) pe_str (fun _ _ => rfl)))
    (pss_cons (ps_set (i := 3) sc_l_take.nd rfl (Or.inl rfl) (pe_dget hu (pv 0) pe_str (fun _ _ => rfl)))
    (pss_cons (ps_dput hu (pv 0) pe_str (pe_op op_add (pv 3) pe_int) rfl)
    (pss_one (ps_ret (pe_op op_mod (pe_callTy call_int1 (by rfl) T.f_int (by decide +kernel) (pa_cons (pe_op op_fdiv (pe_ix ix_list (pv 2) (pe_op op_mod (pv 3) (pe_callB call_len_seq (by rfl) T.f_len PySem.boot_len (pa_cons (pv 2) pa_nil))) (fun _ _ => rfl)) (pe_op op_add pe_int (pe_op op_mul (pe_op op_fdiv (pv 3) (pe_callB call_len_seq (by rfl) T.f_len PySem.boot_len (pa_cons (pv 2) pa_nil))) pe_int))) pa_nil)) (pv 1))))))), ?_⟩
  obtain ⟨⟨p, l⟩, n, f, z, m, rfl, rfl, hm, ⟨c, k, h1, ⟨ns, h2, h3, h4⟩, h5, h6, h7, h8⟩, q⟩ := h
  dsimp only at h1 h2 q
  unfold LIM at h7 h8
  have nlp : l ≠ p := ne_of h2 h1 (by intro e; cases e)
  refine ⟨_, rfl, p, _, rfl, dget_of (k := kN) h1 (fd_N _ _ _ _), _, rfl, p, _, rfl, dget_of (k := kA) h1 (fd_A _ _ _ _), ?_⟩
  refine ⟨_, rfl, _, _, rfl, rfl, _, rfl, p, _, rfl, DPut.k (k := kA) h1 (by show 4 < _; decide), ?_⟩
  have h2' : ∀ o, upd H p o l = some (.lst (ns.map V.int)) := fun o => by rw [upd_ne nlp]; exact h2
  have hl : (ns.map V.int).length = c := by rw [List.length_map]; exact h3
  have eL : ((ns.map V.int).length : Int) = (c : Int) := by rw [hl]
  have m0 : 0 ≤ (k : Int) % ((ns.map V.int).length : Nat) := Int.emod_nonneg _ (by rw [eL]; omega)
  have m1 : (k : Int) % ((ns.map V.int).length : Nat) < ((ns.map V.int).length : Nat) := Int.emod_lt_of_pos _ (by rw [eL]; omega)
  obtain ⟨v, vin, hv⟩ := get_map m0 m1
  have d0 : 0 ≤ (k : Int) / ((ns.map V.int).length : Nat) := Int.ediv_nonneg (by omega) (by omega)
  have d1 : (k : Int) / ((ns.map V.int).length : Nat) ≤ (k : Int) := Int.ediv_le_self _ (by omega)
  refine ⟨_, rfl, _, rfl, _, rfl, l, _, rfl, .inl (SqL.of (h2' _)), _, _, rfl, rfl, (by show (0 : Int) < _; omega), l, _, _, _, rfl, rfl, SqL.of (h2' _), hv, ?_⟩
  refine ⟨_, rfl, _, rfl, l, _, rfl, .inl (SqL.of (h2' _)), _, _, rfl, rfl, ⟨by omega, by omega⟩, _, _, rfl, rfl, .inr ⟨by decide, by decide⟩, _, _, rfl, rfl, _, _, rfl, rfl, ⟨?_, ?_⟩, .inl ⟨_, rfl, _, rfl, _, _, rfl, rfl, hm, ?_⟩⟩
  · show (0 : Int) < 1 + (k : Int) / ((ns.map V.int).length : Nat) * 7
    omega
  · show 1 + (k : Int) / ((ns.map V.int).length : Nat) * 7 < 1073741824
    omega
  · refine q _ _ (Int.emod_nonneg _ (by omega)) (Int.emod_lt_of_pos _ hm) Kp.at_ ⟨c, k + 1, ?_, ⟨ns, h2' _, h3, h4⟩, h5, h6, by unfold LIM; omega, by unfold LIM; omega⟩
    rw [upd_same, fd_pA]
    rfl
end G

/-! part W2 -/
set_option Elab.async false
set_option linter.all false
set_option maxRecDepth 100000
set_option maxHeartbeats 4000000
/-! Names, talks over the heap; the feed, fresh names, kinds. -/
namespace G
open PySem PySem.Spec PyProof.Rows L2
variable {P : Program} {w : World} {K : PySem.W.Frag} {mg : Str → Option Value} {base : Heap}
/-! ### names -/
def sn (n : Nat) : Str := Str.ofString (toString (n : Int))
def tn (n : Nat) : Str := ("T" : Str) ++ sn n
def xn (n : Nat) : Str := ("x" : Str) ++ sn n
theorem sn_inj {a b : Nat} (ha : a ≤ LIM) (hb : b ≤ LIM) (h : sn a = sn b) : a = b := by
  unfold LIM at ha hb
  have e1 := PySem.W.KIN.num_reads (n := (a : Int)) (by omega) (by omega)
  have e2 := PySem.W.KIN.num_reads (n := (b : Int)) (by omega) (by omega)
  unfold sn at h
  rw [h, e2] at e1
  have e3 := Option.some.inj e1
  omega
theorem app_list (a b : Str) : (a ++ b).cps.toList = a.cps.toList ++ b.cps.toList := by
  show (a.cps ++ b.cps).toList = _
  rw [Array.toList_append]
theorem str_ext {a b : Str} (h : a.cps.toList = b.cps.toList) : a = b := by
  obtain ⟨x⟩ := a
  obtain ⟨y⟩ := b
  have h : x.toList = y.toList := h
  rw [Array.toList_inj.mp h]
theorem app_inj {a b c : Str} (h : a ++ b = a ++ c) : b = c := by
  have e := congrArg (fun z : Str => z.cps.toList) h
  have e : (a ++ b).cps.toList = (a ++ c).cps.toList := e
  rw [app_list, app_list] at e
  exact str_ext (List.append_cancel_left e)
theorem cps_x : ("x" : Str).cps.toList = [120] := by decide +kernel
theorem cps_T : ("T" : Str).cps.toList = [84] := by decide +kernel
def NmOk (f : Nat) (x : Str) : Prop := x = "c" ∨ x = "d" ∨ x = "n" ∨ x = "b" ∨ ∃ k, k ≤ f ∧ x = xn k
theorem NmOk.le {f g : Nat} {x : Str} (h : NmOk f x) (e : f ≤ g) : NmOk g x := by
  rcases h with h | h | h | h | ⟨k, h1, h2⟩
  · exact .inl h
  · exact .inr (.inl h)
  · exact .inr (.inr (.inl h))
  · exact .inr (.inr (.inr (.inl h)))
  · exact .inr (.inr (.inr (.inr ⟨k, Nat.le_trans h1 e, h2⟩)))
theorem xn_head (k : Nat) (y : Str) (h : y.cps.toList.head? ≠ some 120) : xn k ≠ y := fun e => by
  apply h
  rw [← e]
  unfold xn
  rw [app_list, cps_x]
  rfl
/-- a fresh name is none of those that are known -/
theorem xn_fresh {f : Nat} (hf : f + 1 ≤ LIM) : ¬ NmOk f (xn (f + 1)) := by
  rintro (h | h | h | h | ⟨k, h1, h2⟩)
  · exact xn_head _ _ (by decide +kernel) h
  · exact xn_head _ _ (by decide +kernel) h
  · exact xn_head _ _ (by decide +kernel) h
  · exact xn_head _ _ (by decide +kernel) h
  · have e := sn_inj hf (by omega) (app_inj h2)
    omega
theorem tn_inj {a b : Nat} (ha : a ≤ LIM) (hb : b ≤ LIM) (h : tn a = tn b) : a = b := sn_inj ha hb (app_inj h)
/-! ### talks over the heap -/
def dn (d : Bool) : Str := if d = true then "dual" else "name"
def sh (h : Bool) : Str := if h = true then "hear" else "say"
def RefAt (H : Hp) (d : Bool) (n : Nat) (v : V) : Prop := ∃ p, v = .ref p ∧ H p = some (.tup [.str (dn d), .str (tn n)])
def KdAt (H : Hp) : Kd → V → Prop
  | .non, v => v = .non
  | .int, v => v = .str "int"
  | .bool, v => v = .str "bool"
  | .ref d n, v => RefAt H d n v
mutual
def TalkAt (H : Hp) : Talk → V → Prop
  | .fin, v => ∃ p, v = .ref p ∧ H p = some (.tup [.str "end"])
  | .ref d n, v => RefAt H d n v
  | .node h r, v => ∃ p q vs, v = .ref p ∧ H p = some (.tup [.str (sh h), .ref q]) ∧ H q = some (.tup vs) ∧ RowsAt H r vs
def RowsAt (H : Hp) : Rows → List V → Prop
  | .nil, vs => vs = []
  | .cons l k t r, vs => ∃ p kv tv vs', vs = .ref p :: vs' ∧ H p = some (.tup [.str l, kv, tv]) ∧ KdAt H k kv ∧ TalkAt H t tv ∧ RowsAt H r vs'
end
theorem RefAt.tu {H H' : Hp} (s : Tu H H') {d : Bool} {n : Nat} {v : V} (h : RefAt H d n v) : RefAt H' d n v := by
  obtain ⟨p, e, h⟩ := h
  exact ⟨p, e, s _ _ h⟩
theorem KdAt.tu {H H' : Hp} (s : Tu H H') : ∀ {k : Kd} {v : V}, KdAt H k v → KdAt H' k v
  | .non, _, h => h
  | .int, _, h => h
  | .bool, _, h => h
  | .ref d n, _, h => RefAt.tu s h
mutual
theorem TalkAt.tu {H H' : Hp} (s : Tu H H') : ∀ {t : Talk} {v : V}, TalkAt H t v → TalkAt H' t v
  | .fin, _, ⟨p, e, h⟩ => ⟨p, e, s _ _ h⟩
  | .ref d n, _, h => RefAt.tu s h
  | .node h r, _, ⟨p, q, vs, e, h1, h2, h3⟩ => ⟨p, q, vs, e, s _ _ h1, s _ _ h2, RowsAt.tu s h3⟩
theorem RowsAt.tu {H H' : Hp} (s : Tu H H') : ∀ {r : Rows} {vs : List V}, RowsAt H r vs → RowsAt H' r vs
  | .nil, _, h => h
  | .cons l k t r, _, ⟨p, kv, tv, vs', e, h1, h2, h3, h4⟩ => ⟨p, kv, tv, vs', e, s _ _ h1, h2.tu s, TalkAt.tu s h3, RowsAt.tu s h4⟩
end
theorem RowsAt.len {H : Hp} : ∀ {r : Rows} {vs : List V}, RowsAt H r vs → vs.length = r.len
  | .nil, _, h => by
    have h : _ = [] := h
    rw [h]
    rfl
  | .cons l k t r, _, ⟨p, kv, tv, vs', e, _, _, _, h4⟩ => by
    rw [e]
    exact congrArg (· + 1) (RowsAt.len h4)
/-! ### the feed, fresh names -/
theorem Kp.tu {p : Addr} {H H' : Hp} {kvs : List (Key × V)} (k : Kp p H H') (h : H p = some (.dK kvs)) : Tu H H' := fun b xs e => k b _ (ne_of e h (by intro z; cases z)) e
theorem FeedAt.tu {H H' : Hp} {g : Fd} {n f : Nat} {b : Str} (h : FeedAt H g n f b) (k : Kp g.p H H') : Tu H H' := by
  obtain ⟨c, m, h1, _⟩ := h
  exact k.tu h1
theorem log2_small {n : Nat} (h : n ≤ LIM) : ((n : Int)).natAbs.log2 < 1920 := by
  show n.log2 < 1920
  by_cases e : n = 0
  · rw [e]
    decide
  · rw [Nat.log2_lt e]
    exact Nat.lt_of_le_of_lt h (by decide +kernel)
theorem len_s {n : Nat} (h : n ≤ LIM) : (Str.ofString (toString (n : Int))).length ≤ 10 := PySem.W.KT.len_num (by omega) (by unfold LIM at h; omega)
theorem len_x {n : Nat} (h : n ≤ LIM) : ("x" : Str).length + (Str.ofString (toString (n : Int))).length ≤ sizeLine := by
  have h1 := len_s h
  have h2 : ("x" : Str).length = 1 := by decide +kernel
  rw [h2]
  exact le_line (by omega)
theorem len_T {n : Nat} (h : n ≤ LIM) : ("T" : Str).length + (Str.ofString (toString (n : Int))).length ≤ sizeLine := by
  have h1 := len_s h
  have h2 : ("T" : Str).length = 1 := by decide +kernel
  rw [h2]
  exact le_line (by omega)
def spFeed : V → V → Hp → VK → Prop := fun a b H Q => ∃ (i : Int) (m : Nat), a = .int i ∧ b = .int m ∧ 0 < m ∧ m ≤ 60 ∧ ∀ (g : Fd) H', Same H H' → H g.p = none → H g.l = none → FeedAt H' g LIM 0 Str.empty → Q (.ref g.p) H'
theorem merge_feed (l : Addr) : mergeK [] [(kA, V.int 0), (kN, .ref l), (kF, .int 0), (kB, .str Str.empty)] = fdK l 0 0 Str.empty := by
  obtain ⟨h1, h2, h3, h4, h5, h6⟩ := ne_k
  simp [mergeK, putK, fdK, h1, h2, h3, h4, h5, h6]
theorem ok_l_feed (T : Top K mg) : FnG P w K mg base 2 (He.ga K "_law_feed") p_l_feed (S2 spFeed) := by
  refine FnG.of2 T.d_l_feed sc_l_feed rfl fun cdv A outer s H a b Q E hr h => ⟨_, (pss_one (ps_ret (pe_disp (pps_cons pe_str pe_int (pps_cons pe_str (pcall (ok_l_numbers T) (hr.mono (by omega)) T.g_l_numbers (pa_cons (pv 0) (pa_cons (pv 1) pa_nil))) (pps_cons pe_str pe_int (pps_cons pe_str pe_str pps_nil)))) (by rfl) (by rfl) (fun z => by cases z) (by decide)))), ?_⟩
  obtain ⟨i, m, rfl, rfl, h0, h1, q⟩ := h
  intro p hp
  refine ⟨_, rfl, _, rfl, i, m, rfl, rfl, h1, fun l H1 s1 hl N => ?_⟩
  have hp1 : H1 p = some (.dK []) := s1 _ _ upd_same
  refine ⟨hp1, [(kA, .int 0), (kN, .ref l), (kF, .int 0), (kB, .str Str.empty)], rfl, (by show 4 ≤ 15; decide), ?_⟩
  rw [merge_feed]
  have nlp : l ≠ p := fun e => by
    rw [e, upd_same] at hl
    cases hl
  obtain ⟨ns, n1, n2, n3⟩ := N
  have hl0 : H l = none := by
    rw [upd_ne nlp] at hl
    exact hl
  refine q ⟨p, l⟩ _ (fun b o e => ?_) hp hl0 ⟨m, 0, upd_same, ⟨ns, by rw [upd_ne nlp]; exact n1, n2, n3⟩, h0, h1, by omega, by omega⟩
  have nb := ne_of_none e hp
  rw [upd_ne nb]
  exact s1 b o (by rw [upd_ne nb]; exact e)
def spFresh : V → Hp → VK → Prop := fun a H Q => ∃ (g : Fd) (n f : Nat) (z : Str), a = .ref g.p ∧ FeedAt H g (n + 1) f z ∧ ∀ H', Kp g.p H H' → FeedAt H' g n (f + 1) z → f + 1 ≤ LIM → Q (.str (xn (f + 1))) H'
theorem ok_l_fresh (T : Top K mg) : FnG P w K mg base 1 (He.ga K "_law_fresh") p_l_fresh (S1 spFresh) := by
  refine FnG.of1 T.d_l_fresh sc_l_fresh rfl fun cdv A outer s H a Q E hr h => ?_
  have hu := hu_of hr
  refine ⟨_, (pss_cons (ps_dput hu (pv 0) pe_str (pe_op op_add (pe_dget hu (pv 0) pe_str (fun _ _ => rfl)) pe_int) rfl)
    (pss_one (ps_ret (pe_op op_add_str pe_str (pe_callTy call_str_int (by rfl) T.f_str (by decide +kernel) (pa_cons (pe_dget hu (pv 0) pe_str (fun _ _ => rfl)) pa_nil)))))), ?_⟩
  obtain ⟨⟨p, l⟩, n, f, z, rfl, ⟨c, k, h1, ⟨ns, h2, h3, h4⟩, h5, h6, h7, h8⟩, q⟩ := h
  dsimp only at h1 h2 q
  have nlp : l ≠ p := ne_of h2 h1 (by intro e; cases e)
  refine ⟨_, rfl, p, _, rfl, dget_of (k := kF) h1 (fd_F _ _ _ _), _, _, rfl, rfl, _, rfl, p, _, rfl, DPut.k (k := kF) h1 (by show 4 < _; decide), ?_⟩
  have h9 : ∀ v, v = ((f + 1 : Nat) : Int) → upd H p (.dK (putK (fdK l k f z) kF (.int v))) p = some (.dK (fdK l k (f + 1) z)) := fun v e => by
    rw [upd_same, fd_pF, e]
    rfl
  have lz : f + 1 ≤ LIM := by omega
  have e : ((f : Int) + 1) = ((f + 1 : Nat) : Int) := rfl
  refine ⟨_, rfl, p, _, rfl, dget_of (k := kF) (h9 _ e) (fd_F _ _ _ _), _, rfl, log2_small lz, _, _, rfl, rfl, len_x lz, ?_⟩
  exact q _ Kp.at_ ⟨c, k, h9 _ e, ⟨ns, by rw [upd_ne nlp]; exact h2, h3, h4⟩, h5, h6, by omega, by omega⟩ lz
end G

/-! part W3 -/
set_option Elab.async false
set_option linter.all false
set_option maxRecDepth 100000
set_option maxHeartbeats 4000000
/-! Kinds, talks, the table. -/
namespace G
open PySem PySem.Spec PyProof.Rows L2
variable {P : Program} {w : World} {K : PySem.W.Frag} {mg : Str → Option Value} {base : Heap}
/-- a written list of two, of three, at an open place -/
theorem at2 {x y : Str} {i : Int} (h0 : 0 ≤ i) (h1 : i < 2) : atI [V.str x, V.str y] i = some (V.str (if decide (i = 1) = true then y else x)) := by
  have h : i = 0 ∨ i = 1 := by omega
  rcases h with h | h
  · subst h
    exact atI_nat (j := 0) rfl
  · subst h
    exact atI_nat (j := 1) rfl
theorem at3 {x y z : Str} {i : Nat} (h1 : i < 3) : atI [V.str x, V.str y, V.str z] (0 + (i : Int)) = some (V.str (if i = 0 then x else if i = 1 then y else z)) := by
  have e : (0 : Int) + (i : Int) = (i : Int) := Int.zero_add _
  rw [e]
  have h : i = 0 ∨ i = 1 ∨ i = 2 := by omega
  rcases h with h | h | h
  · subst h
    exact atI_nat (j := 0) rfl
  · subst h
    exact atI_nat (j := 1) rfl
  · subst h
    exact atI_nat (j := 2) rfl
theorem at2l {i : Nat} (h1 : i < 2) : atI [V.str "a", V.str "b"] (0 + (i : Int)) = some (V.str (lab i)) := by
  have e : (0 : Int) + (i : Int) = (i : Int) := Int.zero_add _
  rw [e]
  have h : i = 0 ∨ i = 1 := by omega
  rcases h with h | h
  · subst h
    exact atI_nat (j := 0) rfl
  · subst h
    exact atI_nat (j := 1) rfl
theorem SqL.up {H : Hp} {l : Addr} {xs : List V} : SqL K (upd H l (.lst xs)) l xs := SqL.of upd_same
/-- a count of names below 3 -/
def spKind : V → V → Hp → VK → Prop := fun a b H Q => ∃ (g : Fd) (n f : Nat) (z : Str) (m : Nat), a = .ref g.p ∧ b = .int m ∧ 0 < m ∧ m ≤ 3 ∧ FeedAt H g (n + 2) f z ∧ ∀ v k H', Kp g.p H H' → FeedAt H' g n f z → KdAt H' k v → k.Ok m → Q v H'
theorem ok_l_kind (T : Top K mg) : FnG P w K mg base 2 (He.ga K "_law_kind") p_l_kind (S2 spKind) := by
  refine FnG.of2 T.d_l_kind sc_l_kind rfl fun cdv A outer s H a b Q E hr h => ⟨_, (pss_cons (ps_set (i := 2) sc_l_kind.nd rfl (Or.inl rfl) (pcall (ok_l_take T) (hr.mono (by omega)) T.g_l_take (pa_cons (pv 0) (pa_cons pe_int pa_nil))))
    (pss_cons (ps_if (pt_cmpR op_lt (pv 2) pe_int (nomark _)) (pss_one (ps_ret pe_non)) pss_nil)
    (pss_cons (ps_if (pt_cmpR op_lt (pv 2) pe_int (nomark _)) (pss_one (ps_ret pe_str)) pss_nil)
    (pss_cons (ps_if (pt_cmpR op_eq (pv 2) pe_int (nomark _)) (pss_one (ps_ret pe_str)) pss_nil)
    (pss_one (ps_ret (pe_tup (pa_cons (pe_ix ix_list (pe_lst (pa_cons pe_str (pa_cons pe_str pa_nil))) (pe_op op_sub (pv 2) pe_int) (fun _ _ => rfl)) (pa_cons (pe_op op_add_str pe_str (pe_callTy call_str_int (by rfl) T.f_str (by decide +kernel) (pa_cons (pcall (ok_l_take T) (hr.mono (by omega)) T.g_l_take (pa_cons (pv 0) (pa_cons (pv 1) pa_nil))) pa_nil))) pa_nil))))))))), ?_⟩
  obtain ⟨g, n, f, z, m, rfl, rfl, hm0, hm, F, q⟩ := h
  refine ⟨_, rfl, g, n + 1, f, z, 7, rfl, rfl, by decide, F, fun r H1 r0 r7 k1 F1 => ?_⟩
  refine ⟨_, rfl, _, _, rfl, rfl, _, rfl, ite2 (fun c => ?_) (fun c => ?_)⟩
  · exact q .non .non H1 k1 (F1.le (by omega)) rfl trivial
  refine ⟨_, rfl, _, _, rfl, rfl, _, rfl, ite2 (fun c => ?_) (fun c2 => ?_)⟩
  · exact q _ .int H1 k1 (F1.le (by omega)) rfl trivial
  refine ⟨_, rfl, rfl, _, rfl, ite2 (fun c => ?_) (fun c3 => ?_)⟩
  · exact q _ .bool H1 k1 (F1.le (by omega)) rfl trivial
  have c2 : ¬ r < 4 := of_decide_eq_false (Bool.eq_false_iff.mpr c2)
  have c3 : r ≠ 4 := fun e => by
    rw [e] at c3
    exact c3 (by decide)
  refine ⟨le_line (by show 2 ≤ _; decide), fun l hl => ?_⟩
  refine ⟨_, rfl, _, _, rfl, rfl, l, _, _, _, rfl, rfl, SqL.up, at2 (by omega) (by omega), ?_⟩
  refine ⟨_, rfl, _, rfl, g, n, f, z, m, rfl, rfl, by omega, F1.new hl, fun y H2 y0 y1 k2 F2 => ?_⟩
  obtain ⟨y, rfl⟩ := Int.eq_ofNat_of_zero_le y0
  have ly : y ≤ LIM := by
    unfold LIM
    omega
  refine ⟨_, rfl, log2_small ly, _, _, rfl, rfl, len_T ly, le_line (by show 2 ≤ _; decide), fun t ht => ?_⟩
  exact q (.ref t) (.ref (decide (r - 5 = 1)) y) _ ((k1.trans (Kp.new hl)).trans (k2.trans (Kp.new ht))) (F2.new ht) ⟨t, rfl, upd_same⟩ (by show y < m; omega)
/-! ### talks -/
def Rows.snoc (l : Str) (k : Kd) (t : Talk) : Rows → Rows
  | .nil => .cons l k t .nil
  | .cons l1 k1 t1 r => .cons l1 k1 t1 (r.snoc l k t)
theorem RowsAt.snoc {H : Hp} {l : Str} {k : Kd} {t : Talk} {p : Addr} {kv tv : V} (h1 : H p = some (.tup [.str l, kv, tv])) (h2 : KdAt H k kv) (h3 : TalkAt H t tv) : ∀ {r : Rows} {vs : List V}, RowsAt H r vs → RowsAt H (r.snoc l k t) (vs ++ [.ref p])
  | .nil, _, e => by
    have e : _ = [] := e
    rw [e]
    exact ⟨p, kv, tv, [], rfl, h1, h2, h3, rfl⟩
  | .cons l1 k1 t1 r, _, ⟨p1, kv1, tv1, vs', e, a, b, c, d⟩ => by
    rw [e]
    exact ⟨p1, kv1, tv1, vs' ++ [.ref p], rfl, a, b, c, RowsAt.snoc h1 h2 h3 d⟩
theorem snoc_labs (l : Str) (k : Kd) (t : Talk) : ∀ r : Rows, (r.snoc l k t).labs = r.labs ++ [l]
  | .nil => rfl
  | .cons l1 k1 t1 r => congrArg (l1 :: ·) (snoc_labs l k t r)
theorem snoc_len (l : Str) (k : Kd) (t : Talk) : ∀ r : Rows, (r.snoc l k t).len = r.len + 1
  | .nil => rfl
  | .cons l1 k1 t1 r => congrArg (· + 1) (snoc_len l k t r)
theorem snoc_ok {m : Nat} {l : Str} {k : Kd} {t : Talk} (hk : k.Ok m) (ht : t.Ok m) : ∀ r : Rows, r.Ok m → (r.snoc l k t).Ok m
  | .nil, _ => ⟨hk, ht, trivial⟩
  | .cons l1 k1 t1 r, ⟨a, b, c⟩ => ⟨a, b, snoc_ok hk ht r c⟩
theorem snoc_dep {l : Str} {k : Kd} {t : Talk} {d : Nat} (ht : t.dep ≤ d) : ∀ r : Rows, r.dep ≤ d → (r.snoc l k t).dep ≤ d
  | .nil, _ => by
    show max t.dep 0 ≤ d
    omega
  | .cons l1 k1 t1 r, h => by
    have h : max t1.dep r.dep ≤ d := h
    have := snoc_dep (l := l) (k := k) ht r (by omega)
    show max t1.dep (r.snoc l k t).dep ≤ d
    omega
theorem labs_succ (i : Nat) : labs (i + 1) = labs i ++ [lab i] := by
  unfold labs
  rw [List.range_succ, List.map_append]
  rfl
theorem labs_nd {i : Nat} (h : i ≤ 3) : (labs i).Nodup := by
  have h : i = 0 ∨ i = 1 ∨ i = 2 ∨ i = 3 := by omega
  rcases h with h | h | h | h <;> subst h <;> decide +kernel
/-- rows that a loop has made so far -/
structure Made (H : Hp) (L : Addr) (m d i : Nat) : Prop where
  ex : ∃ (r : Rows) (vs : List V), H L = some (.lst vs) ∧ RowsAt H r vs ∧ r.labs = labs i ∧ r.len = i ∧ r.Ok m ∧ r.dep ≤ d
theorem Made.nil {H : Hp} {L : Addr} {m d : Nat} : Made (upd H L (.lst [])) L m d 0 := ⟨.nil, [], upd_same, rfl, rfl, rfl, trivial, Nat.zero_le _⟩
theorem Made.kp {H H' : Hp} {p L : Addr} {m d i : Nat} (h : Made H L m d i) (k : Kp p H H') (hp : ∃ kvs, H p = some (.dK kvs)) : Made H' L m d i := by
  obtain ⟨r, vs, h1, h2, h3⟩ := h.ex
  obtain ⟨kvs, hp⟩ := hp
  exact ⟨r, vs, k _ _ (ne_of h1 hp (by intro e; cases e)) h1, h2.tu (k.tu hp), h3⟩
theorem Made.add {H : Hp} {L p : Addr} {m d i : Nat} {k : Kd} {t : Talk} {kv tv : V} {x : Str} (h : Made H L m d i) (hi : i ≤ 3) (hx : x = lab i) (h1 : H p = some (.tup [.str x, kv, tv])) (h2 : KdAt H k kv) (h3 : TalkAt H t tv) (hk : k.Ok m) (ht : t.Ok m) (hd : t.dep ≤ d) :
    ∃ vs, H L = some (.lst vs) ∧ vs.length < sizeLine ∧ Made (upd H L (.lst (vs ++ [.ref p]))) L m d (i + 1) := by
  obtain ⟨r, vs, a, b, c, e, f, g⟩ := h.ex
  have tu : Tu H (upd H L (.lst (vs ++ [.ref p]))) := Tu.at_ a (by intro xs z; cases z)
  refine ⟨vs, a, lt_line (by rw [b.len, e]; omega), ⟨r.snoc x k t, _, upd_same, RowsAt.snoc (tu _ _ h1) (h2.tu tu) (h3.tu tu) (b.tu tu), ?_, by rw [snoc_len, e], snoc_ok hk ht r f, snoc_dep hd r g⟩⟩
  rw [snoc_labs, c, labs_succ, hx]
def tB (d : Nat) : Nat := if d = 0 then 2 else 10
def spTalk (d : Nat) : V → V → V → Hp → VK → Prop := fun a b c H Q => ∃ (g : Fd) (n f : Nat) (z : Str) (m : Nat), a = .ref g.p ∧ b = .int m ∧ c = .int d ∧ 0 < m ∧ m ≤ 3 ∧ FeedAt H g (n + tB d) f z ∧
  ∀ v t H', Kp g.p H H' → FeedAt H' g n f z → TalkAt H' t v → t.Ok m → t.dep ≤ d → Q v H'
theorem talk_step {k d : Nat} {u : V → V → V → Hp → VK → Prop} (T : Top K mg) (G : FnG P w K mg base k (He.ga K "_law_talk") p_l_talk (S3 u)) (hk : 2 ≤ k) (hd : d = 0 ∨ (d = 1 ∧ u = spTalk 0)) :
    FnG P w K mg base (k + 1) (He.ga K "_law_talk") p_l_talk (S3 (spTalk d)) := by
  refine FnG.of3 T.d_l_talk sc_l_talk rfl fun cdv A outer s H a b c Q E hr h => ⟨_, (pss_cons (ps_set (i := 3) sc_l_talk.nd rfl (Or.inl rfl) (pcall (ok_l_take T) (hr.mono (by omega)) T.g_l_take (pa_cons (pv 0) (pa_cons pe_int pa_nil))))
    (pss_cons (ps_if (PW.pt (pw_or (pt_cmpR op_eq (pv 2) pe_int (nomark _)) (pw_or1 (pt_cmpR op_eq (pv 3) pe_int (nomark _))))) (pss_cons (ps_if (pt_cmpR op_lt (pv 3) pe_int (nomark _)) (pss_one (ps_ret (pe_tup (pa_cons pe_str pa_nil)))) pss_nil)
    (pss_one (ps_ret (pe_tup (pa_cons (pe_ix ix_list (pe_lst (pa_cons pe_str (pa_cons pe_str pa_nil))) (pe_op op_mod (pv 3) pe_int) (fun _ _ => rfl)) (pa_cons (pe_op op_add_str pe_str (pe_callTy call_str_int (by rfl) T.f_str (by decide +kernel) (pa_cons (pcall (ok_l_take T) (hr.mono (by omega)) T.g_l_take (pa_cons (pv 0) (pa_cons (pv 1) pa_nil))) pa_nil))) pa_nil)))))) pss_nil)
    (pss_cons (ps_set (i := 4) sc_l_talk.nd rfl (Or.inl rfl) (pe_lst pa_nil))
    (pss_cons (ps_for PassesOwn.never rfl (pi_range1 (by rfl) T.f_range (pa_cons (pe_op op_add pe_int (pcall (ok_l_take T) (hr.mono (by omega)) T.g_l_take (pa_cons (pv 0) (pa_cons pe_int pa_nil)))) pa_nil)) (pg_name (i := 5) sc_l_talk.nd rfl (Or.inl rfl)) (pss_one (ps_expr (pe_bm PySem.F.plainAttrs_list PySem.F.slot_list_append PySem.F.type_list_append mt_append (pv 4) (pa_cons (pe_tup (pa_cons (pe_ix ix_list (pe_lst (pa_cons pe_str (pa_cons pe_str pa_nil))) (pv 5) (fun _ _ => rfl)) (pa_cons (pcall (ok_l_kind T) (hr.mono (by omega)) T.g_l_kind (pa_cons (pv 0) (pa_cons (pv 1) pa_nil))) (pa_cons (pcall (G) (hr.mono (by omega)) T.g_l_talk (pa_cons (pv 0) (pa_cons (pv 1) (pa_cons (pe_op op_sub (pv 2) pe_int) pa_nil)))) pa_nil)))) pa_nil)))))
    (pss_one (ps_ret (pe_tup (pa_cons (pe_ix ix_list (pe_lst (pa_cons pe_str (pa_cons pe_str pa_nil))) (pe_op op_mod (pv 3) pe_int) (fun _ _ => rfl)) (pa_cons (pe_callTy call_tuple_of (by rfl) T.f_tuple (by decide +kernel) (pa_cons (pv 4) pa_nil)) pa_nil))))))))), ?_⟩
  obtain ⟨g, n, f, z, m, rfl, rfl, rfl, hm0, hm, F, q⟩ := h
  have hb : 2 ≤ tB d := by
    unfold tB
    split <;> omega
  refine ⟨_, rfl, g, n + tB d - 1, f, z, 6, rfl, rfl, by decide, (by rw [show n + tB d - 1 + 1 = n + tB d by omega]; exact F), fun r H1 r0 r6 k1 F1 => ?_⟩
  dsimp only [gName, tSeq]
  refine if_or (decide (V.int d = V.int 0)) (decide (V.int r = V.int 0)) (fun Q q => ⟨_, rfl, rfl, _, rfl, q⟩) (fun _ Q q => ⟨_, rfl, rfl, _, rfl, q⟩) (fun _ => ?_) fun c1 c2 => ?_
  · -- an end or a name
    refine if_t (decide (r < 3)) (fun Q q => ⟨_, rfl, _, _, rfl, rfl, _, rfl, q⟩) (fun c => ?_) fun c => ?_
    · refine ⟨le_line (by show 1 ≤ _; decide), fun t ht => ?_⟩
      exact q _ .fin _ (k1.trans (Kp.new ht)) ((F1.new ht).le (by omega)) ⟨t, rfl, upd_same⟩ trivial (Nat.zero_le _)
    refine ⟨le_line (by show 2 ≤ _; decide), fun l hl => ?_⟩
    refine ⟨_, rfl, _, _, rfl, rfl, (by show (0 : Int) < 2; decide), l, _, _, _, rfl, rfl, SqL.up, at2 (by omega) (by omega), ?_⟩
    refine ⟨_, rfl, _, rfl, g, n + tB d - 2, f, z, m, rfl, rfl, by omega, (F1.new hl).le (by omega), fun y H2 y0 y1 k2 F2 => ?_⟩
    obtain ⟨y, rfl⟩ := Int.eq_ofNat_of_zero_le y0
    have ly : y ≤ LIM := by
      unfold LIM
      omega
    refine ⟨_, rfl, log2_small ly, _, _, rfl, rfl, len_T ly, le_line (by show 2 ≤ _; decide), fun t ht => ?_⟩
    exact q (.ref t) (.ref (decide (r % 2 = 1)) y) _ ((k1.trans (Kp.new hl)).trans (k2.trans (Kp.new ht))) ((F2.new ht).le (by omega)) ⟨t, rfl, upd_same⟩ (by show y < m; omega) (Nat.zero_le _)
  · have hd1 : d = 1 ∧ u = spTalk 0 := hd.resolve_left fun e => by
      rw [e] at c1
      exact absurd c1 (by decide)
    obtain ⟨rfl, rfl⟩ := hd1
    have eB : tB 1 = 10 := rfl
    rw [eB] at F1
    refine ⟨Nat.zero_le _, fun L hL => ?_⟩
    have kL : Kp g.p H (upd H1 L (.lst [])) := k1.trans (Kp.new hL)
    refine ⟨_, rfl, g, n + 8, f, z, 2, rfl, rfl, by decide, (F1.new hL).le (by omega), fun y H2 y0 y1 k2 F2 => ?_⟩
    obtain ⟨y, rfl⟩ := Int.eq_ofNat_of_zero_le y0
    have M0 : Made H2 L m 0 0 := Made.nil.kp k2 (F1.new hL).d
    have nL := F1.not hL
    have hL0 : H L = none := k1.free nL.1.symm hL
    refine ⟨_, _, rfl, rfl, ((1 + y : Nat) : Int), rfl, by omega, by omega, for_range (n := 1 + y) (fun i σ H' => ∃ v, σ = [some (.ref g.p), some (.int m), some (.int 1), some (.int r), some (.ref L), v] ∧ Kp g.p H H' ∧ FeedAt H' g (n + (2 - i) * 4) f z ∧ Made H' L m 0 i)
      ⟨none, rfl, kL.trans k2, F2, M0⟩ ?_ ?_⟩
    · rintro i σ H' hi ⟨v, rfl, k3, F3, M3⟩
      obtain ⟨_, vs3, h3, _⟩ := id M3.ex
      refine ⟨_, rfl, .inl ⟨rfl, _, SqL.of h3⟩, ?_⟩
      refine ⟨le_line (by show 2 ≤ _; decide), fun l hl => ?_⟩
      refine ⟨_, rfl, l, _, _, _, rfl, rfl, SqL.up, at2l (by omega), ?_⟩
      refine ⟨_, rfl, _, rfl, g, n + (2 - i) * 4 - 2, f, z, m, rfl, rfl, hm0, hm, (F3.new hl).le (by omega), fun kv k H4 k4 F4 K4 O4 => ?_⟩
      refine ⟨_, rfl, _, rfl, _, rfl, _, _, rfl, rfl, g, n + (2 - (i + 1)) * 4, f, z, m, rfl, rfl, rfl, hm0, hm, F4.le (by show _ + 2 ≤ _; omega), fun tv t H5 k5 F5 T5 O5 D5 => ?_⟩
      refine ⟨le_line (by show 3 ≤ _; decide), fun x hx => ?_⟩
      have M5 : Made (upd H5 x (.tup [.str (lab i), kv, tv])) L m 0 i := ((((M3.kp (Kp.new hl) F3.d).kp k4 (F3.new hl).d).kp k5 F4.d).kp (Kp.new hx) F5.d)
      have t5 := (F4.tu k5).trans (Tu.new (o := .tup [.str (lab i), kv, tv]) hx)
      obtain ⟨vs, a1, a2, a3⟩ := M5.add (by omega) rfl upd_same (K4.tu t5) (T5.tu (Tu.new hx)) O4 O5 D5
      refine ⟨L, _, _, rfl, rfl, a1, a2, ?_⟩
      exact ⟨_, rfl, ((((k3.trans (Kp.new hl)).trans k4).trans k5).trans (Kp.new hx)).put hL0, (F5.new hx).put nL, a3⟩
    · rintro σ H' ⟨v, rfl, k3, F3, M3⟩
      obtain ⟨R, vs3, h3, h4, h5, h6, h7, h8⟩ := M3.ex
      refine ⟨le_line (by show 2 ≤ _; decide), fun l hl => ?_⟩
      refine ⟨_, rfl, _, _, rfl, rfl, (by show (0 : Int) < 2; decide), l, _, _, _, rfl, rfl, SqL.up, at2 (by omega) (by omega), ?_⟩
      have h3' : upd H' l (.lst [.str "say", .str "hear"]) L = some (.lst vs3) := by
        rw [upd_ne (ne_of_none h3 hl)]
        exact h3
      refine ⟨_, rfl, L, _, rfl, .inl ⟨SqL.of h3', fun t ht => ?_⟩⟩
      refine ⟨le_line (by show 2 ≤ _; decide), fun x hx => ?_⟩
      have tt : Tu H' (upd (upd (upd H' l (.lst [.str "say", .str "hear"])) t (.tup vs3)) x (.tup [.str (sh (decide (r % 2 = 1))), .ref t])) := ((Tu.new hl).trans (Tu.new ht)).trans (Tu.new hx)
      refine q (.ref x) (.node (decide (r % 2 = 1)) R) _ (((k3.trans (Kp.new hl)).trans (Kp.new ht)).trans (Kp.new hx)) ((((F3.new hl).new ht).new hx).le (by omega)) ⟨x, t, vs3, rfl, upd_same, ?_, h4.tu tt⟩ ⟨by omega, by omega, by rw [h5, h6], h7⟩ (by show R.dep + 1 ≤ 1; omega)
      rw [upd_ne (ne_of_none upd_same hx)]
      exact upd_same
theorem FnG.never {x qual : Str} {st : Stmt} {ps : List Str} {f : Addr} (Df : DefAt K x qual st ps f) : FnG P w K mg base 0 f ps fun _ _ _ => False := by
  obtain ⟨fd, F, b⟩ := Df.ex
  exact ⟨⟨fd, ⟨fun vs H Q E h => h.elim, fun A outer s H args us vs Q E _ _ _ _ h => h.elim⟩, b⟩, F.kp⟩
theorem FnG.imp {k : Nat} {f : Addr} {ps : List Str} {sp sp' : Sp0} (F : FnG P w K mg base k f ps sp) (h : ∀ vs H Q, sp' vs H Q → sp vs H Q) : FnG P w K mg base k f ps sp' := by
  obtain ⟨⟨fd, F1, b⟩, kp⟩ := F
  exact ⟨⟨fd, F1.imp fun vs H Q E q => h vs H Q q, b⟩, kp⟩
theorem ok_l_talk0 (T : Top K mg) : FnG P w K mg base 3 (He.ga K "_law_talk") p_l_talk (S3 (spTalk 0)) :=
  talk_step (u := fun _ _ _ _ _ => False) T (((FnG.never T.d_l_talk).imp fun vs H Q h => by obtain ⟨_, _, _, _, h⟩ := h.len; exact h).up (by decide)) (Nat.le_refl 2) (.inl rfl)
theorem ok_l_talk (T : Top K mg) : FnG P w K mg base 4 (He.ga K "_law_talk") p_l_talk (S3 (spTalk 1)) := talk_step T (ok_l_talk0 T) (by decide) (.inr ⟨rfl, rfl⟩)
end G

/-! part W4 -/
set_option Elab.async false
set_option linter.all false
set_option maxRecDepth 100000
set_option maxHeartbeats 4000000
/-! The table, duals, heads. -/
namespace G
open PySem PySem.Spec PyProof.Rows L2
variable {P : Program} {w : World} {K : PySem.W.Frag} {mg : Str → Option Value} {base : Heap}
def tabF : Nat → List V → List (Key × V)
  | _, [] => []
  | j, v :: vs => (.inr (tn j), v) :: tabF (j + 1) vs
theorem tabF_get : ∀ (j : Nat) (vs : List V) (i : Nat), j + i ≤ LIM → valV (tabF j vs) (.inr (tn (j + i))) = vs[i]?
  | j, [], i, _ => rfl
  | j, v :: vs, 0, _ => valV_pos rfl
  | j, v :: vs, i + 1, h => by
    show valV ((.inr (tn j), v) :: tabF (j + 1) vs) _ = _
    rw [valV_neg]
    · have e : j + (i + 1) = (j + 1) + i := by omega
      rw [e, tabF_get (j + 1) vs i (by omega)]
      rfl
    · intro q
      have q2 := tn_inj (by omega) h (Sum.inr.inj q)
      omega
theorem tabF_app : ∀ (j : Nat) (vs : List V) (v : V), tabF j (vs ++ [v]) = tabF j vs ++ [(.inr (tn (j + vs.length)), v)]
  | j, [], v => rfl
  | j, u :: vs, v => by
    show (Sum.inr (tn j), u) :: tabF (j + 1) (vs ++ [v]) = _
    rw [tabF_app (j + 1) vs v]
    show _ = (Sum.inr (tn j), u) :: (tabF (j + 1) vs ++ [(Sum.inr (tn (j + (vs.length + 1))), v)])
    rw [show j + 1 + vs.length = j + (vs.length + 1) by omega]
theorem tabF_put (vs : List V) (v : V) (h : vs.length ≤ LIM) : putK (tabF 0 vs) (.inr (tn vs.length)) v = tabF 0 (vs ++ [v]) := by
  have e := tabF_get 0 vs vs.length (by omega)
  rw [Nat.zero_add] at e
  rw [putK_new, tabF_app, Nat.zero_add]
  rw [e]
  exact List.getElem?_eq_none (Nat.le_refl _)
def NodeOk (m : Nat) (t : Talk) : Prop := (∃ h r, t = .node h r) ∧ t.Ok m ∧ t.dep ≤ 2
/-- a table of i of m talks stands at q -/
structure TabW (H : Hp) (q : Addr) (i m : Nat) (Tb : Nat → Talk) : Prop where
  ex : ∃ vs : List V, H q = some (.dK (tabF 0 vs)) ∧ vs.length = i ∧ ∀ (k : Nat) v, vs[k]? = some v → TalkAt H (Tb k) v ∧ NodeOk m (Tb k)
theorem TabW.tu {H H' : Hp} {q : Addr} {i m : Nat} {Tb : Nat → Talk} (h : TabW H q i m Tb) (t : Tu H H') (e : ∀ o, H q = some o → H' q = some o) : TabW H' q i m Tb := by
  obtain ⟨vs, h1, h2, h3⟩ := h.ex
  exact ⟨vs, e _ h1, h2, fun k v hk => ⟨(h3 k v hk).1.tu t, (h3 k v hk).2⟩⟩
theorem TabW.kp {H H' : Hp} {q : Addr} {i m n f : Nat} {Tb : Nat → Talk} {g : Fd} {b : Str} (h : TabW H q i m Tb) (F : FeedAt H g n f b) (k : Kp g.p H H') (hq : q ≠ g.p) : TabW H' q i m Tb := h.tu (F.tu k) fun o e => k q o hq e
theorem TabW.same {H H' : Hp} {q : Addr} {i m : Nat} {Tb : Nat → Talk} (h : TabW H q i m Tb) (s : Same H H') : TabW H' q i m Tb := h.tu (Same.tu s) fun o e => s q o e
/-- the table, whether it is locked or not -/
structure TabAt (H : Hp) (q : Addr) (i m : Nat) (Tb : Nat → Talk) : Prop where
  ex : ∃ vs : List V, Rd H q (.dK (tabF 0 vs)) ∧ vs.length = i ∧ ∀ (k : Nat) v, vs[k]? = some v → TalkAt H (Tb k) v ∧ NodeOk m (Tb k)
theorem TabW.tab {H : Hp} {q : Addr} {i m : Nat} {Tb : Nat → Talk} (h : TabW H q i m Tb) : TabAt H q i m Tb := by
  obtain ⟨vs, h1, h2⟩ := h.ex
  exact ⟨vs, .inl h1, h2⟩
theorem TabAt.tu {H H' : Hp} {q : Addr} {i m : Nat} {Tb : Nat → Talk} (h : TabAt H q i m Tb) (t : Tu H H') (e : ∀ o, H q = some o → H' q = some o) : TabAt H' q i m Tb := by
  obtain ⟨vs, h1, h2, h3⟩ := h.ex
  exact ⟨vs, h1.elim (fun h => .inl (e _ h)) (fun ⟨o, h⟩ => .inr ⟨o, e _ h⟩), h2, fun k v hk => ⟨(h3 k v hk).1.tu t, (h3 k v hk).2⟩⟩
theorem TabAt.kp {H H' : Hp} {q : Addr} {i m n f : Nat} {Tb : Nat → Talk} {g : Fd} {b : Str} (h : TabAt H q i m Tb) (F : FeedAt H g n f b) (k : Kp g.p H H') (hq : q ≠ g.p) : TabAt H' q i m Tb := h.tu (F.tu k) fun o e => k q o hq e
theorem TabAt.same {H H' : Hp} {q : Addr} {i m : Nat} {Tb : Nat → Talk} (h : TabAt H q i m Tb) (s : Same H H') : TabAt H' q i m Tb := h.tu (Same.tu s) fun o e => s q o e
theorem TabAt.ne {H : Hp} {q L : Addr} {i m : Nat} {Tb : Nat → Talk} {us : List V} (h : TabAt H q i m Tb) (hL : H L = some (.lst us)) : q ≠ L := by
  obtain ⟨vs, h1, _⟩ := h.ex
  rcases h1 with h1 | ⟨o, h1⟩
  · exact ne_of h1 hL (by intro e; cases e)
  · exact ne_of h1 hL (by intro e; cases e)
def spTable : V → Hp → VK → Prop := fun a H Q => ∃ (g : Fd) (n f : Nat) (z : Str), a = .ref g.p ∧ FeedAt H g (n + 120) f z ∧
  ∀ (q : Addr) (m : Nat) (Tb : Nat → Talk) H', Kp g.p H H' → FeedAt H' g n f z → TabW H' q m m Tb → H q = none → 0 < m → m ≤ 3 → Q (.ref q) H'
theorem ok_l_table (T : Top K mg) : FnG P w K mg base 5 (He.ga K "_law_table") p_l_table (S1 spTable) := by
  refine FnG.of1 T.d_l_table sc_l_table rfl fun cdv A outer s H a Q E hr h => ?_
  have hu := hu_of hr
  refine ⟨_, (pss_cons (ps_set (i := 1) sc_l_table.nd rfl (Or.inl rfl) (pe_op op_add pe_int (pcall (ok_l_take T) (hr.mono (by omega)) T.g_l_take (pa_cons (pv 0) (pa_cons pe_int pa_nil)))))
    (pss_cons (ps_set (i := 2) sc_l_table.nd rfl (Or.inl rfl) pe_dnewK)
    (pss_cons (ps_for PassesOwn.never rfl (pi_range1 (by rfl) T.f_range (pa_cons (pv 1) pa_nil)) (pg_name (i := 3) sc_l_table.nd rfl (Or.inl rfl)) (pss_cons (ps_set (i := 4) sc_l_table.nd rfl (Or.inl rfl) (pe_lst pa_nil))
    (pss_cons (ps_for PassesOwn.never rfl (pi_range1 (by rfl) T.f_range (pa_cons (pe_op op_add pe_int (pcall (ok_l_take T) (hr.mono (by omega)) T.g_l_take (pa_cons (pv 0) (pa_cons pe_int pa_nil)))) pa_nil)) (pg_name (i := 5) sc_l_table.nd rfl (Or.inl rfl)) (pss_one (ps_expr (pe_bm PySem.F.plainAttrs_list PySem.F.slot_list_append PySem.F.type_list_append mt_append (pv 4) (pa_cons (pe_tup (pa_cons (pe_ix ix_list (pe_lst (pa_cons pe_str (pa_cons pe_str (pa_cons pe_str pa_nil)))) (pv 5) (fun _ _ => rfl)) (pa_cons (pcall (ok_l_kind T) (hr.mono (by omega)) T.g_l_kind (pa_cons (pv 0) (pa_cons (pv 1) pa_nil))) (pa_cons (pcall (ok_l_talk T) (hr.mono (by omega)) T.g_l_talk (pa_cons (pv 0) (pa_cons (pv 1) (pa_cons pe_int pa_nil)))) pa_nil)))) pa_nil)))))
    (pss_one (ps_dput hu (pv 2) (pe_op op_add_str pe_str (pe_callTy call_str_int (by rfl) T.f_str (by decide +kernel) (pa_cons (pv 3) pa_nil))) (pe_tup (pa_cons (pe_ix ix_list (pe_lst (pa_cons pe_str (pa_cons pe_str pa_nil))) (pcall (ok_l_take T) (hr.mono (by omega)) T.g_l_take (pa_cons (pv 0) (pa_cons pe_int pa_nil))) (fun _ _ => rfl)) (pa_cons (pe_callTy call_tuple_of (by rfl) T.f_tuple (by decide +kernel) (pa_cons (pv 4) pa_nil)) pa_nil))) rfl)))))
    (pss_one (ps_ret (pv 2)))))), ?_⟩
  obtain ⟨g, n, f, z, rfl, F, q⟩ := h
  refine ⟨_, rfl, g, n + 119, f, z, 3, rfl, rfl, by decide, F, fun r H1 r0 r3 k1 F1 => ?_⟩
  obtain ⟨r, rfl⟩ := Int.eq_ofNat_of_zero_le r0
  have er : (1 : Int) + (r : Int) = ((1 + r : Nat) : Int) := by omega
  refine ⟨_, _, rfl, rfl, fun t ht => ?_⟩
  have nt := F1.not ht
  have ht0 : H t = none := k1.free nt.1.symm ht
  refine ⟨_, rfl, ((1 + r : Nat) : Int), rfl, by omega, by omega, for_range (n := 1 + r) (fun i σ H' => ∃ (v3 v4 v5 : Option V) (Tb : Nat → Talk), σ = [some (.ref g.p), some (.int (1 + (r : Int))), some (.ref t), v3, v4, v5] ∧ Kp g.p H H' ∧ FeedAt H' g (n + (3 - i) * 38) f z ∧ TabW H' t i (1 + r) Tb)
    ⟨none, none, none, fun _ => .fin, rfl, k1.trans (Kp.new ht), (F1.new ht).le (by omega), ⟨[], upd_same, rfl, fun k v hk => by simp at hk⟩⟩ ?_ ?_⟩
  · rintro i σ H2 hi ⟨v3, v4, v5, Tb, rfl, k2, F2, T2⟩
    rw [Int.zero_add]
    refine ⟨Nat.zero_le _, fun L hL => ?_⟩
    have nL := F2.not hL
    have hL0 : H L = none := k2.free nL.1.symm hL
    have ntL : t ≠ L := by
      obtain ⟨_, h, _⟩ := T2.ex
      exact ne_of_none h hL
    have TL : TabW (upd H2 L (.lst [])) t i (1 + r) Tb := T2.same (Same.new hL)
    refine ⟨_, rfl, g, n + (3 - (i + 1)) * 38 + 37, f, z, 3, rfl, rfl, by decide, (F2.new hL).le (by omega), fun y H3 y0 y3 k3 F3 => ?_⟩
    obtain ⟨y, rfl⟩ := Int.eq_ofNat_of_zero_le y0
    have ey : (1 : Int) + (y : Int) = ((1 + y : Nat) : Int) := by omega
    have M0 : Made H3 L (1 + r) 1 0 := Made.nil.kp k3 (F2.new hL).d
    refine ⟨_, _, rfl, rfl, ((1 + y : Nat) : Int), rfl, by omega, by omega, for_range (n := 1 + y) (fun j σ H' => ∃ v5, σ = [some (.ref g.p), some (.int (1 + (r : Int))), some (.ref t), some (.int i), some (.ref L), v5] ∧ Kp g.p H H' ∧ FeedAt H' g (n + (3 - (i + 1)) * 38 + 1 + (3 - j) * 12) f z ∧ TabW H' t i (1 + r) Tb ∧ Made H' L (1 + r) 1 j)
      ⟨_, rfl, (k2.trans (Kp.new hL)).trans k3, F3.le (by omega), TL.kp (F2.new hL) k3 nt.1.symm, M0⟩ ?_ ?_⟩
    · rintro j σ H4 hj ⟨v5, rfl, k4, F4, T4, M4⟩
      obtain ⟨_, vs4, h4, _⟩ := id M4.ex
      have ej : (0 : Int) + (j : Int) = (j : Int) := Int.zero_add _
      refine ⟨_, rfl, .inl ⟨rfl, _, SqL.of h4⟩, ?_⟩
      refine ⟨le_line (by show 3 ≤ _; decide), fun l hl => ?_⟩
      refine ⟨_, rfl, l, _, _, _, rfl, rfl, SqL.up, at3 (by omega), ?_⟩
      refine ⟨_, rfl, _, rfl, g, n + (3 - (i + 1)) * 38 + 1 + (3 - (j + 1)) * 12 + 10, f, z, 1 + r, rfl, rfl, by omega, by omega, (F4.new hl).le (by omega), fun kv kd H5 k5 F5 K5 O5 => ?_⟩
      refine ⟨_, rfl, _, rfl, g, n + (3 - (i + 1)) * 38 + 1 + (3 - (j + 1)) * 12, f, z, 1 + r, rfl, rfl, rfl, by omega, by omega, F5.le (by show _ + 10 ≤ _; omega), fun tv tk H6 k6 F6 T6 O6 D6 => ?_⟩
      refine ⟨le_line (by show 3 ≤ _; decide), fun x hx => ?_⟩
      have elb : (if j = 0 then ("a" : Str) else if j = 1 then "b" else "c") = lab j := rfl
      rw [elb]
      have M6 : Made (upd H6 x (.tup [.str (lab j), kv, tv])) L (1 + r) 1 j := ((((M4.kp (Kp.new hl) F4.d).kp k5 (F4.new hl).d).kp k6 F5.d).kp (Kp.new hx) F6.d)
      have t6 := (F5.tu k6).trans (Tu.new (o := .tup [.str (lab j), kv, tv]) hx)
      obtain ⟨vs, a1, a2, a3⟩ := M6.add (by omega) rfl upd_same (K5.tu t6) (T6.tu (Tu.new hx)) O5 O6 D6
      refine ⟨L, _, _, rfl, rfl, a1, a2, ?_⟩
      refine ⟨_, rfl, ((((k4.trans (Kp.new hl)).trans k5).trans k6).trans (Kp.new hx)).put hL0, (F6.new hx).put nL, ?_, a3⟩
      have T7 := (((T4.same (Same.new hl)).kp (F4.new hl) k5 nt.1.symm).kp F5 k6 nt.1.symm).same (Same.new (o := .tup [.str (lab j), kv, tv]) hx)
      exact T7.tu (Tu.at_ a1 (by intro xs e; cases e)) fun o e => by rw [upd_ne ntL]; exact e
    · rintro σ H4 ⟨v5, rfl, k4, F4, T4, M4⟩
      obtain ⟨R, vs4, h4, h5, h6, h7, h8, h9⟩ := M4.ex
      refine ⟨le_line (by show 2 ≤ _; decide), fun l hl => ?_⟩
      refine ⟨_, rfl, g, n + (3 - (i + 1)) * 38, f, z, 2, rfl, rfl, by decide, (F4.new hl).le (by omega), fun d H5 d0 d2 k5 F5 => ?_⟩
      have nl := F4.not hl
      refine ⟨l, _, _, _, rfl, rfl, SqL.of (k5 _ _ nl.1.symm upd_same), at2 (by omega) (by omega), ?_⟩
      have h4' : H5 L = some (.lst vs4) := k5 _ _ nL.1.symm (by rw [upd_ne (ne_of_none h4 hl)]; exact h4)
      refine ⟨_, rfl, L, _, rfl, .inl ⟨SqL.of h4', fun u hu5 => ?_⟩⟩
      refine ⟨le_line (by show 2 ≤ _; decide), fun x hx => ?_⟩
      have T5 := ((T4.same (Same.new (o := .lst [.str "say", .str "hear"]) hl)).kp (F4.new hl) k5 nt.1.symm).same ((Same.new (o := .tup vs4) hu5).trans (Same.new (o := .tup [.str (sh (decide (d = 1))), .ref u]) hx))
      obtain ⟨us, u1, u2, u3⟩ := T5.ex
      have li : i ≤ LIM := by
        unfold LIM
        omega
      refine ⟨_, rfl, _, rfl, _, rfl, log2_small li, _, _, rfl, rfl, len_T li, t, _, rfl, DPut.k (k := .inr (tn i)) u1 ?_, ?_⟩
      · have e : (tabF 0 us).length = us.length := by
          have : ∀ (j : Nat) (us : List V), (tabF j us).length = us.length := fun j us => by
            induction us generalizing j with
            | nil => rfl
            | cons a r ih => exact congrArg (· + 1) (ih (j + 1))
          exact this 0 us
        rw [e, u2]
        exact lt_line (by omega)
      · have ep : putK (tabF 0 us) (.inr (tn i)) (.ref x) = tabF 0 (us ++ [.ref x]) := by
          rw [← u2]
          exact tabF_put us _ (by rw [u2]; exact li)
        rw [ep]
        have nx : x ≠ u := fun e => by
          rw [e, upd_same] at hx
          cases hx
        have t7 : Tu H5 (upd (upd (upd H5 u (.tup vs4)) x (.tup [.str (sh (decide (d = 1))), .ref u])) t (.dK (tabF 0 (us ++ [.ref x])))) := ((Tu.new hu5).trans (Tu.new hx)).trans (Tu.at_ u1 (by intro xs e; cases e))
        have t6 := Tu.at_ (o := .dK (tabF 0 (us ++ [.ref x]))) u1 (by intro xs e; cases e)
        refine ⟨_, _, _, fun k => if k = i then .node (decide (d = 1)) R else Tb k, rfl, ((((k4.trans (Kp.new hl)).trans k5).trans (Kp.new hu5)).trans (Kp.new hx)).put ht0, ((F5.new hu5).new hx).put nt, ⟨us ++ [.ref x], upd_same, by rw [List.length_append, u2]; rfl, fun k v hk => ?_⟩⟩
        by_cases c : k = i
        · rw [if_pos c]
          have e2 : (us ++ [V.ref x])[k]? = some (.ref x) := by
            rw [c, ← u2, List.getElem?_append_right (Nat.le_refl _), Nat.sub_self]
            rfl
          rw [hk] at e2
          cases e2
          refine ⟨⟨x, u, vs4, rfl, t6 _ _ upd_same, t6 _ _ (by rw [upd_ne nx.symm]; exact upd_same), h5.tu (((Tu.new hl).trans ((F4.new hl).tu k5)).trans t7)⟩, ⟨_, _, rfl⟩, ⟨by omega, by omega, by rw [h6, h7], h8⟩, (by show R.dep + 1 ≤ 2; omega)⟩
        · rw [if_neg c]
          have lt : k < us.length := by
            have z := (List.getElem?_eq_some_iff.mp hk).1
            rw [List.length_append, u2] at z
            have z : k < i + 1 := z
            omega
          rw [List.getElem?_append_left lt] at hk
          exact ⟨(u3 k v hk).1.tu t6, (u3 k v hk).2⟩
  · rintro σ H2 ⟨v3, v4, v5, Tb, rfl, k2, F2, T2⟩
    exact ⟨_, rfl, q t (1 + r) Tb H2 k2 (F2.le (by omega)) T2 ht0 (by omega) (by omega)⟩
end G

/-! part W5 -/
set_option Elab.async false
set_option linter.all false
set_option maxRecDepth 100000
set_option maxHeartbeats 4000000
/-! Duals, heads. -/
namespace G
open PySem PySem.Spec PyProof.Rows L2
variable {P : Program} {w : World} {K : PySem.W.Frag} {mg : Str → Option Value} {base : Heap}
def Rows.get : Nat → Rows → Option (Str × Kd × Talk)
  | _, .nil => none
  | 0, .cons l k t _ => some (l, k, t)
  | i + 1, .cons _ _ _ r => r.get i
def Rows.take : Nat → Rows → Rows
  | _, .nil => .nil
  | 0, .cons _ _ _ _ => .nil
  | i + 1, .cons l k t r => .cons l k t (r.take i)
theorem take_succ {l : Str} {k : Kd} {t : Talk} : ∀ {r : Rows} {i : Nat}, r.get i = some (l, k, t) → r.take (i + 1) = (r.take i).snoc l k t
  | .nil, i, h => by
    cases i <;> cases h
  | .cons l1 k1 t1 r, 0, h => by
    cases h
    show Rows.cons l k t (r.take 0) = _
    cases r <;> rfl
  | .cons l1 k1 t1 r, i + 1, h => by
    have h : r.get i = some (l, k, t) := h
    show Rows.cons l1 k1 t1 (r.take (i + 1)) = .cons l1 k1 t1 ((r.take i).snoc l k t)
    rw [take_succ h]
theorem take_zero : ∀ r : Rows, r.take 0 = .nil
  | .nil => rfl
  | .cons _ _ _ _ => rfl
theorem take_len : ∀ (r : Rows) (i : Nat), (r.take i).len ≤ i
  | .nil, 0 => Nat.zero_le _
  | .nil, i + 1 => Nat.zero_le _
  | .cons _ _ _ _, 0 => Nat.zero_le _
  | .cons _ _ _ r, i + 1 => Nat.succ_le_succ (take_len r i)
theorem take_all : ∀ r : Rows, r.take r.len = r
  | .nil => rfl
  | .cons l k t r => congrArg (Rows.cons l k t) (take_all r)
theorem dual_snoc (l : Str) (k : Kd) (t : Talk) : ∀ r : Rows, (r.snoc l k t).dual = r.dual.snoc l k t.dual
  | .nil => rfl
  | .cons l1 k1 t1 r => congrArg (Rows.cons l1 k1 t1.dual) (dual_snoc l k t r)
/-- the i-th row -/
theorem RowsAt.nth {H : Hp} : ∀ {r : Rows} {vs : List V} {i : Nat} {v : V}, RowsAt H r vs → vs[i]? = some v →
    ∃ l k t p kv tv, r.get i = some (l, k, t) ∧ v = .ref p ∧ H p = some (.tup [.str l, kv, tv]) ∧ KdAt H k kv ∧ TalkAt H t tv ∧ t.dep ≤ r.dep
  | .nil, _, i, v, h, q => by
    have h : _ = [] := h
    rw [h] at q
    simp at q
  | .cons l k t r, _, 0, v, ⟨p, kv, tv, vs', e, h1, h2, h3, h4⟩, q => by
    rw [e] at q
    cases q
    exact ⟨l, k, t, p, kv, tv, rfl, rfl, h1, h2, h3, Nat.le_max_left _ _⟩
  | .cons l k t r, _, i + 1, v, ⟨p, kv, tv, vs', e, h1, h2, h3, h4⟩, q => by
    rw [e] at q
    obtain ⟨l', k', t', p', kv', tv', a, b, c, d, f, g⟩ := RowsAt.nth (i := i) h4 q
    exact ⟨l', k', t', p', kv', tv', a, b, c, d, f, Nat.le_trans g (Nat.le_max_right _ _)⟩
def spDual (n : Nat) : V → Hp → VK → Prop := fun a H Q => ∃ (t : Talk) (m : Nat), TalkAt H t a ∧ t.dep < n ∧ t.Ok m ∧ ∀ v H', Same H H' → TalkAt H' t.dual v → Q v H'
theorem subRows {m : Nat} : ∀ {r : Rows} {i : Nat} {l : Str} {k : Kd} {t : Talk}, r.Ok m → r.get i = some (l, k, t) → k.Ok m ∧ t.Ok m
  | .nil, i, _, _, _, _, h => by
    cases i <;> cases h
  | .cons l1 k1 t1 r, 0, l, k, t, o, h => by
    cases h
    exact ⟨o.1, o.2.1⟩
  | .cons l1 k1 t1 r, i + 1, l, k, t, o, h => subRows o.2.2 (show r.get i = some (l, k, t) from h)
theorem dual_step {k n : Nat} (T : Top K mg) (G : FnG P w K mg base k (He.ga K "_law_dual") p_l_dual (S1 (spDual n))) : FnG P w K mg base (k + 1) (He.ga K "_law_dual") p_l_dual (S1 (spDual (n + 1))) := by
  refine FnG.of1 T.d_l_dual sc_l_dual rfl fun cdv A outer s H a Q E hr h => ⟨_, (pss_cons (ps_if (pt_cmpR op_eq (pe_ix ix_tup (pv 0) pe_int (fun _ _ => rfl)) pe_str (nomark _)) (pss_one (ps_ret (pv 0))) pss_nil)
    (pss_cons (ps_if (pt_cmpR op_in_seq (pe_ix ix_tup (pv 0) pe_int (fun _ _ => rfl)) (pe_lst (pa_cons pe_str (pa_cons pe_str pa_nil))) rfl) (pss_one (ps_ret (pe_tup (pa_cons (pe_ix ix_list (pe_lst (pa_cons pe_str (pa_cons pe_str pa_nil))) (pe_callTy call_int1 (by rfl) T.f_int (by decide +kernel) (pa_cons (pe_cmpR op_eq (pe_ix ix_tup (pv 0) pe_int (fun _ _ => rfl)) pe_str (nomark _)) pa_nil)) (fun _ _ => rfl)) (pa_cons (pe_ix ix_tup (pv 0) pe_int (fun _ _ => rfl)) pa_nil))))) pss_nil)
    (pss_cons (ps_setLc (i := 1) (own := [("_law_label", 2), ("_law_kind_here", 3), ("_law_rest_here", 4)]) (g := gTup K 3 (gCons (gName 2) (gCons (gName 3) (gCons (gName 4) gNil)))) (tt := tYes) rfl sc_l_dual.nd rfl rfl (sw_true rfl rfl rfl (by decide +kernel)) (pi_tup (pe_ix ix_tup (pv 0) pe_int (fun _ _ => rfl))) (blkOk_by (own := [("_law_label", 2), ("_law_kind_here", 3), ("_law_rest_here", 4)]) (N := n_l_dual) (sc := defScope s_l_dual) (by decide +kernel)) (fun _ _ _ _ _ => (pg_tup (by rfl) (pgs_cons (pg_name (i := 2) sc_l_dual.nd rfl (Or.inl rfl)) (pgs_cons (pg_name (i := 3) sc_l_dual.nd rfl (Or.inl rfl)) (pgs_cons (pg_name (i := 4) sc_l_dual.nd rfl (Or.inl rfl)) pgs_nil))))) (fun _ _ _ _ _ => pts_nil) (fun _ _ _ _ _ => (pe_tup (pa_cons (pv 2) (pa_cons (pv 3) (pa_cons (pcall (G) (hr.mono (by omega)) T.g_l_dual (pa_cons (pv 4) pa_nil)) pa_nil))))))
    (pss_one (ps_ret (pe_tup (pa_cons (pe_ix ix_list (pe_lst (pa_cons pe_str (pa_cons pe_str pa_nil))) (pe_callTy call_int1 (by rfl) T.f_int (by decide +kernel) (pa_cons (pe_cmpR op_eq (pe_ix ix_tup (pv 0) pe_int (fun _ _ => rfl)) pe_str (nomark _)) pa_nil)) (fun _ _ => rfl)) (pa_cons (pe_callTy call_tuple_of (by rfl) T.f_tuple (by decide +kernel) (pa_cons (pv 1) pa_nil)) pa_nil)))))))), ?_⟩
  obtain ⟨t, m, hT, hd, hO, q⟩ := h
  cases t with
  | fin =>
    obtain ⟨p, rfl, hp⟩ := hT
    refine ⟨_, rfl, p, _, _, _, rfl, rfl, SqT.of hp, atI_nat (j := 0) rfl, rfl, _, rfl, ite2 (fun c => ?_) fun c => absurd (by decide +kernel) c⟩
    exact ⟨_, rfl, q _ H (Same.refl H) ⟨p, rfl, hp⟩⟩
  | ref d y =>
    obtain ⟨p, rfl, hp⟩ := hT
    have hq : ∀ (l : Addr) (o : HO), H l = none → upd H l o p = some (.tup [.str (dn d), .str (tn y)]) := fun l o hl => by
      rw [upd_ne (ne_of_none hp hl)]
      exact hp
    refine ⟨_, rfl, p, _, _, _, rfl, rfl, SqT.of hp, atI_nat (j := 0) rfl, rfl, _, rfl, ite2 (fun c => absurd c (by cases d <;> decide +kernel)) fun c => ?_⟩
    refine ⟨_, rfl, p, _, _, _, rfl, rfl, SqT.of hp, atI_nat (j := 0) rfl, le_line (by show 2 ≤ _; decide), fun l hl => ?_⟩
    refine ⟨l, _, rfl, .inl SqL.up, rfl, rfl, _, rfl, ite2 (fun c => ?_) fun c => absurd (by cases d <;> decide +kernel) c⟩
    refine ⟨le_line (by show 2 ≤ _; decide), fun l2 hl2 => ?_⟩
    have hp2 := hq l (.lst [.str "name", .str "dual"]) hl
    have hp3 : upd (upd H l (.lst [.str "name", .str "dual"])) l2 (.lst [.str "dual", .str "name"]) p = some (.tup [.str (dn d), .str (tn y)]) := by
      rw [upd_ne (ne_of_none hp2 hl2)]
      exact hp2
    refine ⟨_, rfl, p, _, _, _, rfl, rfl, SqT.of hp3, atI_nat (j := 0) rfl, rfl, .inr ⟨_, rfl, l2, _, _, .str (dn !d), rfl, rfl, SqL.up, ?_, ?_⟩⟩
    · cases d <;> rfl
    refine ⟨_, rfl, p, _, _, _, rfl, rfl, SqT.of hp3, atI_nat (j := 1) rfl, le_line (by show 2 ≤ _; decide), fun x hx => ?_⟩
    exact q _ _ (((Same.new hl).trans (Same.new hl2)).trans (Same.new hx)) ⟨x, rfl, upd_same⟩
  | node b r =>
    obtain ⟨p, q2, vs, rfl, hp, hq2, hR⟩ := hT
    have hd : r.dep + 1 < n + 1 := hd
    refine ⟨_, rfl, p, _, _, _, rfl, rfl, SqT.of hp, atI_nat (j := 0) rfl, rfl, _, rfl, ite2 (fun c => absurd c (by cases b <;> decide +kernel)) fun c => ?_⟩
    refine ⟨_, rfl, p, _, _, _, rfl, rfl, SqT.of hp, atI_nat (j := 0) rfl, le_line (by show 2 ≤ _; decide), fun l hl => ?_⟩
    refine ⟨l, _, rfl, .inl SqL.up, rfl, rfl, _, rfl, ite2 (fun c => absurd c (by cases b <;> decide +kernel)) fun c => ?_⟩
    have s1 : Same H (upd H l (.lst [.str "name", .str "dual"])) := Same.new hl
    refine ⟨_, rfl, p, _, _, _, rfl, rfl, SqT.of (s1 _ _ hp), atI_nat (j := 1) rfl, q2, rfl, ⟨_, SqT.of (s1 _ _ hq2)⟩, fun D hD => ?_⟩
    have hD0 : H D = none := s1.free hD
    have lv := hR.len
    refine lc_tup (K := K) (a := q2) (xs := vs) (fun i H' => Same H H' ∧ ∃ acc, H' D = some (.lst acc) ∧ RowsAt H' (r.take i).dual acc) ⟨s1.trans (Same.new hD), [], upd_same, by rw [take_zero]; rfl⟩
      (fun i H' _ h => SqT.of (h.1 _ _ hq2)) ?_ ?_
    · rintro i x H' hi ⟨s2, acc, h1, h2⟩
      obtain ⟨lb, kd, tk, pr, kv, tv, g1, rfl, g2, g3, g4, g5⟩ := hR.nth hi
      have la := h2.len
      have li : i < 3 := by
        have z := (List.getElem?_eq_some_iff.mp hi).1
        have := hO.1
        omega
      refine ⟨pr, _, rfl, SqT.of (s2 _ _ g2), rfl, _, _, rfl, _, _, rfl, _, _, rfl, rfl, rfl, ?_⟩
      refine ⟨_, rfl, _, rfl, _, rfl, tk, m, g4.tu (Same.tu s2), by omega, (subRows hO.2.2.2 g1).2, fun v H3 s3 T3 => ?_⟩
      refine ⟨le_line (by show 3 ≤ _; decide), fun z hz => ?_⟩
      have h13 : upd H3 z (.tup [.str lb, kv, v]) D = some (.lst acc) := by
        rw [upd_ne (ne_of_none (s3 _ _ h1) hz)]
        exact s3 _ _ h1
      have ta := Tu.at_ (o := .lst (acc ++ [.ref z])) h13 (by intro xs e; cases e)
      have t3 : Tu H' (upd (upd H3 z (.tup [.str lb, kv, v])) D (.lst (acc ++ [.ref z]))) := (Tu.trans (Same.tu s3) (Tu.new hz)).trans ta
      refine ⟨acc, h13, ?_, ?_, _, upd_same, ?_⟩
      · rw [la, Rows.len_dual]
        have := take_len r i
        exact lt_line (by omega)
      · exact Same.put ((s2.trans s3).trans (Same.new hz)) hD0
      · rw [take_succ g1, dual_snoc]
        exact RowsAt.snoc (ta _ _ upd_same) ((g3.tu (Same.tu s2)).tu t3) (T3.tu ((Tu.new hz).trans ta)) (h2.tu t3)
    · rintro H' ⟨s2, acc, h1, h2⟩
      rw [lv, take_all] at h2
      refine ⟨le_line (by show 2 ≤ _; decide), fun l2 hl2 => ?_⟩
      have hp2 : upd H' l2 (.lst [.str "hear", .str "say"]) p = some (.tup [.str (sh b), .ref q2]) := by
        rw [upd_ne (ne_of_none (s2 _ _ hp) hl2)]
        exact s2 _ _ hp
      have h12 : upd H' l2 (.lst [.str "hear", .str "say"]) D = some (.lst acc) := by
        rw [upd_ne (ne_of_none h1 hl2)]
        exact h1
      refine ⟨_, rfl, p, _, _, _, rfl, rfl, SqT.of hp2, atI_nat (j := 0) rfl, rfl, .inr ⟨_, rfl, l2, _, _, .str (sh !b), rfl, rfl, SqL.up, ?_, ?_⟩⟩
      · cases b <;> rfl
      refine ⟨_, rfl, D, _, rfl, .inl ⟨SqL.of h12, fun u hu => ?_⟩⟩
      refine ⟨le_line (by show 2 ≤ _; decide), fun x hx => ?_⟩
      refine q _ _ (((s2.trans (Same.new hl2)).trans (Same.new hu)).trans (Same.new hx)) ⟨x, u, acc, rfl, upd_same, ?_, h2.tu (((Tu.new hl2).trans (Tu.new hu)).trans (Tu.new hx))⟩
      rw [upd_ne (ne_of_none upd_same hx)]
      exact upd_same
theorem ok_dual_n (T : Top K mg) : ∀ n : Nat, FnG P w K mg base n (He.ga K "_law_dual") p_l_dual (S1 (spDual n))
  | 0 => (FnG.never T.d_l_dual).imp fun vs H Q h => by
    obtain ⟨_, _, t, m, _, hd, _⟩ := h.len
    exact absurd hd (Nat.not_lt_zero _)
  | n + 1 => dual_step T (ok_dual_n T n)
theorem ok_l_dual (T : Top K mg) : FnG P w K mg base 3 (He.ga K "_law_dual") p_l_dual (S1 (spDual 3)) := ok_dual_n T 3
def spHead : V → V → Hp → VK → Prop := fun a b H Q => ∃ (q : Addr) (m : Nat) (Tb : Nat → Talk) (t : Talk), a = .ref q ∧ TabAt H q m m Tb ∧ m ≤ 3 ∧ TalkAt H t b ∧ t.Ok m ∧ t.dep ≤ 2 ∧ ∀ v H', Same H H' → TalkAt H' (head Tb t) v → Q v H'
theorem TabAt.get {H : Hp} {q : Addr} {m : Nat} {Tb : Nat → Talk} (h : TabAt H q m m Tb) {n : Nat} (hn : n < m) (hm : m ≤ 3) : ∃ v, DGet H q (.str (tn n)) (some v) ∧ TalkAt H (Tb n) v ∧ NodeOk m (Tb n) := by
  obtain ⟨vs, h1, h2, h3⟩ := h.ex
  have ln : n < vs.length := by omega
  refine ⟨vs[n], ?_, h3 n _ (List.getElem?_eq_getElem ln)⟩
  have e := tabF_get 0 vs n (by unfold LIM; omega)
  rw [Nat.zero_add, List.getElem?_eq_getElem ln] at e
  exact .inl ⟨_, .inr (tn n), h1, rfl, e.symm⟩
theorem ok_l_head (T : Top K mg) : FnG P w K mg base 4 (He.ga K "_law_head") p_l_head (S2 spHead) := by
  refine FnG.of2 T.d_l_head sc_l_head rfl fun cdv A outer s H a b Q E hr h => ?_
  have hu := hu_of hr
  refine ⟨_, (pss_cons (ps_if (pt_cmpR op_eq (pe_ix ix_tup (pv 1) pe_int (fun _ _ => rfl)) pe_str (nomark _)) (pss_one (ps_ret (pe_dget hu (pv 0) (pe_ix ix_tup (pv 1) pe_int (fun _ _ => rfl)) (fun _ _ => rfl)))) pss_nil)
    (pss_cons (ps_if (pt_cmpR op_eq (pe_ix ix_tup (pv 1) pe_int (fun _ _ => rfl)) pe_str (nomark _)) (pss_one (ps_ret (pcall (ok_l_dual T) (hr.mono (by omega)) T.g_l_dual (pa_cons (pe_dget hu (pv 0) (pe_ix ix_tup (pv 1) pe_int (fun _ _ => rfl)) (fun _ _ => rfl)) pa_nil)))) pss_nil)
    (pss_one (ps_ret (pv 1))))), ?_⟩
  obtain ⟨q0, m, Tb, t, rfl, hTb, hm, hT, hO, hd, q⟩ := h
  cases t with
  | ref d n =>
    obtain ⟨p, rfl, hp⟩ := hT
    obtain ⟨v, g1, g2, g3⟩ := hTb.get (n := n) hO hm
    cases d with
    | false =>
      refine ⟨_, rfl, p, _, _, _, rfl, rfl, SqT.of hp, atI_nat (j := 0) rfl, rfl, _, rfl, ite2 (fun c => ?_) fun c => absurd (by decide +kernel) c⟩
      refine ⟨_, rfl, _, rfl, p, _, _, _, rfl, rfl, SqT.of hp, atI_nat (j := 1) rfl, q0, v, rfl, g1, ?_⟩
      exact q v H (Same.refl H) g2
    | true =>
      refine ⟨_, rfl, p, _, _, _, rfl, rfl, SqT.of hp, atI_nat (j := 0) rfl, rfl, _, rfl, ite2 (fun c => absurd c (by decide +kernel)) fun c => ?_⟩
      refine ⟨_, rfl, p, _, _, _, rfl, rfl, SqT.of hp, atI_nat (j := 0) rfl, rfl, _, rfl, ite2 (fun c => ?_) fun c => absurd (by decide +kernel) c⟩
      refine ⟨_, rfl, _, rfl, p, _, _, _, rfl, rfl, SqT.of hp, atI_nat (j := 1) rfl, q0, v, rfl, g1, Tb n, m, g2, Nat.lt_succ_of_le g3.2.2, g3.2.1, fun v2 H2 s2 T2 => ?_⟩
      exact q v2 H2 s2 T2
  | fin =>
    obtain ⟨p, rfl, hp⟩ := hT
    refine ⟨_, rfl, p, _, _, _, rfl, rfl, SqT.of hp, atI_nat (j := 0) rfl, rfl, _, rfl, ite2 (fun c => absurd c (by decide +kernel)) fun c => ?_⟩
    refine ⟨_, rfl, p, _, _, _, rfl, rfl, SqT.of hp, atI_nat (j := 0) rfl, rfl, _, rfl, ite2 (fun c => absurd c (by decide +kernel)) fun c => ?_⟩
    exact ⟨_, rfl, q _ H (Same.refl H) ⟨p, rfl, hp⟩⟩
  | node b r =>
    obtain ⟨p, q2, vs, rfl, hp, hq⟩ := hT
    refine ⟨_, rfl, p, _, _, _, rfl, rfl, SqT.of hp, atI_nat (j := 0) rfl, rfl, _, rfl, ite2 (fun c => absurd c (by cases b <;> decide +kernel)) fun c => ?_⟩
    refine ⟨_, rfl, p, _, _, _, rfl, rfl, SqT.of hp, atI_nat (j := 0) rfl, rfl, _, rfl, ite2 (fun c => absurd c (by cases b <;> decide +kernel)) fun c => ?_⟩
    exact ⟨_, rfl, q _ H (Same.refl H) ⟨p, q2, vs, rfl, hp, hq⟩⟩
end G

/-! part W6 -/
set_option Elab.async false
set_option linter.all false
set_option maxRecDepth 100000
set_option maxHeartbeats 4000000
/-! Expressions over the heap; numbers, tests, workers, what is spare. -/
namespace G
open PySem PySem.Spec PyProof.Rows L2
variable {P : Program} {w : World} {K : PySem.W.Frag} {mg : Str → Option Value} {base : Heap}
/-! ### expressions -/
def opn : Op → Str
  | .add => "add" | .sub => "sub" | .mul => "mul" | .lt => "lt" | .le => "le" | .eq => "eq"
def ExpAt (H : Hp) : Exp → V → Prop
  | .int n, v => ∃ p, v = .ref p ∧ H p = some (.tup [.str "int", .int n])
  | .bool b, v => ∃ p, v = .ref p ∧ H p = some (.tup [.str "bool", .bl b])
  | .var x, v => ∃ p, v = .ref p ∧ H p = some (.tup [.str "var", .str x])
  | .neg e, v => ∃ p u, v = .ref p ∧ H p = some (.tup [.str "not", u]) ∧ ExpAt H e u
  | .bin o a b, v => ∃ p u w, v = .ref p ∧ H p = some (.tup [.str (opn o), u, w]) ∧ ExpAt H a u ∧ ExpAt H b w
theorem ExpAt.tu {H H' : Hp} (s : Tu H H') : ∀ {e : Exp} {v : V}, ExpAt H e v → ExpAt H' e v
  | .int n, _, ⟨p, e, h⟩ => ⟨p, e, s _ _ h⟩
  | .bool n, _, ⟨p, e, h⟩ => ⟨p, e, s _ _ h⟩
  | .var n, _, ⟨p, e, h⟩ => ⟨p, e, s _ _ h⟩
  | .neg _, _, ⟨p, u, e, h, h1⟩ => ⟨p, u, e, s _ _ h, ExpAt.tu s h1⟩
  | .bin _ _ _, _, ⟨p, u, w, e, h, h1, h2⟩ => ⟨p, u, w, e, s _ _ h, ExpAt.tu s h1, ExpAt.tu s h2⟩
/-- a list of names -/
def IntsAt (H : Hp) (l : Addr) (xs : List Str) : Prop := H l = some (.lst (xs.map V.str))
theorem FeedAt.lst {H H' : Hp} {g : Fd} {n f : Nat} {b : Str} {l : Addr} {xs : List V} (F : FeedAt H g n f b) (k : Kp g.p H H') (h : H l = some (.lst xs)) : H' l = some (.lst xs) := by
  obtain ⟨kvs, hp⟩ := F.d
  exact k _ _ (ne_of h hp (by intro e; cases e)) h
/-- whatever the context is, as long as it has these names -/
def Fits (xs : List Str) (z : Str) (e : Exp) (t : Ty) : Prop := ∀ g : Ctx, (∀ x ∈ xs, g x = some .int) → (z ≠ Str.empty → g z = some .bool) → e.T g t
def spNumber : V → V → Hp → VK → Prop := fun a b H Q => ∃ (g : Fd) (n f : Nat) (z : Str) (l : Addr) (xs : List Str), a = .ref g.p ∧ b = .ref l ∧ FeedAt H g (n + 4) f z ∧ IntsAt H l xs ∧
  ∀ v e H', Kp g.p H H' → FeedAt H' g n f z → ExpAt H' e v → Fits xs z e .int → e.dep ≤ 1 → Q v H'
theorem str_at {xs : List Str} {i : Int} (h0 : 0 ≤ i) (h1 : i < ((xs.map V.str).length : Nat)) : ∃ x ∈ xs, atI (xs.map V.str) i = some (.str x) := by
  rw [List.length_map] at h1
  have hk : i.toNat < xs.length := by omega
  have ek : i = ((i.toNat : Nat) : Int) := by omega
  rw [ek]
  exact ⟨xs[i.toNat], List.getElem_mem _, atI_nat (by rw [List.getElem?_map, List.getElem?_eq_getElem hk] <;> rfl)⟩
def op3 (i : Int) : Op := if i = 0 then .add else if i = 1 then .sub else .mul
def cm3 (i : Int) : Op := if i = 0 then .lt else if i = 1 then .le else .eq
theorem at_op3 {i : Int} (h0 : 0 ≤ i) (h1 : i < 3) : atI [V.str "add", V.str "sub", V.str "mul"] i = some (V.str (opn (op3 i))) := by
  have h : i = 0 ∨ i = 1 ∨ i = 2 := by omega
  rcases h with h | h | h
  · subst h
    exact atI_nat (j := 0) rfl
  · subst h
    exact atI_nat (j := 1) rfl
  · subst h
    exact atI_nat (j := 2) rfl
theorem at_cm3 {i : Int} (h0 : 0 ≤ i) (h1 : i < 3) : atI [V.str "lt", V.str "le", V.str "eq"] i = some (V.str (opn (cm3 i))) := by
  have h : i = 0 ∨ i = 1 ∨ i = 2 := by omega
  rcases h with h | h | h
  · subst h
    exact atI_nat (j := 0) rfl
  · subst h
    exact atI_nat (j := 1) rfl
  · subst h
    exact atI_nat (j := 2) rfl
theorem op3_res (i : Int) : (op3 i).res = .int := by
  unfold op3
  split
  · rfl
  · split <;> rfl
theorem cm3_res (i : Int) : (cm3 i).res = .bool := by
  unfold cm3
  split
  · rfl
  · split <;> rfl
theorem cm3_ne (i : Int) : cm3 i ≠ .mul := by
  unfold cm3
  split
  · decide
  · split <;> decide
theorem int_dec {i j : Int} (h : decide (V.int i = V.int j) = true) : i = j := V.int.inj (of_decide_eq_true h)
theorem int_ndec {i j : Int} (h : decide (V.int i = V.int j) = false) : i ≠ j := fun e => of_decide_eq_false h (congrArg V.int e)
theorem ok_l_number (T : Top K mg) : FnG P w K mg base 2 (He.ga K "_law_number") p_l_number (S2 spNumber) := by
  refine FnG.of2 T.d_l_number sc_l_number rfl fun cdv A outer s H a b Q E hr h => ⟨_, (pss_cons (ps_set (i := 2) sc_l_number.nd rfl (Or.inl rfl) (pcall (ok_l_take T) (hr.mono (by omega)) T.g_l_take (pa_cons (pv 0) (pa_cons pe_int pa_nil))))
    (pss_cons (ps_if (PW.pt (pw_or (pt_cmpR op_eq (pv 2) pe_int (nomark _)) (pw_or1 (pt_cmpR op_eq (pe_callB call_len_seq (by rfl) T.f_len PySem.boot_len (pa_cons (pv 1) pa_nil)) pe_int (nomark _))))) (pss_one (ps_ret (pe_tup (pa_cons pe_str (pa_cons (pcall (ok_l_take T) (hr.mono (by omega)) T.g_l_take (pa_cons (pv 0) (pa_cons pe_int pa_nil))) pa_nil))))) pss_nil)
    (pss_cons (ps_set (i := 3) sc_l_number.nd rfl (Or.inl rfl) (pe_tup (pa_cons pe_str (pa_cons (pe_ix ix_list (pv 1) (pcall (ok_l_take T) (hr.mono (by omega)) T.g_l_take (pa_cons (pv 0) (pa_cons (pe_callB call_len_seq (by rfl) T.f_len PySem.boot_len (pa_cons (pv 1) pa_nil)) pa_nil))) (fun _ _ => rfl)) pa_nil))))
    (pss_cons (ps_if (pt_cmpR op_eq (pv 2) pe_int (nomark _)) (pss_one (ps_ret (pe_tup (pa_cons (pe_ix ix_list (pe_lst (pa_cons pe_str (pa_cons pe_str (pa_cons pe_str pa_nil)))) (pcall (ok_l_take T) (hr.mono (by omega)) T.g_l_take (pa_cons (pv 0) (pa_cons pe_int pa_nil))) (fun _ _ => rfl)) (pa_cons (pv 3) (pa_cons (pe_tup (pa_cons pe_str (pa_cons (pcall (ok_l_take T) (hr.mono (by omega)) T.g_l_take (pa_cons (pv 0) (pa_cons pe_int pa_nil))) pa_nil))) pa_nil)))))) pss_nil)
    (pss_one (ps_ret (pv 3))))))), ?_⟩
  obtain ⟨g, n, f, z, l, xs, rfl, rfl, F, I, q⟩ := h
  refine ⟨_, rfl, g, n + 3, f, z, 4, rfl, rfl, by decide, F, fun r H1 r0 r4 k1 F1 => ?_⟩
  have I1 : IntsAt H1 l xs := F.lst k1 I
  dsimp only [gName, tSeq]
  refine if_or (decide (V.int r = V.int 0)) (decide (V.int ((xs.map V.str).length : Nat) = V.int 0)) (fun Q q => ⟨_, rfl, rfl, _, rfl, q⟩) (fun _ Q q => ⟨_, rfl, l, _, rfl, .inl (SqL.of I1), rfl, _, rfl, q⟩) (fun _ => ?_) fun c1 c2 => ?_
  · refine ⟨_, rfl, g, n + 2, f, z, 65536, rfl, rfl, by decide, F1, fun y H2 y0 y1 k2 F2 => ?_⟩
    refine ⟨le_line (by show 2 ≤ _; decide), fun t ht => ?_⟩
    exact q _ (.int y) _ ((k1.trans k2).trans (Kp.new ht)) ((F2.new ht).le (by omega)) ⟨t, rfl, upd_same⟩ (fun _ _ _ => rfl) (Nat.zero_le _)
  have hl := int_ndec c2
  refine ⟨_, rfl, _, rfl, _, rfl, l, _, rfl, .inl (SqL.of I1), g, n + 2, f, z, _, rfl, rfl, by omega, F1, fun y H2 y0 y1 k2 F2 => ?_⟩
  have I2 : IntsAt H2 l xs := F1.lst k2 I1
  obtain ⟨x, hx, ex⟩ := str_at y0 y1
  refine ⟨l, _, _, _, rfl, rfl, SqL.of I2, ex, le_line (by show 2 ≤ _; decide), fun t ht => ?_⟩
  have k3 := (k1.trans k2).trans (Kp.new (o := .tup [.str "var", .str x]) ht)
  have F3 := F2.new (o := .tup [.str "var", .str x]) ht
  have E3 : ExpAt (upd H2 t (.tup [.str "var", .str x])) (.var x) (.ref t) := ⟨t, rfl, upd_same⟩
  refine ⟨_, rfl, rfl, _, rfl, ite2 (fun c => ?_) (fun c => ?_)⟩
  · refine ⟨le_line (by show 3 ≤ _; decide), fun l2 hl2 => ?_⟩
    refine ⟨_, rfl, g, n + 1, f, z, 3, rfl, rfl, by decide, F3.new hl2, fun o H4 o0 o3 k4 F4 => ?_⟩
    have n2 := F3.not hl2
    refine ⟨l2, _, _, _, rfl, rfl, SqL.of (k4 _ _ n2.1.symm upd_same), at_op3 o0 o3, _, rfl, ?_⟩
    refine ⟨_, rfl, g, n, f, z, 9, rfl, rfl, by decide, F4, fun y2 H5 y20 y21 k5 F5 => ?_⟩
    refine ⟨le_line (by show 2 ≤ _; decide), fun t2 ht2 => ⟨le_line (by show 3 ≤ _; decide), fun t3 ht3 => ?_⟩⟩
    have ts : Tu (upd H2 t (.tup [.str "var", .str x])) H5 := (Tu.new hl2).trans (((F3.new hl2).tu k4).trans (F4.tu k5))
    refine q _ (.bin (op3 o) (.var x) (.int y2)) _ (((((k3.trans (Kp.new hl2)).trans k4).trans k5).trans (Kp.new ht2)).trans (Kp.new ht3)) ((F5.new ht2).new ht3)
      ⟨t3, _, _, rfl, upd_same, E3.tu (ts.trans ((Tu.new ht2).trans (Tu.new ht3))), ⟨t2, rfl, (Tu.new ht3) _ _ upd_same⟩⟩ (fun g hg _ => ⟨(op3_res o).symm, hg x hx, rfl, fun _ => ⟨y2, rfl, by omega, by omega⟩⟩) (by show max 0 0 + 1 ≤ 1; decide)
  · exact ⟨_, rfl, q _ (.var x) _ k3 (F3.le (by omega)) E3 (fun g hg _ => hg x hx) (Nat.zero_le _)⟩
def spTest : V → V → Hp → VK → Prop := fun a b H Q => ∃ (g : Fd) (n f : Nat) (z : Str) (l : Addr) (xs : List Str), a = .ref g.p ∧ b = .ref l ∧ FeedAt H g (n + 11) f z ∧ IntsAt H l xs ∧
  ∀ v e H', Kp g.p H H' → FeedAt H' g n f z → ExpAt H' e v → Fits xs z e .bool → e.dep ≤ 3 → Q v H'
theorem FeedAt.getB {H : Hp} {g : Fd} {n f : Nat} {z : Str} (F : FeedAt H g n f z) : DGet H g.p (.str "bool") (some (.str z)) := by
  obtain ⟨c, k, h1, _⟩ := F
  exact dget_of (k := kB) h1 (fd_B _ _ _ _)
theorem ok_l_test (T : Top K mg) : FnG P w K mg base 3 (He.ga K "_law_test") p_l_test (S2 spTest) := by
  refine FnG.of2 T.d_l_test sc_l_test rfl fun cdv A outer s H a b Q E hr h => ?_
  have hu := hu_of hr
  refine ⟨_, (pss_cons (ps_if (PW.pt (pw_and (pt_cmpR op_ne (pe_dget hu (pv 0) pe_str (fun _ _ => rfl)) pe_str (nomark _)) (pw_and1 (pt_cmpR op_eq (pcall (ok_l_take T) (hr.mono (by omega)) T.g_l_take (pa_cons (pv 0) (pa_cons pe_int pa_nil))) pe_int (nomark _))))) (pss_one (ps_ret (pe_tup (pa_cons pe_str (pa_cons (pe_dget hu (pv 0) pe_str (fun _ _ => rfl)) pa_nil))))) pss_nil)
    (pss_cons (ps_set (i := 2) sc_l_test.nd rfl (Or.inl rfl) (pcall (ok_l_take T) (hr.mono (by omega)) T.g_l_take (pa_cons (pv 0) (pa_cons pe_int pa_nil))))
    (pss_cons (ps_if (pt_cmpR op_eq (pv 2) pe_int (nomark _)) (pss_one (ps_ret (pe_tup (pa_cons pe_str (pa_cons (pe_cmpR op_eq (pcall (ok_l_take T) (hr.mono (by omega)) T.g_l_take (pa_cons (pv 0) (pa_cons pe_int pa_nil))) pe_int (nomark _)) pa_nil))))) pss_nil)
    (pss_cons (ps_set (i := 3) sc_l_test.nd rfl (Or.inl rfl) (pe_tup (pa_cons (pe_ix ix_list (pe_lst (pa_cons pe_str (pa_cons pe_str (pa_cons pe_str pa_nil)))) (pe_op op_sub (pv 2) pe_int) (fun _ _ => rfl)) (pa_cons (pcall (ok_l_number T) (hr.mono (by omega)) T.g_l_number (pa_cons (pv 0) (pa_cons (pv 1) pa_nil))) (pa_cons (pcall (ok_l_number T) (hr.mono (by omega)) T.g_l_number (pa_cons (pv 0) (pa_cons (pv 1) pa_nil))) pa_nil)))))
    (pss_cons (ps_if (pt_cmpR op_eq (pcall (ok_l_take T) (hr.mono (by omega)) T.g_l_take (pa_cons (pv 0) (pa_cons pe_int pa_nil))) pe_int (nomark _)) (pss_one (ps_ret (pe_tup (pa_cons pe_str (pa_cons (pv 3) pa_nil))))) pss_nil)
    (pss_one (ps_ret (pv 3)))))))), ?_⟩
  obtain ⟨g, n, f, z, l, xs, rfl, rfl, F, I, q⟩ := h
  dsimp only [gName, tSeq]
  refine if_H (fun H1 => Kp g.p H H1 ∧ FeedAt H1 g (n + 10) f z ∧ z ≠ Str.empty) (fun H1 => Kp g.p H H1 ∧ FeedAt H1 g (n + 10) f z) (fun Q hy hn => ⟨_, rfl, g.p, _, rfl, F.getB, rfl, _, rfl, ite2 (fun c => ?_) (fun c => ?_)⟩) ?_ ?_
  · have nz : z ≠ Str.empty := fun e => by
      rw [e] at c
      exact absurd c (by decide +kernel)
    refine ⟨_, rfl, g, n + 10, f, z, 3, rfl, rfl, by decide, F, fun r H1 r0 r3 k1 F1 => ?_⟩
    exact ⟨rfl, _, rfl, q_b (fun _ => hy _ ⟨k1, F1, nz⟩) fun _ => hn _ ⟨k1, F1⟩⟩
  · exact hn _ ⟨Kp.refl _ _, F.le (by omega)⟩
  · rintro H1 ⟨k1, F1, nz⟩
    refine ⟨_, rfl, g.p, _, rfl, F1.getB, le_line (by show 2 ≤ _; decide), fun t ht => ?_⟩
    exact q _ (.var z) _ (k1.trans (Kp.new ht)) ((F1.new ht).le (by omega)) ⟨t, rfl, upd_same⟩ (fun g _ hb => hb nz) (Nat.zero_le _)
  rintro H1 ⟨k1, F1⟩
  have I1 : IntsAt H1 l xs := F.lst k1 I
  refine ⟨_, rfl, g, n + 9, f, z, 4, rfl, rfl, by decide, F1, fun r H2 r0 r4 k2 F2 => ?_⟩
  have I2 : IntsAt H2 l xs := F1.lst k2 I1
  refine ⟨_, rfl, rfl, _, rfl, ite2 (fun c => ?_) (fun c => ?_)⟩
  · refine ⟨_, rfl, g, n + 8, f, z, 2, rfl, rfl, by decide, F2, fun y H3 y0 y2 k3 F3 => ?_⟩
    refine ⟨rfl, le_line (by show 2 ≤ _; decide), fun t ht => ?_⟩
    exact q _ (.bool (decide (V.int y = V.int 1))) _ (((k1.trans k2).trans k3).trans (Kp.new ht)) ((F3.new ht).le (by omega)) ⟨t, rfl, upd_same⟩ (fun _ _ _ => rfl) (Nat.zero_le _)
  have hr0 := int_ndec (Bool.eq_false_iff.mpr c)
  refine ⟨le_line (by show 3 ≤ _; decide), fun l2 hl2 => ?_⟩
  refine ⟨_, rfl, _, _, rfl, rfl, l2, _, _, _, rfl, rfl, SqL.up, at_cm3 (by omega) (by omega), ?_⟩
  have I3 : IntsAt (upd H2 l2 (.lst [.str "lt", .str "le", .str "eq"])) l xs := (Same.new hl2) _ _ I2
  refine ⟨_, rfl, _, rfl, g, n + 5, f, z, l, xs, rfl, rfl, (F2.new hl2).le (by omega), I3, fun v1 e1 H3 k3 F3 E1 O1 D1 => ?_⟩
  have I4 : IntsAt H3 l xs := (F2.new hl2).lst k3 I3
  refine ⟨_, rfl, _, rfl, g, n + 1, f, z, l, xs, rfl, rfl, F3, I4, fun v2 e2 H4 k4 F4 E2 O2 D2 => ?_⟩
  refine ⟨le_line (by show 3 ≤ _; decide), fun t ht => ?_⟩
  have t4 := F3.tu k4
  refine ⟨_, rfl, g, n, f, z, 4, rfl, rfl, by decide, F4.new ht, fun y H5 y0 y4 k5 F5 => ?_⟩
  have t5 := (F4.new ht).tu k5
  have kk : Kp g.p H H5 := (((((k1.trans k2).trans (Kp.new hl2)).trans k3).trans k4).trans (Kp.new ht)).trans k5
  have EE : ExpAt H5 (.bin (cm3 (r - 1)) e1 e2) (.ref t) := ⟨t, v1, v2, rfl, t5 _ _ upd_same, E1.tu ((t4.trans (Tu.new ht)).trans t5), E2.tu ((Tu.new ht).trans t5)⟩
  have OO : Fits xs z (.bin (cm3 (r - 1)) e1 e2) .bool := fun g h1 h2 => ⟨(cm3_res _).symm, O1 g h1 h2, O2 g h1 h2, fun e => absurd e (cm3_ne _)⟩
  have DD : (Exp.bin (cm3 (r - 1)) e1 e2).dep ≤ 2 := by
    show max e1.dep e2.dep + 1 ≤ 2
    omega
  refine ⟨rfl, _, rfl, ite2 (fun c => ?_) (fun c => ?_)⟩
  · refine ⟨_, rfl, le_line (by show 2 ≤ _; decide), fun u hu2 => ?_⟩
    exact q _ (.neg (.bin (cm3 (r - 1)) e1 e2)) _ (kk.trans (Kp.new hu2)) (F5.new hu2) ⟨u, _, rfl, upd_same, EE.tu (Tu.new hu2)⟩ (fun g h1 h2 => ⟨rfl, OO g h1 h2⟩) (by show _ + 1 ≤ 3; omega)
  · exact ⟨_, rfl, q _ _ _ kk F5 EE OO (by omega)⟩
end G

/-! part W7 -/
set_option Elab.async false
set_option linter.all false
set_option maxRecDepth 100000
set_option maxHeartbeats 4000000
/-! Workers, spare ends, talks compared. -/
namespace G
open PySem PySem.Spec PyProof.Rows L2
variable {P : Program} {w : World} {K : PySem.W.Frag} {mg : Str → Option Value} {base : Heap}
/-- a talk as data -/
def pdK : Kd → PyData
  | .non => .none
  | .int => .str "int"
  | .bool => .str "bool"
  | .ref d n => .tuple [.str (dn d), .str (tn n)]
mutual
def pdT : Talk → PyData
  | .fin => .tuple [.str "end"]
  | .ref d n => .tuple [.str (dn d), .str (tn n)]
  | .node h r => .tuple [.str (sh h), .tuple (pdR r)]
def pdR : Rows → List PyData
  | .nil => []
  | .cons l k t r => .tuple [.str l, pdK k, pdT t] :: pdR r
end
theorem KdAt.dp {H : Hp} : ∀ {k : Kd} {v : V}, KdAt H k v → Dp K H v (pdK k)
  | .non, _, h => by
    have h : _ = V.non := h
    rw [h]
    exact .non
  | .int, _, h => by
    have h : _ = V.str "int" := h
    rw [h]
    exact .str _
  | .bool, _, h => by
    have h : _ = V.str "bool" := h
    rw [h]
    exact .str _
  | .ref d n, _, ⟨p, e, h⟩ => by
    rw [e]
    exact .tup (SqT.of h) (.cons (.str _) (.cons (.str _) .nil))
mutual
theorem TalkAt.dp {H : Hp} : ∀ {t : Talk} {v : V}, TalkAt H t v → Dp K H v (pdT t)
  | .fin, _, ⟨p, e, h⟩ => by
    rw [e]
    exact .tup (SqT.of h) (.cons (.str _) .nil)
  | .ref d n, _, ⟨p, e, h⟩ => by
    rw [e]
    exact .tup (SqT.of h) (.cons (.str _) (.cons (.str _) .nil))
  | .node b r, _, ⟨p, q, vs, e, h1, h2, h3⟩ => by
    rw [e]
    exact .tup (SqT.of h1) (.cons (.str _) (.cons (.tup (SqT.of h2) (RowsAt.dp h3)) .nil))
theorem RowsAt.dp {H : Hp} : ∀ {r : Rows} {vs : List V}, RowsAt H r vs → DpAll K H vs (pdR r)
  | .nil, _, h => by
    have h : _ = [] := h
    rw [h]
    exact .nil
  | .cons l k t r, _, ⟨p, kv, tv, vs', e, h1, h2, h3, h4⟩ => by
    rw [e]
    exact .cons (.tup (SqT.of h1) (.cons (.str _) (.cons (KdAt.dp h2) (.cons (TalkAt.dp h3) .nil)))) (RowsAt.dp h4)
end
def isRef (d : Bool) (n : Nat) : Talk → Bool
  | .ref d' n' => decide (d' = d) && decide (n' = n)
  | _ => false
theorem isRef_iff {d : Bool} {n : Nat} {t : Talk} : isRef d n t = true ↔ t = .ref d n := by
  cases t with
  | ref d' n' => simp [isRef]
  | _ => simp [isRef]
theorem dn_inj {a b : Bool} (h : dn a = dn b) : a = b := by
  cases a <;> cases b <;> first | rfl | (exact absurd h (by decide +kernel))
theorem eqv_ref {t : Talk} {d : Bool} {n m : Nat} (ho : t.Ok m) (hm : m ≤ 3) (hn : n ≤ 3) : PyData.eqv (pdT t) (pdT (.ref d n)) = isRef d n t := by
  cases t with
  | fin => simp [pdT, PyData.eqv, PyData.eqvAll, isRef]
  | ref d' n' =>
    have hn' : n' < m := ho
    simp only [pdT, PyData.eqv, PyData.eqvAll, isRef, Bool.and_true]
    rw [Bool.eq_iff_iff]
    simp only [Bool.and_eq_true, beq_iff_eq, decide_eq_true_eq]
    constructor
    · rintro ⟨a, b⟩
      exact ⟨dn_inj a, tn_inj (by unfold LIM; omega) (by unfold LIM; omega) b⟩
    · rintro ⟨rfl, rfl⟩
      exact ⟨rfl, rfl⟩
  | node b r =>
    simp only [pdT, PyData.eqv, PyData.eqvAll, isRef, Bool.and_true, Bool.and_false]
theorem ok_s (x : String) : PyData.strOk (Str.ofString x) = true → True := fun _ => trivial
theorem strOk_lab (i : Nat) : PyData.strOk (lab i) = true := by
  unfold lab
  split
  · decide +kernel
  · split <;> decide +kernel
theorem strOk_tn (n : Nat) : PyData.strOk (tn n) = true := by
  unfold PyData.strOk
  rw [← Array.all_toList, List.all_eq_true]
  intro c hc
  unfold tn at hc
  rw [app_list, cps_T, List.mem_append] at hc
  rcases hc with hc | hc
  · rw [List.mem_singleton.mp hc]
    decide
  · unfold sn at hc
    rw [PySem.W.KIN.signs_num] at hc
    obtain ⟨ch, _, e⟩ := List.mem_map.mp hc
    rw [← e]
    have v := ch.valid
    refine decide_eq_true ?_
    show ch.val.toNat < 1114112
    rcases v with v | v
    · exact Nat.lt_trans v (by decide)
    · exact v.2
theorem lay_k : ∀ k : Kd, PyData.canLay0 (pdK k) = true
  | .non => rfl
  | .int => by decide +kernel
  | .bool => by decide +kernel
  | .ref d n => by
    simp only [pdK, PyData.canLay0, PyData.canLayAll0, strOk_tn, Bool.and_true]
    cases d <;> decide +kernel
theorem mem_labs {i : Nat} {x : Str} (h : x ∈ labs i) : PyData.strOk x = true := by
  unfold labs at h
  obtain ⟨j, _, e⟩ := List.mem_map.mp h
  rw [← e]
  exact strOk_lab j
mutual
theorem lay_t {m : Nat} : ∀ t : Talk, t.Ok m → PyData.canLay0 (pdT t) = true
  | .fin, _ => by decide +kernel
  | .ref d n, _ => lay_k (.ref d n)
  | .node b r, h => by
    simp only [pdT, PyData.canLay0, PyData.canLayAll0, Bool.and_true]
    rw [lay_r r h.2.2.2 fun x hx => mem_labs (by rw [← h.2.2.1]; exact hx)]
    cases b <;> decide +kernel
theorem lay_r {m : Nat} : ∀ r : Rows, r.Ok m → (∀ x ∈ r.labs, PyData.strOk x = true) → PyData.canLayAll0 (pdR r) = true
  | .nil, _, _ => rfl
  | .cons l k t r, h, hl => by
    simp only [pdR, PyData.canLay0, PyData.canLayAll0, Bool.and_true]
    rw [hl l List.mem_cons_self, lay_k k, lay_t t h.2.1, lay_r r h.2.2 fun x hx => hl x (List.mem_cons_of_mem _ hx)]
    rfl
end
theorem dep_k (k : Kd) : (pdK k).depth ≤ 1 := by
  cases k <;> simp [pdK, PyData.depth, PyData.depthAll]
mutual
theorem dep_t : ∀ t : Talk, (pdT t).depth ≤ 3 * t.dep + 1
  | .fin => by simp [pdT, PyData.depth, PyData.depthAll]
  | .ref d n => by simp [pdT, PyData.depth, PyData.depthAll]
  | .node b r => by
    have h := dep_r r
    simp only [pdT, PyData.depth, PyData.depthAll, Talk.dep]
    omega
theorem dep_r : ∀ r : Rows, PyData.depthAll (pdR r) ≤ 3 * r.dep + 2
  | .nil => by simp [pdR, PyData.depthAll]
  | .cons l k t r => by
    have h1 := dep_t t
    have h2 := dep_r r
    have h3 := dep_k k
    simp only [pdR, PyData.depth, PyData.depthAll, Rows.dep]
    omega
end
theorem shaped_t {m : Nat} {t : Talk} (h : t.Ok m) (hd : t.dep ≤ 2) : SeqAt.shaped (pdT t) = true := by
  unfold SeqAt.shaped
  rw [lay_t t h]
  have := dep_t t
  simp only [Bool.true_and, decide_eq_true_eq]
  omega
/-! ### workers -/
def wn (d : Bool) (n : Nat) : Str := (if d = true then ("C" : Str) else "S") ++ tn n
def spWorker : V → Hp → VK → Prop := fun a H Q => ∃ (d : Bool) (n : Nat), RefAt H d n a ∧ n ≤ LIM ∧ Q (.str (wn d n)) H
theorem len_tn {n : Nat} (h : n ≤ LIM) : (tn n).length ≤ 11 := by
  have h1 := len_s h
  have e : (tn n).length = ("T" : Str).length + (sn n).length := by
    show (("T" : Str) ++ sn n).cps.size = _
    show (("T" : Str).cps ++ (sn n).cps).size = _
    rw [Array.size_append]
    rfl
  have h2 : ("T" : Str).length = 1 := by decide +kernel
  rw [e, h2]
  have h1 : (sn n).length ≤ 10 := h1
  omega
theorem ok_l_worker (T : Top K mg) : FnG P w K mg base 1 (He.ga K "_law_worker") p_l_worker (S1 spWorker) := by
  refine FnG.of1 T.d_l_worker sc_l_worker rfl fun cdv A outer s H a Q E hr h => ⟨_, (pss_cons (ps_if (pt_cmpR op_eq (pe_ix ix_tup (pv 0) pe_int (fun _ _ => rfl)) pe_str (nomark _)) (pss_one (ps_ret (pe_op op_add_str pe_str (pe_ix ix_tup (pv 0) pe_int (fun _ _ => rfl))))) pss_nil)
    (pss_one (ps_ret (pe_op op_add_str pe_str (pe_ix ix_tup (pv 0) pe_int (fun _ _ => rfl)))))), ?_⟩
  obtain ⟨d, n, ⟨p, rfl, hp⟩, hn, q⟩ := h
  have l1 := len_tn hn
  have lS : ("S" : Str).length = 1 := by decide +kernel
  have lC : ("C" : Str).length = 1 := by decide +kernel
  cases d with
  | false =>
    refine ⟨_, rfl, p, _, _, _, rfl, rfl, SqT.of hp, atI_nat (j := 0) rfl, rfl, _, rfl, ite2 (fun c => ?_) fun c => absurd (by decide +kernel) c⟩
    exact ⟨_, rfl, p, _, _, _, rfl, rfl, SqT.of hp, atI_nat (j := 1) rfl, _, _, rfl, rfl, le_line (by rw [lS]; omega), q⟩
  | true =>
    refine ⟨_, rfl, p, _, _, _, rfl, rfl, SqT.of hp, atI_nat (j := 0) rfl, rfl, _, rfl, ite2 (fun c => absurd c (by decide +kernel)) fun c => ?_⟩
    exact ⟨_, rfl, p, _, _, _, rfl, rfl, SqT.of hp, atI_nat (j := 1) rfl, _, _, rfl, rfl, le_line (by rw [lC]; omega), q⟩
/-! ### the other ends of an actor -/
abbrev Os := List (Str × Talk)
def OthV (H : Hp) : List V → Os → Prop
  | [], [] => True
  | v :: vs, (x, t) :: os => (∃ p tv, v = .ref p ∧ H p = some (.tup [.str x, tv]) ∧ TalkAt H t tv) ∧ OthV H vs os
  | _, _ => False
theorem OthV.tu {H H' : Hp} (s : Tu H H') : ∀ {vs : List V} {os : Os}, OthV H vs os → OthV H' vs os
  | [], [], _ => trivial
  | v :: vs, (x, t) :: os, ⟨⟨p, tv, e, h1, h2⟩, h3⟩ => ⟨⟨p, tv, e, s _ _ h1, h2.tu s⟩, OthV.tu s h3⟩
  | [], _ :: _, h => h.elim
  | _ :: _, [], h => h.elim
theorem OthV.len {H : Hp} : ∀ {vs : List V} {os : Os}, OthV H vs os → vs.length = os.length
  | [], [], _ => rfl
  | v :: vs, (x, t) :: os, h => congrArg (· + 1) (OthV.len h.2)
  | [], _ :: _, h => h.elim
  | _ :: _, [], h => h.elim
theorem OthV.app {H : Hp} : ∀ {vs us : List V} {os ps : Os}, OthV H vs os → OthV H us ps → OthV H (vs ++ us) (os ++ ps)
  | [], us, [], ps, _, h => h
  | v :: vs, us, (x, t) :: os, ps, h, g => ⟨h.1, OthV.app h.2 g⟩
  | [], _, _ :: _, _, h, _ => h.elim
  | _ :: _, _, [], _, h, _ => h.elim
theorem OthV.get {H : Hp} : ∀ {vs : List V} {os : Os} {i : Nat} {v : V}, OthV H vs os → vs[i]? = some v → ∃ x t p tv, os[i]? = some (x, t) ∧ v = .ref p ∧ H p = some (.tup [.str x, tv]) ∧ TalkAt H t tv
  | [], [], i, v, _, q => by simp at q
  | v :: vs, (x, t) :: os, 0, u, ⟨⟨p, tv, e, h1, h2⟩, h3⟩, q => by
    cases q
    exact ⟨x, t, p, tv, rfl, e, h1, h2⟩
  | v :: vs, (x, t) :: os, i + 1, u, h, q => OthV.get (i := i) h.2 q
  | [], _ :: _, _, _, h, _ => h.elim
  | _ :: _, [], _, _, h, _ => h.elim
def OthAt (H : Hp) (l : Addr) (os : Os) : Prop := ∃ vs, H l = some (.lst vs) ∧ OthV H vs os
def OsOk (m : Nat) (os : Os) : Prop := ∀ p ∈ os, p.2.Ok m ∧ p.2.dep ≤ 2
theorem OthAt.same {H H' : Hp} {l : Addr} {os : Os} (h : OthAt H l os) (s : Same H H') : OthAt H' l os := by
  obtain ⟨vs, h1, h2⟩ := h
  exact ⟨vs, s _ _ h1, h2.tu (Same.tu s)⟩
theorem FeedAt.oth {H H' : Hp} {g : Fd} {n f : Nat} {b : Str} {l : Addr} {os : Os} (F : FeedAt H g n f b) (k : Kp g.p H H') (h : OthAt H l os) : OthAt H' l os := by
  obtain ⟨vs, h1, h2⟩ := h
  exact ⟨vs, F.lst k h1, h2.tu (F.tu k)⟩
theorem FeedAt.ints {H H' : Hp} {g : Fd} {n f : Nat} {b : Str} {l : Addr} {xs : List Str} (F : FeedAt H g n f b) (k : Kp g.p H H') (h : IntsAt H l xs) : IntsAt H' l xs := F.lst k h
def spares (d : Bool) (n : Nat) (os : Os) : List Str := (os.filter fun p => isRef d n p.2).map (·.1)
theorem filter_take {α : Type} {p : α → Bool} {l : List α} {i : Nat} {x : α} (h : l[i]? = some x) : (l.take (i + 1)).filter p = (l.take i).filter p ++ (if p x = true then [x] else []) := by
  obtain ⟨hi, e⟩ := List.getElem?_eq_some_iff.mp h
  rw [List.take_succ_eq_append_getElem hi, List.filter_append, e, List.filter_cons]
  split <;> simp
def spSpare : V → Hp → VK → Prop := fun a H Q => ∃ (l : Addr) (os : Os) (m : Nat), a = .ref l ∧ OthAt H l os ∧ OsOk m os ∧ m ≤ 3 ∧ os.length ≤ 20 ∧ ∀ r H', Same H H' → H r = none → IntsAt H' r (spares false 0 os) → Q (.ref r) H'
theorem tn0 : tn 0 = ("T0" : Str) := by decide +kernel
theorem ok_l_spare (T : Top K mg) : FnG P w K mg base 1 (He.ga K "_law_spare") p_l_spare (S1 spSpare) := by
  refine FnG.of1 T.d_l_spare sc_l_spare rfl fun cdv A outer s H a Q E hr h => ⟨_, (pss_one (ps_ret (pe_lc (own := [("_law_one", 1), ("_law_talk_here", 2)]) (g := gTup K 2 (gCons (gName 1) (gCons (gName 2) gNil))) rfl sc_l_spare.nd (pi_list (pv 0)) (blkOk_by (own := [("_law_one", 1), ("_law_talk_here", 2)]) (N := n_l_spare) (sc := defScope s_l_spare) (by decide +kernel)) (fun _ _ _ _ _ => (pg_tup (by rfl) (pgs_cons (pg_name (i := 1) sc_l_spare.nd rfl (Or.inl rfl)) (pgs_cons (pg_name (i := 2) sc_l_spare.nd rfl (Or.inl rfl)) pgs_nil)))) (fun _ _ _ _ _ => pts_one (pt_cmpR (op_eqDK K (by exact hr.units)) (pv 2) (pe_tup (pa_cons pe_str (pa_cons pe_str pa_nil))) (nomark _))) (fun _ _ _ _ _ => (pv 1))))), ?_⟩
  obtain ⟨l, os, m, rfl, ⟨vs, h1, h2⟩, ho, hm, hl, q⟩ := h
  refine ⟨_, rfl, l, rfl, ⟨_, SqL.of h1⟩, fun D hD => ?_⟩
  refine lc_list (K := K) (a := l) (xs := vs) (fun i H' => Same H H' ∧ IntsAt H' D (spares false 0 (os.take i))) ⟨Same.new hD, upd_same⟩ (fun i H' _ h => SqL.of (h.1 _ _ h1)) ?_ ?_
  · rintro i v H' hi ⟨s1, I1⟩
    obtain ⟨x, t, p, tv, g1, rfl, g2, g3⟩ := h2.get hi
    have hk := ho _ (List.mem_of_getElem? g1)
    refine ⟨p, _, rfl, SqT.of (s1 _ _ g2), rfl, _, _, rfl, _, _, rfl, rfl, rfl, ?_⟩
    refine ⟨_, rfl, le_line (by show 2 ≤ _; decide), fun z hz => ?_⟩
    have s2 := s1.trans (Same.new (o := .tup [.str "name", .str "T0"]) hz)
    have zat : TalkAt (upd H' z (.tup [.str "name", .str "T0"])) (.ref false 0) (.ref z) := ⟨z, rfl, by rw [tn0]; exact upd_same⟩
    refine ⟨_, _, (g3.tu (Same.tu s2)).dp, zat.dp, shaped_t hk.1 hk.2, shaped_t (m := 3) (t := .ref false 0) (by show 0 < 3; decide) (by decide), _, rfl, ?_⟩
    have I2 : IntsAt (upd H' z (.tup [.str "name", .str "T0"])) D (spares false 0 (os.take i)) := (Same.new hz) _ _ I1
    rw [eqv_ref hk.1 hm (by decide)]
    refine ite2 (fun c => ?_) (fun c => ?_)
    · refine ⟨_, rfl, _, I2, ?_, ?_, ?_⟩
      · rw [List.length_map]
        unfold spares
        rw [List.length_map]
        have := List.length_filter_le (fun p : Str × Talk => isRef false 0 p.2) (os.take i)
        have := List.length_take_le i os
        have : (os.take i).length ≤ os.length := by rw [List.length_take]; omega
        exact lt_line (by omega)
      · exact Same.put s2 hD
      · unfold IntsAt spares
        rw [upd_same, filter_take g1, if_pos c]
        simp [spares]
    · refine ⟨s2, ?_⟩
      unfold IntsAt spares
      rw [filter_take g1, if_neg c, List.append_nil]
      exact I2
  · rintro H' ⟨s1, I1⟩
    rw [h2.len, List.take_length] at I1
    exact q D H' s1 hD I1
def spWithout : V → V → Hp → VK → Prop := fun a b H Q => ∃ (l : Addr) (os : Os) (x : Str), a = .ref l ∧ b = .str x ∧ OthAt H l os ∧ os.length ≤ 20 ∧ ∀ r H', Same H H' → H r = none → OthAt H' r (os.filter fun p => !decide (p.1 = x)) → Q (.ref r) H'
theorem ok_l_without (T : Top K mg) : FnG P w K mg base 1 (He.ga K "_law_without") p_l_without (S2 spWithout) := by
  refine FnG.of2 T.d_l_without sc_l_without rfl fun cdv A outer s H a b Q E hr h => ⟨_, (pss_one (ps_ret (pe_lc (own := [("_law_one", 2), ("_law_talk_here", 3)]) (g := gTup K 2 (gCons (gName 2) (gCons (gName 3) gNil))) rfl sc_l_without.nd (pi_list (pv 0)) (blkOk_by (own := [("_law_one", 2), ("_law_talk_here", 3)]) (N := n_l_without) (sc := defScope s_l_without) (by decide +kernel)) (fun _ _ _ _ _ => (pg_tup (by rfl) (pgs_cons (pg_name (i := 2) sc_l_without.nd rfl (Or.inl rfl)) (pgs_cons (pg_name (i := 3) sc_l_without.nd rfl (Or.inl rfl)) pgs_nil)))) (fun _ _ _ _ _ => pts_one (pt_cmpR op_ne (pv 2) (pv 1) (nomark _))) (fun _ _ _ _ _ => (pe_tup (pa_cons (pv 2) (pa_cons (pv 3) pa_nil))))))), ?_⟩
  obtain ⟨l, os, x0, rfl, rfl, ⟨vs, h1, h2⟩, hl, q⟩ := h
  refine ⟨_, rfl, l, rfl, ⟨_, SqL.of h1⟩, fun D hD => ?_⟩
  refine lc_list (K := K) (a := l) (xs := vs) (fun i H' => Same H H' ∧ OthAt H' D ((os.take i).filter fun p => !decide (p.1 = x0))) ⟨Same.new hD, [], upd_same, trivial⟩ (fun i H' _ h => SqL.of (h.1 _ _ h1)) ?_ ?_
  · rintro i v H' hi ⟨s1, us, u1, u2⟩
    obtain ⟨x, t, p, tv, g1, rfl, g2, g3⟩ := h2.get hi
    refine ⟨p, _, rfl, SqT.of (s1 _ _ g2), rfl, _, _, rfl, _, _, rfl, rfl, rfl, ?_⟩
    refine ⟨_, rfl, _, rfl, rfl, _, rfl, ite2 (fun c => ?_) (fun c => ?_)⟩
    · refine ⟨_, rfl, _, rfl, le_line (by show 2 ≤ _; decide), fun z hz => ?_⟩
      have u3 : upd H' z (.tup [.str x, tv]) D = some (.lst us) := (Same.new hz) _ _ u1
      have s2 := s1.trans (Same.new (o := .tup [.str x, tv]) hz)
      have ta := Tu.at_ (o := .lst (us ++ [.ref z])) u3 (by intro xs e; cases e)
      have hc : (!decide (x = x0)) = true := by
        have c : (!decide (V.str x = V.str x0)) = true := c
        by_cases e : x = x0
        · rw [e] at c
          simp at c
        · simp [e]
      refine ⟨us, u3, ?_, Same.put s2 hD, us ++ [.ref z], upd_same, ?_⟩
      · rw [u2.len]
        have := List.length_filter_le (fun p : Str × Talk => !decide (p.1 = x0)) (os.take i)
        have : (os.take i).length ≤ os.length := by rw [List.length_take]; omega
        exact lt_line (by omega)
      · rw [filter_take g1, if_pos hc]
        exact OthV.app (u2.tu ((Tu.new hz).trans ta)) ⟨⟨z, tv, rfl, ta _ _ upd_same, (g3.tu (Same.tu s1)).tu ((Tu.new hz).trans ta)⟩, trivial⟩
    · have hc : ¬ (!decide (x = x0)) = true := by
        have c : ¬ (!decide (V.str x = V.str x0)) = true := c
        by_cases e : x = x0
        · simp [e]
        · have : ¬ V.str x = V.str x0 := fun q => e (V.str.inj q)
          simp [this] at c
      refine ⟨s1, us, u1, ?_⟩
      rw [filter_take g1, if_neg hc, List.append_nil]
      exact u2
  · rintro H' ⟨s1, us, u1, u2⟩
    rw [h2.len, List.take_length] at u2
    exact q D H' s1 hD ⟨us, u1, u2⟩
end G

/-! part W8 -/
set_option Elab.async false
set_option linter.all false
set_option maxRecDepth 100000
set_option maxHeartbeats 4000000
/-! Blocks over the heap; contexts of the builder. -/
namespace G
open PySem PySem.Spec PyProof.Rows L2
variable {P : Program} {w : World} {K : PySem.W.Frag} {mg : Str → Option Value} {base : Heap}
def ArgsAt (H : Hp) : List Exp → List V → Prop
  | [], [] => True
  | e :: es, v :: vs => ExpAt H e v ∧ ArgsAt H es vs
  | _, _ => False
theorem ArgsAt.tu {H H' : Hp} (s : Tu H H') : ∀ {es : List Exp} {vs : List V}, ArgsAt H es vs → ArgsAt H' es vs
  | [], [], _ => trivial
  | e :: es, v :: vs, h => ⟨h.1.tu s, ArgsAt.tu s h.2⟩
  | [], _ :: _, h => h.elim
  | _ :: _, [], h => h.elim
theorem ArgsAt.len {H : Hp} : ∀ {es : List Exp} {vs : List V}, ArgsAt H es vs → vs.length = es.length
  | [], [], _ => rfl
  | e :: es, v :: vs, h => congrArg (· + 1) (ArgsAt.len h.2)
  | [], _ :: _, h => h.elim
  | _ :: _, [], h => h.elim
/-- a payload's expression, or None -/
def OptAt (H : Hp) : Option Exp → V → Prop
  | none, v => v = .non
  | some e, v => ExpAt H e v
theorem OptAt.tu {H H' : Hp} (s : Tu H H') : ∀ {e : Option Exp} {v : V}, OptAt H e v → OptAt H' e v
  | none, _, h => h
  | some e, _, h => ExpAt.tu s h
def optS : Option Str → V
  | none => .non
  | some x => .str x
mutual
def BlkAt (H : Hp) : Blk → List V → Prop
  | .done, vs => ∃ p, vs = [.ref p] ∧ H p = some (.tup [.str "done", .int 0])
  | .fail, vs => ∃ p, vs = [.ref p] ∧ H p = some (.tup [.str "fail", .int 0])
  | .become f es, vs => ∃ p q as, vs = [.ref p] ∧ H p = some (.tup [.str "become", .str f, .ref q, .int 0]) ∧ H q = some (.tup as) ∧ ArgsAt H es as
  | .ite e b c, vs => ∃ p ev q1 q2 bs cs, vs = [.ref p] ∧ H p = some (.tup [.str "if", ev, .ref q1, .ref q2, .int 0]) ∧ ExpAt H e ev ∧ H q1 = some (.tup bs) ∧ BlkAt H b bs ∧ H q2 = some (.tup cs) ∧ BlkAt H c cs
  | .hear x r b, vs => ∃ p q1 q2 rs bs, vs = [.ref p] ∧ H p = some (.tup [.str "hear", .str x, .ref q1, .ref q2, .int 0]) ∧ H q1 = some (.tup rs) ∧ BrsAt H r rs ∧ H q2 = some (.tup bs) ∧ BlkAt H b bs
  | .let_ x e b, vs => ∃ p ev vs', vs = .ref p :: vs' ∧ H p = some (.tup [.str "let", .str x, ev, .int 0]) ∧ ExpAt H e ev ∧ BlkAt H b vs'
  | .say x l e b, vs => ∃ p ev vs', vs = .ref p :: vs' ∧ H p = some (.tup [.str "say", .str x, .str l, ev, .int 0]) ∧ OptAt H e ev ∧ BlkAt H b vs'
  | .close x b, vs => ∃ p vs', vs = .ref p :: vs' ∧ H p = some (.tup [.str "close", .str x, .int 0]) ∧ BlkAt H b vs'
  | .drop x b, vs => ∃ p vs', vs = .ref p :: vs' ∧ H p = some (.tup [.str "drop", .str x, .int 0]) ∧ BlkAt H b vs'
  | .open_ x f es b, vs => ∃ p q as vs', vs = .ref p :: vs' ∧ H p = some (.tup [.str "open", .str x, .str f, .ref q, .int 0]) ∧ H q = some (.tup as) ∧ ArgsAt H es as ∧ BlkAt H b vs'
def BrsAt (H : Hp) : Brs → List V → Prop
  | .nil, vs => vs = []
  | .cons l x b r, vs => ∃ p q bs vs', vs = .ref p :: vs' ∧ H p = some (.tup [.str l, optS x, .ref q]) ∧ H q = some (.tup bs) ∧ BlkAt H b bs ∧ BrsAt H r vs'
end
mutual
theorem BlkAt.tu {H H' : Hp} (s : Tu H H') : ∀ {b : Blk} {vs : List V}, BlkAt H b vs → BlkAt H' b vs
  | .done, _, ⟨p, e, h⟩ => ⟨p, e, s _ _ h⟩
  | .fail, _, ⟨p, e, h⟩ => ⟨p, e, s _ _ h⟩
  | .become f es, _, ⟨p, q, as, e, h1, h2, h3⟩ => ⟨p, q, as, e, s _ _ h1, s _ _ h2, h3.tu s⟩
  | .ite e b c, _, ⟨p, ev, q1, q2, bs, cs, e', h1, h2, h3, h4, h5, h6⟩ => ⟨p, ev, q1, q2, bs, cs, e', s _ _ h1, h2.tu s, s _ _ h3, BlkAt.tu s h4, s _ _ h5, BlkAt.tu s h6⟩
  | .hear x r b, _, ⟨p, q1, q2, rs, bs, e, h1, h2, h3, h4, h5⟩ => ⟨p, q1, q2, rs, bs, e, s _ _ h1, s _ _ h2, BrsAt.tu s h3, s _ _ h4, BlkAt.tu s h5⟩
  | .let_ x e b, _, ⟨p, ev, vs', e', h1, h2, h3⟩ => ⟨p, ev, vs', e', s _ _ h1, h2.tu s, BlkAt.tu s h3⟩
  | .say x l e b, _, ⟨p, ev, vs', e', h1, h2, h3⟩ => ⟨p, ev, vs', e', s _ _ h1, h2.tu s, BlkAt.tu s h3⟩
  | .close x b, _, ⟨p, vs', e', h1, h3⟩ => ⟨p, vs', e', s _ _ h1, BlkAt.tu s h3⟩
  | .drop x b, _, ⟨p, vs', e', h1, h3⟩ => ⟨p, vs', e', s _ _ h1, BlkAt.tu s h3⟩
  | .open_ x f es b, _, ⟨p, q, as, vs', e', h1, h2, h3, h4⟩ => ⟨p, q, as, vs', e', s _ _ h1, s _ _ h2, h3.tu s, BlkAt.tu s h4⟩
theorem BrsAt.tu {H H' : Hp} (s : Tu H H') : ∀ {r : Brs} {vs : List V}, BrsAt H r vs → BrsAt H' r vs
  | .nil, _, h => h
  | .cons l x b r, _, ⟨p, q, bs, vs', e, h1, h2, h3, h4⟩ => ⟨p, q, bs, vs', e, s _ _ h1, s _ _ h2, BlkAt.tu s h3, BrsAt.tu s h4⟩
end
/-- a block's list of statements, for a tuple -/
def LBk (H : Hp) (L : Addr) (b : Blk) (n : Nat) : Prop := ∃ vs, H L = some (.lst vs) ∧ BlkAt H b vs ∧ vs.length ≤ n
/-! ### signatures -/
def pn (d : Bool) (n : Nat) : Str := ("P" : Str) ++ wn d n
def sc : Str := "c"
def sd : Str := "d"
def sN : Str := "n"
def sB : Str := "b"
def wSg (d : Bool) (n : Nat) : List (Str × Ty) := [(sc, .en (.ref d n)), (sN, .int)]
def pSg (d : Bool) (n : Nat) : List (Str × Ty) := [(sc, .en (.ref d n)), (sd, .en (.ref false 0)), (sN, .int), (sB, .bool)]
structure SgOk (m : Nat) (Sg : Str → Option (List (Str × Ty))) : Prop where
  w : ∀ d n, n < m → Sg (wn d n) = some (wSg d n)
  p : ∀ d n, n < m → Sg (pn d n) = some (pSg d n)
/-! ### the builder's view of a context -/
structure Rel (g : Ctx) (f : Nat) (xs : List Str) (z : Str) (os : Os) : Prop where
  i : ∀ x ∈ xs, g x = some .int
  b : z ≠ Str.empty → g z = some .bool
  e : ∀ x t, g x = some (.en t) ↔ (x, t) ∈ os
  nm : ∀ x, g x ≠ none → NmOk f x
  nd : (os.map (·.1)).Nodup
def rmv (x : Str) (os : Os) : Os := os.filter fun p => !decide (p.1 = x)
theorem mem_rmv {x : Str} {os : Os} {p : Str × Talk} : p ∈ rmv x os ↔ p ∈ os ∧ p.1 ≠ x := by
  unfold rmv
  rw [List.mem_filter]
  simp
theorem rmv_nd {x : Str} {os : Os} (h : (os.map (·.1)).Nodup) : ((rmv x os).map (·.1)).Nodup := by
  unfold rmv
  exact List.Sublist.nodup (List.Sublist.map _ (List.filter_sublist)) h
theorem rmv_len (x : Str) (os : Os) : (rmv x os).length ≤ os.length := List.length_filter_le _ _
theorem nd_fst {os : Os} (h : (os.map (·.1)).Nodup) {x : Str} {t u : Talk} (a : (x, t) ∈ os) (b : (x, u) ∈ os) : t = u := by
  induction os with
  | nil => cases a
  | cons p os ih =>
    have h : (p.1 :: os.map (·.1)).Nodup := h
    obtain ⟨h1, h2⟩ := List.nodup_cons.mp h
    rcases List.mem_cons.mp a with a | a <;> rcases List.mem_cons.mp b with b | b
    · rw [← a] at b
      cases b
      rfl
    · exact absurd (List.mem_map.mpr ⟨_, b, rfl⟩) (by rw [← a] at h1; exact h1)
    · exact absurd (List.mem_map.mpr ⟨_, a, rfl⟩) (by rw [← b] at h1; exact h1)
    · exact ih h2 a b
section
variable {g : Ctx} {f f' : Nat} {xs : List Str} {z x : Str} {os os' : Os} {t t' : Talk}
theorem Rel.mem (R : Rel g f xs z os) (h : (x, t) ∈ os) : g x = some (.en t) := (R.e x t).mpr h
/-- the same ends, in another order -/
theorem Rel.perm (R : Rel g f xs z os) (h : ∀ p, p ∈ os' ↔ p ∈ os) (nd : (os'.map (·.1)).Nodup) : Rel g f xs z os' := ⟨R.i, R.b, fun x t => (R.e x t).trans (h _).symm, R.nm, nd⟩
theorem Rel.le (R : Rel g f xs z os) (h : f ≤ f') : Rel g f' xs z os := ⟨R.i, R.b, R.e, fun x hx => (R.nm x hx).le h, R.nd⟩
theorem Rel.del (R : Rel g f xs z os) (h : (x, t) ∈ os) : Rel (g.del x) f xs z (rmv x os) := by
  have gx := R.mem h
  refine ⟨fun y hy => ?_, fun hz => ?_, fun y u => ?_, fun y hy => ?_, rmv_nd R.nd⟩
  · rw [Ctx.del_ne fun e => ?_]
    · exact R.i y hy
    · have := R.i y hy
      rw [e, gx] at this
      cases this
  · rw [Ctx.del_ne fun e => ?_]
    · exact R.b hz
    · have := R.b hz
      rw [e, gx] at this
      cases this
  · rw [mem_rmv]
    by_cases e : y = x
    · rw [e, Ctx.del_same]
      exact ⟨fun q => (by cases q), fun q => absurd rfl q.2⟩
    · rw [Ctx.del_ne e, R.e]
      exact ⟨fun q => ⟨q, e⟩, fun q => q.1⟩
  · by_cases e : y = x
    · rw [e, Ctx.del_same] at hy
      exact absurd rfl hy
    · rw [Ctx.del_ne e] at hy
      exact R.nm y hy
theorem nd_add {os : Os} (h : (os.map (·.1)).Nodup) (hx : ∀ u, (x, u) ∉ os) : ((os ++ [(x, t)]).map (·.1)).Nodup := by
  rw [List.map_append]
  refine List.nodup_append.mpr ⟨h, by simp, fun a ha b hb e => ?_⟩
  simp at hb
  obtain ⟨p, hp, ep⟩ := List.mem_map.mp ha
  obtain ⟨y, u⟩ := p
  have ep : y = a := ep
  rw [ep, e, hb] at hp
  exact hx u hp
/-- a new end -/
theorem Rel.put (R : Rel g f xs z os) (hx : g x = none) (hn : NmOk f' x) (hf : f ≤ f') : Rel (g.put x (.en t)) f' xs z (os ++ [(x, t)]) := by
  have nx : ∀ {y : Str} {u : Ty}, g y = some u → y ≠ x := fun h e => by
    rw [e, hx] at h
    cases h
  refine ⟨fun y hy => by rw [Ctx.put_ne (nx (R.i y hy))]; exact R.i y hy, fun hz => by rw [Ctx.put_ne (nx (R.b hz))]; exact R.b hz, fun y u => ?_, fun y hy => ?_, nd_add R.nd fun u h => absurd (R.mem h) (by rw [hx]; simp)⟩
  · rw [List.mem_append, List.mem_singleton]
    by_cases e : y = x
    · rw [e, Ctx.put_same]
      constructor
      · intro q
        cases q
        exact .inr rfl
      · rintro (q | q)
        · rw [R.mem q] at hx
          cases hx
        · cases q
          rfl
    · rw [Ctx.put_ne e, R.e]
      exact ⟨fun q => .inl q, fun q => q.elim id fun q => absurd (Prod.mk.inj q).1 e⟩
  · by_cases e : y = x
    · rw [e]
      exact hn
    · rw [Ctx.put_ne e] at hy
      exact (R.nm y hy).le hf
/-- a new number, a new truth value -/
theorem Rel.putI (R : Rel g f xs z os) (hx : g x = none) (hn : NmOk f' x) (hf : f ≤ f') : Rel (g.put x .int) f' (xs ++ [x]) z os := by
  have nx : ∀ {y : Str} {u : Ty}, g y = some u → y ≠ x := fun h e => by
    rw [e, hx] at h
    cases h
  refine ⟨fun y hy => ?_, fun hz => by rw [Ctx.put_ne (nx (R.b hz))]; exact R.b hz, fun y u => ?_, fun y hy => ?_, R.nd⟩
  · rcases List.mem_append.mp hy with h | h
    · rw [Ctx.put_ne (nx (R.i y h))]
      exact R.i y h
    · rw [List.mem_singleton.mp h]
      exact Ctx.put_same
  · by_cases e : y = x
    · rw [e, Ctx.put_same]
      exact ⟨fun q => (by cases q), fun q => by rw [R.mem q] at hx; cases hx⟩
    · rw [Ctx.put_ne e, R.e]
  · by_cases e : y = x
    · rw [e]
      exact hn
    · rw [Ctx.put_ne e] at hy
      exact (R.nm y hy).le hf
theorem Rel.putB (R : Rel g f xs z os) (hx : g x = none) (hn : NmOk f' x) (hf : f ≤ f') : Rel (g.put x .bool) f' xs z os := by
  have nx : ∀ {y : Str} {u : Ty}, g y = some u → y ≠ x := fun h e => by
    rw [e, hx] at h
    cases h
  refine ⟨fun y hy => by rw [Ctx.put_ne (nx (R.i y hy))]; exact R.i y hy, fun hz => by rw [Ctx.put_ne (nx (R.b hz))]; exact R.b hz, fun y u => ?_, fun y hy => ?_, R.nd⟩
  · by_cases e : y = x
    · rw [e, Ctx.put_same]
      exact ⟨fun q => (by cases q), fun q => by rw [R.mem q] at hx; cases hx⟩
    · rw [Ctx.put_ne e, R.e]
  · by_cases e : y = x
    · rw [e]
      exact hn
    · rw [Ctx.put_ne e] at hy
      exact (R.nm y hy).le hf
/-- an end goes on with another talk -/
theorem Rel.re (R : Rel g f xs z (os ++ [(x, t)])) : Rel (g.put x (.en t')) f xs z (os ++ [(x, t')]) := by
  have gx := R.mem (x := x) (t := t) (List.mem_append.mpr (.inr (List.mem_singleton.mpr rfl)))
  have nd := R.nd
  rw [List.map_append] at nd
  obtain ⟨n1, _, n3⟩ := List.nodup_append.mp nd
  have no : ∀ u, (x, u) ∉ os := fun u h => n3 x (List.mem_map.mpr ⟨_, h, rfl⟩) x (by simp) rfl
  have nx : ∀ {y : Str}, y = x → ∀ {u : Ty}, g y = some u → u = .en t := fun e u h => by
    rw [e, gx] at h
    cases h
    rfl
  refine ⟨fun y hy => ?_, fun hz => ?_, fun y u => ?_, fun y hy => ?_, nd_add n1 no⟩
  · rw [Ctx.put_ne fun e => by cases nx e (R.i y hy)]
    exact R.i y hy
  · rw [Ctx.put_ne fun e => by cases nx e (R.b hz)]
    exact R.b hz
  · rw [List.mem_append, List.mem_singleton]
    by_cases e : y = x
    · rw [e, Ctx.put_same]
      constructor
      · intro q
        cases q
        exact .inr rfl
      · rintro (q | q)
        · exact absurd q (no u)
        · cases q
          rfl
    · rw [Ctx.put_ne e, R.e, List.mem_append, List.mem_singleton]
      constructor
      · rintro (q | q)
        · exact .inl q
        · exact absurd (Prod.mk.inj q).1 e
      · rintro (q | q)
        · exact .inl q
        · exact absurd (Prod.mk.inj q).1 e
  · by_cases e : y = x
    · rw [e]
      exact R.nm x (by rw [gx]; simp)
    · rw [Ctx.put_ne e] at hy
      exact R.nm y hy
theorem Rel.noEnds (R : Rel g f xs z []) : NoEnds g := fun x t h => by
  have := (R.e x t).mp h
  cases this
theorem Fits.use (R : Rel g f xs z os) {e : Exp} {t : Ty} (h : Fits xs z e t) : e.T g t := h g R.i R.b
end
/-! ### ends are dropped one after the other -/
def dropsB : List Str → Blk → Blk
  | [], b => b
  | x :: xs, b => .drop x (dropsB xs b)
/-- the statements of such drops -/
def DrpV (H : Hp) : List V → List Str → Prop
  | [], [] => True
  | v :: vs, x :: xs => (∃ p, v = .ref p ∧ H p = some (.tup [.str "drop", .str x, .int 0])) ∧ DrpV H vs xs
  | _, _ => False
theorem DrpV.tu {H H' : Hp} (s : Tu H H') : ∀ {vs : List V} {xs : List Str}, DrpV H vs xs → DrpV H' vs xs
  | [], [], _ => trivial
  | v :: vs, x :: xs, ⟨⟨p, e, h1⟩, h3⟩ => ⟨⟨p, e, s _ _ h1⟩, DrpV.tu s h3⟩
  | [], _ :: _, h => h.elim
  | _ :: _, [], h => h.elim
theorem DrpV.snoc {H : Hp} {p : Addr} {x : Str} (hp : H p = some (.tup [.str "drop", .str x, .int 0])) : ∀ {vs : List V} {xs : List Str}, DrpV H vs xs → DrpV H (vs ++ [.ref p]) (xs ++ [x])
  | [], [], _ => ⟨⟨p, rfl, hp⟩, trivial⟩
  | v :: vs, y :: xs, h => ⟨h.1, DrpV.snoc hp h.2⟩
  | [], _ :: _, h => h.elim
  | _ :: _, [], h => h.elim
theorem DrpV.len {H : Hp} : ∀ {vs : List V} {xs : List Str}, DrpV H vs xs → vs.length = xs.length
  | [], [], _ => rfl
  | v :: vs, x :: xs, h => congrArg (· + 1) (DrpV.len h.2)
  | [], _ :: _, h => h.elim
  | _ :: _, [], h => h.elim
theorem DrpV.blk {H : Hp} {b : Blk} {us : List V} (h : BlkAt H b us) : ∀ {vs : List V} {xs : List Str}, DrpV H vs xs → BlkAt H (dropsB xs b) (vs ++ us)
  | [], [], _ => h
  | v :: vs, x :: xs, ⟨⟨p, e, h1⟩, h3⟩ => ⟨p, vs ++ us, by rw [e]; rfl, h1, DrpV.blk h h3⟩
  | [], _ :: _, h => h.elim
  | _ :: _, [], h => h.elim
theorem rmv_not {x : Str} : ∀ {os : Os}, (∀ u, (x, u) ∉ os) → rmv x os = os := fun {os} h => by
  unfold rmv
  rw [List.filter_eq_self]
  intro p hp
  have : p.1 ≠ x := fun e => h p.2 (by rw [← e]; exact hp)
  simp [this]
theorem drops_T {Tb : Nat → Talk} {Sg : Str → Option (List (Str × Ty))} {f : Nat} {xs : List Str} {z : Str} {ps : Os} {b : Blk} (hb : ∀ g, Rel g f xs z ps → b.T Tb Sg g) : ∀ (os : Os) (g : Ctx), Rel g f xs z (os ++ ps) → (dropsB (os.map (·.1)) b).T Tb Sg g
  | [], g, R => hb g R
  | (x, t) :: os, g, R => by
    have m : (x, t) ∈ (x, t) :: os ++ ps := List.mem_cons_self
    refine ⟨t, R.mem m, drops_T hb os _ ?_⟩
    have R2 := R.del m
    have nd : (x :: (os ++ ps).map (·.1)).Nodup := R.nd
    obtain ⟨n1, n2⟩ := List.nodup_cons.mp nd
    refine R2.perm (fun p => ?_) n2
    rw [mem_rmv]
    constructor
    · intro h
      exact ⟨List.mem_cons_of_mem _ h, fun e => n1 (by rw [← e]; exact List.mem_map.mpr ⟨p, h, rfl⟩)⟩
    · rintro ⟨h, e⟩
      rcases List.mem_cons.mp h with h | h
      · rw [h] at e
        exact absurd rfl e
      · exact h
end G

/-! part W9 -/
set_option Elab.async false
set_option linter.all false
set_option maxRecDepth 100000
set_option maxHeartbeats 4000000
/-! Opening, last statements. -/
namespace G
open PySem PySem.Spec PyProof.Rows L2
variable {P : Program} {w : World} {K : PySem.W.Frag} {mg : Str → Option Value} {base : Heap}
theorem mem_spares {d : Bool} {n : Nat} {os : Os} {x : Str} (h : x ∈ spares d n os) : (x, Talk.ref d n) ∈ os := by
  unfold spares at h
  obtain ⟨p, hp, e⟩ := List.mem_map.mp h
  obtain ⟨h1, h2⟩ := List.mem_filter.mp hp
  obtain ⟨y, t⟩ := p
  have e : y = x := e
  have h2 : t = .ref d n := isRef_iff.mp h2
  rw [← e, ← h2]
  exact h1
theorem spares_le (d : Bool) (n : Nat) (os : Os) : (spares d n os).length ≤ os.length := by
  unfold spares
  rw [List.length_map]
  exact List.length_filter_le _ _
theorem head_of {xs : List Str} (h : 0 < xs.length) : ∃ x ∈ xs, atI (xs.map V.str) 0 = some (V.str x) := by
  cases xs with
  | nil => exact absurd h (by decide)
  | cons x r => exact ⟨x, List.mem_cons_self, atI_nat (j := 0) rfl⟩
theorem OsOk.rmv {m : Nat} {x : Str} {os : Os} (h : OsOk m os) : OsOk m (rmv x os) := fun p hp => h p (mem_rmv.mp hp).1
theorem Rel.delL {g : Ctx} {f : Nat} {xs : List Str} {z x : Str} {os rs : Os} {t : Talk} (R : Rel g f xs z (os ++ rs)) (h : (x, t) ∈ os) : Rel (g.del x) f xs z (rmv x os ++ rs) := by
  have nd := R.nd
  rw [List.map_append] at nd
  obtain ⟨n1, n2, n3⟩ := List.nodup_append.mp nd
  have no : ∀ u, (x, u) ∉ rs := fun u hu => n3 x (List.mem_map.mpr ⟨_, h, rfl⟩) x (List.mem_map.mpr ⟨_, hu, rfl⟩) rfl
  have e : rmv x (os ++ rs) = rmv x os ++ rs := by
    unfold rmv
    rw [List.filter_append]
    congr 1
    exact rmv_not no
  rw [← e]
  exact R.del (List.mem_append.mpr (.inl h))
/-- a statement that opens fits what the builder knows -/
def OpT (m f : Nat) (xs : List Str) (z : Str) (os : Os) (A : Str) (es : List Exp) (d : Bool) (k : Nat) (os' : Os) : Prop :=
  ∀ Sg, SgOk m Sg → ∀ rs g, Rel g f xs z (os ++ rs) → ∃ c ps g', Sg A = some ((c, .en (.ref (!d) k)) :: ps) ∧ Args g es (ps.map (·.2)) g' ∧ Rel g' f xs z (os' ++ rs)
theorem OpT.use {m f : Nat} {xs : List Str} {z : Str} {os : Os} {A : Str} {es : List Exp} {d : Bool} {k : Nat} {os' : Os} (h : OpT m f xs z os A es d k os') (hf : f + 1 ≤ LIM) {Sg : Str → Option (List (Str × Ty))} (hS : SgOk m Sg) {Tb : Nat → Talk} {b : Blk}
    {rs : Os} (hb : ∀ g, Rel g (f + 1) xs z (os' ++ rs ++ [(xn (f + 1), .ref d k)]) → b.T Tb Sg g) : ∀ g, Rel g f xs z (os ++ rs) → (Blk.open_ (xn (f + 1)) A es b).T Tb Sg g := fun g R => by
  obtain ⟨c, ps, g', h1, h2, h3⟩ := h Sg hS rs g R
  have fr : ∀ g : Ctx, ∀ {os : Os}, Rel g f xs z os → g (xn (f + 1)) = none := fun g os R => by
    cases e : g (xn (f + 1)) with
    | none => rfl
    | some t => exact absurd (R.nm _ (by rw [e]; simp)) (xn_fresh hf)
  refine ⟨c, _, ps, g', h1, h2, fr g R, ?_⟩
  have e : (Talk.ref (!d) k).dual = .ref d k := by simp [Talk.dual]
  rw [e]
  exact hb _ (h3.put (fr g' h3) (.inr (.inr (.inr (.inr ⟨f + 1, Nat.le_refl _, rfl⟩)))) (Nat.le_succ f))
theorem len_w {d : Bool} {n : Nat} (h : n ≤ LIM) : (wn d n).length ≤ 12 := by
  have h1 := len_tn h
  have e : ∀ a b : Str, (a ++ b).length = a.length + b.length := fun a b => by
    show (a.cps ++ b.cps).size = _
    rw [Array.size_append]
    rfl
  unfold wn
  rw [e]
  have : (if d = true then ("C" : Str) else "S").length = 1 := by cases d <;> decide +kernel
  omega
theorem len_P {d : Bool} {n : Nat} (h : n ≤ LIM) : ("P" : Str).length + (wn d n).length ≤ sizeLine := by
  have h1 := len_w (d := d) h
  have h2 : ("P" : Str).length = 1 := by decide +kernel
  rw [h2]
  exact le_line (by omega)
def spOpen : V → V → V → V → Hp → VK → Prop := fun a b c e H Q => ∃ (gd : Fd) (n f : Nat) (z : Str) (li : Addr) (xs : List Str) (d : Bool) (k : Nat) (lo : Addr) (os : Os) (m : Nat),
  a = .ref gd.p ∧ b = .ref li ∧ RefAt H d k c ∧ e = .ref lo ∧ FeedAt H gd (n + 18) f z ∧ IntsAt H li xs ∧ OthAt H lo os ∧ OsOk m os ∧ k < m ∧ m ≤ 3 ∧ os.length ≤ 20 ∧
  ∀ L lo' st q as es A os' H', Kp gd.p H H' → FeedAt H' gd n (f + 1) z → f + 1 ≤ LIM → H' L = some (.lst [.str (xn (f + 1)), .ref st, .ref lo']) → H' st = some (.tup [.str "open", .str (xn (f + 1)), .str A, .ref q, .int 0]) →
    H' q = some (.tup as) → ArgsAt H' es as → OthAt H' lo' os' → OsOk m os' → os'.length ≤ os.length → (lo' = lo ∨ H lo' = none) → OpT m f xs z os A es d k os' → Q (.ref L) H'
theorem ok_l_open (T : Top K mg) : FnG P w K mg base 4 (He.ga K "_law_open") p_l_open (S4 spOpen) := by
  refine FnG.of4 T.d_l_open sc_l_open rfl fun cdv A outer s H a b c e Q E hr h => ⟨_, (pss_cons (ps_set (i := 4) sc_l_open.nd rfl (Or.inl rfl) (pcall (ok_l_spare T) (hr.mono (by omega)) T.g_l_spare (pa_cons (pv 3) pa_nil)))
    (pss_cons (ps_set (i := 5) sc_l_open.nd rfl (Or.inl rfl) (pcall (ok_l_worker T) (hr.mono (by omega)) T.g_l_worker (pa_cons (pcall (ok_l_dual T) (hr.mono (by omega)) T.g_l_dual (pa_cons (pv 2) pa_nil)) pa_nil)))
    (pss_cons (ps_set (i := 6) sc_l_open.nd rfl (Or.inl rfl) (pcall (ok_l_fresh T) (hr.mono (by omega)) T.g_l_fresh (pa_cons (pv 0) pa_nil)))
    (pss_cons (ps_if (PW.pt (pw_and (pt_cmpR op_gt (pe_callB call_len_seq (by rfl) T.f_len PySem.boot_len (pa_cons (pv 4) pa_nil)) pe_int (nomark _)) (pw_and1 (pt_cmpR op_eq (pcall (ok_l_take T) (hr.mono (by omega)) T.g_l_take (pa_cons (pv 0) (pa_cons pe_int pa_nil))) pe_int (nomark _))))) (pss_cons (ps_set (i := 7) sc_l_open.nd rfl (Or.inl rfl) (pe_tup (pa_cons (pe_tup (pa_cons pe_str (pa_cons (pe_ix ix_list (pv 4) pe_int (fun _ _ => rfl)) pa_nil))) (pa_cons (pcall (ok_l_number T) (hr.mono (by omega)) T.g_l_number (pa_cons (pv 0) (pa_cons (pv 1) pa_nil))) (pa_cons (pcall (ok_l_test T) (hr.mono (by omega)) T.g_l_test (pa_cons (pv 0) (pa_cons (pv 1) pa_nil))) pa_nil)))))
    (pss_one (ps_ret (pe_lst (pa_cons (pv 6) (pa_cons (pe_tup (pa_cons pe_str (pa_cons (pv 6) (pa_cons (pe_op op_add_str pe_str (pv 5)) (pa_cons (pv 7) (pa_cons pe_int pa_nil)))))) (pa_cons (pcall (ok_l_without T) (hr.mono (by omega)) T.g_l_without (pa_cons (pv 3) (pa_cons (pe_ix ix_list (pv 4) pe_int (fun _ _ => rfl)) pa_nil))) pa_nil))))))) pss_nil)
    (pss_one (ps_ret (pe_lst (pa_cons (pv 6) (pa_cons (pe_tup (pa_cons pe_str (pa_cons (pv 6) (pa_cons (pv 5) (pa_cons (pe_tup (pa_cons (pcall (ok_l_number T) (hr.mono (by omega)) T.g_l_number (pa_cons (pv 0) (pa_cons (pv 1) pa_nil))) pa_nil)) (pa_cons pe_int pa_nil)))))) (pa_cons (pv 3) pa_nil)))))))))), ?_⟩
  obtain ⟨gd, n, f, z, li, xs, d, k, lo, os, m, rfl, rfl, hc, rfl, F, I, O, oo, hk, hm, hl, q⟩ := h
  refine ⟨_, rfl, lo, os, m, rfl, O, oo, hm, hl, fun r H1 s1 hr1 I1 => ?_⟩
  refine ⟨_, rfl, .ref d k, m, RefAt.tu (Same.tu s1) hc, by show 0 < 3; decide, hk, fun v H2 s2 T2 => ?_⟩
  have hkl : k ≤ LIM := by
    unfold LIM
    omega
  refine ⟨!d, k, T2, hkl, ?_⟩
  have s12 := s1.trans s2
  refine ⟨_, rfl, gd, n + 17, f, z, rfl, F.same s12, fun H3 k3 F3 lf => ?_⟩
  have kk : Kp gd.p H H3 := (Kp.of s12).trans k3
  have I3 : IntsAt H3 li xs := (F.same s12).ints k3 (s12 _ _ I)
  have O3 : OthAt H3 lo os := (F.same s12).oth k3 (O.same s12)
  have R3 : IntsAt H3 r (spares false 0 os) := (F.same s12).ints k3 (s2 _ _ I1)
  dsimp only [gName, tSeq]
  refine if_H (fun H4 => Kp gd.p H3 H4 ∧ FeedAt H4 gd (n + 16) (f + 1) z ∧ 0 < (spares false 0 os).length) (fun H4 => Kp gd.p H3 H4 ∧ FeedAt H4 gd (n + 16) (f + 1) z)
    (fun Q hy hn => ⟨_, rfl, r, _, rfl, .inl (SqL.of R3), _, _, rfl, rfl, _, rfl, ite2 (fun c => ?_) (fun c => ?_)⟩) ?_ ?_
  · have c := of_decide_eq_true c
    rw [List.length_map] at c
    refine ⟨_, rfl, gd, n + 16, f + 1, z, 2, rfl, rfl, by decide, F3, fun y H4 y0 y1 k4 F4 => ?_⟩
    exact ⟨rfl, _, rfl, q_b (fun _ => hy _ ⟨k4, F4, by omega⟩) fun _ => hn _ ⟨k4, F4⟩⟩
  · exact hn _ ⟨Kp.refl _ _, F3.le (by omega)⟩
  · rintro H4 ⟨k4, F4, h0⟩
    have I4 := F3.ints k4 I3
    have O4 := F3.oth k4 O3
    have R4 := F3.ints k4 R3
    obtain ⟨x, hx, ex⟩ := head_of h0
    have mx := mem_spares hx
    refine ⟨_, rfl, r, _, _, _, rfl, rfl, SqL.of R4, ex, le_line (by show 2 ≤ _; decide), fun t1 ht1 => ?_⟩
    have s4 := Same.new (o := .tup [.str "var", .str x]) ht1
    refine ⟨_, rfl, _, rfl, gd, n + 12, f + 1, z, li, xs, rfl, rfl, F4.new ht1, s4 _ _ I4, fun v1 e1 H5 k5 F5 E1 N1 D1 => ?_⟩
    have F4' := F4.new (o := .tup [.str "var", .str x]) ht1
    have I5 := F4'.ints k5 (s4 _ _ I4)
    refine ⟨_, rfl, _, rfl, gd, n + 1, f + 1, z, li, xs, rfl, rfl, F5, I5, fun v2 e2 H6 k6 F6 E2 N2 D2 => ?_⟩
    refine ⟨le_line (by show 3 ≤ _; decide), fun t2 ht2 => ?_⟩
    refine ⟨_, rfl, _, rfl, _, rfl, _, _, rfl, rfl, len_P hkl, _, rfl, le_line (by show 5 ≤ _; decide), fun t3 ht3 => ?_⟩
    have O6 : OthAt H6 lo os := F5.oth k6 (F4'.oth k5 (O4.same s4))
    have R6 : IntsAt H6 r (spares false 0 os) := F5.ints k6 (F4'.ints k5 (s4 _ _ R4))
    have s6 := (Same.new (o := .tup [.ref t1, v1, v2]) ht2).trans (Same.new (o := .tup [.str "open", .str (xn (f + 1)), .str (pn (!d) k), .ref t2, .int 0]) ht3)
    refine ⟨_, rfl, _, rfl, r, _, _, _, rfl, rfl, SqL.of (s6 _ _ R6), ex, lo, os, x, rfl, rfl, O6.same s6, hl, fun lo' H7 s7 hn7 O7 => ?_⟩
    refine ⟨le_line (by show 3 ≤ _; decide), fun L hL => ?_⟩
    have s8 := s7.trans (Same.new (o := .lst [.str (xn (f + 1)), .ref t3, .ref lo']) hL)
    have e4 : H6 t1 = some (.tup [.str "var", .str x]) := F5.tu k6 _ _ (F4'.tu k5 _ _ upd_same)
    have s67 := s6.trans s8
    refine q L lo' t3 t2 [.ref t1, v1, v2] [.var x, e1, e2] (pn (!d) k) (rmv x os) _ ((((((kk.trans k4).trans (Kp.of s4)).trans k5).trans k6).trans (Kp.of s67))) ((F6.same s67).le (by omega)) lf upd_same (s8 _ _ upd_same)
      (s8 _ _ ((Same.new ht3) _ _ upd_same)) ⟨⟨t1, rfl, s67 _ _ e4⟩, E1.tu ((F5.tu k6).trans (Same.tu s67)), E2.tu (Same.tu s67), trivial⟩ (O7.same (Same.new hL)) oo.rmv (rmv_len x os) (.inr ?_) ?_
    · have n7 := (F6.same s6).not hn7
      exact Kp.free (((((kk.trans k4).trans (Kp.of s4)).trans k5).trans k6).trans (Kp.of s6)) n7.1.symm hn7
    intro Sg hS rs g R
    have R2 := R.delL mx
    refine ⟨_, _, _, hS.p (!d) k hk, ⟨x, rfl, R.mem (List.mem_append.mpr (.inl mx)), ?_, by omega, ?_, D2, rfl⟩, R2⟩
    · exact N1.use R2
    · exact N2.use R2
  · rintro H4 ⟨k4, F4⟩
    have I4 := F3.ints k4 I3
    have O4 := F3.oth k4 O3
    refine ⟨_, rfl, _, rfl, _, rfl, _, rfl, _, rfl, gd, n + 12, f + 1, z, li, xs, rfl, rfl, F4, I4, fun v1 e1 H5 k5 F5 E1 N1 D1 => ?_⟩
    have O5 := F4.oth k5 O4
    refine ⟨le_line (by show 1 ≤ _; decide), fun t2 ht2 => ⟨le_line (by show 5 ≤ _; decide), fun t3 ht3 => ?_⟩⟩
    have s5 := (Same.new (o := .tup [v1]) ht2).trans (Same.new (o := .tup [.str "open", .str (xn (f + 1)), .str (wn (!d) k), .ref t2, .int 0]) ht3)
    refine ⟨_, rfl, le_line (by show 3 ≤ _; decide), fun L hL => ?_⟩
    have s8 := Same.new (o := .lst [.str (xn (f + 1)), .ref t3, .ref lo]) hL
    refine q L lo t3 t2 [v1] [e1] (wn (!d) k) os _ (((kk.trans k4).trans k5).trans (Kp.of (s5.trans s8))) ((F5.same (s5.trans s8)).le (by omega)) lf upd_same (s8 _ _ upd_same)
      (s8 _ _ ((Same.new ht3) _ _ upd_same)) ⟨E1.tu (Same.tu (s5.trans s8)), trivial⟩ (O5.same (s5.trans s8)) oo (Nat.le_refl _) (.inl rfl) ?_
    intro Sg hS rs g R
    exact ⟨_, _, _, hS.w (!d) k hk, ⟨N1.use R, by omega, rfl⟩, R⟩
def spLast : V → Hp → VK → Prop := fun a H Q => ∃ (gd : Fd) (n f : Nat) (z : Str), a = .ref gd.p ∧ FeedAt H gd (n + 1) f z ∧
  ∀ L b H', Kp gd.p H H' → FeedAt H' gd n f z → LBk H' L b 1 → (∀ Tb Sg g, NoEnds g → b.T Tb Sg g) → Q (.ref L) H'
theorem ok_l_last (T : Top K mg) : FnG P w K mg base 2 (He.ga K "_law_last") p_l_last (S1 spLast) := by
  refine FnG.of1 T.d_l_last sc_l_last rfl fun cdv A outer s H a Q E hr h => ⟨_, (pss_cons (ps_if (pt_cmpR op_eq (pcall (ok_l_take T) (hr.mono (by omega)) T.g_l_take (pa_cons (pv 0) (pa_cons pe_int pa_nil))) pe_int (nomark _)) (pss_one (ps_ret (pe_lst (pa_cons (pe_tup (pa_cons pe_str (pa_cons pe_int pa_nil))) pa_nil)))) pss_nil)
    (pss_one (ps_ret (pe_lst (pa_cons (pe_tup (pa_cons pe_str (pa_cons pe_int pa_nil))) pa_nil))))), ?_⟩
  obtain ⟨gd, n, f, z, rfl, F, q⟩ := h
  refine ⟨_, rfl, gd, n, f, z, 8, rfl, rfl, by decide, F, fun r H1 r0 r8 k1 F1 => ?_⟩
  refine ⟨rfl, _, rfl, ite2 (fun c => ?_) (fun c => ?_)⟩
  · refine ⟨le_line (by show 2 ≤ _; decide), fun t ht => ⟨le_line (by show 1 ≤ _; decide), fun L hL => ?_⟩⟩
    exact q L .fail _ (k1.trans ((Kp.new ht).trans (Kp.new hL))) ((F1.new ht).new hL) ⟨_, upd_same, ⟨t, rfl, (Same.new hL) _ _ upd_same⟩, Nat.le_refl 1⟩ fun _ _ _ _ => trivial
  · refine ⟨le_line (by show 2 ≤ _; decide), fun t ht => ⟨le_line (by show 1 ≤ _; decide), fun L hL => ?_⟩⟩
    exact q L .done _ (k1.trans ((Kp.new ht).trans (Kp.new hL))) ((F1.new ht).new hL) ⟨_, upd_same, ⟨t, rfl, (Same.new hL) _ _ upd_same⟩, Nat.le_refl 1⟩ fun _ _ _ h => h
end G

/-! part W10 -/
set_option Elab.async false
set_option linter.all false
set_option maxRecDepth 100000
set_option maxHeartbeats 4000000
/-! Where a body stops. -/
namespace G
open PySem PySem.Spec PyProof.Rows L2
variable {P : Program} {w : World} {K : PySem.W.Frag} {mg : Str → Option Value} {base : Heap}
def hdT : Talk → Str
  | .fin => "end"
  | .ref d _ => dn d
  | .node h _ => sh h
def isRf : Talk → Bool
  | .ref _ _ => true
  | _ => false
theorem TalkAt.hd {H : Hp} : ∀ {t : Talk} {v : V}, TalkAt H t v → ∃ p xs, v = .ref p ∧ H p = some (.tup (.str (hdT t) :: xs))
  | .fin, _, ⟨p, e, h⟩ => ⟨p, _, e, h⟩
  | .ref _ _, _, ⟨p, e, h⟩ => ⟨p, _, e, h⟩
  | .node _ _, _, ⟨p, q, vs, e, h, _⟩ => ⟨p, _, e, h⟩
theorem inV_hd : ∀ t : Talk, inV (.str (hdT t)) [.str "name", .str "dual"] = isRf t
  | .fin => by decide +kernel
  | .ref d _ => by cases d <;> (show inV (.str (dn _)) _ = true) <;> decide +kernel
  | .node h _ => by cases h <;> (show inV (.str (sh _)) _ = false) <;> decide +kernel
theorem Rel.swap {g : Ctx} {f : Nat} {xs : List Str} {z x s : Str} {os : Os} {t u : Talk} (R : Rel g f xs z (os ++ [(x, t)])) (hs : (s, u) ∈ os) : Rel g f xs z (rmv s os ++ [(s, u), (x, t)]) := by
  have nd := R.nd
  rw [List.map_append] at nd
  obtain ⟨n1, _, n3⟩ := List.nodup_append.mp nd
  have nsx : s ≠ x := n3 s (List.mem_map.mpr ⟨_, hs, rfl⟩) x (by simp)
  refine R.perm (fun p => ?_) ?_
  · simp only [List.mem_append, List.mem_cons, List.not_mem_nil, or_false, mem_rmv]
    constructor
    · rintro (⟨h, _⟩ | h | h)
      · exact .inl h
      · rw [h]
        exact .inl hs
      · exact .inr h
    · rintro (h | h)
      · by_cases e : p.1 = s
        · obtain ⟨y, w⟩ := p
          have e : y = s := e
          subst e
          rw [nd_fst n1 h hs]
          exact .inr (.inl rfl)
        · exact .inl ⟨h, e⟩
      · exact .inr (.inr h)
  · rw [List.map_append]
    refine List.nodup_append.mpr ⟨rmv_nd n1, by simp [nsx], fun a ha b hb e => ?_⟩
    obtain ⟨p, hp, ep⟩ := List.mem_map.mp ha
    obtain ⟨hp1, hp2⟩ := mem_rmv.mp hp
    simp at hb
    rcases hb with hb | hb
    · exact hp2 (by rw [ep, e, hb])
    · exact n3 a (List.mem_map.mpr ⟨p, hp1, ep⟩) x (by simp) (by rw [e, hb])
theorem rmv_one {x : Str} {t : Talk} : rmv x [(x, t)] = [] := by simp [rmv]
theorem rmv_two {x s : Str} {t u : Talk} (h : s ≠ x) : rmv x [(s, u), (x, t)] = [(s, u)] := by simp [rmv, h]
theorem BlkAt.mkB {H : Hp} {p q : Addr} {as : List V} {es : List Exp} {A : Str} (h1 : H p = some (.tup [.str "become", .str A, .ref q, .int 0])) (h2 : H q = some (.tup as)) (h3 : ArgsAt H es as) : BlkAt H (.become A es) [.ref p] := ⟨p, q, as, rfl, h1, h2, h3⟩
theorem BlkAt.mkD {H : Hp} {p : Addr} {x : Str} {b : Blk} {vs : List V} (h1 : H p = some (.tup [.str "drop", .str x, .int 0])) (h2 : BlkAt H b vs) : BlkAt H (.drop x b) (.ref p :: vs) := ⟨p, vs, rfl, h1, h2⟩
/-- a block, whatever the context is that the builder has in view -/
def BT (m : Nat) (Tb : Nat → Talk) (f : Nat) (xs : List Str) (z : Str) (os : Os) (b : Blk) : Prop := ∀ Sg, SgOk m Sg → ∀ g, Rel g f xs z os → b.T Tb Sg g
def spStop : V → V → V → V → V → Hp → VK → Prop := fun a tv ev iv ov H Q => ∃ (gd : Fd) (n f : Nat) (z : Str) (t : Talk) (x : Str) (li : Addr) (xs : List Str) (lo : Addr) (os : Os) (m : Nat),
  a = .ref gd.p ∧ TalkAt H t tv ∧ ev = .str x ∧ iv = .ref li ∧ ov = .ref lo ∧ FeedAt H gd (n + 20) f z ∧ IntsAt H li xs ∧ OthAt H lo os ∧ OsOk m os ∧ t.Ok m ∧ m ≤ 3 ∧ os.length ≤ 20 ∧
  ∀ L b H', Kp gd.p H H' → FeedAt H' gd n f z → LBk H' L b 30 → (∀ Tb, BT m Tb f xs z (os ++ [(x, t)]) b) → Q (.ref L) H'
theorem ok_l_stop (T : Top K mg) : FnG P w K mg base 4 (He.ga K "_law_stop") p_l_stop (S5 spStop) := by
  refine FnG.of5 T.d_l_stop sc_l_stop rfl fun cdv A outer s H a tv ev iv ov Q E hr h => ⟨_, (pss_cons (ps_setLc (i := 5) (own := [("_law_name", 6), ("_law_rest_here", 7)]) (g := gTup K 2 (gCons (gName 6) (gCons (gName 7) gNil))) (tt := tYes) rfl sc_l_stop.nd rfl rfl (sw_true rfl rfl rfl (by decide +kernel)) (pi_list (pv 4)) (blkOk_by (own := [("_law_name", 6), ("_law_rest_here", 7)]) (N := n_l_stop) (sc := defScope s_l_stop) (by decide +kernel)) (fun _ _ _ _ _ => (pg_tup (by rfl) (pgs_cons (pg_name (i := 6) sc_l_stop.nd rfl (Or.inl rfl)) (pgs_cons (pg_name (i := 7) sc_l_stop.nd rfl (Or.inl rfl)) pgs_nil)))) (fun _ _ _ _ _ => pts_nil) (fun _ _ _ _ _ => (pe_tup (pa_cons pe_str (pa_cons (pv 6) (pa_cons pe_int pa_nil))))))
    (pss_cons (ps_if (PW.pt (pw_and (pt_cmpR op_in_seq (pe_ix ix_tup (pv 1) pe_int (fun _ _ => rfl)) (pe_lst (pa_cons pe_str (pa_cons pe_str pa_nil))) rfl) (pw_and1 (pt_cmpR op_gt (pcall (ok_l_take T) (hr.mono (by omega)) T.g_l_take (pa_cons (pv 0) (pa_cons pe_int pa_nil))) pe_int (nomark _))))) (pss_cons (ps_set (i := 8) sc_l_stop.nd rfl (Or.inr rfl) (pcall (ok_l_spare T) (hr.mono (by omega)) T.g_l_spare (pa_cons (pv 4) pa_nil)))
    (pss_cons (ps_if (PW.pt (pw_and (pt_cmpR op_gt (pe_callB call_len_seq (by rfl) T.f_len PySem.boot_len (pa_cons (pv 8) pa_nil)) pe_int (nomark _)) (pw_and1 (pt_cmpR op_gt (pcall (ok_l_take T) (hr.mono (by omega)) T.g_l_take (pa_cons (pv 0) (pa_cons pe_int pa_nil))) pe_int (nomark _))))) (pss_cons (ps_setLc (i := 5) (own := [("_law_name", 6), ("_law_rest_here", 7)]) (g := gTup K 2 (gCons (gName 6) (gCons (gName 7) gNil))) rfl sc_l_stop.nd rfl rfl (sw_true rfl rfl rfl (by decide +kernel)) (pi_list (pv 4)) (blkOk_by (own := [("_law_name", 6), ("_law_rest_here", 7)]) (N := n_l_stop) (sc := defScope s_l_stop) (by decide +kernel)) (fun _ _ _ _ _ => (pg_tup (by rfl) (pgs_cons (pg_name (i := 6) sc_l_stop.nd rfl (Or.inl rfl)) (pgs_cons (pg_name (i := 7) sc_l_stop.nd rfl (Or.inl rfl)) pgs_nil)))) (fun _ _ _ _ _ => pts_one (pt_cmpR op_ne (pv 6) (pe_ix (ix_listK K) (pv 8) pe_int (fun _ _ => rfl)) (nomark _))) (fun _ _ _ _ _ => (pe_tup (pa_cons pe_str (pa_cons (pv 6) (pa_cons pe_int pa_nil))))))
    (pss_cons (ps_set (i := 9) sc_l_stop.nd rfl (Or.inl rfl) (pe_tup (pa_cons (pe_tup (pa_cons pe_str (pa_cons (pv 2) pa_nil))) (pa_cons (pe_tup (pa_cons pe_str (pa_cons (pe_ix ix_list (pv 8) pe_int (fun _ _ => rfl)) pa_nil))) (pa_cons (pcall (ok_l_number T) (hr.mono (by omega)) T.g_l_number (pa_cons (pv 0) (pa_cons (pv 3) pa_nil))) (pa_cons (pcall (ok_l_test T) (hr.mono (by omega)) T.g_l_test (pa_cons (pv 0) (pa_cons (pv 3) pa_nil))) pa_nil))))))
    (pss_one (ps_ret (pe_op op_cat (pv 5) (pe_lst (pa_cons (pe_tup (pa_cons pe_str (pa_cons (pe_op op_add_str pe_str (pcall (ok_l_worker T) (hr.mono (by omega)) T.g_l_worker (pa_cons (pv 1) pa_nil))) (pa_cons (pv 9) (pa_cons pe_int pa_nil))))) pa_nil))))))) pss_nil)
    (pss_one (ps_ret (pe_op op_cat (pv 5) (pe_lst (pa_cons (pe_tup (pa_cons pe_str (pa_cons (pcall (ok_l_worker T) (hr.mono (by omega)) T.g_l_worker (pa_cons (pv 1) pa_nil)) (pa_cons (pe_tup (pa_cons (pe_tup (pa_cons pe_str (pa_cons (pv 2) pa_nil))) (pa_cons (pcall (ok_l_number T) (hr.mono (by omega)) T.g_l_number (pa_cons (pv 0) (pa_cons (pv 3) pa_nil))) pa_nil))) (pa_cons pe_int pa_nil))))) pa_nil))))))) pss_nil)
    (pss_one (ps_ret (pe_op op_cat (pe_op op_cat (pv 5) (pe_lst (pa_cons (pe_tup (pa_cons pe_str (pa_cons (pv 2) (pa_cons pe_int pa_nil)))) pa_nil))) (pcall (ok_l_last T) (hr.mono (by omega)) T.g_l_last (pa_cons (pv 0) pa_nil))))))), ?_⟩
  obtain ⟨gd, n, f, z, t, x, li, xs, lo, os, m, rfl, hT, rfl, rfl, rfl, F, I, O, oo, tO, hm, hl, q⟩ := h
  obtain ⟨vs, h1, h2⟩ := id O
  have lv := h2.len
  refine ⟨_, rfl, lo, rfl, ⟨_, SqL.of h1⟩, fun D hD => ?_⟩
  refine lc_list (K := K) (a := lo) (xs := vs) (fun i H' => Same H H' ∧ ∃ acc, H' D = some (.lst acc) ∧ DrpV H' acc ((os.take i).map (·.1))) ⟨Same.new hD, [], upd_same, trivial⟩ (fun i H' _ h => SqL.of (h.1 _ _ h1)) ?_ ?_
  · rintro i v H' hi ⟨s1, acc, u1, u2⟩
    obtain ⟨y, ty, p, tv', g1, rfl, g2, g3⟩ := h2.get hi
    have li : i < os.length := (List.getElem?_eq_some_iff.mp g1).1
    refine ⟨p, _, rfl, SqT.of (s1 _ _ g2), rfl, _, _, rfl, _, _, rfl, rfl, rfl, ?_⟩
    refine ⟨_, rfl, le_line (by show 3 ≤ _; decide), fun z' hz => ?_⟩
    have u3 : upd H' z' (.tup [.str "drop", .str y, .int 0]) D = some (.lst acc) := (Same.new hz) _ _ u1
    have ta := Tu.at_ (o := .lst (acc ++ [.ref z'])) u3 (by intro xs e; cases e)
    have la := u2.len
    rw [List.length_map, List.length_take] at la
    refine ⟨acc, u3, lt_line (by omega), Same.put (s1.trans (Same.new hz)) hD, _, upd_same, ?_⟩
    have e : (os.take (i + 1)).map (·.1) = (os.take i).map (·.1) ++ [y] := by
      obtain ⟨hi', e⟩ := List.getElem?_eq_some_iff.mp g1
      rw [List.take_succ_eq_append_getElem hi', List.map_append, e]
      rfl
    rw [e]
    exact DrpV.snoc (ta _ _ upd_same) (u2.tu ((Tu.new hz).trans ta))
  rintro H1 ⟨s1, acc, u1, u2⟩
  rw [lv, List.take_length] at u2
  have la := u2.len
  rw [List.length_map] at la
  have T1 := hT.tu (Same.tu s1)
  have F1 := F.same s1
  have I1 : IntsAt H1 li xs := s1 _ _ I
  have O1 := O.same s1
  obtain ⟨p, ys, rfl, hp⟩ := T1.hd
  dsimp only [gName, tSeq]
  refine if_H (fun H2 => Kp gd.p H1 H2 ∧ FeedAt H2 gd (n + 19) f z ∧ isRf t = true) (fun H2 => Kp gd.p H1 H2 ∧ FeedAt H2 gd (n + 19) f z)
    (fun Q hy hn => ⟨_, rfl, p, _, _, _, rfl, rfl, SqT.of hp, atI_nat (j := 0) rfl, le_line (by show 2 ≤ _; decide), fun l hl2 => ⟨l, _, rfl, .inl SqL.up, rfl, rfl, _, rfl, ite2 (fun c => ?_) (fun c => ?_)⟩⟩) ?_ ?_
  · have c : inV (.str (hdT t)) [.str "name", .str "dual"] = true := c
    rw [inV_hd] at c
    refine ⟨_, rfl, gd, n + 19, f, z, 4, rfl, rfl, by decide, F1.new hl2, fun y H2 y0 y4 k2 F2 => ?_⟩
    exact ⟨_, _, rfl, rfl, _, rfl, q_b (fun _ => hy _ ⟨(Kp.new hl2).trans k2, F2, c⟩) fun _ => hn _ ⟨(Kp.new hl2).trans k2, F2⟩⟩
  · exact hn _ ⟨Kp.new hl2, (F1.new hl2).le (by omega)⟩
  · rintro H2 ⟨k2, F2, c⟩
    obtain ⟨d, k, rfl⟩ : ∃ d k, t = .ref d k := by
      cases t with
      | ref d k => exact ⟨d, k, rfl⟩
      | _ => cases c
    have hkl : k ≤ LIM := by
      have : k < m := tO
      unfold LIM
      omega
    have t2 := F1.tu k2
    have I2 := F1.ints k2 I1
    have O2 := F1.oth k2 O1
    have T2 : RefAt H2 d k (.ref p) := RefAt.tu t2 T1
    have u12 : H2 D = some (.lst acc) := F1.lst k2 u1
    have u22 := u2.tu t2
    refine ⟨_, rfl, lo, os, m, rfl, O2, oo, hm, hl, fun r H3 s3 hr3 R3 => ?_⟩
    dsimp only [gName, tSeq]
    refine if_H (fun H4 => Kp gd.p H3 H4 ∧ FeedAt H4 gd (n + 18) f z ∧ 0 < (spares false 0 os).length) (fun H4 => Kp gd.p H3 H4 ∧ FeedAt H4 gd (n + 18) f z)
      (fun Q hy hn => ⟨_, rfl, r, _, rfl, .inl (SqL.of R3), _, _, rfl, rfl, _, rfl, ite2 (fun c => ?_) (fun c => ?_)⟩) ?_ ?_
    · have c := of_decide_eq_true c
      rw [List.length_map] at c
      refine ⟨_, rfl, gd, n + 18, f, z, 3, rfl, rfl, by decide, F2.same s3, fun y H4 y0 y1 k4 F4 => ?_⟩
      exact ⟨_, _, rfl, rfl, _, rfl, q_b (fun _ => hy _ ⟨k4, F4, by omega⟩) fun _ => hn _ ⟨k4, F4⟩⟩
    · exact hn _ ⟨Kp.refl _ _, (F2.same s3).le (by omega)⟩
    · rintro H4 ⟨k4, F4, h0⟩
      have F3 := F2.same s3
      have t4 := F3.tu k4
      have O4 : OthAt H4 lo os := F3.oth k4 (O2.same s3)
      have I4 : IntsAt H4 li xs := F3.ints k4 (s3 _ _ I2)
      have R4 : IntsAt H4 r (spares false 0 os) := F3.ints k4 R3
      have T4 : RefAt H4 d k (.ref p) := RefAt.tu t4 (RefAt.tu (Same.tu s3) T2)
      obtain ⟨s0, hs0, ex⟩ := head_of h0
      have ms := mem_spares hs0
      obtain ⟨ws, w1, w2⟩ := id O4
      refine ⟨_, rfl, lo, rfl, ⟨_, SqL.of w1⟩, fun D2 hD2 => ?_⟩
      refine lc_list (K := K) (a := lo) (xs := ws) (fun i H' => Same H4 H' ∧ ∃ acc, H' D2 = some (.lst acc) ∧ DrpV H' acc ((rmv s0 (os.take i)).map (·.1))) ⟨Same.new hD2, [], upd_same, trivial⟩ (fun i H' _ h => SqL.of (h.1 _ _ w1)) ?_ ?_
      · rintro i v H' hi ⟨s5, acc2, u5, u6⟩
        obtain ⟨y, ty, p', tv', g1, rfl, g2, g3⟩ := w2.get hi
        have li' : i < os.length := (List.getElem?_eq_some_iff.mp g1).1
        have la2 := u6.len
        rw [List.length_map] at la2
        have la3 := rmv_len s0 (os.take i)
        rw [List.length_take] at la3
        have ef : rmv s0 (os.take (i + 1)) = rmv s0 (os.take i) ++ (if (!decide (y = s0)) = true then [(y, ty)] else []) := filter_take g1
        refine ⟨p', _, rfl, SqT.of (s5 _ _ g2), rfl, _, _, rfl, _, _, rfl, rfl, rfl, ?_⟩
        refine ⟨_, rfl, _, rfl, r, _, _, _, rfl, rfl, SqL.of (s5 _ _ R4), ex, rfl, _, rfl, ite2 (fun c => ?_) (fun c => ?_)⟩
        · have hc : (!decide (y = s0)) = true := by
            have c : (!decide (V.str y = V.str s0)) = true := c
            by_cases e : y = s0
            · rw [e] at c
              simp at c
            · simp [e]
          refine ⟨_, rfl, le_line (by show 3 ≤ _; decide), fun z' hz => ?_⟩
          have u7 : upd H' z' (.tup [.str "drop", .str y, .int 0]) D2 = some (.lst acc2) := (Same.new hz) _ _ u5
          have ta := Tu.at_ (o := .lst (acc2 ++ [.ref z'])) u7 (by intro xs e; cases e)
          refine ⟨acc2, u7, lt_line (by omega), Same.put (s5.trans (Same.new hz)) hD2, _, upd_same, ?_⟩
          rw [ef, if_pos hc, List.map_append]
          exact DrpV.snoc (ta _ _ upd_same) (u6.tu ((Tu.new hz).trans ta))
        · have hc : ¬ (!decide (y = s0)) = true := by
            have c : ¬ (!decide (V.str y = V.str s0)) = true := c
            by_cases e : y = s0
            · simp [e]
            · have : ¬ V.str y = V.str s0 := fun q => e (V.str.inj q)
              simp [this] at c
          refine ⟨s5, acc2, u5, ?_⟩
          rw [ef, if_neg hc, List.append_nil]
          exact u6
      rintro H5 ⟨s5, acc2, u5, u6⟩
      rw [w2.len, List.take_length] at u6
      have la2 := u6.len
      rw [List.length_map] at la2
      have la3 := rmv_len s0 os
      refine ⟨_, rfl, le_line (by show 2 ≤ _; decide), fun a1 ha1 => ?_⟩
      have s6 := s5.trans (Same.new (o := .tup [.str "var", .str x]) ha1)
      refine ⟨_, rfl, r, _, _, _, rfl, rfl, SqL.of (s6 _ _ R4), ex, le_line (by show 2 ≤ _; decide), fun a2 ha2 => ?_⟩
      have s7 := s6.trans (Same.new (o := .tup [.str "var", .str s0]) ha2)
      have e2 : upd (upd H5 a1 (.tup [.str "var", .str x])) a2 (.tup [.str "var", .str s0]) a1 = some (.tup [.str "var", .str x]) := (Same.new ha2) _ _ upd_same
      refine ⟨_, rfl, _, rfl, gd, n + 14, f, z, li, xs, rfl, rfl, F4.same s7, s7 _ _ I4, fun v1 e1 H6 k6 F6 E1 N1 D1 => ?_⟩
      have F7 := F4.same s7
      refine ⟨_, rfl, _, rfl, gd, n + 3, f, z, li, xs, rfl, rfl, F6, F7.ints k6 (s7 _ _ I4), fun v2 e3 H7 k7 F7' E2 N2 D2' => ?_⟩
      have t67 := (F7.tu k6).trans (F6.tu k7)
      refine ⟨le_line (by show 4 ≤ _; decide), fun a3 ha3 => ?_⟩
      refine ⟨_, rfl, _, rfl, d, k, RefAt.tu ((Same.tu s7).trans (t67.trans (Tu.new ha3))) T4, hkl, _, _, rfl, rfl, len_P hkl, _, rfl, le_line (by show 4 ≤ _; decide), fun a4 ha4 => ⟨le_line (by show 1 ≤ _; decide), fun L2 hL2 => ?_⟩⟩
      have kD : Kp gd.p H5 H7 := ((Kp.of ((Same.new ha1).trans (Same.new ha2))).trans k6).trans k7
      have F5 := F4.same s5
      have s8 := ((Same.new (o := .tup [.ref a1, .ref a2, v1, v2]) ha3).trans (Same.new (o := .tup [.str "become", .str (pn d k), .ref a3, .int 0]) ha4)).trans (Same.new (o := .lst [.ref a4]) hL2)
      refine ⟨D2, L2, _, _, rfl, rfl, s8 _ _ (F5.lst kD u5), upd_same, le_line (by show _ + 1 ≤ _; omega), fun L hL => ?_⟩
      have s9 := s8.trans (Same.new (o := .lst (acc2 ++ [.ref a4])) hL)
      have t9 := (F5.tu kD).trans (Same.tu s9)
      refine q L (dropsB ((rmv s0 os).map (·.1)) (.become (pn d k) [.var x, .var s0, e1, e3])) _ (((((((Kp.of s1).trans k2).trans (Kp.of s3)).trans k4).trans (Kp.of s5)).trans kD).trans (Kp.of s9)) ((F7'.same s9).le (by omega))
        ⟨_, upd_same, DrpV.blk (us := [.ref a4]) (BlkAt.mkB (p := a4) (q := a3) (as := [.ref a1, .ref a2, v1, v2]) (es := [.var x, .var s0, e1, e3]) ?_ ?_ ⟨⟨a1, rfl, ?_⟩, ⟨a2, rfl, ?_⟩, E1.tu ((F6.tu k7).trans (Same.tu s9)), E2.tu (Same.tu s9), trivial⟩) (u6.tu t9), ?_⟩ ?_
      · exact (Same.new hL) _ _ ((Same.new hL2) _ _ upd_same)
      · exact (Same.new hL) _ _ ((Same.new hL2) _ _ ((Same.new ha4) _ _ upd_same))
      · exact Same.tu s9 _ _ (t67 _ _ e2)
      · exact Same.tu s9 _ _ (t67 _ _ upd_same)
      · rw [List.length_append, la2]
        show _ + 1 ≤ 30
        omega
      · intro Tb Sg hS g R
        have nd := R.nd
        rw [List.map_append] at nd
        have nsx : s0 ≠ x := (List.nodup_append.mp nd).2.2 s0 (List.mem_map.mpr ⟨_, ms, rfl⟩) x (by simp)
        refine drops_T (f := f) (xs := xs) (z := z) (ps := [(s0, .ref false 0), (x, .ref d k)]) (fun g' R' => ?_) _ g (R.swap ms)
        have R1 := R'.del (x := x) (t := .ref d k) (by simp)
        rw [rmv_two nsx] at R1
        have R2 := R1.del (x := s0) (t := .ref false 0) (by simp)
        rw [rmv_one] at R2
        exact ⟨_, _, hS.p d k tO, ⟨x, rfl, R'.mem (by simp), s0, rfl, R1.mem (by simp), N1.use R2, by omega, N2.use R2, D2', rfl⟩, R2.noEnds⟩
    · rintro H4 ⟨k4, F4⟩
      have F3 := F2.same s3
      have t4 := F3.tu k4
      have I4 : IntsAt H4 li xs := F3.ints k4 (s3 _ _ I2)
      have T4 : RefAt H4 d k (.ref p) := RefAt.tu t4 (RefAt.tu (Same.tu s3) T2)
      have u14 : H4 D = some (.lst acc) := F3.lst k4 (s3 _ _ u12)
      have u24 := u22.tu ((Same.tu s3).trans t4)
      refine ⟨_, rfl, _, rfl, d, k, T4, hkl, _, rfl, le_line (by show 2 ≤ _; decide), fun a1 ha1 => ?_⟩
      have s5 := Same.new (o := .tup [.str "var", .str x]) ha1
      refine ⟨_, rfl, _, rfl, gd, n + 14, f, z, li, xs, rfl, rfl, F4.same s5, s5 _ _ I4, fun v1 e1 H6 k6 F6 E1 N1 D1 => ?_⟩
      have F5 := F4.same s5
      refine ⟨le_line (by show 2 ≤ _; decide), fun a3 ha3 => ⟨le_line (by show 4 ≤ _; decide), fun a4 ha4 => ⟨le_line (by show 1 ≤ _; decide), fun L2 hL2 => ?_⟩⟩⟩
      have s8 := ((Same.new (o := .tup [.ref a1, v1]) ha3).trans (Same.new (o := .tup [.str "become", .str (wn d k), .ref a3, .int 0]) ha4)).trans (Same.new (o := .lst [.ref a4]) hL2)
      have kD : Kp gd.p H4 H6 := (Kp.of s5).trans k6
      refine ⟨D, L2, _, _, rfl, rfl, s8 _ _ (F4.lst kD u14), upd_same, le_line (by show _ + 1 ≤ _; omega), fun L hL => ?_⟩
      have s9 := s8.trans (Same.new (o := .lst (acc ++ [.ref a4])) hL)
      have t9 := (F4.tu kD).trans (Same.tu s9)
      refine q L (dropsB (os.map (·.1)) (.become (wn d k) [.var x, e1])) _ (((((Kp.of s1).trans k2).trans (Kp.of s3)).trans k4).trans (kD.trans (Kp.of s9))) ((F6.same s9).le (by omega))
        ⟨_, upd_same, DrpV.blk (us := [.ref a4]) (BlkAt.mkB (p := a4) (q := a3) (as := [.ref a1, v1]) (es := [.var x, e1]) ?_ ?_ ⟨⟨a1, rfl, ?_⟩, E1.tu (Same.tu s9), trivial⟩) (u24.tu t9), ?_⟩ ?_
      · exact (Same.new hL) _ _ ((Same.new hL2) _ _ upd_same)
      · exact (Same.new hL) _ _ ((Same.new hL2) _ _ ((Same.new ha4) _ _ upd_same))
      · exact Same.tu s9 _ _ (F5.tu k6 _ _ upd_same)
      · rw [List.length_append, la]
        show _ + 1 ≤ 30
        omega
      · intro Tb Sg hS g R
        refine drops_T (f := f) (xs := xs) (z := z) (ps := [(x, .ref d k)]) (fun g' R' => ?_) _ g R
        have R1 := R'.del (x := x) (t := .ref d k) (by simp)
        rw [rmv_one] at R1
        exact ⟨_, _, hS.w d k tO, ⟨x, rfl, R'.mem (by simp), N1.use R1, by omega, rfl⟩, R1.noEnds⟩
  · rintro H2 ⟨k2, F2⟩
    have u12 : H2 D = some (.lst acc) := F1.lst k2 u1
    have u22 := u2.tu (F1.tu k2)
    refine ⟨_, rfl, _, rfl, le_line (by show 3 ≤ _; decide), fun a1 ha1 => ⟨le_line (by show 1 ≤ _; decide), fun L1 hL1 => ?_⟩⟩
    have s3 := (Same.new (o := .tup [.str "drop", .str x, .int 0]) ha1).trans (Same.new (o := .lst [.ref a1]) hL1)
    refine ⟨D, L1, _, _, rfl, rfl, s3 _ _ u12, upd_same, le_line (by show _ + 1 ≤ _; omega), fun L2 hL2 => ?_⟩
    have s4 := s3.trans (Same.new (o := .lst (acc ++ [.ref a1])) hL2)
    have F4 := F2.same s4
    refine ⟨_, rfl, gd, n, f, z, rfl, F4.le (by omega), fun L3 b H5 k5 F5 B5 T5 => ?_⟩
    obtain ⟨bs, b1, b2, b3⟩ := B5
    have e1 : H5 L2 = some (.lst (acc ++ [.ref a1])) := F4.lst k5 upd_same
    refine ⟨L2, L3, _, _, rfl, rfl, e1, b1, le_line (by show (acc ++ [V.ref a1]).length + bs.length ≤ _; rw [List.length_append]; show _ + 1 + _ ≤ _; omega), fun L hL => ?_⟩
    have t5 := (Same.tu s4).trans ((F4.tu k5).trans (Tu.new (o := .lst (acc ++ [.ref a1] ++ bs)) hL))
    refine q L (dropsB (os.map (·.1)) (.drop x b)) _ (((((Kp.of s1).trans k2).trans (Kp.of s4)).trans k5).trans (Kp.new hL)) (F5.new hL) ⟨_, upd_same, ?_, ?_⟩ ?_
    · refine Eq.subst (motive := fun l => BlkAt _ _ l) (List.append_assoc acc [V.ref a1] bs).symm ?_
      exact DrpV.blk (BlkAt.mkD (((F4.tu k5).trans (Tu.new hL)) _ _ ((Same.new hL2) _ _ ((Same.new hL1) _ _ upd_same))) (b2.tu (Tu.new hL))) (u22.tu t5)
    · rw [List.length_append, List.length_append, la]
      show _ + 1 + _ ≤ 30
      omega
    · intro Tb Sg hS g R
      refine drops_T (f := f) (xs := xs) (z := z) (ps := [(x, t)]) (fun g' R' => ?_) _ g R
      have R1 := R'.del (x := x) (t := t) (by simp)
      rw [rmv_one] at R1
      exact ⟨t, R'.mem (by simp), T5 _ _ _ R1.noEnds⟩
end G

/-! part W11 -/
set_option Elab.async false
set_option linter.all false
set_option maxRecDepth 100000
set_option maxHeartbeats 4000000
/-! The rest of a block, the next of it. -/
namespace G
open PySem PySem.Spec PyProof.Rows L2
variable {P : Program} {w : World} {K : PySem.W.Frag} {mg : Str → Option Value} {base : Heap}
/-- what stands where the builder stands -/
structure Bp (H : Hp) (gd : Fd) (n f : Nat) (z : Str) (q : Addr) (m : Nat) (Tb : Nat → Talk) (li : Addr) (xs : List Str) (lo : Addr) (os : Os) : Prop where
  F : FeedAt H gd n f z
  T : TabAt H q m m Tb
  ne : q ≠ gd.p
  m3 : m ≤ 3
  I : IntsAt H li xs
  O : OthAt H lo os
  oo : OsOk m os
section
variable {H H' : Hp} {gd : Fd} {n n' f f' : Nat} {z : Str} {q : Addr} {m : Nat} {Tb : Nat → Talk} {li lo : Addr} {xs : List Str} {os : Os}
theorem Bp.kp (B : Bp H gd n f z q m Tb li xs lo os) (k : Kp gd.p H H') (F' : FeedAt H' gd n' f' z) : Bp H' gd n' f' z q m Tb li xs lo os :=
  ⟨F', B.T.kp B.F k B.ne, B.ne, B.m3, B.F.ints k B.I, B.F.oth k B.O, B.oo⟩
theorem Bp.same (B : Bp H gd n f z q m Tb li xs lo os) (s : Same H H') : Bp H' gd n f z q m Tb li xs lo os := ⟨B.F.same s, B.T.same s, B.ne, B.m3, s _ _ B.I, B.O.same s, B.oo⟩
theorem Bp.le (B : Bp H gd n f z q m Tb li xs lo os) (h : n' ≤ n) : Bp H gd n' f z q m Tb li xs lo os := ⟨B.F.le h, B.T, B.ne, B.m3, B.I, B.O, B.oo⟩
end
/-- draws that a body needs, the rest, the next -/
def bC : Nat → Nat
  | 0 => 24
  | d + 1 => 60 + 4 * bC d
def rC (d : Nat) : Nat := if d = 0 then 2 else bC d + 2
def nC (d : Nat) : Nat := bC d + 4
theorem bC_le : ∀ d, 24 ≤ bC d
  | 0 => Nat.le_refl _
  | d + 1 => by
    show 24 ≤ 60 + 4 * bC d
    omega
theorem rC_le (d : Nat) : rC d ≤ bC d + 2 := by
  unfold rC
  split <;> omega
abbrev Res (H : Hp) (Q : VK) (gd : Fd) (n f : Nat) (z : Str) (m : Nat) (Tb : Nat → Talk) (xs : List Str) (os : Os) (c : Nat) : Prop :=
  ∀ L b f' H', Kp gd.p H H' → FeedAt H' gd n f' z → f ≤ f' → LBk H' L b c → BT m Tb f xs z os b → Q (.ref L) H'
/-- the rest at no depth is short -/
def rB (d : Nat) : Nat := if d = 0 then 39 else 40 + 2 * d
theorem rB_le (d : Nat) : rB d ≤ 40 + 2 * d := by
  unfold rB
  split <;> omega
theorem rB_0 (d : Nat) : 39 ≤ rB d := by
  unfold rB
  split <;> omega
def spRest (d : Nat) : V → V → V → V → V → Hp → VK → Prop := fun a b c e g H Q => ∃ (gd : Fd) (n f : Nat) (z : Str) (q : Addr) (m : Nat) (Tb : Nat → Talk) (li : Addr) (xs : List Str) (lo : Addr) (os : Os),
  a = .ref gd.p ∧ b = .ref q ∧ c = .ref li ∧ e = .ref lo ∧ g = .int d ∧ Bp H gd (n + rC d) f z q m Tb li xs lo os ∧ xs.length + d ≤ 10 ∧ os.length + d ≤ 11 ∧ Res H Q gd n f z m Tb xs os (rB d)
def spBody (d : Nat) : V → V → V → V → V → V → V → Hp → VK → Prop := fun a b tv ev c e g H Q => ∃ (gd : Fd) (n f : Nat) (z : Str) (q : Addr) (m : Nat) (Tb : Nat → Talk) (t : Talk) (x : Str) (li : Addr) (xs : List Str) (lo : Addr) (os : Os),
  a = .ref gd.p ∧ b = .ref q ∧ TalkAt H t tv ∧ t.Ok m ∧ t.dep ≤ 2 ∧ ev = .str x ∧ c = .ref li ∧ e = .ref lo ∧ g = .int d ∧ Bp H gd (n + bC d) f z q m Tb li xs lo os ∧ xs.length + d ≤ 10 ∧ os.length + d ≤ 10 ∧
  Res H Q gd n f z m Tb xs (os ++ [(x, t)]) (40 + 2 * d)
def spNext (d : Nat) : V → V → V → V → V → V → V → Hp → VK → Prop := fun a b tv ev c e g H Q => ∃ (gd : Fd) (n f : Nat) (z : Str) (q : Addr) (m : Nat) (Tb : Nat → Talk) (t : Talk) (x : Str) (li : Addr) (xs : List Str) (lo : Addr) (os : Os),
  a = .ref gd.p ∧ b = .ref q ∧ TalkAt H t tv ∧ t.Ok m ∧ t.dep ≤ 2 ∧ ev = .str x ∧ c = .ref li ∧ e = .ref lo ∧ g = .int d ∧ Bp H gd (n + nC d) f z q m Tb li xs lo os ∧ xs.length + d ≤ 10 ∧ os.length + d ≤ 10 ∧
  Res H Q gd n f z m Tb xs (os ++ [(x, t)]) (40 + 2 * d)
theorem cut_to {xs : List V} {i : Nat} (h : i ≤ xs.length) : cutV xs none (some (i : Int)) = xs.take i := by
  unfold cutV
  rw [HT.sIx_none, HT.sIx_nat, List.drop_zero, Nat.sub_zero, Nat.min_eq_left h]
theorem cut_from {xs : List V} {i : Nat} (h : i ≤ xs.length) : cutV xs (some (i : Int)) none = xs.drop i := by
  unfold cutV
  rw [HT.sIx_none, HT.sIx_nat, Nat.min_eq_left h, List.take_of_length_le]
  rw [List.length_drop]
  exact Nat.le_refl _
theorem OthV.take {H : Hp} : ∀ {vs : List V} {os : Os} (i : Nat), OthV H vs os → OthV H (vs.take i) (os.take i)
  | [], [], i, _ => by
    rw [List.take_nil, List.take_nil]
    trivial
  | v :: vs, (x, t) :: os, 0, _ => trivial
  | v :: vs, (x, t) :: os, i + 1, h => ⟨h.1, OthV.take i h.2⟩
  | [], _ :: _, _, h => h.elim
  | _ :: _, [], _, h => h.elim
theorem OthV.drop {H : Hp} : ∀ {vs : List V} {os : Os} (i : Nat), OthV H vs os → OthV H (vs.drop i) (os.drop i)
  | [], [], i, _ => by
    rw [List.drop_nil, List.drop_nil]
    trivial
  | v :: vs, (x, t) :: os, 0, h => h
  | v :: vs, (x, t) :: os, i + 1, h => OthV.drop i h.2
  | [], _ :: _, _, h => h.elim
  | _ :: _, [], _, h => h.elim
theorem Rel.pm {g : Ctx} {f : Nat} {xs : List Str} {z : Str} {os os' : Os} (R : Rel g f xs z os) (h : os.Perm os') : Rel g f xs z os' :=
  R.perm (fun p => h.mem_iff.symm) ((h.map _).nodup_iff.mp R.nd)
theorem BT.pm {m : Nat} {Tb : Nat → Talk} {f : Nat} {xs : List Str} {z : Str} {os os' : Os} {b : Blk} (h : BT m Tb f xs z os b) (p : os'.Perm os) : BT m Tb f xs z os' b := fun Sg hS g R => h Sg hS g (R.pm p)
theorem rest_step {k d : Nat} {u : V → V → V → V → V → V → V → Hp → VK → Prop} (T : Top K mg) (GB : FnG P w K mg base k (He.ga K "_law_body") p_l_body (S7 u)) (hk : 3 ≤ k) (hd : d = 0 ∨ u = spBody d) :
    FnG P w K mg base (k + 1) (He.ga K "_law_rest") p_l_rest (S5 (spRest d)) := by
  refine FnG.of5 T.d_l_rest sc_l_rest rfl fun cdv A outer s H a b c e g Q E hr h => ⟨_, (pss_cons (ps_if (pt_cmpR op_eq (pe_callB call_len_seq (by rfl) T.f_len PySem.boot_len (pa_cons (pv 3) pa_nil)) pe_int (nomark _)) (pss_one (ps_ret (pcall (ok_l_last T) (hr.mono (by omega)) T.g_l_last (pa_cons (pv 0) pa_nil)))) pss_nil)
    (pss_cons (ps_if (pt_cmpR op_eq (pv 4) pe_int (nomark _)) (pss_one (ps_ret (pe_op op_cat (pe_lc (own := [("_law_name", 5), ("_law_rest_here", 6)]) (g := gTup K 2 (gCons (gName 5) (gCons (gName 6) gNil))) (tt := tYes) rfl sc_l_rest.nd (pi_list (pv 3)) (blkOk_by (own := [("_law_name", 5), ("_law_rest_here", 6)]) (N := n_l_rest) (sc := defScope s_l_rest) (by decide +kernel)) (fun _ _ _ _ _ => (pg_tup (by rfl) (pgs_cons (pg_name (i := 5) sc_l_rest.nd rfl (Or.inl rfl)) (pgs_cons (pg_name (i := 6) sc_l_rest.nd rfl (Or.inl rfl)) pgs_nil)))) (fun _ _ _ _ _ => pts_nil) (fun _ _ _ _ _ => (pe_tup (pa_cons pe_str (pa_cons (pv 5) (pa_cons pe_int pa_nil)))))) (pe_lst (pa_cons (pe_tup (pa_cons pe_str (pa_cons pe_int pa_nil))) pa_nil))))) pss_nil)
    (pss_cons (ps_set (i := 7) sc_l_rest.nd rfl (Or.inl rfl) (pcall (ok_l_take T) (hr.mono (by omega)) T.g_l_take (pa_cons (pv 0) (pa_cons (pe_callB call_len_seq (by rfl) T.f_len PySem.boot_len (pa_cons (pv 3) pa_nil)) pa_nil))))
    (pss_cons (ps_asg (pe_ix ix_list (pv 3) (pv 7) (fun _ _ => rfl)) (pg_tup (by rfl) (pgs_cons (pg_name (i := 5) sc_l_rest.nd rfl (Or.inl rfl)) (pgs_cons (pg_name (i := 8) sc_l_rest.nd rfl (Or.inl rfl)) pgs_nil))))
    (pss_one (ps_ret (pcall (GB) (hr.mono (by omega)) T.g_l_body (pa_cons (pv 0) (pa_cons (pv 1) (pa_cons (pv 8) (pa_cons (pv 5) (pa_cons (pv 2) (pa_cons (pe_op op_cat (pe_slice sl_list (pv 3) po_none (po_some (pv 7))) (pe_slice sl_list (pv 3) (po_some (pe_op op_add (pv 7) pe_int)) po_none)) (pa_cons (pv 4) pa_nil)))))))))))))), ?_⟩
  obtain ⟨gd, n, f, z, q0, m, Tb, li, xs, lo, os, rfl, rfl, rfl, rfl, rfl, B, hx, ho, q⟩ := h
  obtain ⟨vs, h1, h2⟩ := id B.O
  have lv := h2.len
  have r39 := rB_0 d
  have r2 : 2 ≤ rC d := by
    have := bC_le d
    unfold rC
    split <;> omega
  refine ⟨_, rfl, lo, _, rfl, .inl (SqL.of h1), rfl, _, rfl, ite2 (fun c => ?_) (fun c => ?_)⟩
  · have c := int_dec c
    have e0 : os = [] := List.eq_nil_of_length_eq_zero (by omega)
    refine ⟨_, rfl, gd, n + rC d - 1, f, z, rfl, B.F.le (by omega), fun L b H1 k1 F1 B1 T1 => ?_⟩
    obtain ⟨bs, b1, b2, b3⟩ := B1
    refine q L b f H1 k1 (F1.le (by omega)) (Nat.le_refl _) ⟨bs, b1, b2, by omega⟩ fun Sg hS g R => ?_
    rw [e0] at R
    exact T1 _ _ _ R.noEnds
  have c := int_ndec (Bool.eq_false_iff.mpr c)
  refine ⟨_, rfl, rfl, _, rfl, ite2 (fun c2 => ?_) (fun c2 => ?_)⟩
  · refine ⟨_, rfl, lo, rfl, ⟨_, SqL.of h1⟩, fun D hD => ?_⟩
    refine lc_list (K := K) (a := lo) (xs := vs) (fun i H' => Same H H' ∧ ∃ acc, H' D = some (.lst acc) ∧ DrpV H' acc ((os.take i).map (·.1))) ⟨Same.new hD, [], upd_same, trivial⟩ (fun i H' _ h => SqL.of (h.1 _ _ h1)) ?_ ?_
    · rintro i v H' hi ⟨s1, acc, u1, u2⟩
      obtain ⟨y, ty, p, tv', g1, rfl, g2, g3⟩ := h2.get hi
      have li : i < os.length := (List.getElem?_eq_some_iff.mp g1).1
      refine ⟨p, _, rfl, SqT.of (s1 _ _ g2), rfl, _, _, rfl, _, _, rfl, rfl, rfl, ?_⟩
      refine ⟨_, rfl, le_line (by show 3 ≤ _; decide), fun z' hz => ?_⟩
      have u3 : upd H' z' (.tup [.str "drop", .str y, .int 0]) D = some (.lst acc) := (Same.new hz) _ _ u1
      have ta := Tu.at_ (o := .lst (acc ++ [.ref z'])) u3 (by intro xs e; cases e)
      have la := u2.len
      rw [List.length_map, List.length_take] at la
      refine ⟨acc, u3, lt_line (by omega), Same.put (s1.trans (Same.new hz)) hD, _, upd_same, ?_⟩
      have e : (os.take (i + 1)).map (·.1) = (os.take i).map (·.1) ++ [y] := by
        obtain ⟨hi', e⟩ := List.getElem?_eq_some_iff.mp g1
        rw [List.take_succ_eq_append_getElem hi', List.map_append, e]
        rfl
      rw [e]
      exact DrpV.snoc (ta _ _ upd_same) (u2.tu ((Tu.new hz).trans ta))
    rintro H1 ⟨s1, acc, u1, u2⟩
    rw [lv, List.take_length] at u2
    have la := u2.len
    rw [List.length_map] at la
    refine ⟨le_line (by show 2 ≤ _; decide), fun a1 ha1 => ⟨le_line (by show 1 ≤ _; decide), fun L1 hL1 => ?_⟩⟩
    have s3 := (Same.new (o := .tup [.str "done", .int 0]) ha1).trans (Same.new (o := .lst [.ref a1]) hL1)
    refine ⟨D, L1, _, _, rfl, rfl, s3 _ _ u1, upd_same, le_line (by show _ + 1 ≤ _; omega), fun L2 hL2 => ?_⟩
    have s4 := s3.trans (Same.new (o := .lst (acc ++ [.ref a1])) hL2)
    refine q L2 (dropsB (os.map (·.1)) .done) f _ (Kp.of (s1.trans s4)) ((B.F.same (s1.trans s4)).le (by omega)) (Nat.le_refl _) ⟨_, upd_same, DrpV.blk (b := .done) (us := [.ref a1]) ⟨a1, rfl, (Same.new hL2) _ _ ((Same.new hL1) _ _ upd_same)⟩ (u2.tu (Same.tu s4)), ?_⟩ fun Sg hS g R => ?_
    · rw [List.length_append, la]
      show _ + 1 ≤ _
      omega
    · refine drops_T (f := f) (xs := xs) (z := z) (ps := []) (b := .done) (fun g' R' => R'.noEnds) _ g ?_
      rw [List.append_nil]
      exact R
  have hd0 : d ≠ 0 := fun e => by
    rw [e] at c2
    exact absurd c2 (by decide)
  have hd := hd.resolve_left hd0
  subst hd
  have er : rC d = bC d + 2 := if_neg hd0
  have eB : rB d = 40 + 2 * d := if_neg hd0
  rw [eB] at q
  have lv' : ((vs.length : Nat) : Int) = (os.length : Int) := by rw [lv]
  refine ⟨_, rfl, _, rfl, lo, _, rfl, .inl (SqL.of h1), gd, n + bC d + 1, f, z, _, rfl, rfl, by omega, B.F.le (by omega), fun y H1 y0 y1 k1 F1 => ?_⟩
  obtain ⟨y, rfl⟩ := Int.eq_ofNat_of_zero_le y0
  have hy : y < os.length := by omega
  have B1 := B.kp k1 F1
  obtain ⟨ws, w1, w2⟩ := id B1.O
  have lw := w2.len
  obtain ⟨x, t, p, tv, g1, ep, g2, g3⟩ := w2.get (List.getElem?_eq_getElem (l := ws) (i := y) (by omega))
  have tk := B.oo _ (List.mem_of_getElem? g1)
  have hat : atI ws (y : Int) = some (.ref p) := atI_nat (by rw [List.getElem?_eq_getElem (show y < ws.length by omega), ep])
  refine ⟨_, rfl, _, rfl, lo, _, _, _, rfl, rfl, SqL.of w1, hat, p, _, rfl, SqT.of g2, rfl, _, _, rfl, _, _, rfl, rfl, ?_⟩
  refine ⟨_, rfl, _, rfl, _, rfl, _, rfl, _, rfl, ?_⟩
  refine ⟨_, rfl, _, rfl, _, rfl, lo, _, rfl, SqL.of w1, fun c1 hc1 => ?_⟩
  have s2 := Same.new (o := .lst (cutV ws none (some (y : Int)))) hc1
  refine ⟨_, rfl, _, rfl, _, _, rfl, rfl, _, rfl, lo, _, rfl, SqL.of (s2 _ _ w1), fun c3 hc3 => ?_⟩
  have e1 : cutV ws none (some (y : Int)) = ws.take y := cut_to (by omega)
  have e3 : cutV ws (some ((y : Int) + 1)) none = ws.drop (y + 1) := cut_from (i := y + 1) (by omega)
  have s3 := s2.trans (Same.new (o := .lst (cutV ws (some ((y : Int) + 1)) none)) hc3)
  have l1 := cutV_length ws none (some (y : Int))
  have l3 := cutV_length ws (some ((y : Int) + 1)) none
  refine ⟨c1, c3, _, _, rfl, rfl, (Same.new hc3) _ _ upd_same, upd_same, le_line (by show (cutV ws none (some (y : Int))).length + (cutV ws (some ((y : Int) + 1)) none).length ≤ _; omega), fun c4 hc4 => ?_⟩
  have s4 := s3.trans (Same.new (o := .lst (cutV ws none (some (y : Int)) ++ cutV ws (some ((y : Int) + 1)) none)) hc4)
  have hpm : os.Perm ((os.take y ++ os.drop (y + 1)) ++ [(x, t)]) := by
    have e5 : os = os.take y ++ (x, t) :: os.drop (y + 1) := by
      have q5 := List.getElem?_eq_some_iff.mp g1
      obtain ⟨hq, eq⟩ := q5
      rw [← eq, List.getElem_cons_drop, List.take_append_drop]
    have p1 : (os.take y ++ (x, t) :: os.drop (y + 1)).Perm ((x, t) :: (os.take y ++ os.drop (y + 1))) := List.perm_middle
    have p2 : ((x, t) :: (os.take y ++ os.drop (y + 1))).Perm ((os.take y ++ os.drop (y + 1)) ++ [(x, t)]) := List.perm_append_comm (l₁ := [(x, t)])
    exact (List.Perm.of_eq e5).trans (p1.trans p2)
  have hlen := hpm.length_eq
  rw [List.length_append] at hlen
  have B4 := (B1.same s4)
  have O4 : OthAt (upd (upd (upd H1 c1 (.lst (cutV ws none (some (y : Int))))) c3 (.lst (cutV ws (some ((y : Int) + 1)) none))) c4 (.lst (cutV ws none (some (y : Int)) ++ cutV ws (some ((y : Int) + 1)) none))) c4 (os.take y ++ os.drop (y + 1)) := by
    refine ⟨_, upd_same, ?_⟩
    rw [e1, e3]
    rw [e1, e3] at s4
    exact OthV.app ((w2.take y).tu (Same.tu s4)) ((w2.drop (y + 1)).tu (Same.tu s4))
  refine ⟨_, rfl, gd, n, f, z, q0, m, Tb, t, x, li, xs, c4, _, rfl, rfl, g3.tu (Same.tu s4), tk.1, tk.2, rfl, rfl, rfl, rfl, ⟨B4.F.le (by omega), B4.T, B4.ne, B4.m3, B4.I, O4, fun p hp => B.oo p (hpm.mem_iff.mpr (List.mem_append.mpr (.inl hp)))⟩, hx, (by have : [(x, t)].length = 1 := rfl; omega), fun L b f' H5 k5 F5 lf B5 T5 => ?_⟩
  exact q L b f' H5 (k1.trans ((Kp.of s4).trans k5)) F5 lf B5 (T5.pm hpm)
theorem next_step {k d : Nat} (T : Top K mg) (GB : FnG P w K mg base k (He.ga K "_law_body") p_l_body (S7 (spBody d))) (GR : FnG P w K mg base k (He.ga K "_law_rest") p_l_rest (S5 (spRest d))) (hk : 3 ≤ k) :
    FnG P w K mg base (k + 1) (He.ga K "_law_next") p_l_next (S7 (spNext d)) := by
  refine FnG.of7 T.d_l_next sc_l_next rfl fun cdv A outer s H a b tv ev c e g Q E hr h => ⟨_, (pss_cons (ps_if (PW.pt (pw_and (pt_cmpR op_gt (pe_callB call_len_seq (by rfl) T.f_len PySem.boot_len (pa_cons (pv 5) pa_nil)) pe_int (nomark _)) (pw_and1 (pt_cmpR op_eq (pcall (ok_l_take T) (hr.mono (by omega)) T.g_l_take (pa_cons (pv 0) (pa_cons pe_int pa_nil))) pe_int (nomark _))))) (pss_one (ps_ret (pcall (GR) (hr.mono (by omega)) T.g_l_rest (pa_cons (pv 0) (pa_cons (pv 1) (pa_cons (pv 4) (pa_cons (pe_op op_cat (pv 5) (pe_lst (pa_cons (pe_tup (pa_cons (pv 3) (pa_cons (pv 2) pa_nil))) pa_nil))) (pa_cons (pv 6) pa_nil)))))))) pss_nil)
    (pss_one (ps_ret (pcall (GB) (hr.mono (by omega)) T.g_l_body (pa_cons (pv 0) (pa_cons (pv 1) (pa_cons (pv 2) (pa_cons (pv 3) (pa_cons (pv 4) (pa_cons (pv 5) (pa_cons (pv 6) pa_nil))))))))))), ?_⟩
  obtain ⟨gd, n, f, z, q0, m, Tb, t, x, li, xs, lo, os, rfl, rfl, hT, tO, tD, rfl, rfl, rfl, rfl, B, hx, ho, q⟩ := h
  obtain ⟨vs, h1, h2⟩ := id B.O
  have lv := h2.len
  have en : n + nC d = n + bC d + 4 := by
    unfold nC
    omega
  have rl := rC_le d
  dsimp only [gName, tSeq]
  refine if_H (fun H1 => Kp gd.p H H1 ∧ FeedAt H1 gd (n + bC d + 3) f z) (fun H1 => Kp gd.p H H1 ∧ FeedAt H1 gd (n + bC d + 3) f z)
    (fun Q hy hn => ⟨_, rfl, lo, _, rfl, .inl (SqL.of h1), _, _, rfl, rfl, _, rfl, ite2 (fun c => ?_) (fun c => ?_)⟩) ?_ ?_
  · refine ⟨_, rfl, gd, n + bC d + 3, f, z, 4, rfl, rfl, by decide, B.F.le (by omega), fun y H2 y0 y1 k2 F2 => ?_⟩
    exact ⟨rfl, _, rfl, q_b (fun _ => hy _ ⟨k2, F2⟩) fun _ => hn _ ⟨k2, F2⟩⟩
  · exact hn _ ⟨Kp.refl _ _, B.F.le (by omega)⟩
  · rintro H1 ⟨k1, F1⟩
    have B1 := B.kp k1 F1
    obtain ⟨ws, w1, w2⟩ := id B1.O
    have lw := w2.len
    have T1 := hT.tu (B.F.tu k1)
    refine ⟨_, rfl, _, rfl, _, rfl, _, rfl, _, rfl, _, rfl, le_line (by show 2 ≤ _; decide), fun a1 ha1 => ⟨le_line (by show 1 ≤ _; decide), fun L1 hL1 => ?_⟩⟩
    have s3 := (Same.new (o := .tup [.str x, tv]) ha1).trans (Same.new (o := .lst [.ref a1]) hL1)
    refine ⟨lo, L1, _, _, rfl, rfl, s3 _ _ w1, upd_same, le_line (by show _ + 1 ≤ _; omega), fun L2 hL2 => ?_⟩
    have s4 := s3.trans (Same.new (o := .lst (ws ++ [.ref a1])) hL2)
    have B4 := B1.same s4
    refine ⟨_, rfl, gd, n, f, z, q0, m, Tb, li, xs, L2, os ++ [(x, t)], rfl, rfl, rfl, rfl, rfl, ⟨B4.F.le (by omega), B4.T, B4.ne, B4.m3, B4.I, ⟨_, upd_same, OthV.app (w2.tu (Same.tu s4)) ⟨⟨a1, tv, rfl, (Same.new hL2) _ _ ((Same.new hL1) _ _ upd_same), T1.tu (Same.tu s4)⟩, trivial⟩⟩, fun p hp => ?_⟩, hx, ?_, fun L b f' H5 k5 F5 lf B5 T5 => ?_⟩
    · rcases List.mem_append.mp hp with hp | hp
      · exact B.oo p hp
      · rw [List.mem_singleton.mp hp]
        exact ⟨tO, tD⟩
    · rw [List.length_append]
      show os.length + 1 + d ≤ 11
      omega
    · obtain ⟨us, b1, b2, b3⟩ := B5
      exact q L b f' H5 (k1.trans ((Kp.of s4).trans k5)) F5 lf ⟨us, b1, b2, Nat.le_trans b3 (rB_le d)⟩ T5
  · rintro H1 ⟨k1, F1⟩
    have B1 := B.kp k1 F1
    refine ⟨_, rfl, _, rfl, _, rfl, _, rfl, _, rfl, _, rfl, _, rfl, gd, n, f, z, q0, m, Tb, t, x, li, xs, lo, os, rfl, rfl, hT.tu (B.F.tu k1), tO, tD, rfl, rfl, rfl, rfl, B1.le (by omega), hx, ho, fun L b f' H5 k5 F5 lf B5 T5 => ?_⟩
    exact q L b f' H5 (k1.trans k5) F5 lf B5 T5
end G

/-! part W12 -/
set_option Elab.async false
set_option linter.all false
set_option maxRecDepth 100000
set_option maxHeartbeats 4000000
/-! Saying. -/
namespace G
open PySem PySem.Spec PyProof.Rows L2
variable {P : Program} {w : World} {K : PySem.W.Frag} {mg : Str → Option Value} {base : Heap}
theorem Bp.put {H : Hp} {gd : Fd} {n f : Nat} {z : Str} {q : Addr} {m : Nat} {Tb : Nat → Talk} {li lo L : Addr} {xs : List Str} {os : Os} {us vs : List V} (B : Bp H gd n f z q m Tb li xs lo os) (hL : H L = some (.lst us)) (h1 : gd.l ≠ L) (h2 : li ≠ L) (h3 : lo ≠ L) :
    Bp (upd H L (.lst vs)) gd n f z q m Tb li xs lo os := by
  have tu : Tu H (upd H L (.lst vs)) := Tu.at_ hL (by intro xs e; cases e)
  obtain ⟨kvs, hp⟩ := B.F.d
  have np : gd.p ≠ L := ne_of hp hL (by intro e; cases e)
  have nq : q ≠ L := by
    exact B.T.ne hL
  refine ⟨B.F.put ⟨np, h1⟩, B.T.tu tu fun o e => by rw [upd_ne nq]; exact e, B.ne, B.m3, ?_, ?_, B.oo⟩
  · show upd H L _ li = _
    rw [upd_ne h2]
    exact B.I
  · obtain ⟨ws, w1, w2⟩ := B.O
    exact ⟨ws, by rw [upd_ne h3]; exact w1, w2.tu tu⟩
theorem find_of_get {l : Str} {k : Kd} {t : Talk} : ∀ {r : Rows} {i : Nat}, r.labs.Nodup → r.get i = some (l, k, t) → r.find l = some (k, t)
  | .nil, i, _, h => by cases i <;> cases h
  | .cons l1 k1 t1 r, 0, _, h => by
    cases h
    exact if_pos rfl
  | .cons l1 k1 t1 r, i + 1, nd, h => by
    have h : r.get i = some (l, k, t) := h
    have nd : (l1 :: r.labs).Nodup := nd
    obtain ⟨n1, n2⟩ := List.nodup_cons.mp nd
    have f := find_of_get n2 h
    have ml : ∀ (r : Rows) (i : Nat), r.get i = some (l, k, t) → l ∈ r.labs := fun r => by
      induction r using Rows.rec (motive_1 := fun _ => True) with
      | nil => intro i h; cases i <;> cases h
      | cons l2 k2 t2 r2 _ ih =>
        intro i h
        cases i with
        | zero => cases h; exact List.mem_cons_self
        | succ i => exact List.mem_cons_of_mem _ (ih i h)
      | fin => trivial
      | ref _ _ => trivial
      | node _ _ _ => trivial
    have ne : l1 ≠ l := fun e => n1 (by rw [e]; exact ml r i h)
    exact (if_neg ne).trans f
theorem eqv_int (k : Kd) : PyData.eqv (pdK k) (.str "int") = decide (k = .int) := by
  cases k with
  | non => simp [pdK, PyData.eqv]
  | int => simp [pdK, PyData.eqv]
  | bool => simp only [pdK, PyData.eqv]; decide +kernel
  | ref d n => simp [pdK, PyData.eqv]
theorem eqv_bool (k : Kd) : PyData.eqv (pdK k) (.str "bool") = decide (k = .bool) := by
  cases k with
  | non => simp [pdK, PyData.eqv]
  | int => simp only [pdK, PyData.eqv]; decide +kernel
  | bool => simp [pdK, PyData.eqv]
  | ref d n => simp [pdK, PyData.eqv]
theorem shaped_k (k : Kd) : SeqAt.shaped (pdK k) = true := by
  unfold SeqAt.shaped
  rw [lay_k]
  have := dep_k k
  simp only [Bool.true_and, decide_eq_true_eq]
  omega
theorem shaped_s {x : Str} (h : PyData.strOk x = true) : SeqAt.shaped (.str x) = true := by
  unfold SeqAt.shaped
  simp [PyData.canLay0, PyData.depth, h]
def spSay (d : Nat) : V → V → V → V → V → V → V → Hp → VK → Prop := fun a b hv ev c e g H Q => ∃ (gd : Fd) (n f : Nat) (z : Str) (q : Addr) (m : Nat) (Tb : Nat → Talk) (t : Talk) (r : Rows) (x : Str) (li : Addr) (xs : List Str) (lo : Addr) (os : Os),
  a = .ref gd.p ∧ b = .ref q ∧ TalkAt H (.node false r) hv ∧ (Talk.node false r).Ok m ∧ (Talk.node false r).dep ≤ 2 ∧ G.head Tb t = .node false r ∧ ev = .str x ∧ c = .ref li ∧ e = .ref lo ∧ g = .int (d + 1 : Nat) ∧ Bp H gd (n + nC d + 21) f z q m Tb li xs lo os ∧
  xs.length + (d + 1) ≤ 10 ∧ os.length + (d + 1) ≤ 10 ∧ Res H Q gd n f z m Tb xs (os ++ [(x, t)]) (42 + 2 * d)
/-- what is known behind the payload -/
structure SayMid (H H' : Hp) (gd : Fd) (n f : Nat) (z : Str) (q : Addr) (m : Nat) (Tb : Nat → Talk) (li : Addr) (xs : List Str) (lo : Addr) (os : Os) (L : Addr) (x l : Str) (t t' : Talk) (pv : V) : Prop where
  ex : ∃ (f2 : Nat) (os2 : Os) (ss : List V) (pr : Blk → Blk) (e : Option Exp), Kp gd.p H H' ∧ Bp H' gd n f2 z q m Tb li xs lo os2 ∧ os2.length ≤ os.length ∧ f ≤ f2 ∧ lo ≠ L ∧ H' L = some (.lst ss) ∧ ss.length ≤ 1 ∧ OptAt H' e pv ∧
    (∀ H'' b us, Tu H' H'' → BlkAt H'' b us → BlkAt H'' (pr b) (ss ++ us)) ∧
    ∀ Sg, SgOk m Sg → ∀ b, (∀ g, Rel g f2 xs z (os2 ++ [(x, t')]) → b.T Tb Sg g) → ∀ g, Rel g f xs z (os ++ [(x, t)]) → (pr (.say x l e b)).T Tb Sg g
theorem say_step {k d : Nat} (T : Top K mg) (GN : FnG P w K mg base k (He.ga K "_law_next") p_l_next (S7 (spNext d))) (hk : 5 ≤ k) : FnG P w K mg base (k + 1) (He.ga K "_law_say") p_l_say (S7 (spSay d)) := by
  refine FnG.of7 T.d_l_say sc_l_say rfl fun cdv A outer s H a b hv ev c e g Q E hr h => ⟨_, (pss_cons (ps_asg (pe_ix ix_tup (pe_ix ix_tup (pv 2) pe_int (fun _ _ => rfl)) (pcall (ok_l_take T) (hr.mono (by omega)) T.g_l_take (pa_cons (pv 0) (pa_cons (pe_callB call_len_seq (by rfl) T.f_len PySem.boot_len (pa_cons (pe_ix ix_tup (pv 2) pe_int (fun _ _ => rfl)) pa_nil)) pa_nil))) (fun _ _ => rfl)) (pg_tup (by rfl) (pgs_cons (pg_name (i := 7) sc_l_say.nd rfl (Or.inl rfl)) (pgs_cons (pg_name (i := 8) sc_l_say.nd rfl (Or.inr rfl)) (pgs_cons (pg_name (i := 9) sc_l_say.nd rfl (Or.inl rfl)) pgs_nil)))))
    (pss_cons (ps_set (i := 10) sc_l_say.nd rfl (Or.inl rfl) (pe_lst pa_nil))
    (pss_cons (ps_set (i := 11) sc_l_say.nd rfl (Or.inl rfl) pe_non)
    (pss_cons (ps_if (pt_cmpR (op_eqD (by exact hr.units)) (pv 8) pe_str (nomark _)) (pss_one (ps_set (i := 11) sc_l_say.nd rfl (Or.inl rfl) (pcall (ok_l_number T) (hr.mono (by omega)) T.g_l_number (pa_cons (pv 0) (pa_cons (pv 4) pa_nil))))) (pss_one (ps_if (pt_cmpR (op_eqD (by exact hr.units)) (pv 8) pe_str (nomark _)) (pss_one (ps_set (i := 11) sc_l_say.nd rfl (Or.inl rfl) (pcall (ok_l_test T) (hr.mono (by omega)) T.g_l_test (pa_cons (pv 0) (pa_cons (pv 4) pa_nil))))) (pss_one (ps_if (pt_cmpR op_notN (pv 8) pe_non (nomark _)) (pss_cons (ps_setLc (i := 12) (own := [("_law_name", 13), ("_law_talk_here", 14)]) (g := gTup K 2 (gCons (gName 13) (gCons (gName 14) gNil))) rfl sc_l_say.nd rfl rfl (sw_true rfl rfl rfl (by decide +kernel)) (pi_list (pv 5)) (blkOk_by (own := [("_law_name", 13), ("_law_talk_here", 14)]) (N := n_l_say) (sc := defScope s_l_say) (by decide +kernel)) (fun _ _ _ _ _ => (pg_tup (by rfl) (pgs_cons (pg_name (i := 13) sc_l_say.nd rfl (Or.inl rfl)) (pgs_cons (pg_name (i := 14) sc_l_say.nd rfl (Or.inl rfl)) pgs_nil)))) (fun _ _ _ _ _ => pts_one (pt_cmpR (op_eqDK K (by exact hr.units)) (pv 14) (pv 8) (nomark _))) (fun _ _ _ _ _ => (pv 13)))
    (pss_cons (ps_if (PW.pt (pw_and (pt_cmpR op_gt (pe_callB call_len_seq (by rfl) T.f_len PySem.boot_len (pa_cons (pv 12) pa_nil)) pe_int (nomark _)) (pw_and1 (pt_cmpR op_gt (pcall (ok_l_take T) (hr.mono (by omega)) T.g_l_take (pa_cons (pv 0) (pa_cons pe_int pa_nil))) pe_int (nomark _))))) (pss_cons (ps_set (i := 13) sc_l_say.nd rfl (Or.inl rfl) (pe_ix ix_list (pv 12) pe_int (fun _ _ => rfl)))
    (pss_one (ps_set (i := 5) sc_l_say.nd rfl (Or.inl rfl) (pcall (ok_l_without T) (hr.mono (by omega)) T.g_l_without (pa_cons (pv 5) (pa_cons (pv 13) pa_nil)))))) (pss_cons (ps_asg (pcall (ok_l_open T) (hr.mono (by omega)) T.g_l_open (pa_cons (pv 0) (pa_cons (pv 4) (pa_cons (pv 8) (pa_cons (pv 5) pa_nil))))) (pg_unl (by rfl) (pgs_cons (pg_name (i := 13) sc_l_say.nd rfl (Or.inl rfl)) (pgs_cons (pg_name (i := 15) sc_l_say.nd rfl (Or.inl rfl)) (pgs_cons (pg_name (i := 5) sc_l_say.nd rfl (Or.inl rfl)) pgs_nil)))))
    (pss_one (ps_expr (pe_bm PySem.F.plainAttrs_list PySem.F.slot_list_append PySem.F.type_list_append mt_append (pv 10) (pa_cons (pv 15) pa_nil))))))
    (pss_one (ps_set (i := 11) sc_l_say.nd rfl (Or.inl rfl) (pe_tup (pa_cons pe_str (pa_cons (pv 13) pa_nil))))))) pss_nil)))))
    (pss_cons (ps_expr (pe_bm PySem.F.plainAttrs_list PySem.F.slot_list_append PySem.F.type_list_append mt_append (pv 10) (pa_cons (pe_tup (pa_cons pe_str (pa_cons (pv 3) (pa_cons (pv 7) (pa_cons (pv 11) (pa_cons pe_int pa_nil)))))) pa_nil)))
    (pss_one (ps_ret (pe_op op_cat (pv 10) (pcall (GN) (hr.mono (by omega)) T.g_l_next (pa_cons (pv 0) (pa_cons (pv 1) (pa_cons (pv 9) (pa_cons (pv 3) (pa_cons (pv 4) (pa_cons (pv 5) (pa_cons (pe_op op_sub (pv 6) pe_int) pa_nil)))))))))))))))), ?_⟩
  obtain ⟨gd, n, f, z, q0, m, Tb, t, r, x, li, xs, lo, os, rfl, rfl, ⟨p, p2, vs, rfl, hp, hp2, hR⟩, hO, hD, hh, rfl, rfl, rfl, rfl, B, hx, ho, q⟩ := h
  have lv := hR.len
  have l3 := hO.1
  have l0 := hO.2.1
  have hD : r.dep + 1 ≤ 2 := hD
  -- label, kind, rest = head[1][take(feed, len(head[1]))]
  refine ⟨_, rfl, p, _, _, _, rfl, rfl, SqT.of hp, atI_nat (j := 1) rfl, _, rfl, _, rfl, p, _, _, _, rfl, rfl, SqT.of hp, atI_nat (j := 1) rfl, p2, _, rfl, .inr (SqT.of hp2), gd, n + nC d + 20, f, z, _, rfl, rfl, by omega, B.F, fun y H1 y0 y1 k1 F1 => ?_⟩
  obtain ⟨y, rfl⟩ := Int.eq_ofNat_of_zero_le y0
  have B1 := B.kp k1 F1
  have t1 := B.F.tu k1
  obtain ⟨l, kd, t', pr, kv, tv, g1, ep, g2, g3, g4, g5⟩ := hR.nth (List.getElem?_eq_getElem (l := vs) (i := y) (by omega))
  obtain ⟨ok1, ok2⟩ := subRows hO.2.2.2 g1
  have hfind := find_of_get (by rw [hO.2.2.1]; exact labs_nd l3) g1
  refine ⟨p2, _, _, _, rfl, rfl, SqT.of (t1 _ _ hp2), atI_nat (j := y) (by rw [List.getElem?_eq_getElem (show y < vs.length by omega), ep]), pr, _, rfl, SqT.of (t1 _ _ g2), rfl, _, _, rfl, _, _, rfl, _, _, rfl, rfl, ?_⟩
  refine ⟨Nat.zero_le _, fun L hL => ?_⟩
  have s2 := Same.new (o := .lst []) hL
  have B2 := B1.same s2
  have nL := F1.not hL
  have nli : li ≠ L := ne_of_none B1.I hL
  have nlo : lo ≠ L := by
    obtain ⟨_, hw, _⟩ := B1.O
    exact ne_of_none hw hL
  have hL0 : H L = none := k1.free nL.1.symm hL
  have k2 : Kp gd.p H (upd H1 L (.lst [])) := k1.trans (Kp.of s2)
  have K2 : KdAt (upd H1 L (.lst [])) kd kv := g3.tu (t1.trans (Same.tu s2))
  have T2 : TalkAt (upd H1 L (.lst [])) t' tv := g4.tu (t1.trans (Same.tu s2))
  have hd1 : ((d + 1 : Nat) : Int) - 1 = (d : Int) := by omega
  dsimp only [gName, tSeq, tAsg, tC]
  refine if_k (fun σ' H' => ∃ (lo2 : Addr) (pv : V) (v12 v13 v14 v15 : Option V), σ' = [some (.ref gd.p), some (.ref q0), some (.ref p), some (.str x), some (.ref li), some (.ref lo2), some (.int (d + 1 : Nat)), some (.str l), some kv, some tv, some (.ref L), some pv, v12, v13, v14, v15] ∧
    SayMid H H' gd (n + nC d) f z q0 m Tb li xs lo2 os L x l t t' pv) ?_ fun key => ?_
  · rintro σ' H' ⟨lo2, pv, v12, v13, v14, v15, rfl, f2, os2, ss, pr, e, k3, B3, lo3, lf, nlo2, hss, ls, ha, hb, hT⟩
    refine ⟨_, rfl, .inl ⟨rfl, _, SqL.of hss⟩, _, rfl, _, rfl, _, rfl, le_line (by show 5 ≤ _; decide), fun st hst => ?_⟩
    have s4 := Same.new (o := .tup [.str "say", .str x, .str l, pv, .int 0]) hst
    refine ⟨L, _, _, rfl, rfl, s4 _ _ hss, lt_line (by omega), ?_⟩
    have B4 := (B3.same s4).put (vs := ss ++ [.ref st]) (s4 _ _ hss) nL.2 nli nlo2
    have t4 : Tu H' (upd (upd H' st (.tup [.str "say", .str x, .str l, pv, .int 0])) L (.lst (ss ++ [.ref st]))) := (Same.tu s4).trans (Tu.at_ (s4 _ _ hss) (by intro xs e; cases e))
    have k4 : Kp gd.p H (upd (upd H' st (.tup [.str "say", .str x, .str l, pv, .int 0])) L (.lst (ss ++ [.ref st]))) := (k3.trans (Kp.of s4)).put hL0
    have hst4 : (upd (upd H' st (.tup [.str "say", .str x, .str l, pv, .int 0])) L (.lst (ss ++ [.ref st]))) st = some (.tup [.str "say", .str x, .str l, pv, .int 0]) := by
      rw [upd_ne (ne_of_none hss hst).symm]
      exact upd_same
    refine ⟨_, rfl, _, rfl, _, rfl, _, rfl, _, rfl, _, rfl, _, rfl, _, rfl, _, _, rfl, rfl, gd, n, f2, z, q0, m, Tb, t', x, li, xs, lo2, os2, rfl, rfl, (g4.tu (B.F.tu k3)).tu t4, ok2, by omega, rfl, rfl, rfl, congrArg V.int hd1, B4, by omega, by omega, fun L5 b f5 H5 k5 F5 lf5 B5 T5 => ?_⟩
    obtain ⟨bs, b1, b2, b3⟩ := B5
    have t5 := B4.F.tu k5
    have e5 : H5 L = some (.lst (ss ++ [.ref st])) := B4.F.lst k5 upd_same
    refine ⟨L, L5, _, _, rfl, rfl, e5, b1, le_line (by rw [List.length_append]; show ss.length + 1 + _ ≤ _; omega), fun L6 hL6 => ?_⟩
    have t6 : Tu H5 (upd H5 L6 (.lst (ss ++ [.ref st] ++ bs))) := Tu.new hL6
    refine q L6 (pr (.say x l e b)) f5 _ (k4.trans (k5.trans (Kp.new hL6))) (F5.new hL6) (Nat.le_trans lf lf5) ⟨_, upd_same, ?_, ?_⟩ fun Sg hS g R => hT Sg hS b (fun g' R' => T5 Sg hS g' R') g R
    · refine Eq.subst (motive := fun l => BlkAt _ _ l) (List.append_assoc ss [V.ref st] bs).symm ?_
      exact hb _ _ _ (t4.trans (t5.trans t6)) ⟨st, pv, bs, rfl, t6 _ _ (t5 _ _ hst4), ha.tu (t4.trans (t5.trans t6)), b2.tu t6⟩
    · rw [List.length_append, List.length_append]
      show ss.length + 1 + _ ≤ _
      omega
  · -- the payload
    have base0 : ∀ {H' : Hp} {f2 : Nat} {e : Option Exp} {pv : V}, Kp gd.p (upd H1 L (.lst [])) H' → FeedAt H' gd (n + nC d) f2 z → f ≤ f2 → OptAt H' e pv → (∀ g, Rel g f xs z (os ++ [(x, t)]) → PayT g x e kd.ty g) →
        SayMid H H' gd (n + nC d) f z q0 m Tb li xs lo os L x l t t' pv := fun {H' f2 e pv} k3 F3 lf ha hp => by
      refine ⟨f2, os, [], fun b => b, e, k2.trans k3, B2.kp k3 F3, Nat.le_refl _, lf, nlo, k3 _ _ nL.1.symm upd_same, Nat.zero_le _, ha, fun H'' b us _ h => h, fun Sg hS b hb g R => ?_⟩
      have gx : g x = some (.en t) := R.mem (by simp)
      exact ⟨t, r, kd, t', g, gx, hh, hfind, hp g R, hb _ ((R.re (t' := t')).le lf)⟩
    have eI := eqv_int kd
    have eB := eqv_bool kd
    refine ⟨_, rfl, _, .str "int", K2.dp, .str _, shaped_k kd, shaped_s (by decide +kernel), _, rfl, ?_⟩
    rw [eI]
    refine ite2 (fun c => ?_) (fun c => ?_)
    · have c : kd = .int := of_decide_eq_true c
      refine ⟨_, rfl, _, rfl, gd, n + nC d + 16, f, z, li, xs, rfl, rfl, B2.F, B2.I, fun v e H3 k3 F3 E3 N3 D3 => ?_⟩
      refine key _ _ ⟨lo, v, none, none, none, none, rfl, base0 (e := some e) k3 (F3.le (by omega)) (Nat.le_refl _) E3 fun g R => ?_⟩
      rw [c]
      refine ⟨fun e2 => ?_, N3.use R, by omega, rfl⟩
      have h1 := N3.use R
      rw [e2] at h1
      have h2 : g x = some (.en t) := R.mem (by simp)
      rw [show g x = some .int from h1] at h2
      cases h2
    refine ⟨_, rfl, _, .str "bool", K2.dp, .str _, shaped_k kd, shaped_s (by decide +kernel), _, rfl, ?_⟩
    rw [eB]
    refine ite2 (fun c2 => ?_) (fun c2 => ?_)
    · have c2 : kd = .bool := of_decide_eq_true c2
      refine ⟨_, rfl, _, rfl, gd, n + nC d + 9, f, z, li, xs, rfl, rfl, B2.F, B2.I, fun v e H3 k3 F3 E3 N3 D3 => ?_⟩
      refine key _ _ ⟨lo, v, none, none, none, none, rfl, base0 (e := some e) k3 (F3.le (by omega)) (Nat.le_refl _) E3 fun g R => ?_⟩
      rw [c2]
      refine ⟨fun e2 => ?_, N3.use R, D3, rfl⟩
      have h1 := N3.use R
      rw [e2] at h1
      have h2 : g x = some (.en t) := R.mem (by simp)
      rw [show g x = some .bool from h1] at h2
      cases h2
    have c : kd ≠ .int := of_decide_eq_false (Bool.eq_false_iff.mpr c)
    have c2 : kd ≠ .bool := of_decide_eq_false (Bool.eq_false_iff.mpr c2)
    refine ⟨_, rfl, rfl, _, rfl, ite2 (fun c3 => ?yes) (fun c3 => ?no)⟩
    case no =>
      have ek : kd = .non := by
        cases kd with
        | non => rfl
        | int => exact absurd rfl c
        | bool => exact absurd rfl c2
        | ref d' k' =>
          obtain ⟨p', e', _⟩ := K2
          rw [e'] at c3
          exact absurd (by simp) c3
      refine key _ _ ⟨lo, .non, none, none, none, none, rfl, base0 (e := none) (Kp.refl _ _) (B2.F.le (by omega)) (Nat.le_refl _) rfl fun g R => ?_⟩
      rw [ek]
      rfl
    case yes =>
    obtain ⟨dd, kk, rfl⟩ : ∃ dd kk, kd = .ref dd kk := by
      cases kd with
      | non =>
        have e' : kv = .non := K2
        rw [e'] at c3
        exact absurd c3 (by decide)
      | int => exact absurd rfl c
      | bool => exact absurd rfl c2
      | ref d' k' => exact ⟨d', k', rfl⟩
    have hkm : kk < m := ok1
    -- which ends of that talk are at hand
    obtain ⟨ws, w1, w2⟩ := id B2.O
    have lw := w2.len
    refine ⟨_, rfl, lo, rfl, ⟨_, SqL.of w1⟩, fun D hD => ?_⟩
    refine lc_list (K := K) (a := lo) (xs := ws) (fun i H' => Same (upd H1 L (.lst [])) H' ∧ IntsAt H' D (spares dd kk (os.take i))) ⟨Same.new hD, upd_same⟩ (fun i H' _ h => SqL.of (h.1 _ _ w1)) ?_ ?_
    · rintro i v H' hi ⟨s3, I3⟩
      obtain ⟨y', ty, py, tyv, a1, rfl, a2, a3⟩ := w2.get hi
      have hk' := B.oo _ (List.mem_of_getElem? a1)
      refine ⟨py, _, rfl, SqT.of (s3 _ _ a2), rfl, _, _, rfl, _, _, rfl, rfl, rfl, ?_⟩
      refine ⟨_, rfl, _, rfl, _, _, (a3.tu (Same.tu s3)).dp, (KdAt.tu (Same.tu s3) K2).dp, shaped_t hk'.1 hk'.2, shaped_k _, _, rfl, ?_⟩
      have eR : PyData.eqv (pdT ty) (pdK (.ref dd kk)) = isRef dd kk ty := eqv_ref (t := ty) (d := dd) (n := kk) hk'.1 B.m3 (by have := B.m3; omega)
      rw [eR]
      refine ite2 (fun c4 => ?_) (fun c4 => ?_)
      · refine ⟨_, rfl, _, I3, ?_, Same.put s3 hD, ?_⟩
        · rw [List.length_map]
          have h5 := spares_le dd kk (os.take i)
          rw [List.length_take] at h5
          exact lt_line (by omega)
        · unfold IntsAt spares
          rw [upd_same, filter_take a1, if_pos c4]
          simp [spares]
      · refine ⟨s3, ?_⟩
        unfold IntsAt spares
        rw [filter_take a1, if_neg c4, List.append_nil]
        exact I3
    rintro H3 ⟨s3, I3⟩
    rw [lw, List.take_length] at I3
    have B3 := B2.same s3
    have K3 : RefAt H3 dd kk kv := RefAt.tu (Same.tu s3) K2
    dsimp only [gName, tSeq, tAsg, tC]
    refine if_H (fun H4 => Kp gd.p H3 H4 ∧ FeedAt H4 gd (n + nC d + 19) f z ∧ 0 < (spares dd kk os).length) (fun H4 => Kp gd.p H3 H4 ∧ FeedAt H4 gd (n + nC d + 19) f z)
      (fun Q hy hn => ⟨_, rfl, D, _, rfl, .inl (SqL.of I3), _, _, rfl, rfl, _, rfl, ite2 (fun c => ?_) (fun c => ?_)⟩) ?_ ?_
    · have c := of_decide_eq_true c
      rw [List.length_map] at c
      refine ⟨_, rfl, gd, n + nC d + 19, f, z, 3, rfl, rfl, by decide, B3.F, fun y H4 y0 y1 k4 F4 => ?_⟩
      exact ⟨_, _, rfl, rfl, _, rfl, q_b (fun _ => hy _ ⟨k4, F4, by omega⟩) fun _ => hn _ ⟨k4, F4⟩⟩
    · exact hn _ ⟨Kp.refl _ _, B3.F.le (by omega)⟩
    · rintro H4 ⟨k4, F4, h0⟩
      have B4 := B3.kp k4 F4
      have I4 := B3.F.ints k4 I3
      obtain ⟨y, hy, ey⟩ := head_of h0
      have my := mem_spares hy
      refine ⟨_, rfl, D, _, _, _, rfl, rfl, SqL.of I4, ey, ?_⟩
      refine ⟨_, rfl, _, rfl, lo, os, y, rfl, rfl, B4.O, by omega, fun lo2 H5 s5 n5 O5 => ?_⟩
      refine ⟨_, rfl, le_line (by show 2 ≤ _; decide), fun a1 ha1 => ?_⟩
      have k24 : Kp gd.p (upd H1 L (.lst [])) H4 := (Kp.of s3).trans k4
      have eL4 : H4 L = some (.lst []) := k24 _ _ nL.1.symm upd_same
      have s6 := s5.trans (Same.new (o := .tup [.str "var", .str y]) ha1)
      have nlo2 : lo2 ≠ L := fun e => by
        rw [e, eL4] at n5
        cases n5
      refine key _ _ ⟨lo2, .ref a1, some (.ref D), some (.str y), none, none, rfl, f, rmv y os, [], fun b => b, some (.var y), k2.trans (k24.trans (Kp.of s6)), ⟨(F4.same s6).le (by omega), B4.T.same s6, B4.ne, B4.m3, s6 _ _ B4.I, O5.same (Same.new ha1), B4.oo.rmv⟩, rmv_len y os, Nat.le_refl _, nlo2, s6 _ _ eL4, Nat.zero_le _, ⟨a1, rfl, upd_same⟩, fun H'' b us _ h => h, fun Sg hS b hb g R => ?_⟩
      have gx : g x = some (.en t) := R.mem (by simp)
      have nd := R.nd
      rw [List.map_append] at nd
      have nyx : y ≠ x := (List.nodup_append.mp nd).2.2 y (List.mem_map.mpr ⟨_, my, rfl⟩) x (by simp)
      have R2 := R.delL my
      exact ⟨t, r, .ref dd kk, t', g.del y, gx, hh, hfind, ⟨fun e => nyx (by cases e; rfl), y, rfl, R.mem (List.mem_append.mpr (.inl my)), rfl⟩, hb _ (R2.re (t' := t'))⟩
    · rintro H4 ⟨k4, F4⟩
      have B4 := B3.kp k4 F4
      have k24 : Kp gd.p (upd H1 L (.lst [])) H4 := (Kp.of s3).trans k4
      have eL4 : H4 L = some (.lst []) := k24 _ _ nL.1.symm upd_same
      refine ⟨_, rfl, _, rfl, _, rfl, _, rfl, gd, n + nC d + 1, f, z, li, xs, dd, kk, lo, os, m, rfl, rfl, RefAt.tu (B3.F.tu k4) K3, rfl, F4, B4.I, B4.O, B4.oo, hkm, B4.m3, by omega, fun L5 lo2 st q5 as es A os2 H5 k5 F5 lf5 e5 e6 e7 A5 O5 oo5 lo5 nlo5 OT => ?_⟩
      refine ⟨L5, _, rfl, SqL.of e5, rfl, _, _, rfl, _, _, rfl, _, _, rfl, rfl, ?_⟩
      have eL5 : H5 L = some (.lst []) := B4.F.lst k5 eL4
      refine ⟨_, rfl, .inl ⟨rfl, _, SqL.of eL5⟩, _, rfl, L, _, _, rfl, rfl, eL5, lt_line (by show 0 < _; decide), ?_⟩
      have nlo2 : lo2 ≠ L := by
        rcases nlo5 with e | e
        · rw [e]
          exact nlo
        · intro e2
          rw [e2, eL4] at e
          cases e
      have B5 : Bp H5 gd (n + nC d + 1) (f + 1) z q0 m Tb li xs lo2 os2 := ⟨F5, B4.T.kp B4.F k5 B4.ne, B4.ne, B4.m3, B4.F.ints k5 B4.I, O5, oo5⟩
      have B6 := B5.put (vs := [] ++ [.ref st]) eL5 nL.2 nli nlo2
      have t6 : Tu H5 (upd H5 L (.lst ([] ++ [.ref st]))) := Tu.at_ eL5 (by intro xs e; cases e)
      refine ⟨_, rfl, le_line (by show 2 ≤ _; decide), fun a1 ha1 => ?_⟩
      have s7 := Same.new (o := .tup [.str "var", .str (xn (f + 1))]) ha1
      refine key _ _ ⟨lo2, .ref a1, some (.ref D), some (.str (xn (f + 1))), none, some (.ref st), rfl, f + 1, os2, [.ref st], fun b => .open_ (xn (f + 1)) A es b, some (.var (xn (f + 1))), ((k2.trans (k24.trans k5)).put hL0).trans (Kp.of s7), (B6.same s7).le (by omega), lo5, Nat.le_succ f, nlo2, s7 _ _ upd_same, Nat.le_refl 1, ⟨a1, rfl, upd_same⟩, fun H'' b us tt h => ?_, fun Sg hS b hb g R => ?_⟩
      · have t7 := (t6.trans (Same.tu s7)).trans tt
        exact ⟨st, q5, as, us, rfl, t7 _ _ e6, t7 _ _ e7, A5.tu t7, h⟩
      · refine OT.use lf5 hS (rs := [(x, t)]) (fun g' R' => ?_) g R
        have gx : g' x = some (.en t) := R'.mem (by simp)
        have gn : g' (xn (f + 1)) = some (.en (.ref dd kk)) := R'.mem (by simp)
        have nd := R'.nd
        rw [List.map_append] at nd
        have nnx : x ≠ xn (f + 1) := (List.nodup_append.mp nd).2.2 x (by simp) _ (by simp)
        have R2 := R'.del (x := xn (f + 1)) (t := .ref dd kk) (by simp)
        have e8 : rmv (xn (f + 1)) (os2 ++ [(x, t)] ++ [(xn (f + 1), Talk.ref dd kk)]) = os2 ++ [(x, t)] := by
          unfold rmv
          rw [List.filter_append]
          have e9 : List.filter (fun p : Str × Talk => !decide (p.1 = xn (f + 1))) [(xn (f + 1), Talk.ref dd kk)] = [] := by simp
          rw [e9, List.append_nil]
          exact rmv_not fun u hu => (List.nodup_append.mp nd).2.2 _ (List.mem_map.mpr ⟨_, hu, rfl⟩) (xn (f + 1)) (by simp) rfl
        rw [e8] at R2
        exact ⟨t, r, .ref dd kk, t', g'.del (xn (f + 1)), gx, hh, hfind, ⟨fun e => nnx (by cases e; rfl), _, rfl, gn, rfl⟩, hb _ (R2.re (t' := t'))⟩
end G

/-! part W13 -/
set_option Elab.async false
set_option linter.all false
set_option maxRecDepth 100000
set_option maxHeartbeats 4000000
/-! Hearing. -/
namespace G
open PySem PySem.Spec PyProof.Rows L2
variable {P : Program} {w : World} {K : PySem.W.Frag} {mg : Str → Option Value} {base : Heap}
def Brs.snoc (l : Str) (x : Option Str) (b : Blk) : Brs → Brs
  | .nil => .cons l x b .nil
  | .cons l1 x1 b1 r => .cons l1 x1 b1 (r.snoc l x b)
theorem BrsAt.snoc {H : Hp} {l : Str} {x : Option Str} {b : Blk} {p q : Addr} {us : List V} (h1 : H p = some (.tup [.str l, optS x, .ref q])) (h2 : H q = some (.tup us)) (h3 : BlkAt H b us) : ∀ {r : Brs} {vs : List V}, BrsAt H r vs → BrsAt H (r.snoc l x b) (vs ++ [.ref p])
  | .nil, _, e => by
    have e : _ = [] := e
    rw [e]
    exact ⟨p, q, us, [], rfl, h1, h2, h3, rfl⟩
  | .cons l1 x1 b1 r, _, ⟨p1, q1, us1, vs', e, a, b, c, d⟩ => by
    rw [e]
    exact ⟨p1, q1, us1, vs' ++ [.ref p], rfl, a, b, c, BrsAt.snoc h1 h2 h3 d⟩
/-- a branch fits its row -/
def BrT (Tb : Nat → Talk) (Sg : Str → Option (List (Str × Ty))) (g : Ctx) (c : Str) (x : Option Str) (k : Kd) (t : Talk) (b : Blk) : Prop := match x, k.ty with
  | none, none => b.T Tb Sg (g.put c (.en t))
  | some x, some u => g x = none ∧ b.T Tb Sg ((g.put c (.en t)).put x u)
  | _, _ => False
theorem Brs.T_snoc {Tb : Nat → Talk} {Sg : Str → Option (List (Str × Ty))} {g : Ctx} {c l : Str} {x : Option Str} {k : Kd} {t : Talk} {b : Blk} (h : BrT Tb Sg g c x k t b) : ∀ {r : Brs} {rs : Rows}, r.T Tb Sg g c rs → (r.snoc l x b).T Tb Sg g c (rs.snoc l k t)
  | .nil, .nil, _ => ⟨rfl, h, trivial⟩
  | .cons l1 x1 b1 r, .cons l2 k2 t2 rs, ⟨e, h1, h2⟩ => ⟨e, h1, Brs.T_snoc h h2⟩
  | .nil, .cons .., h => h.elim
  | .cons .., .nil, h => h.elim
def hC (d : Nat) : Nat := 3 * (nC d + 1) + bC d + 2
theorem bC_one : ∀ d, 1 ≤ d → bC 1 ≤ bC d
  | 0, h => absurd h (by decide)
  | d + 1, _ => by
    show 60 + 4 * bC 0 ≤ 60 + 4 * bC d
    have := bC_le d
    have e : bC 0 = 24 := rfl
    omega
theorem rC_min (d : Nat) : rC (min d 1) ≤ bC d + 2 := by
  have h := rC_le (min d 1)
  by_cases e : d = 0
  · rw [e] at h ⊢
    exact h
  · have e1 : min d 1 = 1 := by omega
    rw [e1] at h ⊢
    have := bC_one d (by omega)
    omega
theorem mul3 (i c : Nat) (h : i < 3) : (3 - i) * c = (3 - (i + 1)) * c + c := by
  have e : 3 - i = (3 - (i + 1)) + 1 := by omega
  rw [e, Nat.add_mul, Nat.one_mul]
def spHear (d : Nat) : V → V → V → V → V → V → V → Hp → VK → Prop := fun a b hv ev c e g H Q => ∃ (gd : Fd) (n f : Nat) (z : Str) (q : Addr) (m : Nat) (Tb : Nat → Talk) (t : Talk) (r : Rows) (x : Str) (li : Addr) (xs : List Str) (lo : Addr) (os : Os),
  a = .ref gd.p ∧ b = .ref q ∧ TalkAt H (.node true r) hv ∧ (Talk.node true r).Ok m ∧ (Talk.node true r).dep ≤ 2 ∧ G.head Tb t = .node true r ∧ ev = .str x ∧ c = .ref li ∧ e = .ref lo ∧ g = .int (d + 1 : Nat) ∧ Bp H gd (n + hC d) f z q m Tb li xs lo os ∧
  xs.length + (d + 1) ≤ 10 ∧ os.length + (d + 1) ≤ 10 ∧ Res H Q gd n f z m Tb xs (os ++ [(x, t)]) (42 + 2 * d)
/-- what stands behind a branch's name -/
structure HearMid (H H2 H' : Hp) (gd : Fd) (n f f2 : Nat) (z : Str) (q : Addr) (m : Nat) (Tb : Nat → Talk) (li : Addr) (xs : List Str) (lo : Addr) (os : Os) (L : Addr) (bs : List V) (li2 lo2 : Addr) (x : Str) (t t' : Talk) (kd : Kd) (bv : V) : Prop where
  ex : ∃ (f3 : Nat) (xs2 : List Str) (os2 : Os) (bx : Option Str), Kp gd.p H H' ∧ Kp gd.p H2 H' ∧ Bp H' gd n f3 z q m Tb li2 xs2 lo2 os2 ∧ IntsAt H' li xs ∧ OthAt H' lo os ∧ xs2.length ≤ xs.length + 1 ∧ os2.length ≤ os.length + 1 ∧ f2 ≤ f3 ∧ H' L = some (.lst bs) ∧ bv = optS bx ∧
    ∀ b, BT m Tb f3 xs2 z (os2 ++ [(x, t')]) b → ∀ Sg, SgOk m Sg → ∀ g, Rel g f xs z (os ++ [(x, t)]) → BrT Tb Sg g x bx kd t' b
theorem hear_step {k d : Nat} (T : Top K mg) (GN : FnG P w K mg base k (He.ga K "_law_next") p_l_next (S7 (spNext d))) (GR : FnG P w K mg base k (He.ga K "_law_rest") p_l_rest (S5 (spRest (min d 1)))) (hk : 5 ≤ k) : FnG P w K mg base (k + 1) (He.ga K "_law_hear") p_l_hear (S7 (spHear d)) := by
  refine FnG.of7 T.d_l_hear sc_l_hear rfl fun cdv A outer s H a b hv ev c e g Q E hr h => ⟨_, (pss_cons (ps_set (i := 7) sc_l_hear.nd rfl (Or.inl rfl) (pe_lst pa_nil))
    (pss_cons (ps_for PassesOwn.never rfl (pi_tup (pe_ix ix_tup (pv 2) pe_int (fun _ _ => rfl))) (pg_tup (by rfl) (pgs_cons (pg_name (i := 8) sc_l_hear.nd rfl (Or.inl rfl)) (pgs_cons (pg_name (i := 9) sc_l_hear.nd rfl (Or.inl rfl)) (pgs_cons (pg_name (i := 10) sc_l_hear.nd rfl (Or.inl rfl)) pgs_nil)))) (pss_cons (ps_set (i := 11) sc_l_hear.nd rfl (Or.inl rfl) pe_non)
    (pss_cons (ps_set (i := 12) sc_l_hear.nd rfl (Or.inl rfl) (pe_callTy call_list_of (by rfl) T.f_list (by decide +kernel) (pa_cons (pv 4) pa_nil)))
    (pss_cons (ps_set (i := 13) sc_l_hear.nd rfl (Or.inl rfl) (pe_callTy call_list_of (by rfl) T.f_list (by decide +kernel) (pa_cons (pv 5) pa_nil)))
    (pss_cons (ps_if (pt_cmpR op_notN (pv 9) pe_non (nomark _)) (pss_cons (ps_set (i := 11) sc_l_hear.nd rfl (Or.inl rfl) (pcall (ok_l_fresh T) (hr.mono (by omega)) T.g_l_fresh (pa_cons (pv 0) pa_nil)))
    (pss_one (ps_if (pt_cmpR (op_eqD (by exact hr.units)) (pv 9) pe_str (nomark _)) (pss_one (ps_expr (pe_bm PySem.F.plainAttrs_list PySem.F.slot_list_append PySem.F.type_list_append mt_append (pv 12) (pa_cons (pv 11) pa_nil)))) (pss_one (ps_if (pt_cmpR (op_neD (by exact hr.units)) (pv 9) pe_str (nomark _)) (pss_one (ps_expr (pe_bm PySem.F.plainAttrs_list PySem.F.slot_list_append PySem.F.type_list_append mt_append (pv 13) (pa_cons (pe_tup (pa_cons (pv 11) (pa_cons (pv 9) pa_nil))) pa_nil)))) pss_nil))))) pss_nil)
    (pss_one (ps_expr (pe_bm PySem.F.plainAttrs_list PySem.F.slot_list_append PySem.F.type_list_append mt_append (pv 7) (pa_cons (pe_tup (pa_cons (pv 8) (pa_cons (pv 11) (pa_cons (pe_callTy call_tuple_of (by rfl) T.f_tuple (by decide +kernel) (pa_cons (pcall (GN) (hr.mono (by omega)) T.g_l_next (pa_cons (pv 0) (pa_cons (pv 1) (pa_cons (pv 10) (pa_cons (pv 3) (pa_cons (pv 12) (pa_cons (pv 13) (pa_cons (pe_op op_sub (pv 6) pe_int) pa_nil)))))))) pa_nil)) pa_nil)))) pa_nil)))))))))
    (pss_cons (ps_set (i := 14) sc_l_hear.nd rfl (Or.inl rfl) (pe_callTy call_tuple_of (by rfl) T.f_tuple (by decide +kernel) (pa_cons (pcall (GR) (hr.mono (by omega)) T.g_l_rest (pa_cons (pv 0) (pa_cons (pv 1) (pa_cons (pv 4) (pa_cons (pv 5) (pa_cons (pe_callB (call_min2 rfl) (by rfl) T.f_min (by decide +kernel) (pa_cons (pe_op op_sub (pv 6) pe_int) (pa_cons pe_int pa_nil))) pa_nil)))))) pa_nil)))
    (pss_one (ps_ret (pe_lst (pa_cons (pe_tup (pa_cons pe_str (pa_cons (pv 3) (pa_cons (pe_callTy call_tuple_of (by rfl) T.f_tuple (by decide +kernel) (pa_cons (pv 7) pa_nil)) (pa_cons (pv 14) (pa_cons pe_int pa_nil)))))) pa_nil))))))), ?_⟩
  obtain ⟨gd, n, f, z, q0, m, Tb, t, r, x, li, xs, lo, os, rfl, rfl, ⟨p, p2, vs, rfl, hp, hp2, hR⟩, hO, hD, hh, rfl, rfl, rfl, rfl, B, hx, ho, q⟩ := h
  have lv := hR.len
  have l3 := hO.1
  have hD : r.dep + 1 ≤ 2 := hD
  have hd1 : ((d + 1 : Nat) : Int) - 1 = (d : Int) := by omega
  have eh : n + hC d = n + bC d + 2 + 3 * (nC d + 1) := by
    unfold hC
    omega
  refine ⟨Nat.zero_le _, fun L hL => ?_⟩
  have s1 := Same.new (o := .lst []) hL
  have nL := B.F.not hL
  have nli : li ≠ L := ne_of_none B.I hL
  have nlo : lo ≠ L := by
    obtain ⟨_, hw, _⟩ := B.O
    exact ne_of_none hw hL
  refine ⟨_, rfl, p, _, _, _, rfl, rfl, SqT.of (s1 _ _ hp), atI_nat (j := 1) rfl, p2, rfl, ⟨_, SqT.of (s1 _ _ hp2)⟩, for_tup (K := K) (a := p2) (xs := vs) (fun i σ H' => ∃ (v8 v9 v10 v11 v12 v13 v14 : Option V) (f2 : Nat) (bs : List V) (br : Brs),
      σ = [some (.ref gd.p), some (.ref q0), some (.ref p), some (.str x), some (.ref li), some (.ref lo), some (.int (d + 1 : Nat)), some (.ref L), v8, v9, v10, v11, v12, v13, v14] ∧ Kp gd.p H H' ∧
      Bp H' gd (n + bC d + 2 + (3 - i) * (nC d + 1)) f2 z q0 m Tb li xs lo os ∧ f ≤ f2 ∧ H' L = some (.lst bs) ∧ bs.length ≤ i ∧ BrsAt H' br bs ∧ ∀ Sg, SgOk m Sg → ∀ g, Rel g f xs z (os ++ [(x, t)]) → br.T Tb Sg g x (r.take i))
    ⟨none, none, none, none, none, none, none, f, [], .nil, rfl, Kp.of s1, (B.same s1).le (by omega), Nat.le_refl _, upd_same, Nat.le_refl _, rfl, fun Sg hS g R => by rw [take_zero]; trivial⟩
    (fun i σ H' _ ⟨_, _, _, _, _, _, _, _, _, _, _, k2, _⟩ => SqT.of (B.F.tu k2 _ _ hp2)) ?_ ?_⟩
  · rintro i v σ H2 hi ⟨v8, v9, v10, v11, v12, v13, v14, f2, bs, br, rfl, k2, B2, lf, hbs, lbs, hbr, hT⟩
    obtain ⟨l, kd, t', pr, kv, tv, g1, rfl, g2, g3, g4, g5⟩ := hR.nth hi
    obtain ⟨ok1, ok2⟩ := subRows hO.2.2.2 g1
    have hi3 : i < 3 := by
      have := (List.getElem?_eq_some_iff.mp hi).1
      omega
    have t2 := B.F.tu k2
    have em := mul3 i (nC d + 1) hi3
    refine ⟨pr, _, rfl, SqT.of (t2 _ _ g2), rfl, _, _, rfl, _, _, rfl, _, _, rfl, rfl, ?_⟩
    refine ⟨_, rfl, li, _, rfl, .inl (SqL.of B2.I), fun li2 hli2 => ?_⟩
    have s3 := Same.new (o := .lst (xs.map V.str)) hli2
    have B3 := B2.same s3
    obtain ⟨ws, w1, w2⟩ := id B3.O
    refine ⟨_, rfl, lo, _, rfl, .inl (SqL.of w1), fun lo2 hlo2 => ?_⟩
    have s4 := Same.new (o := .lst ws) hlo2
    have B4 := B3.same s4
    have s34 := s3.trans s4
    have I4 : IntsAt (upd (upd H2 li2 (.lst (xs.map V.str))) lo2 (.lst ws)) li2 xs := s4 _ _ upd_same
    have O4 : OthAt (upd (upd H2 li2 (.lst (xs.map V.str))) lo2 (.lst ws)) lo2 os := ⟨ws, upd_same, w2.tu (Same.tu s4)⟩
    have K4 := (g3.tu t2).tu (Same.tu s34)
    have k4 := k2.trans (Kp.of s34)
    have nli2 := B2.F.not hli2
    have nlo2 := B3.F.not hlo2
    have L4 : (upd (upd H2 li2 (.lst (xs.map V.str))) lo2 (.lst ws)) L = some (.lst bs) := s34 _ _ hbs
    have n2L : li2 ≠ L := (ne_of_none hbs hli2).symm
    have n3L : lo2 ≠ L := (ne_of_none (s3 _ _ hbs) hlo2).symm
    have n23 : li2 ≠ lo2 := ne_of_none upd_same hlo2
    have nlili2 : li ≠ li2 := ne_of_none B2.I hli2
    have nlolo2 : lo ≠ lo2 := ne_of_none w1 hlo2
    have nlilo2 : li ≠ lo2 := ne_of_none B3.I hlo2
    have nloli2 : lo ≠ li2 := by
      obtain ⟨_, hw, _⟩ := B2.O
      exact ne_of_none hw hli2
    have BB : Bp (upd (upd H2 li2 (.lst (xs.map V.str))) lo2 (.lst ws)) gd (n + bC d + 2 + (3 - i) * (nC d + 1)) f2 z q0 m Tb li2 xs lo2 os := ⟨B4.F, B4.T, B4.ne, B4.m3, I4, O4, B4.oo⟩
    have fr : ∀ g, Rel g f xs z (os ++ [(x, t)]) → f2 + 1 ≤ LIM → g (xn (f2 + 1)) = none := fun g R hl => by
      cases e : g (xn (f2 + 1)) with
      | none => rfl
      | some u => exact absurd ((R.nm _ (by rw [e]; simp)).le lf) (xn_fresh hl)
    dsimp only [gName, tSeq, tAsg, tC]
    refine if_k (fun σ' H' => ∃ bv, σ' = [some (.ref gd.p), some (.ref q0), some (.ref p), some (.str x), some (.ref li), some (.ref lo), some (.int (d + 1 : Nat)), some (.ref L), some (.str l), some kv, some tv, some bv, some (.ref li2), some (.ref lo2), v14] ∧
      HearMid H H2 H' gd (n + bC d + 2 + (3 - (i + 1)) * (nC d + 1) + nC d) f f2 z q0 m Tb li xs lo os L bs li2 lo2 x t t' kd bv) ?_ fun key => ?_
    · rintro σ' H' ⟨bv, rfl, f3, xs2, os2, bx, k5, k25, B5, I5, O5, lx, lo5, lf3, L5, rfl, hB⟩
      have B5' : Bp H' gd (n + bC d + 2 + (3 - (i + 1)) * (nC d + 1) + nC d) f3 z q0 m Tb li xs lo os := ⟨B5.F, B5.T, B5.ne, B5.m3, I5, O5, B.oo⟩
      refine ⟨_, rfl, .inl ⟨rfl, _, SqL.of L5⟩, _, rfl, _, rfl, _, rfl, _, rfl, _, rfl, _, rfl, _, rfl, _, rfl, _, rfl, _, _, rfl, rfl, gd, n + bC d + 2 + (3 - (i + 1)) * (nC d + 1), f3, z, q0, m, Tb, t', x, li2, xs2, lo2, os2, rfl, rfl, g4.tu (B.F.tu k5), ok2, by omega, rfl, rfl, rfl, congrArg V.int hd1, B5, by omega, by omega, fun Lr b f4 H6 k6 F6 lf6 BB6 T6 => ?_⟩
      obtain ⟨us, b1, b2, b3⟩ := BB6
      refine ⟨Lr, _, rfl, .inl ⟨SqL.of b1, fun tp htp => ?_⟩⟩
      refine ⟨le_line (by show 3 ≤ _; decide), fun st hst => ?_⟩
      have L6 : H6 L = some (.lst bs) := B5.F.lst k6 L5
      have s7 := (Same.new (o := .tup us) htp).trans (Same.new (o := .tup [.str l, optS bx, .ref tp]) hst)
      refine ⟨L, _, _, rfl, rfl, s7 _ _ L6, lt_line (by omega), ?_⟩
      have B6 := B5'.kp k6 F6
      have B7 := (B6.same s7).put (vs := bs ++ [.ref st]) (s7 _ _ L6) nL.2 nli nlo
      have ta : Tu (upd (upd H6 tp (.tup us)) st (.tup [.str l, optS bx, .ref tp])) (upd (upd (upd H6 tp (.tup us)) st (.tup [.str l, optS bx, .ref tp])) L (.lst (bs ++ [.ref st]))) := Tu.at_ (s7 _ _ L6) (by intro xs e; cases e)
      have t8 := (Same.tu s7).trans ta
      refine ⟨_, _, _, _, _, _, _, f4, bs ++ [.ref st], br.snoc l bx b, rfl, ((k5.trans k6).trans (Kp.of s7)).put hL, B7, by omega, upd_same, by rw [List.length_append]; show bs.length + 1 ≤ _; omega, BrsAt.snoc (q := tp) (us := us) (ta _ _ upd_same) (ta _ _ ((Same.new hst) _ _ upd_same)) (b2.tu t8) (hbr.tu ((B2.F.tu (k25.trans k6)).trans t8)), fun Sg hS g R => ?_⟩
      rw [take_succ g1]
      exact Brs.T_snoc (hB b T6 Sg hS g R) (hT Sg hS g R)
    · refine ⟨_, rfl, rfl, _, rfl, ite2 (fun c => ?_) (fun c => ?_)⟩
      · refine ⟨_, rfl, gd, n + bC d + 2 + (3 - (i + 1)) * (nC d + 1) + nC d, f2, z, rfl, BB.F.le (by omega), fun H5 k5 F5 h5 => ?_⟩
        have B5 := BB.kp k5 F5
        have k25 : Kp gd.p H2 H5 := (Kp.of s34).trans k5
        have k05 : Kp gd.p H H5 := k2.trans k25
        have t5 := BB.F.tu k5
        have K5 := K4.tu t5
        have I5 : IntsAt H5 li xs := B2.F.ints k25 B2.I
        have O5 : OthAt H5 lo os := B2.F.oth k25 B2.O
        have L5 : H5 L = some (.lst bs) := BB.F.lst k5 L4
        have hli0 : H li2 = none := k2.free nli2.1.symm hli2
        have hlo20 : H2 lo2 = none := (Kp.of (p := gd.p) s3).free nlo2.1.symm hlo2
        have hlo0 : H lo2 = none := k2.free nlo2.1.symm hlo20
        have nok : NmOk (f2 + 1) (xn (f2 + 1)) := .inr (.inr (.inr (.inr ⟨f2 + 1, Nat.le_refl _, rfl⟩)))
        have frg : ∀ {g : Ctx} {ps : Os}, Rel g f2 xs z ps → g (xn (f2 + 1)) = none := fun {g ps} R => by
          cases e : g (xn (f2 + 1)) with
          | none => rfl
          | some u => exact absurd (R.nm _ (by rw [e]; simp)) (xn_fresh h5)
        refine ⟨_, rfl, _, .str "int", K5.dp, .str _, shaped_k kd, shaped_s (by decide +kernel), _, rfl, ?_⟩
        rw [eqv_int]
        refine ite2 (fun c1 => ?_) (fun c1 => ?_)
        · have c1 : kd = .int := of_decide_eq_true c1
          refine ⟨_, rfl, .inl ⟨rfl, _, SqL.of B5.I⟩, _, rfl, li2, _, _, rfl, rfl, B5.I, lt_line (by rw [List.length_map]; omega), ?_⟩
          have tu : Tu H5 (upd H5 li2 (.lst (xs.map V.str ++ [.str (xn (f2 + 1))]))) := Tu.at_ B5.I (by intro xs e; cases e)
          obtain ⟨us, u1, u2⟩ := B5.O
          refine key _ _ ⟨.str (xn (f2 + 1)), rfl, f2 + 1, xs ++ [xn (f2 + 1)], os, some (xn (f2 + 1)), k05.put hli0, k25.put hli2, ⟨B5.F.put nli2, B5.T.tu tu fun o e => ?_, B5.ne, B5.m3, ?_, ⟨us, ?_, u2.tu tu⟩, B5.oo⟩, ?_, ?_, by rw [List.length_append]; exact Nat.le_refl _, by omega, by omega, ?_, rfl, fun b hb Sg hS g R => ?_⟩
          · rw [upd_ne (B5.T.ne B5.I)]
            exact e
          · unfold IntsAt
            rw [upd_same, List.map_append]
            rfl
          · rw [upd_ne n23.symm]
            exact u1
          · unfold IntsAt
            rw [upd_ne nlili2]
            exact I5
          · obtain ⟨us', v1, v2⟩ := O5
            exact ⟨us', by rw [upd_ne nloli2]; exact v1, v2.tu tu⟩
          · rw [upd_ne n2L.symm]
            exact L5
          · have R' := (R.re (t' := t')).le lf
            rw [c1]
            exact ⟨frg (R.le lf), hb Sg hS _ (R'.putI (frg R') nok (Nat.le_succ _))⟩
        · have c1 : kd ≠ .int := of_decide_eq_false (Bool.eq_false_iff.mpr c1)
          refine ⟨_, rfl, _, .str "bool", K5.dp, .str _, shaped_k kd, shaped_s (by decide +kernel), _, rfl, ?_⟩
          rw [eqv_bool]
          refine ite2 (fun c2 => ?_) (fun c2 => ?_)
          · have c2 : kd ≠ .bool := fun e => by
              rw [e] at c2
              exact absurd c2 (by decide)
            obtain ⟨dd, kk, rfl⟩ : ∃ dd kk, kd = .ref dd kk := by
              cases kd with
              | non =>
                have e' : kv = .non := K4
                rw [e'] at c
                exact absurd c (by decide)
              | int => exact absurd rfl c1
              | bool => exact absurd rfl c2
              | ref d' k' => exact ⟨d', k', rfl⟩
            obtain ⟨us, u1, u2⟩ := id B5.O
            have lu := u2.len
            refine ⟨_, rfl, .inl ⟨rfl, _, SqL.of u1⟩, _, rfl, _, rfl, le_line (by show 2 ≤ _; decide), fun tp htp => ?_⟩
            have s6 := Same.new (o := .tup [.str (xn (f2 + 1)), kv]) htp
            refine ⟨lo2, _, _, rfl, rfl, s6 _ _ u1, lt_line (by omega), ?_⟩
            have ta : Tu (upd H5 tp (.tup [.str (xn (f2 + 1)), kv])) (upd (upd H5 tp (.tup [.str (xn (f2 + 1)), kv])) lo2 (.lst (us ++ [.ref tp]))) := Tu.at_ (s6 _ _ u1) (by intro xs e; cases e)
            have t6 := (Same.tu s6).trans ta
            have B6 := B5.same s6
            refine key _ _ ⟨.str (xn (f2 + 1)), rfl, f2 + 1, xs, os ++ [(xn (f2 + 1), .ref dd kk)], some (xn (f2 + 1)), (k05.trans (Kp.of s6)).put hlo0, (k25.trans (Kp.of s6)).put hlo20, ⟨B6.F.put nlo2, B6.T.tu ta fun o e => ?_, B5.ne, B5.m3, ?_, ⟨us ++ [.ref tp], upd_same, OthV.app (u2.tu t6) ⟨⟨tp, kv, rfl, ta _ _ upd_same, ?_⟩, trivial⟩⟩, ?_⟩, ?_, ?_, by omega, by rw [List.length_append]; exact Nat.le_refl _, by omega, ?_, rfl, fun b hb Sg hS g R => ?_⟩
            · rw [upd_ne (B6.T.ne (s6 _ _ u1))]
              exact e
            · unfold IntsAt
              rw [upd_ne n23]
              exact s6 _ _ B5.I
            · exact K5.tu t6
            · intro p hp
              rcases List.mem_append.mp hp with hp | hp
              · exact B5.oo p hp
              · obtain rfl := List.mem_singleton.mp hp
                exact ⟨ok1, Nat.zero_le 2⟩
            · unfold IntsAt
              rw [upd_ne nlilo2]
              exact s6 _ _ I5
            · obtain ⟨us', v1, v2⟩ := O5
              exact ⟨us', by rw [upd_ne nlolo2]; exact s6 _ _ v1, v2.tu t6⟩
            · rw [upd_ne n3L.symm]
              exact s6 _ _ L5
            · have R' := (R.re (t' := t')).le lf
              refine ⟨frg (R.le lf), hb Sg hS _ ((R'.put (frg R') nok (Nat.le_succ _)).pm ?_)⟩
              rw [List.append_assoc, List.append_assoc]
              exact List.Perm.append_left _ (List.Perm.swap _ _ [])
          · have c2 : kd = .bool := by
              cases kd with
              | bool => rfl
              | non => exact absurd rfl c2
              | int => exact absurd rfl c2
              | ref d' k' => exact absurd rfl c2
            refine key _ _ ⟨.str (xn (f2 + 1)), rfl, f2 + 1, xs, os, some (xn (f2 + 1)), k05, k25, B5, I5, O5, by omega, by omega, by omega, L5, rfl, fun b hb Sg hS g R => ?_⟩
            have R' := (R.re (t' := t')).le lf
            rw [c2]
            exact ⟨frg (R.le lf), hb Sg hS _ (R'.putB (frg R') nok (Nat.le_succ _))⟩
      · have ek : kd = .non := by
          cases kd with
          | non => rfl
          | int =>
            have e' : kv = .str "int" := K4
            rw [e'] at c
            exact absurd (by simp) c
          | bool =>
            have e' : kv = .str "bool" := K4
            rw [e'] at c
            exact absurd (by simp) c
          | ref d' k' =>
            obtain ⟨p', e', _⟩ := K4
            rw [e'] at c
            exact absurd (by simp) c
        refine key _ _ ⟨.non, rfl, f2, xs, os, none, k4, Kp.of s34, BB.le (by omega), s34 _ _ B2.I, B2.O.same s34, by omega, by omega, Nat.le_refl _, L4, rfl, fun b hb Sg hS g R => ?_⟩
        rw [ek]
        exact hb Sg hS _ ((R.re (t' := t')).le lf)
  · rintro σ H2 ⟨v8, v9, v10, v11, v12, v13, v14, f2, bs, br, rfl, k2, B2, lf, hbs, lbs, hbr, hT⟩
    rw [lv, take_all] at hT
    have rm := rC_min d
    have emin : (if (1 : Int) < (d : Int) then (1 : Int) else (d : Int)) = ((min d 1 : Nat) : Int) := by
      split <;> omega
    refine ⟨_, rfl, _, rfl, _, rfl, _, rfl, _, rfl, _, _, rfl, rfl, _, _, rfl, gd, n, f2, z, q0, m, Tb, li, xs, lo, os, rfl, rfl, rfl, rfl, ?_, B2.le (by omega), by omega, by omega, fun Lr b f4 H6 k6 F6 lf6 BB6 T6 => ?_⟩
    · rw [hd1]
      exact congrArg V.int emin
    obtain ⟨us, b1, b2, b3⟩ := BB6
    refine ⟨Lr, _, rfl, .inl ⟨SqL.of b1, fun tp htp => ?_⟩⟩
    have s7 := Same.new (o := .tup us) htp
    have L6 : H6 L = some (.lst bs) := B2.F.lst k6 hbs
    refine ⟨_, rfl, _, rfl, L, _, rfl, .inl ⟨SqL.of (s7 _ _ L6), fun tq htq => ?_⟩⟩
    refine ⟨_, rfl, le_line (by show 5 ≤ _; decide), fun st hst => ⟨le_line (by show 1 ≤ _; decide), fun L8 hL8 => ?_⟩⟩
    have s8 := ((s7.trans (Same.new (o := .tup bs) htq)).trans (Same.new (o := .tup [.str "hear", .str x, .ref tq, .ref tp, .int 0]) hst)).trans (Same.new (o := .lst [.ref st]) hL8)
    refine q L8 (.hear x br b) f4 _ (k2.trans (k6.trans (Kp.of s8))) ((F6.same s8).le (by omega)) (Nat.le_trans lf lf6) ⟨_, upd_same, ⟨st, tq, tp, bs, us, rfl, (Same.new hL8) _ _ upd_same, ?_, hbr.tu ((B2.F.tu k6).trans (Same.tu s8)), ?_, b2.tu (Same.tu s8)⟩, (by show 1 ≤ _; omega)⟩ fun Sg hS g R => ?_
    · exact (Same.new hL8) _ _ ((Same.new hst) _ _ upd_same)
    · exact (Same.new hL8) _ _ ((Same.new hst) _ _ ((Same.new htq) _ _ upd_same))
    · have m1 : (x, t) ∈ os ++ [(x, t)] := by simp
      have R2 := R.del m1
      have e8 : rmv x (os ++ [(x, t)]) = os := by
        have nd := R.nd
        rw [List.map_append] at nd
        unfold rmv
        rw [List.filter_append]
        have e9 : List.filter (fun p : Str × Talk => !decide (p.1 = x)) [(x, t)] = [] := by simp
        rw [e9, List.append_nil]
        exact rmv_not fun u hu => (List.nodup_append.mp nd).2.2 _ (List.mem_map.mpr ⟨_, hu, rfl⟩) x (by simp) rfl
      rw [e8] at R2
      exact ⟨t, r, R.mem m1, hh, hT Sg hS g R, T6 Sg hS _ (R2.le lf)⟩
end G

/-! part W14 -/
set_option Elab.async false
set_option linter.all false
set_option maxRecDepth 100000
set_option maxHeartbeats 4000000
/-! The body of an actor. -/
namespace G
open PySem PySem.Spec PyProof.Rows L2
variable {P : Program} {w : World} {K : PySem.W.Frag} {mg : Str → Option Value} {base : Heap}
theorem head_ok {H : Hp} {q : Addr} {m : Nat} {Tb : Nat → Talk} (h : TabAt H q m m Tb) (hm : m ≤ 3) : ∀ {t : Talk}, t.Ok m → t.dep ≤ 2 → (G.head Tb t).Ok m ∧ (G.head Tb t).dep ≤ 2 ∧ ∀ d n, G.head Tb t ≠ .ref d n
  | .fin, a, b => ⟨a, b, fun _ _ e => by cases e⟩
  | .node _ _, a, b => ⟨a, b, fun _ _ e => by cases e⟩
  | .ref false n, a, b => by
    obtain ⟨_, _, _, ⟨h1, r1, e⟩, h2, h3⟩ := h.get (n := n) a hm
    exact ⟨h2, h3, fun d' n' e' => by rw [show G.head Tb (.ref false n) = Tb n from rfl, e] at e'; cases e'⟩
  | .ref true n, a, b => by
    obtain ⟨_, _, _, ⟨h1, r1, e⟩, h2, h3⟩ := h.get (n := n) a hm
    refine ⟨Talk.ok_dual _ h2, ?_, fun d' n' e' => ?_⟩
    · show (Tb n).dual.dep ≤ 2
      rw [Talk.dep_dual]
      exact h3
    · rw [show G.head Tb (.ref true n) = (Tb n).dual from rfl, e] at e'
      cases e'
theorem hd_node (b : Bool) (r : Rows) : ¬ decide (V.str (hdT (.node b r)) = V.str "end") = true := by
  cases b
  · show ¬ decide (V.str (sh false) = V.str "end") = true
    decide +kernel
  · show ¬ decide (V.str (sh true) = V.str "end") = true
    decide +kernel
theorem rmv_last {g : Ctx} {f : Nat} {xs : List Str} {z x : Str} {os : Os} {t : Talk} (R : Rel g f xs z (os ++ [(x, t)])) : rmv x (os ++ [(x, t)]) = os := by
  have nd := R.nd
  rw [List.map_append] at nd
  unfold rmv
  rw [List.filter_append]
  have e9 : List.filter (fun p : Str × Talk => !decide (p.1 = x)) [(x, t)] = [] := by simp
  rw [e9, List.append_nil]
  exact rmv_not fun u hu => (List.nodup_append.mp nd).2.2 _ (List.mem_map.mpr ⟨_, hu, rfl⟩) x (by simp) rfl
theorem rC_sub (d : Nat) : rC (d - 1) ≤ bC d := by
  cases d with
  | zero => decide
  | succ d =>
    have h := rC_le d
    have b := bC_le d
    show rC d ≤ 60 + 4 * bC d
    omega
theorem body_step {k d : Nat} {uB uS uH : V → V → V → V → V → V → V → Hp → VK → Prop} (T : Top K mg) (GR : FnG P w K mg base k (He.ga K "_law_rest") p_l_rest (S5 (spRest (d - 1))))
    (GB : FnG P w K mg base k (He.ga K "_law_body") p_l_body (S7 uB)) (GS : FnG P w K mg base k (He.ga K "_law_say") p_l_say (S7 uS)) (GH : FnG P w K mg base k (He.ga K "_law_hear") p_l_hear (S7 uH)) (hk : 5 ≤ k)
    (hd : d = 0 ∨ (uB = spBody (d - 1) ∧ uS = spSay (d - 1) ∧ uH = spHear (d - 1))) : FnG P w K mg base (k + 1) (He.ga K "_law_body") p_l_body (S7 (spBody d)) := by
  refine FnG.of7 T.d_l_body sc_l_body rfl fun cdv A outer s H a b tv ev c e g Q E hr h => ⟨_, (pss_cons (ps_set (i := 7) sc_l_body.nd rfl (Or.inl rfl) (pcall (ok_l_head T) (hr.mono (by omega)) T.g_l_head (pa_cons (pv 1) (pa_cons (pv 2) pa_nil))))
    (pss_cons (ps_if (pt_cmpR op_eq (pe_ix ix_tup (pv 7) pe_int (fun _ _ => rfl)) pe_str (nomark _)) (pss_one (ps_ret (pe_op op_cat (pe_lst (pa_cons (pe_tup (pa_cons pe_str (pa_cons (pv 3) (pa_cons pe_int pa_nil)))) pa_nil)) (pcall (GR) (hr.mono (by omega)) T.g_l_rest (pa_cons (pv 0) (pa_cons (pv 1) (pa_cons (pv 4) (pa_cons (pv 5) (pa_cons (pe_callB (call_max2 rfl) (by rfl) T.f_max (by decide +kernel) (pa_cons pe_int (pa_cons (pe_op op_sub (pv 6) pe_int) pa_nil))) pa_nil))))))))) pss_nil)
    (pss_cons (ps_if (PW.pt (pw_or (pt_cmpR op_eq (pv 6) pe_int (nomark _)) (pw_or1 (pt_cmpR op_eq (pcall (ok_l_take T) (hr.mono (by omega)) T.g_l_take (pa_cons (pv 0) (pa_cons pe_int pa_nil))) pe_int (nomark _))))) (pss_one (ps_ret (pcall (ok_l_stop T) (hr.mono (by omega)) T.g_l_stop (pa_cons (pv 0) (pa_cons (pv 2) (pa_cons (pv 3) (pa_cons (pv 4) (pa_cons (pv 5) pa_nil)))))))) pss_nil)
    (pss_cons (ps_set (i := 8) sc_l_body.nd rfl (Or.inl rfl) (pcall (ok_l_take T) (hr.mono (by omega)) T.g_l_take (pa_cons (pv 0) (pa_cons pe_int pa_nil))))
    (pss_cons (ps_if (pt_cmpR op_eq (pv 8) pe_int (nomark _)) (pss_cons (ps_set (i := 9) sc_l_body.nd rfl (Or.inl rfl) (pcall (ok_l_fresh T) (hr.mono (by omega)) T.g_l_fresh (pa_cons (pv 0) pa_nil)))
    (pss_cons (ps_set (i := 10) sc_l_body.nd rfl (Or.inl rfl) (pe_tup (pa_cons pe_str (pa_cons (pv 9) (pa_cons (pcall (ok_l_number T) (hr.mono (by omega)) T.g_l_number (pa_cons (pv 0) (pa_cons (pv 4) pa_nil))) (pa_cons pe_int pa_nil))))))
    (pss_one (ps_ret (pe_op op_cat (pe_lst (pa_cons (pv 10) pa_nil)) (pcall (GB) (hr.mono (by omega)) T.g_l_body (pa_cons (pv 0) (pa_cons (pv 1) (pa_cons (pv 2) (pa_cons (pv 3) (pa_cons (pe_op op_cat (pv 4) (pe_lst (pa_cons (pv 9) pa_nil))) (pa_cons (pv 5) (pa_cons (pe_op op_sub (pv 6) pe_int) pa_nil))))))))))))) pss_nil)
    (pss_cons (ps_if (pt_cmpR op_eq (pv 8) pe_int (nomark _)) (pss_cons (ps_set (i := 11) sc_l_body.nd rfl (Or.inl rfl) (pcall (ok_l_test T) (hr.mono (by omega)) T.g_l_test (pa_cons (pv 0) (pa_cons (pv 4) pa_nil))))
    (pss_cons (ps_set (i := 12) sc_l_body.nd rfl (Or.inl rfl) (pe_callTy call_tuple_of (by rfl) T.f_tuple (by decide +kernel) (pa_cons (pcall (ok_l_stop T) (hr.mono (by omega)) T.g_l_stop (pa_cons (pv 0) (pa_cons (pv 2) (pa_cons (pv 3) (pa_cons (pv 4) (pa_cons (pv 5) pa_nil)))))) pa_nil)))
    (pss_one (ps_ret (pe_lst (pa_cons (pe_tup (pa_cons pe_str (pa_cons (pv 11) (pa_cons (pv 12) (pa_cons (pe_callTy call_tuple_of (by rfl) T.f_tuple (by decide +kernel) (pa_cons (pcall (GB) (hr.mono (by omega)) T.g_l_body (pa_cons (pv 0) (pa_cons (pv 1) (pa_cons (pv 2) (pa_cons (pv 3) (pa_cons (pv 4) (pa_cons (pv 5) (pa_cons (pe_op op_sub (pv 6) pe_int) pa_nil)))))))) pa_nil)) (pa_cons pe_int pa_nil)))))) pa_nil)))))) pss_nil)
    (pss_cons (ps_if (pt_cmpR op_eq (pe_ix ix_tup (pv 7) pe_int (fun _ _ => rfl)) pe_str (nomark _)) (pss_one (ps_ret (pcall (GS) (hr.mono (by omega)) T.g_l_say (pa_cons (pv 0) (pa_cons (pv 1) (pa_cons (pv 7) (pa_cons (pv 3) (pa_cons (pv 4) (pa_cons (pv 5) (pa_cons (pv 6) pa_nil)))))))))) pss_nil)
    (pss_one (ps_ret (pcall (GH) (hr.mono (by omega)) T.g_l_hear (pa_cons (pv 0) (pa_cons (pv 1) (pa_cons (pv 7) (pa_cons (pv 3) (pa_cons (pv 4) (pa_cons (pv 5) (pa_cons (pv 6) pa_nil))))))))))))))))), ?_⟩
  obtain ⟨gd, n, f, z, q0, m, Tb, t, x, li, xs, lo, os, rfl, rfl, hT, hO, hD, rfl, rfl, rfl, rfl, B, hx, ho, q⟩ := h
  obtain ⟨o1, o2, o3⟩ := head_ok B.T B.m3 hO hD
  have b24 := bC_le d
  have hdm : ∀ d' : Nat, d = d' + 1 → ((d : Int) - 1) = (d' : Int) := fun d' e => by omega
  refine ⟨_, rfl, _, rfl, q0, m, Tb, t, rfl, B.T, B.m3, hT, hO, hD, fun hv H1 s1 hH => ?_⟩
  have B1 := B.same s1
  have T1 := hT.tu (Same.tu s1)
  obtain ⟨p, ws, rfl, hp⟩ := hH.hd
  refine ⟨_, rfl, p, _, _, _, rfl, rfl, SqT.of hp, atI_nat (j := 0) rfl, rfl, _, rfl, ite2 (fun c => ?_) fun c0 => ?_⟩
  · -- the talk has ended
    have e1 : G.head Tb t = .fin := by
      cases e : G.head Tb t with
      | fin => rfl
      | ref d' n' => exact absurd e (o3 d' n')
      | node b' r' =>
        rw [e] at c
        exact absurd c (hd_node b' r')
    have rs := rC_sub d
    refine ⟨_, rfl, le_line (by show 3 ≤ _; decide), fun a1 ha1 => ⟨le_line (by show 1 ≤ _; decide), fun L1 hL1 => ?_⟩⟩
    have s2 := (Same.new (o := .tup [.str "close", .str x, .int 0]) ha1).trans (Same.new (o := .lst [.ref a1]) hL1)
    have B2 := B1.same s2
    refine ⟨_, rfl, _, rfl, _, rfl, _, rfl, _, rfl, _, _, rfl, rfl, _, _, rfl, gd, n, f, z, q0, m, Tb, li, xs, lo, os, rfl, rfl, rfl, rfl, ?_, B2.le (by omega), by omega, by omega, fun Lr b f2 H3 k3 F3 lf BB T3 => ?_⟩
    · refine congrArg V.int ?_
      split <;> omega
    obtain ⟨us, b1, b2, b3⟩ := BB
    have b4 : rB (d - 1) ≤ 39 + 2 * d := by
      unfold rB
      split <;> omega
    have L3 : H3 L1 = some (.lst [.ref a1]) := B2.F.lst k3 upd_same
    refine ⟨L1, Lr, _, _, rfl, rfl, L3, b1, le_line (by show 1 + _ ≤ _; omega), fun L4 hL4 => ?_⟩
    have t3 := (B2.F.tu k3).trans (Tu.new (o := .lst ([.ref a1] ++ us)) hL4)
    refine q L4 (.close x b) f2 _ ((Kp.of (s1.trans s2)).trans (k3.trans (Kp.new hL4))) (F3.new hL4) lf ⟨_, upd_same, ⟨a1, us, rfl, t3 _ _ ((Same.new hL1) _ _ upd_same), b2.tu (Tu.new hL4)⟩, (by show us.length + 1 ≤ _; omega)⟩ fun Sg hS g R => ?_
    have m1 : (x, t) ∈ os ++ [(x, t)] := by simp
    have R2 := R.del m1
    have e8 : rmv x (os ++ [(x, t)]) = os := rmv_last R
    rw [e8] at R2
    exact ⟨t, R.mem m1, e1, T3 Sg hS _ R2⟩
  dsimp only [gName, tSeq, tNext]
  refine if_H (fun H2 => Kp gd.p H1 H2 ∧ FeedAt H2 gd (n + 20) f z) (fun H2 => Kp gd.p H1 H2 ∧ FeedAt H2 gd (n + bC d - 1) f z ∧ d ≠ 0)
    (fun Q hy hn => ⟨_, rfl, rfl, _, rfl, ite2 (fun c => ?_) (fun c => ?_)⟩) ?_ ?_
  · exact hy _ ⟨Kp.refl _ _, B1.F.le (by omega)⟩
  · have d0 : d ≠ 0 := fun e => by
      rw [e] at c
      exact absurd rfl c
    obtain ⟨d', rfl⟩ : ∃ d', d = d' + 1 := ⟨d - 1, by omega⟩
    have e4 : bC (d' + 1) = 60 + 4 * bC d' := rfl
    refine ⟨_, rfl, gd, n + bC (d' + 1) - 1, f, z, 14, rfl, rfl, by decide, B1.F.le (by omega), fun y H2 y0 y1 k2 F2 => ?_⟩
    exact ⟨rfl, _, rfl, q_b (fun _ => hy _ ⟨k2, F2.le (by omega)⟩) fun _ => hn _ ⟨k2, F2, d0⟩⟩
  · rintro H2 ⟨k2, F2⟩
    have B2 := B1.kp k2 F2
    refine ⟨_, rfl, _, rfl, _, rfl, _, rfl, _, rfl, gd, n, f, z, t, x, li, xs, lo, os, m, rfl, T1.tu (B1.F.tu k2), rfl, rfl, rfl, F2, B2.I, B2.O, B2.oo, hO, B2.m3, by omega, fun L b H3 k3 F3 B3 T3 => ?_⟩
    obtain ⟨us, b1, b2, b3⟩ := B3
    exact q L b f H3 ((Kp.of s1).trans (k2.trans k3)) F3 (Nat.le_refl _) ⟨us, b1, b2, by omega⟩ (T3 Tb)
  rintro H2 ⟨k2, F2, d0⟩
  obtain ⟨d', rfl⟩ : ∃ d', d = d' + 1 := ⟨d - 1, by omega⟩
  obtain ⟨hB', hS', hH'⟩ := hd.resolve_left d0
  rw [Nat.add_sub_cancel] at hB' hS' hH'
  subst hB' hS' hH'
  have e4 : bC (d' + 1) = 60 + 4 * bC d' := rfl
  have hd1 : ((d' + 1 : Nat) : Int) - 1 = (d' : Int) := by omega
  have B2 := B1.kp k2 F2
  refine ⟨_, rfl, gd, n + bC (d' + 1) - 2, f, z, 8, rfl, rfl, by decide, F2.le (by omega), fun y H3 y0 y1 k3 F3 => ?_⟩
  have k13 := k2.trans k3
  have k03 : Kp gd.p H H3 := (Kp.of s1).trans k13
  have B3 := B2.kp k3 F3
  have T3 := T1.tu (B1.F.tu k13)
  have hH3 := hH.tu (B1.F.tu k13)
  have hp3 := (B1.F.tu k13) _ _ hp
  refine ⟨_, rfl, rfl, _, rfl, ite2 (fun c => ?_) (fun c => ?_)⟩
  · -- let
    refine ⟨_, rfl, gd, n + bC (d' + 1) - 3, f, z, rfl, F3.le (by omega), fun H4 k4 F4 h4 => ?_⟩
    have B4 := B3.kp k4 F4
    refine ⟨_, rfl, _, rfl, _, rfl, gd, n + bC (d' + 1) - 7, f + 1, z, li, xs, rfl, rfl, F4.le (by omega), B4.I, fun ev e H5 k5 F5 E5 N5 D5 => ?_⟩
    have B5 := B4.kp k5 F5
    refine ⟨le_line (by show 4 ≤ _; decide), fun a1 ha1 => ?_⟩
    refine ⟨_, rfl, le_line (by show 1 ≤ _; decide), fun L1 hL1 => ?_⟩
    have s6 := (Same.new (o := .tup [.str "let", .str (xn (f + 1)), ev, .int 0]) ha1).trans (Same.new (o := .lst [.ref a1]) hL1)
    have B6 := B5.same s6
    refine ⟨_, rfl, _, rfl, _, rfl, _, rfl, _, rfl, _, rfl, le_line (by show 1 ≤ _; decide), fun L2 hL2 => ?_⟩
    have s7 := Same.new (o := .lst [.str (xn (f + 1))]) hL2
    refine ⟨li, L2, _, _, rfl, rfl, s7 _ _ B6.I, upd_same, le_line (by show _ + 1 ≤ _; rw [List.length_map]; omega), fun L3 hL3 => ?_⟩
    have s8 := s7.trans (Same.new (o := .lst (xs.map V.str ++ [.str (xn (f + 1))])) hL3)
    have B8 := B6.same s8
    refine ⟨_, rfl, _, rfl, _, _, rfl, rfl, gd, n, f + 1, z, q0, m, Tb, t, x, L3, xs ++ [xn (f + 1)], lo, os, rfl, rfl, ?_, hO, hD, rfl, rfl, rfl, congrArg V.int hd1, ⟨B8.F.le (by omega), B8.T, B8.ne, B8.m3, ?_, B8.O, B8.oo⟩, by rw [List.length_append]; show xs.length + 1 + d' ≤ 10; omega, by omega, fun Lr b f9 H9 k9 F9 lf BB T9 => ?_⟩
    · exact T3.tu ((B3.F.tu (k4.trans (k5.trans (Kp.of (s6.trans s8))))))
    · unfold IntsAt
      rw [upd_same, List.map_append]
      rfl
    obtain ⟨us, b1, b2, b3⟩ := BB
    have F8 := B8.F
    have L9 : H9 L1 = some (.lst [.ref a1]) := F8.lst k9 (s8 _ _ upd_same)
    refine ⟨L1, Lr, _, _, rfl, rfl, L9, b1, le_line (by show 1 + _ ≤ _; omega), fun L4 hL4 => ?_⟩
    have t9 := (F8.tu k9).trans (Tu.new (o := .lst ([.ref a1] ++ us)) hL4)
    have t6 := (Same.tu s6).trans ((Same.tu s8).trans t9)
    refine q L4 (.let_ (xn (f + 1)) e b) f9 _ (k03.trans (k4.trans (k5.trans ((Kp.of (s6.trans s8)).trans (k9.trans (Kp.new hL4)))))) (F9.new hL4) (by omega) ⟨_, upd_same, ⟨a1, ev, us, rfl, t9 _ _ (s8 _ _ ((Same.new hL1) _ _ upd_same)), E5.tu t6, b2.tu (Tu.new hL4)⟩, (by show us.length + 1 ≤ _; omega)⟩ fun Sg hS g R => ?_
    have fr : g (xn (f + 1)) = none := by
      cases e : g (xn (f + 1)) with
      | none => rfl
      | some u => exact absurd (R.nm _ (by rw [e]; simp)) (xn_fresh h4)
    exact ⟨N5.use R, by omega, fr, T9 Sg hS _ (R.putI fr (.inr (.inr (.inr (.inr ⟨f + 1, Nat.le_refl _, rfl⟩)))) (Nat.le_succ _))⟩
  refine ⟨_, rfl, rfl, _, rfl, ite2 (fun c2 => ?_) (fun c2 => ?_)⟩
  · -- if
    refine ⟨_, rfl, _, rfl, gd, n + bC (d' + 1) - 13, f, z, li, xs, rfl, rfl, F3.le (by omega), B3.I, fun ev e H4 k4 F4 E4 N4 D4 => ?_⟩
    have B4 := B3.kp k4 F4
    refine ⟨_, rfl, _, rfl, _, rfl, _, rfl, _, rfl, gd, n + bC (d' + 1) - 33, f, z, t, x, li, xs, lo, os, m, rfl, T3.tu (B3.F.tu k4), rfl, rfl, rfl, F4.le (by omega), B4.I, B4.O, B4.oo, hO, B4.m3, by omega, fun L b1 H5 k5 F5 BB5 T5 => ?_⟩
    have B5 := B4.kp k5 F5
    obtain ⟨us, u1, u2, u3⟩ := BB5
    refine ⟨L, _, rfl, .inl ⟨SqL.of u1, fun tp htp => ?_⟩⟩
    have s6 := Same.new (o := .tup us) htp
    have B6 := B5.same s6
    refine ⟨_, rfl, _, rfl, _, rfl, _, rfl, _, rfl, _, rfl, _, rfl, _, rfl, _, rfl, _, _, rfl, rfl, gd, n, f, z, q0, m, Tb, t, x, li, xs, lo, os, rfl, rfl, ?_, hO, hD, rfl, rfl, rfl, congrArg V.int hd1, B6.le (by omega), by omega, by omega, fun Lr b2 f7 H7 k7 F7 lf BB7 T7 => ?_⟩
    · exact T3.tu (B3.F.tu (k4.trans (k5.trans (Kp.of s6))))
    obtain ⟨vs, v1, v2, v3⟩ := BB7
    refine ⟨Lr, _, rfl, .inl ⟨SqL.of v1, fun tq htq => ?_⟩⟩
    refine ⟨le_line (by show 5 ≤ _; decide), fun st hst => ⟨le_line (by show 1 ≤ _; decide), fun L8 hL8 => ?_⟩⟩
    have s8 := ((Same.new (o := .tup vs) htq).trans (Same.new (o := .tup [.str "if", ev, .ref tp, .ref tq, .int 0]) hst)).trans (Same.new (o := .lst [.ref st]) hL8)
    have t67 : Tu H5 _ := (Same.tu s6).trans ((B6.F.tu k7).trans (Same.tu s8))
    refine q L8 (.ite e b1 b2) f7 _ (k03.trans (k4.trans (k5.trans ((Kp.of s6).trans (k7.trans (Kp.of s8)))))) (F7.same s8) lf ⟨_, upd_same, ⟨st, ev, tp, tq, us, vs, rfl, (Same.new hL8) _ _ upd_same, E4.tu ((B4.F.tu k5).trans t67), ?_, u2.tu t67, ?_, v2.tu (Same.tu s8)⟩, (by show 1 ≤ _; omega)⟩ fun Sg hS g R => ?_
    · exact (Same.tu s8) _ _ (B6.F.tu k7 _ _ upd_same)
    · exact (Same.new hL8) _ _ ((Same.new hst) _ _ upd_same)
    · exact ⟨N4.use R, D4, T5 Tb Sg hS g R, T7 Sg hS g R⟩
  refine ⟨_, rfl, p, _, _, _, rfl, rfl, SqT.of hp3, atI_nat (j := 0) rfl, rfl, _, rfl, ite2 (fun c3 => ?_) (fun c3 => ?_)⟩
  · cases e : G.head Tb t with
    | ref d' n' => exact absurd e (o3 d' n')
    | fin =>
      exact absurd (by rw [e]; exact (by decide +kernel : decide (V.str (hdT .fin) = V.str "end") = true)) c0
    | node b' r' =>
      cases b' with
      | true =>
        rw [e] at c3
        exact absurd c3 (by show ¬ decide (V.str (sh true) = V.str "say") = true; decide +kernel)
      | false =>
        rw [e] at hH3 o1 o2
        have hS0 : nC d' + 21 ≤ bC (d' + 1) - 2 := by
          unfold nC
          omega
        refine ⟨_, rfl, _, rfl, _, rfl, _, rfl, _, rfl, _, rfl, _, rfl, gd, n, f, z, q0, m, Tb, t, r', x, li, xs, lo, os, rfl, rfl, hH3, o1, o2, e, rfl, rfl, rfl, rfl, B3.le (by omega), by omega, by omega, fun L b f5 H5 k5 F5 lf B5 T5 => ?_⟩
        obtain ⟨us, b1, b2, b3⟩ := B5
        exact q L b f5 H5 (k03.trans k5) F5 lf ⟨us, b1, b2, by omega⟩ T5
  · cases e : G.head Tb t with
    | ref d' n' => exact absurd e (o3 d' n')
    | fin => exact absurd (by rw [e]; exact (by decide +kernel : decide (V.str (hdT .fin) = V.str "end") = true)) c0
    | node b' r' =>
      cases b' with
      | false =>
        rw [e] at c3
        exact absurd (by show decide (V.str (sh false) = V.str "say") = true; decide +kernel) c3
      | true =>
        rw [e] at hH3 o1 o2
        have hS0 : hC d' ≤ bC (d' + 1) - 2 := by
          unfold hC nC
          omega
        refine ⟨_, rfl, _, rfl, _, rfl, _, rfl, _, rfl, _, rfl, _, rfl, gd, n, f, z, q0, m, Tb, t, r', x, li, xs, lo, os, rfl, rfl, hH3, o1, o2, e, rfl, rfl, rfl, rfl, B3.le (by omega), by omega, by omega, fun L b f5 H5 k5 F5 lf B5 T5 => ?_⟩
        obtain ⟨us, b1, b2, b3⟩ := B5
        exact q L b f5 H5 (k03.trans k5) F5 lf ⟨us, b1, b2, by omega⟩ T5
theorem never7 {x qual : Str} {st : Stmt} {ps : List Str} {f : Addr} (Df : DefAt K x qual st ps f) (k : Nat) : FnG P w K mg base k f ps (S7 fun _ _ _ _ _ _ _ _ _ => False) :=
  ((FnG.never Df).imp fun vs H Q h => by obtain ⟨_, _, _, _, _, _, _, _, h⟩ := h.len; exact h).up (Nat.zero_le k)
theorem ok_bodies (T : Top K mg) : ∀ d, FnG P w K mg base (10 + 4 * d) (He.ga K "_law_body") p_l_body (S7 (spBody d)) ∧ ∀ e, e ≤ d → FnG P w K mg base (11 + 4 * d) (He.ga K "_law_rest") p_l_rest (S5 (spRest e))
  | 0 => by
    have R0 : FnG P w K mg base 4 (He.ga K "_law_rest") p_l_rest (S5 (spRest 0)) := rest_step T (never7 T.d_l_body 3) (Nat.le_refl _) (.inl rfl)
    refine ⟨body_step (k := 9) T (R0.up (by decide)) (never7 T.d_l_body 9) (never7 T.d_l_say 9) (never7 T.d_l_hear 9) (by decide) (.inl rfl), fun e he => ?_⟩
    obtain rfl : e = 0 := by omega
    exact R0.up (by decide)
  | d + 1 => by
    obtain ⟨GB, GR⟩ := ok_bodies T d
    have GN := next_step (k := 11 + 4 * d) T (GB.up (by omega)) (GR d (Nat.le_refl _)) (by omega)
    have GH := hear_step (k := 11 + 4 * d + 1) T GN ((GR (min d 1) (by omega)).up (by omega)) (by omega)
    have GS := say_step (k := 11 + 4 * d + 1) T GN (by omega)
    have B1 : FnG P w K mg base (10 + 4 * (d + 1)) (He.ga K "_law_body") p_l_body (S7 (spBody (d + 1))) :=
      (body_step (k := 11 + 4 * d + 1 + 1) (d := d + 1) T ((GR d (Nat.le_refl _)).up (by omega)) (GB.up (by omega)) GS GH (by omega) (.inr ⟨rfl, rfl, rfl⟩)).up (by omega)
    refine ⟨B1, fun e he => ?_⟩
    by_cases h : e ≤ d
    · exact (GR e h).up (by omega)
    · obtain rfl : e = d + 1 := by omega
      exact (rest_step (k := 10 + 4 * (d + 1)) T B1 (by omega) (.inr rfl)).up (by omega)
theorem ok_body (T : Top K mg) (d : Nat) (h : d ≤ 3) : FnG P w K mg base 22 (He.ga K "_law_body") p_l_body (S7 (spBody d)) := (ok_bodies T d).1.up (by omega)
theorem ok_rest (T : Top K mg) : FnG P w K mg base 27 (He.ga K "_law_rest") p_l_rest (S5 (spRest 4)) := (ok_bodies T 4).2 4 (Nat.le_refl _)
end G

/-! part W15 -/
set_option Elab.async false
set_option linter.all false
set_option maxRecDepth 100000
set_option maxHeartbeats 4000000
/-! Definitions. -/
namespace G
open PySem PySem.Spec PyProof.Rows L2
variable {P : Program} {w : World} {K : PySem.W.Frag} {mg : Str → Option Value} {base : Heap}
def ParV (H : Hp) : List V → List (Str × Ty) → Prop
  | [], [] => True
  | v :: vs, (x, _) :: ps => (∃ p tv, v = .ref p ∧ H p = some (.tup [.str x, tv])) ∧ ParV H vs ps
  | _, _ => False
theorem ParV.tu {H H' : Hp} (s : Tu H H') : ∀ {vs : List V} {ps : List (Str × Ty)}, ParV H vs ps → ParV H' vs ps
  | [], [], _ => trivial
  | v :: vs, (x, t) :: ps, ⟨⟨p, tv, e, h1⟩, h3⟩ => ⟨⟨p, tv, e, s _ _ h1⟩, ParV.tu s h3⟩
  | [], _ :: _, h => h.elim
  | _ :: _, [], h => h.elim
/-- a definition as it lies -/
def DfAt (H : Hp) (nm : Str) (ps : List (Str × Ty)) (b : Blk) (v : V) : Prop := ∃ p q r vs us, v = .ref p ∧ H p = some (.tup [.str nm, .ref q, .ref r, .int 0]) ∧ H q = some (.tup vs) ∧ ParV H vs ps ∧ H r = some (.tup us) ∧ BlkAt H b us ∧ us.length ≤ 1000
theorem DfAt.tu {H H' : Hp} {nm : Str} {ps : List (Str × Ty)} {b : Blk} {v : V} (s : Tu H H') (h : DfAt H nm ps b v) : DfAt H' nm ps b v := by
  obtain ⟨p, q, r, vs, us, e, h1, h2, h3, h4, h5, h6⟩ := h
  exact ⟨p, q, r, vs, us, e, s _ _ h1, s _ _ h2, h3.tu s, s _ _ h4, h5.tu s, h6⟩
/-- its body is typed -/
def DfT (m : Nat) (Tb : Nat → Talk) (ps : List (Str × Ty)) (b : Blk) : Prop := ∀ Sg, SgOk m Sg → b.T Tb Sg fun x => ps.lookup x
theorem lk_eq {x y : Str} {t : Ty} {ps : List (Str × Ty)} : ((y, t) :: ps).lookup x = if x = y then some t else ps.lookup x := by
  by_cases e : x = y
  · rw [if_pos e, e, List.lookup_cons_self]
  · rw [if_neg e, List.lookup_cons, beq_false_of_ne e]
theorem ne_cd : sN ≠ sc ∧ sd ≠ sc ∧ sN ≠ sd ∧ sB ≠ sc ∧ sB ≠ sd ∧ sB ≠ sN := by decide +kernel
theorem wRel (d : Bool) (n : Nat) (f : Nat) : Rel (fun x => (wSg d n).lookup x) f [sN] Str.empty [(sc, .ref d n)] := by
  obtain ⟨h1, _⟩ := ne_cd
  have e : ∀ x, (wSg d n).lookup x = if x = sc then some (.en (.ref d n)) else if x = sN then some .int else none := fun x => by
    unfold wSg
    rw [lk_eq, lk_eq]
    rfl
  refine ⟨fun x hx => ?_, fun h => absurd rfl h, fun x t => ?_, fun x hx => ?_, by simp⟩
  · obtain rfl := List.mem_singleton.mp hx
    show (wSg d n).lookup sN = _
    rw [e, if_neg h1, if_pos rfl]
  · show (wSg d n).lookup x = _ ↔ _
    rw [e, List.mem_singleton]
    by_cases a : x = sc
    · rw [if_pos a]
      constructor
      · intro h
        cases h
        rw [a]
      · intro h
        cases h
        rfl
    · rw [if_neg a]
      constructor
      · intro h
        split at h <;> cases h
      · intro h
        cases h
        exact absurd rfl a
  · have hx : (wSg d n).lookup x ≠ none := hx
    rw [e] at hx
    by_cases a : x = sc
    · exact .inl a
    · rw [if_neg a] at hx
      by_cases b : x = sN
      · exact .inr (.inr (.inl b))
      · rw [if_neg b] at hx
        exact absurd rfl hx
theorem pRel (d : Bool) (n : Nat) (f : Nat) : Rel (fun x => (pSg d n).lookup x) f [sN] "b" [(sd, .ref false 0), (sc, .ref d n)] := by
  obtain ⟨h1, h2, h3, h4, h5, h6⟩ := ne_cd
  have e : ∀ x, (pSg d n).lookup x = if x = sc then some (.en (.ref d n)) else if x = sd then some (.en (.ref false 0)) else if x = sN then some .int else if x = sB then some .bool else none := fun x => by
    unfold pSg
    rw [lk_eq, lk_eq, lk_eq, lk_eq]
    rfl
  refine ⟨fun x hx => ?_, fun h => ?_, fun x t => ?_, fun x hx => ?_, ?_⟩
  · obtain rfl := List.mem_singleton.mp hx
    show (pSg d n).lookup sN = _
    rw [e, if_neg h1, if_neg h3, if_pos rfl]
  · show (pSg d n).lookup sB = _
    rw [e, if_neg h4, if_neg h5, if_neg h6, if_pos rfl]
  · show (pSg d n).lookup x = _ ↔ _
    rw [e, List.mem_cons, List.mem_singleton]
    by_cases a : x = sc
    · rw [if_pos a]
      constructor
      · intro h
        cases h
        rw [a]
        exact .inr rfl
      · intro h
        rcases h with h | h
        · cases h
          exact absurd a h2
        · cases h
          rfl
    · rw [if_neg a]
      by_cases b : x = sd
      · rw [if_pos b]
        constructor
        · intro h
          cases h
          rw [b]
          exact .inl rfl
        · intro h
          rcases h with h | h
          · cases h
            rfl
          · cases h
            exact absurd rfl a
      · rw [if_neg b]
        constructor
        · intro h
          split at h
          · cases h
          · split at h <;> cases h
        · intro h
          rcases h with h | h
          · cases h
            exact absurd rfl b
          · cases h
            exact absurd rfl a
  · have hx : (pSg d n).lookup x ≠ none := hx
    rw [e] at hx
    by_cases a : x = sc
    · exact .inl a
    · rw [if_neg a] at hx
      by_cases b : x = sd
      · exact .inr (.inl b)
      · rw [if_neg b] at hx
        by_cases c : x = sN
        · exact .inr (.inr (.inl c))
        · rw [if_neg c] at hx
          by_cases c2 : x = sB
          · exact .inr (.inr (.inr (.inl c2)))
          · rw [if_neg c2] at hx
            exact absurd rfl hx
  · show [sd, sc].Nodup
    simp [h2]
def spDef (nm : Bool → Nat → Str) (sg : Bool → Nat → List (Str × Ty)) : V → V → V → V → Hp → VK → Prop := fun a b c e H Q => ∃ (gd : Fd) (n f : Nat) (q : Addr) (m : Nat) (Tb : Nat → Talk) (d : Bool) (k D : Nat),
  a = .ref gd.p ∧ b = .ref q ∧ RefAt H d k c ∧ k < m ∧ e = .int D ∧ D ≤ 3 ∧ FeedAt H gd (n + bC D) f Str.empty ∧ TabAt H q m m Tb ∧ q ≠ gd.p ∧ m ≤ 3 ∧
  ∀ v b f' H', Kp gd.p H H' → FeedAt H' gd n f' Str.empty → DfAt H' (nm d k) (sg d k) b v → DfT m Tb (sg d k) b → Q v H'
theorem ok_l_definition (T : Top K mg) : FnG P w K mg base 23 (He.ga K "_law_definition") p_l_definition (S4 (spDef wn wSg)) := by
  refine FnG.of4 T.d_l_definition sc_l_definition rfl fun cdv A outer s H a b c e Q E hr h => ?_
  obtain ⟨gd, n, f, q0, m, Tb, d, k, D, rfl, rfl, hc, hk, rfl, hD, F, hTb, nq, hm, q⟩ := h
  have ok_l_body := fun T => ok_body (P := P) (w := w) (K := K) (mg := mg) (base := base) T D hD
  refine ⟨_, (pss_cons (ps_set (i := 4) sc_l_definition.nd rfl (Or.inl rfl) (pe_callTy call_tuple_of (by rfl) T.f_tuple (by decide +kernel) (pa_cons (pcall (ok_l_body T) (hr.mono (by omega)) T.g_l_body (pa_cons (pv 0) (pa_cons (pv 1) (pa_cons (pv 2) (pa_cons pe_str (pa_cons (pe_lst (pa_cons pe_str pa_nil)) (pa_cons (pe_lst pa_nil) (pa_cons (pv 3) pa_nil)))))))) pa_nil)))
    (pss_one (ps_ret (pe_tup (pa_cons (pcall (ok_l_worker T) (hr.mono (by omega)) T.g_l_worker (pa_cons (pv 2) pa_nil)) (pa_cons (pe_tup (pa_cons (pe_tup (pa_cons pe_str (pa_cons (pv 2) pa_nil))) (pa_cons (pe_tup (pa_cons pe_str (pa_cons pe_str pa_nil))) pa_nil))) (pa_cons (pv 4) (pa_cons pe_int pa_nil)))))))), ?_⟩
  refine ⟨_, rfl, _, rfl, _, rfl, le_line (by show 1 ≤ _; decide), fun li hli => ⟨Nat.zero_le _, fun lo hlo => ?_⟩⟩
  have s1 := (Same.new (o := .lst [.str sN]) hli).trans (Same.new (o := .lst []) hlo)
  refine ⟨_, rfl, gd, n, f, Str.empty, q0, m, Tb, .ref d k, sc, li, [sN], lo, [], rfl, rfl, RefAt.tu (Same.tu s1) hc, hk, Nat.zero_le _, rfl, rfl, rfl, rfl, ⟨F.same s1, hTb.same s1, nq, hm, (Same.new hlo) _ _ upd_same, ⟨[], upd_same, trivial⟩, fun p hp => by cases hp⟩, (by show 1 + D ≤ 10; omega), (by show 0 + D ≤ 10; omega), fun L b f2 H2 k2 F2 lf BB T2 => ?_⟩
  obtain ⟨us, b1, b2, b3⟩ := BB
  refine ⟨L, _, rfl, .inl ⟨SqL.of b1, fun tp htp => ?_⟩⟩
  have s3 := Same.new (o := .tup us) htp
  have t3 := ((Same.tu s1).trans ((F.same s1).tu k2)).trans (Same.tu s3)
  refine ⟨_, rfl, d, k, RefAt.tu t3 hc, by unfold LIM; omega, ?_⟩
  refine ⟨_, rfl, le_line (by show 2 ≤ _; decide), fun p1 hp1 => ⟨le_line (by show 2 ≤ _; decide), fun p2 hp2 => ⟨le_line (by show 2 ≤ _; decide), fun p3 hp3 => ⟨_, rfl, le_line (by show 4 ≤ _; decide), fun p4 hp4 => ?_⟩⟩⟩⟩
  have s6 := Same.new (o := .tup [.str (wn d k), .ref p3, .ref tp, .int 0]) hp4
  have s5 := (Same.new (o := .tup [.ref p1, .ref p2]) hp3).trans s6
  have s4 := (Same.new (o := .tup [.str sN, .str "int"]) hp2).trans s5
  have s34 := (Same.new (o := .tup [.str sc, c]) hp1).trans s4
  refine q _ b f2 _ ((Kp.of s1).trans (k2.trans ((Kp.of s3).trans (Kp.of s34)))) ((F2.same s3).same s34) ⟨p4, p3, tp, _, us, rfl, upd_same, s6 _ _ upd_same, ⟨⟨p1, c, rfl, s4 _ _ upd_same⟩, ⟨p2, _, rfl, s5 _ _ upd_same⟩, trivial⟩, s34 _ _ upd_same, b2.tu (Same.tu (s3.trans s34)), by omega⟩ fun Sg hS => ?_
  exact T2 Sg hS _ (wRel d k f)
theorem putB (l : Addr) (k f : Nat) (b c : Str) : putK (fdK l k f b) kB (.str c) = fdK l k f c := by
  obtain ⟨h1, h2, h3, h4, h5, h6⟩ := ne_k
  simp [putK, fdK, h1, h2, h3, h4, h5, h6]
theorem ok_l_pair_definition (T : Top K mg) : FnG P w K mg base 23 (He.ga K "_law_pair_definition") p_l_pair_definition (S4 (spDef pn pSg)) := by
  refine FnG.of4 T.d_l_pair_definition sc_l_pair_definition rfl fun cdv A outer s H a b c e Q E hr h => ?_
  have hu := hu_of hr
  obtain ⟨gd, n, f, q0, m, Tb, d, k, D, rfl, rfl, hc, hk, rfl, hD, F, hTb, nq, hm, q⟩ := h
  have ok_l_body := fun T => ok_body (P := P) (w := w) (K := K) (mg := mg) (base := base) T D hD
  refine ⟨_, (pss_cons (ps_dput hu (pv 0) pe_str pe_str rfl)
    (pss_cons (ps_set (i := 4) sc_l_pair_definition.nd rfl (Or.inl rfl) (pe_tup (pa_cons pe_str (pa_cons pe_str pa_nil))))
    (pss_cons (ps_set (i := 5) sc_l_pair_definition.nd rfl (Or.inl rfl) (pe_callTy call_tuple_of (by rfl) T.f_tuple (by decide +kernel) (pa_cons (pcall (ok_l_body T) (hr.mono (by omega)) T.g_l_body (pa_cons (pv 0) (pa_cons (pv 1) (pa_cons (pv 2) (pa_cons pe_str (pa_cons (pe_lst (pa_cons pe_str pa_nil)) (pa_cons (pe_lst (pa_cons (pe_tup (pa_cons pe_str (pa_cons (pv 4) pa_nil))) pa_nil)) (pa_cons (pv 3) pa_nil)))))))) pa_nil)))
    (pss_cons (ps_dput hu (pv 0) pe_str pe_str rfl)
    (pss_one (ps_ret (pe_tup (pa_cons (pe_op op_add_str pe_str (pcall (ok_l_worker T) (hr.mono (by omega)) T.g_l_worker (pa_cons (pv 2) pa_nil))) (pa_cons (pe_tup (pa_cons (pe_tup (pa_cons pe_str (pa_cons (pv 2) pa_nil))) (pa_cons (pe_tup (pa_cons pe_str (pa_cons (pv 4) pa_nil))) (pa_cons (pe_tup (pa_cons pe_str (pa_cons pe_str pa_nil))) (pa_cons (pe_tup (pa_cons pe_str (pa_cons pe_str pa_nil))) pa_nil))))) (pa_cons (pv 5) (pa_cons pe_int pa_nil))))))))))), ?_⟩
  obtain ⟨c0, j, h1, ⟨ns, h2, h3⟩, h4, h5, h6, h7⟩ := id F
  have nl : gd.l ≠ gd.p := ne_of h2 h1 (by intro e; cases e)
  refine ⟨_, rfl, gd.p, _, rfl, DPut.k (k := kB) h1 (by show 4 < _; decide), ?_⟩
  rw [putB]
  have k1 : Kp gd.p H (upd H gd.p (.dK (fdK gd.l j f "b"))) := Kp.at_
  have F1 : FeedAt (upd H gd.p (.dK (fdK gd.l j f "b"))) gd (n + bC D) f "b" := ⟨c0, j, upd_same, ⟨ns, by rw [upd_ne nl]; exact h2, h3⟩, h4, h5, h6, h7⟩
  have t1 := F.tu k1
  refine ⟨le_line (by show 2 ≤ _; decide), fun mo hmo => ?_⟩
  have s0 := Same.new (o := .tup [.str "name", .str "T0"]) hmo
  refine ⟨_, rfl, _, rfl, _, rfl, le_line (by show 1 ≤ _; decide), fun li hli => ⟨_, rfl, le_line (by show 2 ≤ _; decide), fun dp hdp => ⟨le_line (by show 1 ≤ _; decide), fun lo hlo => ?_⟩⟩⟩
  have sl := Same.new (o := .lst [.ref dp]) hlo
  have sd0 := (Same.new (o := .tup [.str "d", .ref mo]) hdp).trans sl
  have s1 := s0.trans ((Same.new (o := .lst [.str sN]) hli).trans sd0)
  have hmt : RefAt (upd (upd (upd (upd (upd H gd.p (.dK (fdK gd.l j f "b"))) mo (.tup [.str "name", .str "T0"])) li (.lst [.str sN])) dp (.tup [.str "d", .ref mo])) lo (.lst [.ref dp])) false 0 (.ref mo) := by
    refine ⟨mo, rfl, ((Same.new (o := .lst [.str sN]) hli).trans sd0) _ _ ?_⟩
    rw [upd_same]
    exact congrArg (fun s => some (HO.tup [.str "name", .str s])) (by decide +kernel : ("T0" : Str) = tn 0)
  refine ⟨_, rfl, gd, n, f, "b", q0, m, Tb, .ref d k, sc, li, [sN], lo, [(sd, .ref false 0)], rfl, rfl, RefAt.tu (t1.trans (Same.tu s1)) hc, hk, Nat.zero_le _, rfl, rfl, rfl, rfl, ⟨F1.same s1, (hTb.kp F k1 nq).same s1, nq, hm, sd0 _ _ upd_same, ⟨[.ref dp], upd_same, ⟨dp, _, rfl, sl _ _ upd_same, hmt⟩, trivial⟩, fun p hp => ?_⟩, (by show 1 + D ≤ 10; omega), (by show 1 + D ≤ 10; omega), fun L b f2 H2 k2 F2 lf BB T2 => ?_⟩
  · obtain rfl := List.mem_singleton.mp hp
    exact ⟨by show 0 < m; omega, Nat.zero_le 2⟩
  obtain ⟨us, b1, b2, b3⟩ := BB
  refine ⟨L, _, rfl, .inl ⟨SqL.of b1, fun tp htp => ?_⟩⟩
  have s3 := Same.new (o := .tup us) htp
  have F3 := F2.same s3
  obtain ⟨c1, j1, g1, ⟨ns1, g2, g3⟩, g4, g5, g6, g7⟩ := id F3
  have nl1 : gd.l ≠ gd.p := nl
  refine ⟨_, rfl, gd.p, _, rfl, DPut.k (k := kB) g1 (by show 4 < _; decide), ?_⟩
  rw [putB]
  have k4 : Kp gd.p (upd H2 tp (.tup us)) (upd (upd H2 tp (.tup us)) gd.p (.dK (fdK gd.l j1 f2 Str.empty))) := Kp.at_
  have F4 : FeedAt (upd (upd H2 tp (.tup us)) gd.p (.dK (fdK gd.l j1 f2 Str.empty))) gd n f2 Str.empty := ⟨c1, j1, upd_same, ⟨ns1, by rw [upd_ne nl1]; exact g2, g3⟩, g4, g5, g6, g7⟩
  have t4 := F3.tu k4
  have t3 := ((Same.tu s1).trans ((F1.same s1).tu k2)).trans ((Same.tu s3).trans t4)
  refine ⟨_, rfl, d, k, RefAt.tu (t1.trans t3) hc, by unfold LIM; omega, ?_⟩
  have hkL : k ≤ LIM := by
    unfold LIM
    omega
  have lw : (wn d k).length ≤ 12 := len_w hkL
  have lP : ("P" : Str).length = 1 := by decide +kernel
  refine ⟨_, _, rfl, rfl, le_line (by rw [lP]; omega), ?_⟩
  refine ⟨_, rfl, le_line (by show 2 ≤ _; decide), fun p1 hp1 => ⟨_, rfl, le_line (by show 2 ≤ _; decide), fun p2 hp2 => ⟨le_line (by show 2 ≤ _; decide), fun p3 hp3 => ⟨le_line (by show 2 ≤ _; decide), fun p4 hp4 => ⟨le_line (by show 4 ≤ _; decide), fun p5 hp5 => ⟨_, rfl, le_line (by show 4 ≤ _; decide), fun p6 hp6 => ?_⟩⟩⟩⟩⟩⟩
  have s6 := Same.new (o := .tup [.str (pn d k), .ref p5, .ref tp, .int 0]) hp6
  have s5 := (Same.new (o := .tup [.ref p1, .ref p2, .ref p3, .ref p4]) hp5).trans s6
  have s4 := (Same.new (o := .tup [.str sB, .str "bool"]) hp4).trans s5
  have s31 := (Same.new (o := .tup [.str sN, .str "int"]) hp3).trans s4
  have s21 := (Same.new (o := .tup [.str sd, .ref mo]) hp2).trans s31
  have s11 := (Same.new (o := .tup [.str sc, c]) hp1).trans s21
  refine q _ b f2 _ (k1.trans ((Kp.of s1).trans (k2.trans ((Kp.of s3).trans (k4.trans (Kp.of s11)))))) (F4.same s11) ⟨p6, p5, tp, _, us, rfl, upd_same, s6 _ _ upd_same, ⟨⟨p1, c, rfl, s21 _ _ upd_same⟩, ⟨p2, _, rfl, s31 _ _ upd_same⟩, ⟨p3, _, rfl, s4 _ _ upd_same⟩, ⟨p4, _, rfl, s5 _ _ upd_same⟩, trivial⟩, s11 _ _ (t4 _ _ upd_same), b2.tu ((Same.tu s3).trans (t4.trans (Same.tu s11))), by omega⟩ fun Sg hS => ?_
  exact T2 Sg hS _ (pRel d k f)
end G

/-! part W16 -/
set_option Elab.async false
set_option linter.all false
set_option maxRecDepth 100000
set_option maxHeartbeats 4000000
/-! The main actor. -/
namespace G
open PySem PySem.Spec PyProof.Rows L2
variable {P : Program} {w : World} {K : PySem.W.Frag} {mg : Str → Option Value} {base : Heap}
theorem tabF_len : ∀ (j : Nat) (vs : List V), (tabF j vs).length = vs.length
  | _, [] => rfl
  | j, _ :: vs => congrArg (· + 1) (tabF_len (j + 1) vs)
def sMain : Str := "Main"
def spMain : V → V → Hp → VK → Prop := fun a b H Q => ∃ (gd : Fd) (n f : Nat) (q : Addr) (m : Nat) (Tb : Nat → Talk),
  a = .ref gd.p ∧ b = .ref q ∧ FeedAt H gd (n + 61 + rC 4) f Str.empty ∧ TabW H q m m Tb ∧ q ≠ gd.p ∧ 0 < m ∧ m ≤ 3 ∧
  ∀ v b f' H', Kp gd.p H H' → FeedAt H' gd n f' Str.empty → DfAt H' sMain [] b v → DfT m Tb [] b → Q v H'
theorem ok_l_main (T : Top K mg) : FnG P w K mg base 28 (He.ga K "_law_main") p_l_main (S2 spMain) := by
  refine FnG.of2 T.d_l_main sc_l_main rfl fun cdv A outer s H a b Q E hr h => ?_
  obtain ⟨gd, n, f, q0, m, Tb, rfl, rfl, F, hTb, nq, h0, hm, q⟩ := h
  have ok_l_rest := fun T => ok_rest (P := P) (w := w) (K := K) (mg := mg) (base := base) T
  refine ⟨_, (pss_cons (ps_set (i := 2) sc_l_main.nd rfl (Or.inl rfl) (pe_lst pa_nil))
    (pss_cons (ps_set (i := 3) sc_l_main.nd rfl (Or.inl rfl) (pe_lst pa_nil))
    (pss_cons (ps_for PassesOwn.never rfl (pi_range1 (by rfl) T.f_range (pa_cons (pe_op op_add pe_int (pcall (ok_l_take T) (hr.mono (by omega)) T.g_l_take (pa_cons (pv 0) (pa_cons pe_int pa_nil)))) pa_nil)) (pg_name (i := 4) sc_l_main.nd rfl (Or.inl rfl)) (pss_cons (ps_set (i := 5) sc_l_main.nd rfl (Or.inl rfl) (pe_tup (pa_cons (pe_ix ix_list (pe_lst (pa_cons pe_str (pa_cons pe_str pa_nil))) (pcall (ok_l_take T) (hr.mono (by omega)) T.g_l_take (pa_cons (pv 0) (pa_cons pe_int pa_nil))) (fun _ _ => rfl)) (pa_cons (pe_op op_add_str pe_str (pe_callTy call_str_int (by rfl) T.f_str (by decide +kernel) (pa_cons (pcall (ok_l_take T) (hr.mono (by omega)) T.g_l_take (pa_cons (pv 0) (pa_cons (pe_callB call_lenD (by rfl) T.f_len PySem.boot_len (pa_cons (pv 1) pa_nil)) pa_nil))) pa_nil))) pa_nil))))
    (pss_cons (ps_asg (pcall (ok_l_open T) (hr.mono (by omega)) T.g_l_open (pa_cons (pv 0) (pa_cons (pe_lst pa_nil) (pa_cons (pv 5) (pa_cons (pv 3) pa_nil))))) (pg_unl (by rfl) (pgs_cons (pg_name (i := 6) sc_l_main.nd rfl (Or.inl rfl)) (pgs_cons (pg_name (i := 7) sc_l_main.nd rfl (Or.inl rfl)) (pgs_cons (pg_name (i := 3) sc_l_main.nd rfl (Or.inl rfl)) pgs_nil)))))
    (pss_cons (ps_expr (pe_bm PySem.F.plainAttrs_list PySem.F.slot_list_append PySem.F.type_list_append mt_append (pv 2) (pa_cons (pv 7) pa_nil)))
    (pss_one (ps_set (i := 3) sc_l_main.nd rfl (Or.inl rfl) (pe_op op_cat (pv 3) (pe_lst (pa_cons (pe_tup (pa_cons (pv 6) (pa_cons (pv 5) pa_nil))) pa_nil)))))))))
    (pss_one (ps_ret (pe_tup (pa_cons pe_str (pa_cons (pe_tup pa_nil) (pa_cons (pe_callTy call_tuple_of (by rfl) T.f_tuple (by decide +kernel) (pa_cons (pe_op op_cat (pv 2) (pcall (ok_l_rest T) (hr.mono (by omega)) T.g_l_rest (pa_cons (pv 0) (pa_cons (pv 1) (pa_cons (pe_lst pa_nil) (pa_cons (pv 3) (pa_cons pe_int pa_nil))))))) pa_nil)) (pa_cons pe_int pa_nil)))))))))), ?_⟩
  refine ⟨Nat.zero_le _, fun LR hLR => ⟨Nat.zero_le _, fun lo0 hlo0 => ?_⟩⟩
  have s1 := (Same.new (o := .lst []) hLR).trans (Same.new (o := .lst []) hlo0)
  have F1 := F.same s1
  have e0 : (upd (upd H LR (.lst [])) lo0 (.lst [])) LR = some (.lst []) := (Same.new hlo0) _ _ upd_same
  have n00 : lo0 ≠ LR := (ne_of_none upd_same hlo0).symm
  have nLR := F.not hLR
  refine ⟨_, rfl, gd, n + 60 + rC 4, f, Str.empty, 3, rfl, rfl, by decide, F1.le (by omega), fun y H2 y0 y3 k2 F2 => ?_⟩
  obtain ⟨y, rfl⟩ := Int.eq_ofNat_of_zero_le y0
  refine ⟨_, _, rfl, rfl, ((1 + y : Nat) : Int), rfl, by omega, by omega, for_range (n := 1 + y) (fun i σ H' => ∃ (v4 v5 v6 v7 : Option V) (f' : Nat) (lo : Addr) (os : Os) (vs : List V) (pr : Blk → Blk),
    σ = [some (.ref gd.p), some (.ref q0), some (.ref LR), some (.ref lo), v4, v5, v6, v7] ∧ Kp gd.p H H' ∧ FeedAt H' gd (n + (3 - i) * 20 + rC 4) f' Str.empty ∧ OthAt H' lo os ∧ OsOk m os ∧ os.length ≤ i ∧ lo ≠ LR ∧ H' LR = some (.lst vs) ∧ vs.length ≤ i ∧
    (∀ H'' b us, Tu H' H'' → BlkAt H'' b us → BlkAt H'' (pr b) (vs ++ us)) ∧ ∀ Sg, SgOk m Sg → ∀ b, (∀ g, Rel g f' [] Str.empty os → b.T Tb Sg g) → ∀ g, Rel g f [] Str.empty [] → (pr b).T Tb Sg g)
    ⟨none, none, none, none, f, lo0, [], [], fun b => b, rfl, (Kp.of s1).trans k2, F2.le (by omega), ⟨[], F1.lst k2 upd_same, trivial⟩, fun p hp => (by cases hp), Nat.le_refl _, n00, F1.lst k2 e0, Nat.le_refl _, fun H'' b us _ h => h, fun Sg hS b hb g R => hb g R⟩ ?_ ?_⟩
  · rintro i σ H3 hi ⟨v4, v5, v6, v7, f', lo, os, vs, pr, rfl, k3, F3, O3, oo, lo3, nlo, hvs, lvs, hA, hT⟩
    have e20 : (3 - i) * 20 = (3 - (i + 1)) * 20 + 20 := mul3 i 20 (by omega)
    refine ⟨le_line (by show 2 ≤ _; decide), fun l1 hl1 => ?_⟩
    refine ⟨_, rfl, gd, n + (3 - (i + 1)) * 20 + rC 4 + 19, f', Str.empty, 2, rfl, rfl, by decide, (F3.new hl1).le (by omega), fun z1 H4 z0 z2 k4 F4 => ?_⟩
    have F3' := F3.new (o := .lst [.str "name", .str "dual"]) hl1
    refine ⟨l1, _, _, _, rfl, rfl, SqL.of (F3'.lst k4 upd_same), at2 z0 z2, ?_⟩
    have T4 : TabW H4 q0 m m Tb := hTb.kp F (k3.trans ((Kp.new hl1).trans k4)) nq
    obtain ⟨ts, t1, t2, t3⟩ := id T4.ex
    refine ⟨_, rfl, _, rfl, q0, _, rfl, t1, gd, n + (3 - (i + 1)) * 20 + rC 4 + 18, f', Str.empty, _, rfl, rfl, ?_, F4.le (by omega), fun z3 H5 z4 z5 k5 F5 => ?_⟩
    · rw [tabF_len]
      omega
    obtain ⟨z3, rfl⟩ := Int.eq_ofNat_of_zero_le z4
    rw [tabF_len] at z5
    have hz3 : z3 < m := by omega
    have hzL : z3 ≤ LIM := by
      unfold LIM
      omega
    refine ⟨_, rfl, log2_small hzL, _, _, rfl, rfl, len_T hzL, le_line (by show 2 ≤ _; decide), fun kd hkd => ?_⟩
    have hkR : RefAt (upd H5 kd (.tup [.str (dn (decide (z1 = 1))), .str (tn z3)])) (decide (z1 = 1)) z3 (.ref kd) := ⟨kd, rfl, upd_same⟩
    refine ⟨_, rfl, Nat.zero_le _, fun l2 hl2 => ?_⟩
    have s6 := (Same.new (o := .tup [.str (dn (decide (z1 = 1))), .str (tn z3)]) hkd).trans (Same.new (o := .lst []) hl2)
    have k35 := (Kp.new (o := .lst [.str "name", .str "dual"]) hl1).trans (k4.trans (k5.trans (Kp.of s6)))
    refine ⟨_, rfl, _, rfl, gd, n + (3 - (i + 1)) * 20 + rC 4, f', Str.empty, l2, [], decide (z1 = 1), z3, lo, os, m, rfl, rfl, RefAt.tu (Tu.new hl2) hkR, rfl, (F5.same s6).le (by omega), upd_same, F3.oth k35 O3, oo, hz3, hm, by omega, fun L5 lo2 st q5 as es A os2 H6 k6 F6 lf6 e5 e6 e7 A5 O5 oo5 lo5 nlo5 OT => ?_⟩
    have k36 := k35.trans k6
    have eL6 : H6 LR = some (.lst vs) := F3.lst k36 hvs
    have eL5 := F3.lst k35 hvs
    refine ⟨L5, _, rfl, SqL.of e5, rfl, _, _, rfl, _, _, rfl, _, _, rfl, rfl, ?_⟩
    refine ⟨_, rfl, .inl ⟨rfl, _, SqL.of eL6⟩, _, rfl, LR, _, _, rfl, rfl, eL6, lt_line (by omega), ?_⟩
    have nlo2 : lo2 ≠ LR := by
      rcases nlo5 with e | e
      · rw [e]
        exact nlo
      · intro e2
        subst e2
        exact absurd (eL5.symm.trans e) (by intro h; cases h)
    have t6 : Tu H6 (upd H6 LR (.lst (vs ++ [.ref st]))) := Tu.at_ eL6 (by intro xs e; cases e)
    obtain ⟨ws, w1, w2⟩ := id O5
    have lw := w2.len
    refine ⟨_, rfl, _, rfl, _, rfl, le_line (by show 2 ≤ _; decide), fun tp htp => ⟨le_line (by show 1 ≤ _; decide), fun l7 hl7 => ?_⟩⟩
    have s7 := (Same.new (o := .tup [.str (xn (f' + 1)), .ref kd]) htp).trans (Same.new (o := .lst [.ref tp]) hl7)
    have w1' : (upd H6 LR (.lst (vs ++ [.ref st]))) lo2 = some (.lst ws) := by
      rw [upd_ne nlo2]
      exact w1
    refine ⟨lo2, l7, _, _, rfl, rfl, s7 _ _ w1', upd_same, le_line (by show _ + 1 ≤ _; omega), fun l8 hl8 => ?_⟩
    have s8 := s7.trans (Same.new (o := .lst (ws ++ [.ref tp])) hl8)
    have n8 : l8 ≠ LR := (ne_of_none (s7 _ _ upd_same) hl8).symm
    have t68 := t6.trans (Same.tu s8)
    have t56 := (F5.same s6).tu k6
    refine ⟨_, _, _, _, f' + 1, l8, os2 ++ [(xn (f' + 1), .ref (decide (z1 = 1)) z3)], vs ++ [.ref st], fun b => pr (.open_ (xn (f' + 1)) A es b), rfl, ((k3.trans k36).put hLR).trans (Kp.of s8), ((F6.put nLR).same s8).le (by omega), ⟨_, upd_same, OthV.app (us := [.ref tp]) (ps := [(xn (f' + 1), .ref (decide (z1 = 1)) z3)]) (w2.tu t68) ⟨⟨tp, _, rfl, (Same.new hl8) _ _ ((Same.new hl7) _ _ upd_same), RefAt.tu ((Tu.new hl2).trans (t56.trans t68)) hkR⟩, trivial⟩⟩, fun p hp => ?_, ?_, n8, s8 _ _ upd_same, ?_, fun H'' b us tt hb => ?_, fun Sg hS b hb g R => ?_⟩
    · rcases List.mem_append.mp hp with hp | hp
      · exact oo5 p hp
      · obtain rfl := List.mem_singleton.mp hp
        exact ⟨hz3, Nat.zero_le 2⟩
    · rw [List.length_append]
      show os2.length + 1 ≤ i + 1
      omega
    · rw [List.length_append]
      show vs.length + 1 ≤ i + 1
      omega
    · refine Eq.subst (motive := fun l => BlkAt _ _ l) (List.append_assoc vs [V.ref st] us).symm ?_
      have t6' := t68.trans tt
      exact hA H'' _ _ ((F3.tu k36).trans t6') ⟨st, q5, as, us, rfl, t6' _ _ e6, t6' _ _ e7, A5.tu t6', hb⟩
    · refine hT Sg hS _ (fun g' R' => OT.use lf6 hS (rs := []) (fun g2 R2 => hb g2 ?_) g' ?_) g R
      · rw [List.append_nil] at R2
        exact R2
      · rw [List.append_nil]
        exact R'
  · rintro σ H3 ⟨v4, v5, v6, v7, f', lo, os, vs, pr, rfl, k3, F3, O3, oo, lo3, nlo, hvs, lvs, hA, hT⟩
    refine ⟨Nat.zero_le _, fun et het => ?_⟩
    refine ⟨_, rfl, _, rfl, _, rfl, Nat.zero_le _, fun l9 hl9 => ?_⟩
    have s4 := (Same.new (o := .tup []) het).trans (Same.new (o := .lst []) hl9)
    have F4 := F3.same s4
    refine ⟨_, rfl, gd, n, f', Str.empty, q0, m, Tb, l9, [], lo, os, rfl, rfl, rfl, rfl, rfl, ⟨F4.le (by omega), (hTb.kp F (k3.trans (Kp.of s4)) nq).tab, nq, hm, upd_same, O3.same s4, oo⟩, (by decide), by omega, fun Lr b f9 H9 k9 F9 lf BB T9 => ?_⟩
    obtain ⟨us, b1, b2, b3⟩ := BB
    have eL9 : H9 LR = some (.lst vs) := F4.lst k9 (s4 _ _ hvs)
    have r48 : rB 4 = 48 := rfl
    refine ⟨LR, Lr, _, _, rfl, rfl, eL9, b1, le_line (by show vs.length + us.length ≤ _; omega), fun L10 hL10 => ?_⟩
    refine ⟨L10, _, rfl, .inl ⟨SqL.up, fun tp htp => ?_⟩⟩
    refine ⟨le_line (by show 4 ≤ _; decide), fun dp hdp => ?_⟩
    have s10 := (Same.new (o := .lst (vs ++ us)) hL10).trans ((Same.new (o := .tup (vs ++ us)) htp).trans (Same.new (o := .tup [.str sMain, .ref et, .ref tp, .int 0]) hdp))
    have t9 := (F4.tu k9).trans (Same.tu s10)
    refine q _ (pr b) f9 _ (k3.trans ((Kp.of s4).trans (k9.trans (Kp.of s10)))) (F9.same s10) ⟨dp, et, tp, [], vs ++ us, rfl, upd_same, t9 _ _ ((Same.new hl9) _ _ upd_same), trivial, (Same.new hdp) _ _ upd_same, hA _ _ _ ((Same.tu s4).trans t9) (b2.tu (Same.tu s10)), by rw [List.length_append]; omega⟩ fun Sg hS => ?_
    exact hT Sg hS _ (T9 Sg hS) _ ⟨fun x hx => (by cases hx), fun h => absurd rfl h, fun x t => ⟨fun h => (by cases h), fun h => (by cases h)⟩, fun x hx => absurd rfl hx, List.nodup_nil⟩
end G

/-! part W17 -/
set_option Elab.async false
set_option linter.all false
set_option maxRecDepth 100000
set_option maxHeartbeats 4000000
/-! All definitions. -/
namespace G
open PySem PySem.Spec PyProof.Rows L2
variable {P : Program} {w : World} {K : PySem.W.Frag} {mg : Str → Option Value} {base : Heap}
abbrev Hdr := Str × List (Str × Ty)
def DfsV (H : Hp) (m : Nat) (Tb : Nat → Talk) : List V → List Hdr → List Blk → Prop
  | [], [], [] => True
  | v :: vs, h :: hs, b :: bs => (DfAt H h.1 h.2 b v ∧ DfT m Tb h.2 b) ∧ DfsV H m Tb vs hs bs
  | _, _, _ => False
theorem DfsV.tu {H H' : Hp} {m : Nat} {Tb : Nat → Talk} (s : Tu H H') : ∀ {vs : List V} {hs : List Hdr} {bs : List Blk}, DfsV H m Tb vs hs bs → DfsV H' m Tb vs hs bs
  | [], [], [], _ => trivial
  | v :: vs, h :: hs, b :: bs, ⟨⟨a1, a2⟩, a3⟩ => ⟨⟨a1.tu s, a2⟩, DfsV.tu s a3⟩
  | [], [], _ :: _, h => h.elim
  | [], _ :: _, _, h => h.elim
  | _ :: _, [], _, h => h.elim
  | _ :: _, _ :: _, [], h => h.elim
theorem DfsV.snoc {H : Hp} {m : Nat} {Tb : Nat → Talk} {v : V} {h : Hdr} {b : Blk} (x : DfAt H h.1 h.2 b v) (y : DfT m Tb h.2 b) : ∀ {vs : List V} {hs : List Hdr} {bs : List Blk}, DfsV H m Tb vs hs bs → DfsV H m Tb (vs ++ [v]) (hs ++ [h]) (bs ++ [b])
  | [], [], [], _ => ⟨⟨x, y⟩, trivial⟩
  | _ :: vs, _ :: hs, _ :: bs, ⟨a, a3⟩ => ⟨a, DfsV.snoc x y a3⟩
  | [], [], _ :: _, h => h.elim
  | [], _ :: _, _, h => h.elim
  | _ :: _, [], _, h => h.elim
  | _ :: _, _ :: _, [], h => h.elim
theorem DfsV.len {H : Hp} {m : Nat} {Tb : Nat → Talk} : ∀ {vs : List V} {hs : List Hdr} {bs : List Blk}, DfsV H m Tb vs hs bs → vs.length = hs.length
  | [], [], [], _ => rfl
  | _ :: vs, _ :: hs, _ :: bs, ⟨_, a3⟩ => congrArg (· + 1) (DfsV.len a3)
  | [], [], _ :: _, h => h.elim
  | [], _ :: _, _, h => h.elim
  | _ :: _, [], _, h => h.elim
  | _ :: _, _ :: _, [], h => h.elim
def four (k : Nat) : List Hdr := [(wn false k, wSg false k), (wn true k, wSg true k), (pn false k, pSg false k), (pn true k, pSg true k)]
def defsN : Nat → List Hdr
  | 0 => []
  | k + 1 => defsN k ++ four k
theorem defsN_len : ∀ m, (defsN m).length = 4 * m
  | 0 => rfl
  | k + 1 => by
    show (defsN k ++ four k).length = _
    rw [List.length_append, defsN_len k]
    show 4 * k + 4 = _
    omega
theorem tabF_at : ∀ (j : Nat) (vs : List V) {i : Nat} {k : Key} {v : V}, (tabF j vs)[i]? = some (k, v) → k = .inr (tn (j + i))
  | j, [], i, k, v, h => by simp [tabF] at h
  | j, x :: vs, 0, k, v, h => by
    cases h
    rfl
  | j, x :: vs, i + 1, k, v, h => by
    have := tabF_at (j + 1) vs (i := i) h
    rw [this]
    congr 2
    omega
/-- what is made so far while the table is locked -/
structure Dacc (H H' : Hp) (gd : Fd) (q : Addr) (u : HO) (od : Obj) (L : Addr) (n f m : Nat) (Tb : Nat → Talk) (vs : List V) (hs : List Hdr) (bs : List Blk) : Prop where
  k : ∀ b o, b ≠ gd.p → b ≠ q → H b = some o → H' b = some o
  z : H' q = some (.frz od u)
  F : FeedAt H' gd n f Str.empty
  T : TabAt H' q m m Tb
  l : H' L = some (.lst vs)
  d : DfsV H' m Tb vs hs bs
section
variable {H H' H1 : Hp} {gd : Fd} {q L : Addr} {u : HO} {od : Obj} {n n' f f' m : Nat} {Tb : Nat → Talk} {vs : List V} {hs : List Hdr} {bs : List Blk}
theorem Dacc.new {t : Addr} {o : HO} (A : Dacc H H' gd q u od L n f m Tb vs hs bs) (ht : H' t = none) : Dacc H (upd H' t o) gd q u od L n f m Tb vs hs bs := by
  have s := Same.new (o := o) ht
  exact ⟨fun b v h1 h2 e => s _ _ (A.k b v h1 h2 e), s _ _ A.z, A.F.same s, A.T.same s, s _ _ A.l, A.d.tu (Same.tu s)⟩
theorem Dacc.kp (A : Dacc H H' gd q u od L n f m Tb vs hs bs) (k : Kp gd.p H' H1) (nq : q ≠ gd.p) (F : FeedAt H1 gd n' f' Str.empty) : Dacc H H1 gd q u od L n' f' m Tb vs hs bs :=
  ⟨fun b v h1 h2 e => k _ _ h1 (A.k b v h1 h2 e), k _ _ nq A.z, F, A.T.kp A.F k nq, A.F.lst k A.l, A.d.tu (A.F.tu k)⟩
theorem Dacc.add {v : V} {h : Hdr} {b : Blk} (A : Dacc H H' gd q u od L n f m Tb vs hs bs) (h0 : H L = none) (nL : gd.p ≠ L ∧ gd.l ≠ L) (x : DfAt H' h.1 h.2 b v) (y : DfT m Tb h.2 b) :
    Dacc H (upd H' L (.lst (vs ++ [v]))) gd q u od L n f m Tb (vs ++ [v]) (hs ++ [h]) (bs ++ [b]) := by
  have tu : Tu H' (upd H' L (.lst (vs ++ [v]))) := Tu.at_ A.l (by intro xs e; cases e)
  have nq : q ≠ L := ne_of A.z A.l (by intro e; cases e)
  refine ⟨fun c o h1 h2 e => ?_, ?_, A.F.put nL, A.T.tu tu fun o e => ?_, upd_same, (A.d.tu tu).snoc (x.tu tu) y⟩
  · rw [upd_ne (ne_of_none e h0)]
    exact A.k c o h1 h2 e
  · rw [upd_ne nq]
    exact A.z
  · rw [upd_ne nq]
    exact e
end
def cDef : Nat := 2 * bC 3 + 2 * bC 2
def spDefs : V → V → V → Hp → VK → Prop := fun a b c H Q => ∃ (gd : Fd) (n f : Nat) (q : Addr) (m : Nat) (Tb : Nat → Talk),
  a = .ref gd.p ∧ b = .ref q ∧ c = .int 3 ∧ FeedAt H gd (n + 3 * cDef) f Str.empty ∧ TabW H q m m Tb ∧ q ≠ gd.p ∧ 0 < m ∧ m ≤ 3 ∧
  ∀ L vs bs H', Kp gd.p H H' → H L = none → H' L = some (.lst vs) → DfsV H' m Tb vs (defsN m) bs → Q (.ref L) H'
theorem ok_l_definitions (T : Top K mg) : FnG P w K mg base 24 (He.ga K "_law_definitions") p_l_definitions (S3 spDefs) := by
  refine FnG.of3 T.d_l_definitions sc_l_definitions rfl fun cdv A outer s H a b c Q E hr h => ⟨_, (pss_cons (ps_set (i := 3) sc_l_definitions.nd rfl (Or.inl rfl) (pe_lst pa_nil))
    (pss_cons (ps_lock (ps_for PassesOwn.never rfl (pi_keys (pv 1)) (pg_name (i := 4) sc_l_definitions.nd rfl (Or.inl rfl)) (pss_cons (ps_expr (pe_bm PySem.F.plainAttrs_list PySem.F.slot_list_append PySem.F.type_list_append mt_append (pv 3) (pa_cons (pcall (ok_l_definition T) (hr.mono (by omega)) T.g_l_definition (pa_cons (pv 0) (pa_cons (pv 1) (pa_cons (pe_tup (pa_cons pe_str (pa_cons (pv 4) pa_nil))) (pa_cons (pv 2) pa_nil))))) pa_nil)))
    (pss_cons (ps_expr (pe_bm PySem.F.plainAttrs_list PySem.F.slot_list_append PySem.F.type_list_append mt_append (pv 3) (pa_cons (pcall (ok_l_definition T) (hr.mono (by omega)) T.g_l_definition (pa_cons (pv 0) (pa_cons (pv 1) (pa_cons (pe_tup (pa_cons pe_str (pa_cons (pv 4) pa_nil))) (pa_cons (pv 2) pa_nil))))) pa_nil)))
    (pss_cons (ps_expr (pe_bm PySem.F.plainAttrs_list PySem.F.slot_list_append PySem.F.type_list_append mt_append (pv 3) (pa_cons (pcall (ok_l_pair_definition T) (hr.mono (by omega)) T.g_l_pair_definition (pa_cons (pv 0) (pa_cons (pv 1) (pa_cons (pe_tup (pa_cons pe_str (pa_cons (pv 4) pa_nil))) (pa_cons (pe_callB (call_max2 rfl) (by rfl) T.f_max (by decide +kernel) (pa_cons pe_int (pa_cons (pe_op op_sub (pv 2) pe_int) pa_nil))) pa_nil))))) pa_nil)))
    (pss_one (ps_expr (pe_bm PySem.F.plainAttrs_list PySem.F.slot_list_append PySem.F.type_list_append mt_append (pv 3) (pa_cons (pcall (ok_l_pair_definition T) (hr.mono (by omega)) T.g_l_pair_definition (pa_cons (pv 0) (pa_cons (pv 1) (pa_cons (pe_tup (pa_cons pe_str (pa_cons (pv 4) pa_nil))) (pa_cons (pe_callB (call_max2 rfl) (by rfl) T.f_max (by decide +kernel) (pa_cons pe_int (pa_cons (pe_op op_sub (pv 2) pe_int) pa_nil))) pa_nil))))) pa_nil)))))))))
    (pss_one (ps_ret (pv 3))))), ?_⟩
  obtain ⟨gd, n, f, q0, m, Tb, rfl, rfl, rfl, F, hTb, nq, h0, hm, q⟩ := h
  refine ⟨Nat.zero_le _, fun L hL => ?_⟩
  have s1 := Same.new (o := .lst []) hL
  obtain ⟨ts, t1, t2, t3⟩ := id (hTb.same s1).ex
  have nL := F.not hL
  obtain ⟨kd, hkd⟩ := (F.same s1).d
  have nql : gd.l ≠ q0 := by
    obtain ⟨_, _, _, ⟨ns, h2, _⟩, _⟩ := F.same s1
    exact ne_of h2 t1 (by intro e; cases e)
  refine ⟨q0, _, t1, trivial, fun od => ?_⟩
  have tl : Tu (upd H L (.lst [])) (upd (upd H L (.lst [])) q0 (.frz od (.dK (tabF 0 ts)))) := Tu.at_ t1 (by intro xs e; cases e)
  have A0 : Dacc H (upd (upd H L (.lst [])) q0 (.frz od (.dK (tabF 0 ts)))) gd q0 (.dK (tabF 0 ts)) od L (n + 3 * cDef) f m Tb [] [] [] := by
    refine ⟨fun b o h1 h2 e => ?_, upd_same, (F.same s1).put ⟨nq.symm, nql⟩, ⟨ts, .inr ⟨od, upd_same⟩, t2, fun k v hk => ⟨(t3 k v hk).1.tu tl, (t3 k v hk).2⟩⟩, ?_, trivial⟩
    · rw [upd_ne h2]
      exact s1 _ _ e
    · rw [upd_ne (ne_of upd_same t1 (by intro e; cases e))]
      exact upd_same
  refine ⟨_, rfl, q0, od, rfl, .inl ⟨_, upd_same, ?_⟩⟩
  have hl : (tabF 0 ts).length = m := by rw [tabF_len, t2]
  refine for_it walk_keys (fun i σ H' => ∃ (v4 : Option V) (f' : Nat) (vs : List V) (bs : List Blk), σ = [some (.ref gd.p), some (.ref q0), some (.int 3), some (.ref L), v4] ∧
    Dacc H H' gd q0 (.dK (tabF 0 ts)) od L (n + (3 - i) * cDef) f' m Tb vs (defsN i) bs) ⟨none, f, [], [], rfl, A0⟩ (fun i σ H' _ ⟨_, _, _, _, _, A⟩ => A.z) ?_ ?_
  · rintro i x σ H2 _ hi ⟨v4, f2, vs, bs, rfl, A⟩ ⟨rfl, k, v, hk, rfl⟩
    obtain rfl : k = .inr (tn i) := by
      have := tabF_at 0 ts hk
      rw [Nat.zero_add] at this
      exact this
    rw [hl] at hi
    have ec : (3 - i) * cDef = (3 - (i + 1)) * cDef + cDef := mul3 i cDef (by omega)
    have e3 : bC 3 = 2796 := rfl
    have e2 : bC 2 = 684 := rfl
    have eC : cDef = 6960 := rfl
    have ld := A.d.len
    rw [defsN_len] at ld
    refine ⟨_, rfl, .inl ⟨rfl, _, SqL.of A.l⟩, ?_⟩
    refine ⟨_, rfl, _, rfl, _, rfl, le_line (by show 2 ≤ _; decide), fun a1 h1 => ⟨_, rfl, gd, n + (3 - (i + 1)) * cDef + cDef - 2796, f2, q0, m, Tb, false, i, 3, rfl, rfl, ⟨a1, rfl, upd_same⟩, hi, rfl, Nat.le_refl _, (A.new h1).F.le (by omega), (A.new h1).T, nq, hm, fun v1 b1 f3 H3 k3 F3 D3 T3 => ?_⟩⟩
    have A3 := (A.new h1).kp k3 nq F3
    refine ⟨L, _, _, rfl, rfl, A3.l, lt_line (by omega), ?_⟩
    have B3 := A3.add (h := (wn false i, wSg false i)) hL nL D3 T3
    refine ⟨_, rfl, .inl ⟨rfl, _, SqL.of B3.l⟩, ?_⟩
    refine ⟨_, rfl, _, rfl, _, rfl, le_line (by show 2 ≤ _; decide), fun a2 h2 => ⟨_, rfl, gd, n + (3 - (i + 1)) * cDef + cDef - 2 * 2796, f3, q0, m, Tb, true, i, 3, rfl, rfl, ⟨a2, rfl, upd_same⟩, hi, rfl, Nat.le_refl _, (B3.new h2).F.le (by omega), (B3.new h2).T, nq, hm, fun v2 b2 f4 H4 k4 F4 D4 T4 => ?_⟩⟩
    have A4 := (B3.new h2).kp k4 nq F4
    refine ⟨L, _, _, rfl, rfl, A4.l, lt_line (by rw [List.length_append]; show vs.length + 1 < _; omega), ?_⟩
    have B4 := A4.add (h := (wn true i, wSg true i)) hL nL D4 T4
    refine ⟨_, rfl, .inl ⟨rfl, _, SqL.of B4.l⟩, ?_⟩
    refine ⟨_, rfl, _, rfl, _, rfl, le_line (by show 2 ≤ _; decide), fun a3 h3 => ⟨_, rfl, _, _, rfl, rfl, _, _, rfl, gd, n + (3 - (i + 1)) * cDef + cDef - 2 * 2796 - 684, f4, q0, m, Tb, false, i, 2, rfl, rfl, ⟨a3, rfl, upd_same⟩, hi, rfl, by decide, (B4.new h3).F.le (by omega), (B4.new h3).T, nq, hm, fun v3 b3 f5 H5 k5 F5 D5 T5 => ?_⟩⟩
    have A5 := (B4.new h3).kp k5 nq F5
    refine ⟨L, _, _, rfl, rfl, A5.l, lt_line (by rw [List.length_append, List.length_append]; show vs.length + 1 + 1 < _; omega), ?_⟩
    have B5 := A5.add (h := (pn false i, pSg false i)) hL nL D5 T5
    refine ⟨_, rfl, .inl ⟨rfl, _, SqL.of B5.l⟩, ?_⟩
    refine ⟨_, rfl, _, rfl, _, rfl, le_line (by show 2 ≤ _; decide), fun a4 h4 => ⟨_, rfl, _, _, rfl, rfl, _, _, rfl, gd, n + (3 - (i + 1)) * cDef, f5, q0, m, Tb, true, i, 2, rfl, rfl, ⟨a4, rfl, upd_same⟩, hi, rfl, by decide, (B5.new h4).F.le (by omega), (B5.new h4).T, nq, hm, fun v4 b4 f6 H6 k6 F6 D6 T6 => ?_⟩⟩
    have A6 := (B5.new h4).kp k6 nq F6
    refine ⟨L, _, _, rfl, rfl, A6.l, lt_line (by rw [List.length_append, List.length_append, List.length_append]; show vs.length + 1 + 1 + 1 < _; omega), ?_⟩
    have B6 := A6.add (h := (pn true i, pSg true i)) hL nL D6 T6
    refine ⟨_, f6, vs ++ [v1] ++ [v2] ++ [v3] ++ [v4], bs ++ [b1] ++ [b2] ++ [b3] ++ [b4], rfl, ?_⟩
    have ea : defsN i ++ [(wn false i, wSg false i)] ++ [(wn true i, wSg true i)] ++ [(pn false i, pSg false i)] ++ [(pn true i, pSg true i)] = defsN (i + 1) := by
      show _ = defsN i ++ four i
      unfold four
      simp
    rw [← ea]
    exact B6
  · rintro σ H2 ⟨v4, f2, vs, bs, rfl, A⟩
    rw [hl] at A
    refine ⟨A.z, _, rfl, ?_⟩
    have tu : Tu H2 (upd H2 q0 (.dK (tabF 0 ts))) := Tu.at_ A.z (by intro xs e; cases e)
    refine q L vs bs _ (fun b o hb e => ?_) hL ?_ (A.d.tu tu)
    · by_cases h : b = q0
      · subst h
        have := s1 _ _ e
        rw [t1] at this
        rw [upd_same]
        exact this
      · rw [upd_ne h]
        exact A.k b o hb h e
    · rw [upd_ne (ne_of A.l A.z (by intro e; cases e))]
      exact A.l
end G

/-! part W18 -/
set_option Elab.async false
set_option linter.all false
set_option maxRecDepth 100000
set_option maxHeartbeats 4000000
/-! The program's object. -/
namespace G
open PySem PySem.Spec PyProof.Rows L2
variable {P : Program} {w : World} {K : PySem.W.Frag} {mg : Str → Option Value} {base : Heap}
def fTalks : Str := "_talks"
def fActs : Str := "_actors"
abbrev prO (K : PySem.W.Frag) (dx t q : Addr) : HO := .ins (He.ga K "Program") dx [(fTalks, .ref t), (fActs, .ref q)]
def spPrInit (K : PySem.W.Frag) : V → Hp → VK → Prop := fun a H Q => ∃ x dx, a = .ref x ∧ H x = some (.ins (He.ga K "Program") dx []) ∧
  ∀ t q H', Kp x H H' → H t = none → H q = none → t ≠ q → t ≠ x → q ≠ x → H' t = some (.dK []) → H' q = some (.dK []) → H' x = some (prO K dx t q) → Q .non H'
theorem ok_pr_init (T : Top K mg) : FnG P w K mg base 1 (He.ma K (He.ga K "Program") "__init__") p_pr_init (S1 (spPrInit K)) := by
  refine FnG.of1 T.d_pr_init sc_pr_init rfl fun cdv A outer s H a Q E hr h => ⟨_, (pss_cons (ps_fld (pv 0) pe_dnewK rfl)
    (pss_one (ps_fld (pv 0) pe_dnewK rfl))), ?_⟩
  obtain ⟨x, dx, rfl, hx, q⟩ := h
  refine fun t ht => ⟨_, rfl, x, _, dx, [], rfl, (Same.new ht) _ _ hx, T.c_pr, T.a_pr_talks, by decide, ?_⟩
  have nt : x ≠ t := ne_of_none hx ht
  refine fun q1 hq => ⟨_, rfl, x, _, dx, _, rfl, (Same.new hq) _ _ upd_same, T.c_pr, T.a_pr_actors, (by show 1 < 1000; decide), ?_⟩
  have nq : x ≠ q1 := ne_of_none upd_same hq
  have ht1 : (upd (upd H t (.dK [])) x (.ins (He.ga K "Program") dx (putF "_talks" (.ref t) []))) t = some (.dK []) := by
    rw [upd_ne nt.symm]
    exact upd_same
  have ntq : t ≠ q1 := ne_of_none ht1 hq
  have hq0 : H q1 = none := by
    rw [upd_ne nq.symm, upd_ne ntq.symm] at hq
    exact hq
  refine q t q1 _ (fun b o hb e => ?_) ht hq0 ntq nt.symm nq.symm ?_ ?_ upd_same
  · rw [upd_ne hb, upd_ne (ne_of_none e hq0), upd_ne hb, upd_ne (ne_of_none e ht)]
    exact e
  · rw [upd_ne nt.symm, upd_ne ntq]
    exact ht1
  · rw [upd_ne nq.symm]
    exact upd_same
def spAddTalk (K : PySem.W.Frag) : V → V → V → Hp → VK → Prop := fun a b c H Q => ∃ (x dx t q : Addr) (nm : Str) (kvs : List (Key × V)), a = .ref x ∧ b = .str nm ∧ H x = some (prO K dx t q) ∧ H t = some (.dK kvs) ∧ valV kvs (.inr nm) = none ∧ kvs.length < 100 ∧
  Q .non (upd H t (.dK (putK kvs (.inr nm) c)))
theorem ok_pr_add_talk (T : Top K mg) : FnG P w K mg base 1 (He.ma K (He.ga K "Program") "add_talk") p_pr_add_talk (S3 (spAddTalk K)) := by
  refine FnG.of3 T.d_pr_add_talk sc_pr_add_talk rfl fun cdv A outer s H a b c Q E hr h => ?_
  have hu := hu_of hr
  refine ⟨_, (pss_cons (ps_if (pt_cmp (pc_din hu (pv 1) (pe_fld (pv 0) rfl))) pss_never pss_nil)
    (pss_one (ps_dput hu (pe_fld (pv 0) rfl) (pv 1) (pv 2) rfl))), ?_⟩
  obtain ⟨x, dx, t, q0, nm, kvs, rfl, rfl, hx, ht, hv, hl, q⟩ := h
  have g : DGet H t (.str nm) none := by
    rw [← hv]
    exact DGet.k (k := .inr nm) ht
  refine ⟨_, rfl, _, rfl, x, _, dx, _, .ref t, rfl, hx, T.c_pr, T.a_pr_talks, rfl, t, none, rfl, g, _, rfl, ite2 (fun c => absurd c (by decide)) (fun c => ?_)⟩
  refine ⟨_, rfl, _, rfl, x, _, dx, _, .ref t, rfl, hx, T.c_pr, T.a_pr_talks, rfl, _, rfl, t, _, rfl, DPut.k (k := .inr nm) ht (lt_line (by omega)), q⟩
def spAddActor (K : PySem.W.Frag) : V → V → Hp → VK → Prop := fun a c H Q => ∃ (x dx t q p : Addr) (nm : Str) (xs : List V) (kvs : List (Key × V)), a = .ref x ∧ c = .ref p ∧ H p = some (.tup (.str nm :: xs)) ∧ H x = some (prO K dx t q) ∧ H q = some (.dK kvs) ∧ valV kvs (.inr nm) = none ∧ kvs.length < 100 ∧
  Q .non (upd H q (.dK (putK kvs (.inr nm) c)))
theorem ok_pr_add_actor (T : Top K mg) : FnG P w K mg base 1 (He.ma K (He.ga K "Program") "add_actor") p_pr_add_actor (S2 (spAddActor K)) := by
  refine FnG.of2 T.d_pr_add_actor sc_pr_add_actor rfl fun cdv A outer s H a c Q E hr h => ?_
  have hu := hu_of hr
  refine ⟨_, (pss_cons (ps_if (pt_cmp (pc_din hu (pe_ix ix_tup (pv 1) pe_int (fun _ _ => rfl)) (pe_fld (pv 0) rfl))) pss_never pss_nil)
    (pss_one (ps_dput hu (pe_fld (pv 0) rfl) (pe_ix ix_tup (pv 1) pe_int (fun _ _ => rfl)) (pv 1) rfl))), ?_⟩
  obtain ⟨x, dx, t, q0, p, nm, xs, kvs, rfl, rfl, hp, hx, hq, hv, hl, q⟩ := h
  have g : DGet H q0 (.str nm) none := by
    rw [← hv]
    exact DGet.k (k := .inr nm) hq
  refine ⟨_, rfl, p, _, _, _, rfl, rfl, SqT.of hp, atI_nat (j := 0) rfl, _, rfl, x, _, dx, _, .ref q0, rfl, hx, T.c_pr, T.a_pr_actors, rfl, q0, none, rfl, g, _, rfl, ite2 (fun c => absurd c (by decide)) (fun c => ?_)⟩
  refine ⟨_, rfl, _, rfl, x, _, dx, _, .ref q0, rfl, hx, T.c_pr, T.a_pr_actors, rfl, _, rfl, p, _, _, _, rfl, rfl, SqT.of hp, atI_nat (j := 0) rfl, q0, _, rfl, DPut.k (k := .inr nm) hq (lt_line (by omega)), q⟩
def spPrActor (K : PySem.W.Frag) : V → V → Hp → VK → Prop := fun a b H Q => ∃ (x dx t q : Addr) (nm : Str) (kvs : List (Key × V)) (v : V), a = .ref x ∧ b = .str nm ∧ H x = some (prO K dx t q) ∧ H q = some (.dK kvs) ∧ valV kvs (.inr nm) = some v ∧ Q v H
theorem ok_pr_actor (T : Top K mg) : FnG P w K mg base 1 (He.ma K (He.ga K "Program") "actor") p_pr_actor (S2 (spPrActor K)) := by
  refine FnG.of2 T.d_pr_actor sc_pr_actor rfl fun cdv A outer s H a b Q E hr h => ?_
  have hu := hu_of hr
  refine ⟨_, (pss_cons (ps_if (pt_cmp (pc_dnotin hu (pv 1) (pe_fld (pv 0) rfl))) pss_never pss_nil)
    (pss_one (ps_ret (pe_dget hu (pe_fld (pv 0) rfl) (pv 1) (fun _ _ => rfl))))), ?_⟩
  obtain ⟨x, dx, t, q0, nm, kvs, v, rfl, rfl, hx, hq, hv, q⟩ := h
  have g : DGet H q0 (.str nm) (some v) := by
    rw [← hv]
    exact DGet.k (k := .inr nm) hq
  refine ⟨_, rfl, _, rfl, x, _, dx, _, .ref q0, rfl, hx, T.c_pr, T.a_pr_actors, rfl, q0, _, rfl, g, _, rfl, ite2 (fun c => absurd c (by intro z; cases z)) (fun c => ?_)⟩
  exact ⟨_, rfl, x, _, dx, _, .ref q0, rfl, hx, T.c_pr, T.a_pr_actors, rfl, _, rfl, q0, _, rfl, g, q⟩
/-! ### the definitions, by name -/
def bdOf : List Hdr → List Blk → Str → Blk
  | h :: hs, b :: bs, f => if h.1 = f then b else bdOf hs bs f
  | _, _, _ => .done
def sgOf : List Hdr → Str → Option (List (Str × Ty))
  | [], _ => none
  | h :: hs, f => if h.1 = f then some h.2 else sgOf hs f
def kvOf : List Hdr → List V → List (Key × V)
  | h :: hs, v :: vs => (.inr h.1, v) :: kvOf hs vs
  | _, _ => []
theorem kv_snoc (h : Hdr) (v : V) : ∀ {hs : List Hdr} {vs : List V}, vs.length = hs.length → kvOf (hs ++ [h]) (vs ++ [v]) = kvOf hs vs ++ [(.inr h.1, v)]
  | [], [], _ => rfl
  | h1 :: hs, v1 :: vs, e => congrArg ((Sum.inr h1.1, v1) :: ·) (kv_snoc h v (Nat.succ.inj e))
  | [], _ :: _, e => by cases e
  | _ :: _, [], e => by cases e
theorem kv_none {f : Str} : ∀ {hs : List Hdr} {vs : List V}, f ∉ hs.map (·.1) → valV (kvOf hs vs) (.inr f) = none
  | [], _, _ => rfl
  | _ :: _, [], _ => rfl
  | h :: hs, v :: vs, n => by
    have n : f ∉ h.1 :: hs.map (·.1) := n
    have n1 : h.1 ≠ f := fun e => n (by rw [e]; exact List.mem_cons_self)
    have n2 : f ∉ hs.map (·.1) := fun e => n (List.mem_cons_of_mem _ e)
    show valV ((Sum.inr h.1, v) :: kvOf hs vs) (.inr f) = none
    rw [valV_neg (by intro e; cases e; exact n1 rfl)]
    exact kv_none n2
theorem kv_put {f : Str} {v : V} {hs : List Hdr} {vs : List V} (h : f ∉ hs.map (·.1)) : putK (kvOf hs vs) (.inr f) v = kvOf hs vs ++ [(.inr f, v)] := putK_new v (kv_none h)
theorem sg_get {H : Hp} {m : Nat} {Tb : Nat → Talk} {f : Str} {ps : List (Str × Ty)} : ∀ {vs : List V} {hs : List Hdr} {bs : List Blk}, DfsV H m Tb vs hs bs → sgOf hs f = some ps → ∃ v, valV (kvOf hs vs) (.inr f) = some v ∧ DfAt H f ps (bdOf hs bs f) v ∧ DfT m Tb ps (bdOf hs bs f)
  | [], [], [], _, e => by cases e
  | v :: vs, h :: hs, b :: bs, ⟨⟨a1, a2⟩, a3⟩, e => by
    have e : (if h.1 = f then some h.2 else sgOf hs f) = some ps := e
    show ∃ v', valV ((Sum.inr h.1, v) :: kvOf hs vs) (.inr f) = some v' ∧ DfAt H f ps (if h.1 = f then b else bdOf hs bs f) v' ∧ DfT m Tb ps (if h.1 = f then b else bdOf hs bs f)
    by_cases c : h.1 = f
    · rw [if_pos c] at e
      cases e
      rw [if_pos c]
      refine ⟨v, ?_, ?_, a2⟩
      · exact valV_pos (by rw [c])
      · rw [← c]
        exact a1
    · rw [if_neg c] at e ⊢
      obtain ⟨v', x1, x2⟩ := sg_get a3 e
      refine ⟨v', ?_, x2⟩
      rw [valV_neg (by intro z; cases z; exact c rfl)]
      exact x1
  | [], [], _ :: _, h, _ => h.elim
  | [], _ :: _, _, h, _ => h.elim
  | _ :: _, [], _, h, _ => h.elim
  | _ :: _, _ :: _, [], h, _ => h.elim
theorem sg_mem : ∀ {hs : List Hdr} {h : Hdr}, (hs.map (·.1)).Nodup → h ∈ hs → sgOf hs h.1 = some h.2
  | [], h, _, m => by cases m
  | h1 :: hs, h, nd, m => by
    obtain ⟨n1, n2⟩ := List.nodup_cons.mp (show (h1.1 :: hs.map (·.1)).Nodup from nd)
    show (if h1.1 = h.1 then some h1.2 else sgOf hs h.1) = _
    rcases List.mem_cons.mp m with e | e
    · rw [e, if_pos rfl]
    · rw [if_neg fun c => n1 (by rw [c]; exact List.mem_map.mpr ⟨_, e, rfl⟩)]
      exact sg_mem n2 e
theorem mem_sg {f : Str} {ps : List (Str × Ty)} : ∀ {hs : List Hdr}, sgOf hs f = some ps → (f, ps) ∈ hs
  | [], e => by cases e
  | h1 :: hs, e => by
    have e : (if h1.1 = f then some h1.2 else sgOf hs f) = some ps := e
    by_cases c : h1.1 = f
    · rw [if_pos c] at e
      cases e
      rw [← c]
      exact List.mem_cons_self
    · rw [if_neg c] at e
      exact List.mem_cons_of_mem _ (mem_sg e)
def hdrs (m : Nat) : List Hdr := (sMain, []) :: defsN m
theorem hdrs_nd {m : Nat} (h : m ≤ 3) : ((hdrs m).map (·.1)).Nodup := by
  have h3 : ((hdrs 3).map (·.1)).Nodup := by decide +kernel
  have h2 : ((hdrs 2).map (·.1)).Nodup := by decide +kernel
  have h1 : ((hdrs 1).map (·.1)).Nodup := by decide +kernel
  have h0 : ((hdrs 0).map (·.1)).Nodup := by decide +kernel
  match m, h with
  | 0, _ => exact h0
  | 1, _ => exact h1
  | 2, _ => exact h2
  | 3, _ => exact h3
theorem mem_defsN {k : Nat} {h : Hdr} : ∀ {m : Nat}, k < m → h ∈ four k → h ∈ defsN m
  | 0, c, _ => by omega
  | m + 1, c, e => by
    show h ∈ defsN m ++ four m
    by_cases z : k = m
    · rw [← z]
      exact List.mem_append.mpr (.inr e)
    · exact List.mem_append.mpr (.inl (mem_defsN (by omega) e))
theorem defsN_mem {h : Hdr} : ∀ {m : Nat}, h ∈ defsN m → ∃ d k, k < m ∧ (h = (wn d k, wSg d k) ∨ h = (pn d k, pSg d k))
  | 0, e => by cases e
  | m + 1, e => by
    rcases List.mem_append.mp (show h ∈ defsN m ++ four m from e) with e | e
    · obtain ⟨d, k, c, q⟩ := defsN_mem e
      exact ⟨d, k, by omega, q⟩
    · unfold four at e
      simp only [List.mem_cons, List.not_mem_nil, or_false] at e
      rcases e with e | e | e | e
      · exact ⟨false, m, by omega, .inl e⟩
      · exact ⟨true, m, by omega, .inl e⟩
      · exact ⟨false, m, by omega, .inr e⟩
      · exact ⟨true, m, by omega, .inr e⟩
theorem sgOk_hdrs {m : Nat} (h : m ≤ 3) : SgOk m (sgOf (hdrs m)) := by
  have nd := hdrs_nd h
  refine ⟨fun d n hn => ?_, fun d n hn => ?_⟩
  · refine sg_mem (h := (wn d n, wSg d n)) nd (List.mem_cons_of_mem _ (mem_defsN hn ?_))
    cases d <;> simp [four]
  · refine sg_mem (h := (pn d n, pSg d n)) nd (List.mem_cons_of_mem _ (mem_defsN hn ?_))
    cases d <;> simp [four]
/-- the program as it lies -/
structure PrAt (K : PySem.W.Frag) (H : Hp) (x : Addr) (D : Defs) : Prop where
  ex : ∃ dx t q kvs, H x = some (prO K dx t q) ∧ H q = some (.dK kvs) ∧ ∀ f ps, D.sg f = some ps → ∃ v, valV kvs (.inr f) = some v ∧ DfAt H f ps (D.bd f) v
def mkD (m : Nat) (bs : List Blk) : Defs := ⟨sgOf (hdrs m), bdOf (hdrs m) bs⟩
theorem mkD_ok {H : Hp} {m : Nat} {Tb : Nat → Talk} {vs : List V} {bs : List Blk} (hm : m ≤ 3) (h : DfsV H m Tb vs (hdrs m) bs) : (mkD m bs).Ok Tb := by
  refine ⟨fun f ps e => ?_, fun f ps e => ?_⟩
  · obtain ⟨v, _, _, h2⟩ := sg_get h e
    exact h2 _ (sgOk_hdrs hm)
  · have e : (f, ps) ∈ (sMain, []) :: defsN m := mem_sg e
    rcases List.mem_cons.mp e with e | e
    · cases e
      exact List.nodup_nil
    · obtain ⟨d, k, _, e | e⟩ := defsN_mem e
      · cases e
        show [sc, sN].Nodup
        decide +kernel
      · cases e
        show [sc, sd, sN, sB].Nodup
        decide +kernel
theorem mkD_at {K : PySem.W.Frag} {H : Hp} {m : Nat} {Tb : Nat → Talk} {vs : List V} {bs : List Blk} {x dx t q : Addr} (hx : H x = some (prO K dx t q)) (hq : H q = some (.dK (kvOf (hdrs m) vs))) (h : DfsV H m Tb vs (hdrs m) bs) : PrAt K H x (mkD m bs) :=
  ⟨⟨dx, t, q, _, hx, hq, fun f ps e => by
    obtain ⟨v, h1, h2, _⟩ := sg_get h e
    exact ⟨v, h1, h2⟩⟩⟩
end G

/-! part W19 -/
set_option Elab.async false
set_option linter.all false
set_option maxRecDepth 100000
set_option maxHeartbeats 4000000
/-! The program is put together; the start. -/
namespace G
open PySem PySem.Spec PyProof.Rows L2
variable {P : Program} {w : World} {K : PySem.W.Frag} {mg : Str → Option Value} {base : Heap}
theorem DfsV.get {H : Hp} {m : Nat} {Tb : Nat → Talk} : ∀ {vs : List V} {hs : List Hdr} {bs : List Blk} {i : Nat} {v : V}, DfsV H m Tb vs hs bs → vs[i]? = some v → ∃ h b, hs[i]? = some h ∧ DfAt H h.1 h.2 b v
  | [], [], [], i, v, _, e => by simp at e
  | v1 :: vs, h :: hs, b :: bs, 0, v, ⟨⟨a1, a2⟩, a3⟩, e => by
    cases e
    exact ⟨h, b, rfl, a1⟩
  | v1 :: vs, h :: hs, b :: bs, i + 1, v, ⟨_, a3⟩, e => DfsV.get (i := i) a3 e
  | [], [], _ :: _, _, _, h, _ => h.elim
  | [], _ :: _, _, _, _, h, _ => h.elim
  | _ :: _, [], _, _, _, h, _ => h.elim
  | _ :: _, _ :: _, [], _, _, h, _ => h.elim
theorem kvOf_len : ∀ (hs : List Hdr) (vs : List V), (kvOf hs vs).length ≤ hs.length
  | [], _ => Nat.le_refl _
  | _ :: _, [] => Nat.zero_le _
  | _ :: hs, _ :: vs => Nat.succ_le_succ (kvOf_len hs vs)
theorem nd_take {α : Type} {x : α} : ∀ {l : List α} {i : Nat}, l.Nodup → l[i]? = some x → x ∉ l.take i
  | [], i, _, e => by simp at e
  | y :: l, 0, _, _ => by simp
  | y :: l, i + 1, nd, e => by
    obtain ⟨n1, n2⟩ := List.nodup_cons.mp nd
    have e : l[i]? = some x := e
    show x ∉ y :: l.take i
    intro h
    rcases List.mem_cons.mp h with h | h
    · rw [← h] at n1
      exact n1 (List.mem_of_getElem? e)
    · exact nd_take n2 e h
def spProg (K : PySem.W.Frag) : V → V → V → Hp → VK → Prop := fun a b c H Q => ∃ (q0 : Addr) (m : Nat) (Tb : Nat → Talk) (b0 : Blk) (L : Addr) (vs : List V) (bs : List Blk),
  a = .ref q0 ∧ TabW H q0 m m Tb ∧ m ≤ 3 ∧ DfAt H sMain [] b0 b ∧ DfT m Tb [] b0 ∧ c = .ref L ∧ H L = some (.lst vs) ∧ DfsV H m Tb vs (defsN m) bs ∧
  ∀ x H', Same H H' → H x = none → PrAt K H' x (mkD m (b0 :: bs)) → (mkD m (b0 :: bs)).Ok Tb → Q (.ref x) H'
theorem ok_l_program (T : Top K mg) : FnG P w K mg base 3 (He.ga K "_law_program") p_l_program (S3 (spProg K)) := by
  refine FnG.of3 T.d_l_program sc_l_program rfl fun cdv A outer s H a b c Q E hr h => ?_
  have hu := hu_of hr
  refine ⟨_, (pss_cons (ps_set (i := 3) sc_l_program.nd rfl (Or.inl rfl) (pmake0 T.k_pr (ok_pr_init T) (hr.mono (by omega)) T.g_pr))
    (pss_cons (ps_lock (ps_for PassesOwn.never rfl (pi_keys (pv 0)) (pg_name (i := 4) sc_l_program.nd rfl (Or.inl rfl)) (pss_one (ps_expr (pmeth (pv 3) T.c_pr T.m_pr_add_talk (ok_pr_add_talk T) (hr.mono (by omega)) (pa_cons (pv 4) (pa_cons (pe_dget hu (pv 0) (pv 4) (fun _ _ => rfl)) pa_nil)))))))
    (pss_cons (ps_expr (pmeth (pv 3) T.c_pr T.m_pr_add_actor (ok_pr_add_actor T) (hr.mono (by omega)) (pa_cons (pv 1) pa_nil)))
    (pss_cons (ps_for PassesOwn.never rfl (pi_list (pv 2)) (pg_name (i := 5) sc_l_program.nd rfl (Or.inl rfl)) (pss_one (ps_expr (pmeth (pv 3) T.c_pr T.m_pr_add_actor (ok_pr_add_actor T) (hr.mono (by omega)) (pa_cons (pv 5) pa_nil)))))
    (pss_one (ps_ret (pv 3))))))), ?_⟩
  obtain ⟨q0, m, Tb, b0, L, vs, bs, rfl, hTb, hm, hM, hMT, rfl, hL, hD, q⟩ := h
  obtain ⟨ts, t1, t2, t3⟩ := id hTb.ex
  refine fun x dx hx0 hdx ndx => ⟨x, dx, rfl, upd_same, fun t qa H1 k1 ht hqa ntq ntx nqx e1 e2 e3 => ⟨rfl, ?_⟩⟩
  have ht0 : H t = none := by
    rw [upd_ne ntx] at ht
    by_cases e : t = dx
    · rw [e, upd_same] at ht
      cases ht
    · rw [upd_ne e] at ht
      exact ht
  have hq0 : H qa = none := by
    rw [upd_ne nqx] at hqa
    by_cases e : qa = dx
    · rw [e, upd_same] at hqa
      cases hqa
    · rw [upd_ne e] at hqa
      exact hqa
  have s1 : Same H H1 := fun b o e => k1 _ _ (ne_of_none e hx0) (by
    rw [upd_ne (ne_of_none e hx0), upd_ne (ne_of_none e hdx)]
    exact e)
  have nx0 : x ≠ q0 := (ne_of_none t1 hx0).symm
  have nt0 : t ≠ q0 := (ne_of_none t1 ht0).symm
  have nq0 : qa ≠ q0 := (ne_of_none t1 hq0).symm
  have t1' := s1 _ _ t1
  refine ⟨q0, _, t1', trivial, fun od => ⟨_, rfl, q0, od, rfl, .inl ⟨_, upd_same, ?_⟩⟩⟩
  have hl : (tabF 0 ts).length = m := by rw [tabF_len, t2]
  refine for_it walk_keys (fun i σ H' => ∃ (v4 v5 : Option V) (us : List V), σ = [some (.ref q0), some b, some (.ref L), some (.ref x), v4, v5] ∧
    (∀ b o, b ≠ q0 → H b = some o → H' b = some o) ∧ H' q0 = some (.frz od (.dK (tabF 0 ts))) ∧ H' x = some (prO K dx t qa) ∧ H' t = some (.dK (tabF 0 us)) ∧ us.length = i ∧ H' qa = some (.dK []))
    ⟨none, none, [], rfl, fun b o hb e => by rw [upd_ne hb]; exact s1 _ _ e, upd_same, by rw [upd_ne nx0]; exact e3, by rw [upd_ne nt0]; exact e1, rfl, by rw [upd_ne nq0]; exact e2⟩
    (fun i σ H' _ ⟨_, _, _, _, _, z, _⟩ => z) ?_ ?_
  · rintro i v σ H2 _ hi ⟨v4, v5, us, rfl, kk, hz, hx, ht2, hu2, hq2⟩ ⟨rfl, k, v, hk, rfl⟩
    obtain rfl : k = .inr (tn i) := by
      have := tabF_at 0 ts hk
      rw [Nat.zero_add] at this
      exact this
    rw [hl] at hi
    have hiL : i ≤ LIM := by
      unfold LIM
      omega
    obtain ⟨tv, htv⟩ : ∃ tv, ts[i]? = some tv := ⟨_, List.getElem?_eq_getElem (show i < ts.length by omega)⟩
    have hg := tabF_get 0 ts i (by omega)
    rw [Nat.zero_add, htv] at hg
    have hn := tabF_get 0 us i (by omega)
    rw [Nat.zero_add, List.getElem?_eq_none (by omega)] at hn
    refine ⟨_, rfl, x, dx, _, rfl, hx, rfl, _, rfl, _, rfl, _, rfl, q0, tv, rfl, .inl ⟨_, .inr (tn i), .inr ⟨od, hz⟩, rfl, hg.symm⟩, x, dx, t, qa, tn i, _, rfl, rfl, hx, ht2, hn, by rw [tabF_len]; omega, ?_⟩
    have ep : putK (tabF 0 us) (.inr (tn i)) tv = tabF 0 (us ++ [tv]) := by
      rw [← hu2]
      exact tabF_put us _ (by omega)
    rw [ep]
    refine ⟨_, _, us ++ [tv], rfl, fun b o hb e => ?_, ?_, ?_, upd_same, by rw [List.length_append, hu2]; rfl, ?_⟩
    · rw [upd_ne (ne_of_none e ht0)]
      exact kk b o hb e
    · rw [upd_ne nt0.symm]
      exact hz
    · rw [upd_ne ntx.symm]
      exact hx
    · rw [upd_ne ntq.symm]
      exact hq2
  · rintro σ H2 ⟨v4, v5, us, rfl, kk, hz, hx, ht2, hu2, hq2⟩
    refine ⟨hz, ?_⟩
    have s2 : Same H (upd H2 q0 (.dK (tabF 0 ts))) := fun b o e => by
      by_cases h : b = q0
      · rw [h] at e ⊢
        rw [upd_same, ← t1]
        exact e
      · rw [upd_ne h]
        exact kk b o h e
    have hx3 : (upd H2 q0 (.dK (tabF 0 ts))) x = some (prO K dx t qa) := by rw [upd_ne nx0]; exact hx
    have hq3 : (upd H2 q0 (.dK (tabF 0 ts))) qa = some (.dK []) := by rw [upd_ne nq0]; exact hq2
    obtain ⟨p0, p1, p2, vs0, us0, rfl, hp0, hp1, hpv, hp2, hpb, hpl⟩ := id hM
    refine ⟨_, rfl, x, dx, _, rfl, hx3, rfl, _, rfl, x, dx, t, qa, p0, sMain, _, _, rfl, rfl, s2 _ _ hp0, hx3, hq3, rfl, by decide, ?_⟩
    have nv : (vs.length = (defsN m).length) := hD.len
    have nd := hdrs_nd hm
    refine ⟨_, rfl, L, rfl, ⟨vs, SqL.of ?_⟩, for_list (K := K) (a := L) (xs := vs) (fun i σ H' => ∃ (v4 v5 : Option V), σ = [some (.ref q0), some (.ref p0), some (.ref L), some (.ref x), v4, v5] ∧
      Same H H' ∧ H' x = some (prO K dx t qa) ∧ H' qa = some (.dK (kvOf ((sMain, []) :: (defsN m).take i) (.ref p0 :: vs.take i)))) ⟨_, _, rfl, ?_, ?_, upd_same⟩ (fun i σ H' _ ⟨_, _, _, sm, _⟩ => SqL.of (sm _ _ hL)) ?_ ?_⟩
    · rw [upd_ne (ne_of_none hL hq0)]
      exact s2 _ _ hL
    · intro b o e
      rw [upd_ne (ne_of_none e hq0)]
      exact s2 _ _ e
    · rw [upd_ne nqx.symm]
      exact hx3
    · rintro i v σ H3 hi ⟨v4, v5, rfl, sm, hx4, hq4⟩
      obtain ⟨h, b1, g1, p, r1, r2, _, _, rfl, hp, _⟩ := hD.get hi
      have hnot : h.1 ∉ ((sMain, []) :: (defsN m).take i : List Hdr).map (·.1) := by
        have := nd_take (l := (hdrs m).map (·.1)) (i := i + 1) (x := h.1) nd (by
          show ((defsN m).map (·.1))[i]? = _
          rw [List.getElem?_map, g1]
          rfl)
        rw [← List.map_take] at this
        exact this
      have il : i < vs.length := (List.getElem?_eq_some_iff.mp hi).1
      refine ⟨_, rfl, x, dx, _, rfl, hx4, rfl, _, rfl, x, dx, t, qa, p, h.1, _, _, rfl, rfl, sm _ _ hp, hx4, hq4, kv_none hnot, ?_, ?_⟩
      · have h1 := kvOf_len ((sMain, []) :: (defsN m).take i) (.ref p0 :: vs.take i)
        have h2 : ((sMain, []) :: (defsN m).take i : List Hdr).length = ((defsN m).take i).length + 1 := rfl
        have h3 := List.length_take_le i (defsN m)
        have h4 := defsN_len m
        omega
      · refine ⟨_, _, rfl, fun b o e => ?_, ?_, ?_⟩
        · rw [upd_ne (ne_of_none e hq0)]
          exact sm _ _ e
        · rw [upd_ne nqx.symm]
          exact hx4
        · rw [upd_same, kv_put hnot]
          have e1 : (defsN m).take (i + 1) = (defsN m).take i ++ [h] := by
            obtain ⟨hj, e⟩ := List.getElem?_eq_some_iff.mp g1
            rw [List.take_succ_eq_append_getElem hj, e]
          have e2 : vs.take (i + 1) = vs.take i ++ [.ref p] := by
            obtain ⟨hj, e⟩ := List.getElem?_eq_some_iff.mp hi
            rw [List.take_succ_eq_append_getElem hj, e]
          rw [e1, e2]
          have e3 := kv_snoc h (V.ref p) (hs := (sMain, []) :: (defsN m).take i) (vs := .ref p0 :: vs.take i) (by
            show (vs.take i).length + 1 = ((defsN m).take i).length + 1
            rw [List.length_take, List.length_take, nv])
          exact congrArg (fun z => some (HO.dK z)) e3.symm
    · rintro σ H3 ⟨v4, v5, rfl, sm, hx4, hq4⟩
      rw [nv, List.take_length, ← nv, List.take_length] at hq4
      have hA : DfsV H m Tb (.ref p0 :: vs) (hdrs m) (b0 :: bs) := ⟨⟨hM, hMT⟩, hD⟩
      exact ⟨_, rfl, q x H3 sm hx0 (mkD_at hx4 hq4 (hA.tu (Same.tu sm))) (mkD_ok hm hA)⟩
def spStart (K : PySem.W.Frag) : V → Hp → VK → Prop := fun a H Q => ∃ (p : Addr) (ns : List Int), a = .ref p ∧ SqL K H p (ns.map V.int) ∧
  ∀ (R q0 L : Addr) (m : Nat) (Tb : Nat → Talk) (b0 : Blk) (vs : List V) (v0 : V) (bs : List Blk) H', Same H H' → H' R = some (.lst [.ref q0, v0, .ref L]) → TabW H' q0 m m Tb → m ≤ 3 → DfAt H' sMain [] b0 v0 → DfT m Tb [] b0 → H' L = some (.lst vs) → DfsV H' m Tb vs (defsN m) bs → Q (.ref R) H'
theorem SqL.same {H H' : Hp} {a : Addr} {xs : List V} (h : SqL K H a xs) (s : Same H H') : SqL K H' a xs :=
  h.elim (fun h => .inl (h.elim (fun h => .inl (s _ _ h)) fun ⟨o, h⟩ => .inr ⟨o, s _ _ h⟩)) fun h => .inr h
theorem TabW.kpN {H H' : Hp} {q p : Addr} {i m : Nat} {Tb : Nat → Talk} (h : TabW H q i m Tb) (s : Same H H') : TabW H' q i m Tb := h.same s
theorem Kp.same {H H1 H' : Hp} {p : Addr} (k : Kp p H1 H') (s : Same H H1) (hp : H p = none) : Same H H' := fun b o e => k b o (ne_of_none e hp) (s _ _ e)
theorem ok_l_start (T : Top K mg) : FnG P w K mg base 29 (He.ga K "_law_start") p_l_start (S1 (spStart K)) := by
  refine FnG.of1 T.d_l_start sc_l_start rfl fun cdv A outer s H a Q E hr h => ⟨_, (pss_cons (ps_set (i := 1) sc_l_start.nd rfl (Or.inl rfl) (pcall (ok_l_feed T) (hr.mono (by omega)) T.g_l_feed (pa_cons (pcall (ok_l_cell T) (hr.mono (by omega)) T.g_l_cell (pa_cons (pv 0) (pa_cons pe_int pa_nil))) (pa_cons pe_int pa_nil))))
    (pss_cons (ps_set (i := 2) sc_l_start.nd rfl (Or.inl rfl) (pcall (ok_l_table T) (hr.mono (by omega)) T.g_l_table (pa_cons (pv 1) pa_nil)))
    (pss_cons (ps_set (i := 3) sc_l_start.nd rfl (Or.inl rfl) (pcall (ok_l_feed T) (hr.mono (by omega)) T.g_l_feed (pa_cons (pcall (ok_l_cell T) (hr.mono (by omega)) T.g_l_cell (pa_cons (pv 0) (pa_cons pe_int pa_nil))) (pa_cons pe_int pa_nil))))
    (pss_one (ps_ret (pe_lst (pa_cons (pv 2) (pa_cons (pcall (ok_l_main T) (hr.mono (by omega)) T.g_l_main (pa_cons (pv 3) (pa_cons (pv 2) pa_nil))) (pa_cons (pcall (ok_l_definitions T) (hr.mono (by omega)) T.g_l_definitions (pa_cons (pv 3) (pa_cons (pv 2) (pa_cons pe_int pa_nil)))) pa_nil))))))))), ?_⟩
  obtain ⟨p, ns, rfl, hS, q⟩ := h
  refine ⟨_, rfl, p, ns, 0, rfl, rfl, hS, Int.le_refl _, fun c1 => ⟨c1, 40, rfl, rfl, by decide, by decide, fun g1 H1 s1 n1 n2 F1 => ?_⟩⟩
  refine ⟨_, rfl, g1, LIM - 120, 0, _, rfl, F1.le (by decide), fun q0 m Tb H2 k2 F2 T2 hq0 h0 hm => ?_⟩
  have s2 := k2.same s1 n1
  refine ⟨_, rfl, p, ns, 1, rfl, rfl, SqL.same hS s2, by decide, fun c2 => ⟨c2, 60, rfl, rfl, by decide, by decide, fun g2 H3 s3 n3 n4 F3 => ?_⟩⟩
  have T3 := T2.same s3
  have r4 : rC 4 = 11246 := rfl
  have cD : 3 * cDef = 20880 := rfl
  have eL : LIM = 67108864 := rfl
  have nq : q0 ≠ g2.p := by
    obtain ⟨ws, w1, _⟩ := T2.ex
    exact ne_of_none w1 n3
  refine ⟨_, rfl, _, rfl, _, rfl, g2, 3 * cDef, 0, q0, m, Tb, rfl, rfl, F3.le (by omega), T3, nq, h0, hm, fun v0 b0 f4 H4 k4 F4 D4 M4 => ?_⟩
  have T4 := T3.kp F3 k4 nq
  refine ⟨_, rfl, _, rfl, g2, 0, f4, q0, m, Tb, rfl, rfl, rfl, F4.le (by omega), T4, nq, h0, hm, fun L vs bs H5 k5 hL0 hL hD => ?_⟩
  have T5 := T4.kp F4 k5 nq
  refine ⟨le_line (by show 3 ≤ _; decide), fun R hR => ?_⟩
  have s6 := Same.new (o := .lst [.ref q0, v0, .ref L]) hR
  have s25 : Same H2 H5 := (k4.trans k5).same s3 n3
  exact q R q0 L m Tb b0 vs v0 bs _ (s2.trans (s25.trans s6)) upd_same (T5.same s6) hm ((D4.tu (F4.tu k5)).tu (Same.tu s6)) M4 (s6 _ _ hL) (hD.tu (Same.tu s6))
end G

/-! part W20 -/
set_option Elab.async false
set_option linter.all false
set_option maxRecDepth 100000
set_option maxHeartbeats 4000000
/-! The plays, the falls. -/
namespace G
open PySem PySem.Spec PyProof.Rows L2
variable {P : Program} {w : World} {K : PySem.W.Frag} {mg : Str → Option Value} {base : Heap}
def spPlays (K : PySem.W.Frag) : V → V → V → Hp → VK → Prop := fun a b c H Q => ∃ (p : Addr) (ns : List Int), a = .ref p ∧ b = .int 3 ∧ c = .int 1024 ∧ SqL K H p (ns.map V.int) ∧
  ∀ L (ms : List Int) H', Same H H' → H L = none → H' L = some (.lst (ms.map V.int)) → Q (.ref L) H'
theorem ok_l_plays (T : Top K mg) : FnG P w K mg base 2 (He.ga K "_law_plays") p_l_plays (S3 (spPlays K)) := by
  refine FnG.of3 T.d_l_plays sc_l_plays rfl fun cdv A outer s H a b c Q E hr h => ⟨_, (pss_cons (ps_set (i := 3) sc_l_plays.nd rfl (Or.inl rfl) (pe_lst pa_nil))
    (pss_cons (ps_for PassesOwn.never rfl (pi_range2 (by rfl) T.f_range (pa_cons (pv 1) (pa_cons (pe_callB (call_min2 rfl) (by rfl) T.f_min (by decide +kernel) (pa_cons (pe_callB call_len_seq (by rfl) T.f_len PySem.boot_len (pa_cons (pv 0) pa_nil)) (pa_cons (pe_op op_add (pv 1) pe_int) pa_nil))) pa_nil))) (pg_name (i := 4) sc_l_plays.nd rfl (Or.inl rfl)) (pss_one (ps_set (i := 3) sc_l_plays.nd rfl (Or.inl rfl) (pe_op op_cat (pv 3) (pe_lc (own := [("_law_number_here", 5)]) (g := gName 5) (tt := tYes) rfl sc_l_plays.nd (pi_list (pcall (ok_l_numbers T) (hr.mono (by omega)) T.g_l_numbers (pa_cons (pcall (ok_l_cell T) (hr.mono (by omega)) T.g_l_cell (pa_cons (pv 0) (pa_cons (pv 4) pa_nil))) (pa_cons pe_int pa_nil)))) (blkOk_by (own := [("_law_number_here", 5)]) (N := n_l_plays) (sc := defScope s_l_plays) (by decide +kernel)) (fun _ _ _ _ _ => (pg_name (i := 5) sc_l_plays.nd rfl (Or.inl rfl))) (fun _ _ _ _ _ => pts_nil) (fun _ _ _ _ _ => (pe_op op_mod (pe_callTy call_int1 (by rfl) T.f_int (by decide +kernel) (pa_cons (pv 5) pa_nil)) (pv 2))))))))
    (pss_cons (ps_if (pt_cmpR op_eq (pe_callB call_len_seq (by rfl) T.f_len PySem.boot_len (pa_cons (pv 3) pa_nil)) pe_int (nomark _)) (pss_one (ps_ret (pe_lc (own := [("_law_number_here", 5)]) (g := gName 5) (tt := tYes) rfl sc_l_plays.nd (pi_list (pcall (ok_l_numbers T) (hr.mono (by omega)) T.g_l_numbers (pa_cons (pe_op op_add (pcall (ok_l_cell T) (hr.mono (by omega)) T.g_l_cell (pa_cons (pv 0) (pa_cons pe_int pa_nil))) pe_int) (pa_cons pe_int pa_nil)))) (blkOk_by (own := [("_law_number_here", 5)]) (N := n_l_plays) (sc := defScope s_l_plays) (by decide +kernel)) (fun _ _ _ _ _ => (pg_name (i := 5) sc_l_plays.nd rfl (Or.inl rfl))) (fun _ _ _ _ _ => pts_nil) (fun _ _ _ _ _ => (pe_op op_mod (pe_callTy call_int1 (by rfl) T.f_int (by decide +kernel) (pa_cons (pv 5) pa_nil)) (pv 2)))))) pss_nil)
    (pss_one (ps_ret (pv 3)))))), ?_⟩
  obtain ⟨p, ns, rfl, rfl, rfl, hS, q⟩ := h
  refine ⟨Nat.zero_le _, fun L hL => ?_⟩
  have s1 := Same.new (o := .lst []) hL
  obtain ⟨j, hj⟩ : ∃ j : Int, (if (3 : Int) + 12 < (ns.map V.int).length then (3 : Int) + 12 else (ns.map V.int).length) = j := ⟨_, rfl⟩
  have hj15 : j ≤ 15 := by
    rw [← hj]
    split <;> omega
  refine ⟨_, rfl, _, rfl, p, _, rfl, .inl (SqL.same hS s1), ?_⟩
  refine ⟨_, rfl, _, _, rfl, rfl, _, _, rfl, ?_⟩
  rw [hj]
  refine ⟨3, j, rfl, by omega, for_range (n := (j - 3).toNat) (fun i σ H' => ∃ (v4 v5 : Option V) (Li : Addr) (ms : List Int), σ = [some (.ref p), some (.int 3), some (.int 1024), some (.ref Li), v4, v5] ∧ Same H H' ∧ H Li = none ∧ H' Li = some (.lst (ms.map V.int)) ∧ ms.length ≤ 8 * i)
    ⟨none, none, L, [], rfl, s1, hL, upd_same, Nat.le_refl _⟩ ?_ ?_⟩
  · rintro i σ H2 hi ⟨v4, v5, Li, ms, rfl, s2, hLi, h2, hm⟩
    refine ⟨_, rfl, ?_⟩
    refine ⟨_, rfl, _, rfl, p, ns, 3 + (i : Int), rfl, rfl, SqL.same hS s2, by omega, fun c => ⟨c, 8, rfl, rfl, by decide, fun Ln H3 s3 hLn N => ?_⟩⟩
    obtain ⟨ks, k1, k2, k3⟩ := N
    refine ⟨Ln, rfl, ⟨_, SqL.of k1⟩, fun D hD => ?_⟩
    refine lc_list (K := K) (a := Ln) (xs := ks.map V.int) (fun i H' => Same H3 H' ∧ ∃ us : List Int, H' D = some (.lst (us.map V.int)) ∧ us.length = i) ⟨Same.new hD, [], upd_same, rfl⟩ (fun i H' _ h => SqL.of (h.1 _ _ k1)) ?_ ?_
    · rintro i2 v H4 hv ⟨s4, us, u1, u2⟩
      rw [List.getElem?_map] at hv
      obtain ⟨z, hz, rfl⟩ := Option.map_eq_some_iff.mp hv
      have lu : i2 < ks.length := (List.getElem?_eq_some_iff.mp hz).1
      refine ⟨rfl, _, rfl, .inl ⟨_, rfl, _, rfl, _, _, rfl, rfl, (by show (0 : Int) < 1024; decide), _, u1, lt_line (by rw [List.length_map]; omega), Same.put s4 hD, us ++ [z % 1024], ?_, by rw [List.length_append, u2]; rfl⟩⟩
      rw [upd_same, List.map_append]
      rfl
    · rintro H4 ⟨s4, us, u1, u2⟩
      rw [List.length_map, k2] at u2
      have s24 : Same H2 H4 := s3.trans s4
      refine ⟨Li, D, _, _, rfl, rfl, s24 _ _ h2, u1, le_line (by rw [List.length_map, List.length_map]; omega), fun L2 hL2 => ?_⟩
      refine ⟨_, _, L2, ms ++ us, rfl, s2.trans (s24.trans (Same.new hL2)), ?_, ?_, by rw [List.length_append]; omega⟩
      · cases e : H L2 with
        | none => rfl
        | some o =>
          have := (s2.trans s24) _ _ e
          rw [hL2] at this
          cases this
      · rw [upd_same, List.map_append]
  · rintro σ H2 ⟨v4, v5, Li, ms, rfl, s2, hLi, h2, hm⟩
    refine ⟨_, rfl, Li, _, rfl, .inl (SqL.of h2), rfl, _, rfl, ite2 (fun c => ?_) (fun c => ?_)⟩
    · refine ⟨_, rfl, p, ns, 0, rfl, rfl, SqL.same hS s2, by decide, fun c => ⟨_, _, rfl, rfl, _, 40, rfl, rfl, by decide, fun Ln H3 s3 hLn N => ?_⟩⟩
      obtain ⟨ks, k1, k2, k3⟩ := N
      refine ⟨Ln, rfl, ⟨_, SqL.of k1⟩, fun D hD => ?_⟩
      refine lc_list (K := K) (a := Ln) (xs := ks.map V.int) (fun i H' => Same H3 H' ∧ ∃ us : List Int, H' D = some (.lst (us.map V.int)) ∧ us.length = i) ⟨Same.new hD, [], upd_same, rfl⟩ (fun i H' _ h => SqL.of (h.1 _ _ k1)) ?_ ?_
      · rintro i2 v H4 hv ⟨s4, us, u1, u2⟩
        rw [List.getElem?_map] at hv
        obtain ⟨z, hz, rfl⟩ := Option.map_eq_some_iff.mp hv
        have lu : i2 < ks.length := (List.getElem?_eq_some_iff.mp hz).1
        refine ⟨rfl, _, rfl, .inl ⟨_, rfl, _, rfl, _, _, rfl, rfl, (by show (0 : Int) < 1024; decide), _, u1, lt_line (by rw [List.length_map]; omega), Same.put s4 hD, us ++ [z % 1024], ?_, by rw [List.length_append, u2]; rfl⟩⟩
        rw [upd_same, List.map_append]
        rfl
      · rintro H4 ⟨s4, us, u1, u2⟩
        have s24 : Same H H3 := s2.trans s3
        refine q D us H4 (s24.trans s4) ?_ u1
        cases e : H D with
        | none => rfl
        | some o =>
          have := s24 _ _ e
          rw [hD] at this
          cases this
    · exact ⟨_, rfl, q Li ms H2 s2 hLi h2⟩
def FalV (H : Hp) : List V → Prop
  | [] => True
  | v :: vs => (∃ p a b, v = .ref p ∧ H p = some (.tup [.int a, .int b])) ∧ FalV H vs
theorem FalV.tu {H H' : Hp} (s : Tu H H') : ∀ {vs : List V}, FalV H vs → FalV H' vs
  | [], _ => trivial
  | v :: vs, ⟨⟨p, a, b, e, h⟩, r⟩ => ⟨⟨p, a, b, e, s _ _ h⟩, FalV.tu s r⟩
theorem FalV.snoc {H : Hp} {p : Addr} {a b : Int} (h : H p = some (.tup [.int a, .int b])) : ∀ {vs : List V}, FalV H vs → FalV H (vs ++ [.ref p])
  | [], _ => ⟨⟨p, a, b, rfl, h⟩, trivial⟩
  | v :: vs, ⟨x, r⟩ => ⟨x, FalV.snoc h r⟩
theorem FalV.get {H : Hp} : ∀ {vs : List V} {i : Nat} {v : V}, FalV H vs → vs[i]? = some v → ∃ p a b, v = .ref p ∧ H p = some (.tup [.int a, .int b])
  | [], i, v, _, e => by simp at e
  | v1 :: vs, 0, v, ⟨x, r⟩, e => by
    cases e
    exact x
  | v1 :: vs, i + 1, v, ⟨x, r⟩, e => FalV.get (i := i) r e
def spFalls : V → Hp → VK → Prop := fun a H Q => ∃ (c : Int), a = .int c ∧ ∀ L vs H', Same H H' → H L = none → H' L = some (.lst vs) → FalV H' vs → Q (.ref L) H'
theorem ok_l_falls (T : Top K mg) : FnG P w K mg base 2 (He.ga K "_law_falls") p_l_falls (S1 spFalls) := by
  refine FnG.of1 T.d_l_falls sc_l_falls rfl fun cdv A outer s H a Q E hr h => ⟨_, (pss_cons (ps_set (i := 1) sc_l_falls.nd rfl (Or.inl rfl) (pe_lst pa_nil))
    (pss_cons (ps_for PassesOwn.never rfl (pi_list (pe_slice sl_list (pcall (ok_l_numbers T) (hr.mono (by omega)) T.g_l_numbers (pa_cons (pv 0) (pa_cons pe_int pa_nil))) po_none (po_some (pe_op op_mod (pe_callTy call_int1 (by rfl) T.f_int (by decide +kernel) (pa_cons (pv 0) pa_nil)) pe_int)))) (pg_name (i := 2) sc_l_falls.nd rfl (Or.inl rfl)) (pss_one (ps_expr (pe_bm PySem.F.plainAttrs_list PySem.F.slot_list_append PySem.F.type_list_append mt_append (pv 1) (pa_cons (pe_tup (pa_cons (pe_op op_mod (pe_callTy call_int1 (by rfl) T.f_int (by decide +kernel) (pa_cons (pv 2) pa_nil)) pe_int) (pa_cons (pe_op op_mod (pe_callTy call_int1 (by rfl) T.f_int (by decide +kernel) (pa_cons (pe_op op_fdiv (pv 2) pe_int) pa_nil)) pe_int) pa_nil))) pa_nil)))))
    (pss_one (ps_ret (pv 1))))), ?_⟩
  obtain ⟨c, rfl, q⟩ := h
  refine ⟨Nat.zero_le _, fun L hL => ?_⟩
  have s1 := Same.new (o := .lst []) hL
  refine ⟨_, rfl, c, 3, rfl, rfl, by decide, fun Ln H2 s2 hLn N => ?_⟩
  obtain ⟨ks, k1, k2, k3⟩ := N
  refine ⟨_, rfl, .inl ⟨_, rfl, _, _, rfl, rfl, (by show (0 : Int) < 4; decide), _, rfl, Ln, _, rfl, SqL.of k1, fun D hD => ?_⟩⟩
  have s3 := s2.trans (Same.new (o := .lst (cutV (ks.map V.int) none (some (c % 4)))) hD)
  have hints : ∀ {i : Nat} {v : V}, (cutV (ks.map V.int) none (some (c % 4)))[i]? = some v → ∃ z : Int, v = .int z := fun {i v} e => by
    obtain ⟨j, hj⟩ : ∃ j : Nat, c % 4 = (j : Int) := ⟨(c % 4).toNat, by omega⟩
    rw [hj] at e
    have m1 : v ∈ cutV (ks.map V.int) none (some (j : Int)) := List.mem_of_getElem? e
    have m2 : v ∈ ks.map V.int := by
      unfold cutV at m1
      exact List.mem_of_mem_drop (List.mem_of_mem_take m1)
    obtain ⟨z, _, rfl⟩ := List.mem_map.mp m2
    exact ⟨z, rfl⟩
  have hlen := cutV_length (ks.map V.int) none (some (c % 4))
  rw [List.length_map, k2] at hlen
  refine ⟨D, rfl, ⟨_, SqL.of upd_same⟩, for_list (K := K) (a := D) (xs := cutV (ks.map V.int) none (some (c % 4))) (fun i σ H' => ∃ (v2 : Option V) (vs : List V), σ = [some (.int c), some (.ref L), v2] ∧ Same H H' ∧ H' D = some (.lst (cutV (ks.map V.int) none (some (c % 4)))) ∧ H' L = some (.lst vs) ∧ vs.length ≤ i ∧ FalV H' vs)
    ⟨none, [], rfl, s1.trans s3, upd_same, s3 _ _ upd_same, Nat.le_refl _, trivial⟩ (fun i σ H' _ ⟨_, _, _, _, h, _⟩ => SqL.of h) ?_ ?_⟩
  · rintro i v σ H4 hv ⟨v2, vs, rfl, s4, hD4, hL4, lv, F4⟩
    have li := (List.getElem?_eq_some_iff.mp hv).1
    obtain ⟨z, rfl⟩ := hints hv
    refine ⟨_, rfl, .inl ⟨rfl, _, SqL.of hL4⟩, ?_⟩
    refine ⟨_, rfl, .inl ⟨_, rfl, _, _, rfl, rfl, (by show (0 : Int) < 40; decide), ?_⟩⟩
    refine ⟨_, rfl, _, _, rfl, rfl, ⟨by decide, by decide⟩, .inl ⟨_, rfl, _, _, rfl, rfl, (by show (0 : Int) < 6; decide), le_line (by show 2 ≤ _; decide), fun tp htp => ?_⟩⟩
    have s5 := Same.new (o := .tup [.int (z % 40), .int (z / 40 % 6)]) htp
    refine ⟨L, _, _, rfl, rfl, s5 _ _ hL4, lt_line (by omega), ?_⟩
    have nLD : D ≠ L := fun e => by
      have h1 : H2 L = some (.lst []) := s2 _ _ upd_same
      rw [← e] at h1
      rw [hD] at h1
      cases h1
    have ta : Tu (upd H4 tp (.tup [.int (z % 40), .int (z / 40 % 6)])) (upd (upd H4 tp (.tup [.int (z % 40), .int (z / 40 % 6)])) L (.lst (vs ++ [.ref tp]))) := Tu.at_ (s5 _ _ hL4) (by intro xs e; cases e)
    refine ⟨_, vs ++ [.ref tp], rfl, Same.put (s4.trans s5) hL, ?_, upd_same, by rw [List.length_append]; show vs.length + 1 ≤ _; omega, FalV.snoc (ta _ _ upd_same) (F4.tu ((Same.tu s5).trans ta))⟩
    rw [upd_ne nLD]
    exact s5 _ _ hD4
  · rintro σ H4 ⟨v2, vs, rfl, s4, hD4, hL4, lv, F4⟩
    exact ⟨_, rfl, q L vs H4 s4 hL hL4 F4⟩
end G

/-! part W21 -/
set_option Elab.async false
set_option linter.all false
set_option maxRecDepth 100000
set_option maxHeartbeats 4000000
/-! Values, expressions. -/
namespace G
open PySem PySem.Spec PyProof.Rows L2
variable {P : Program} {w : World} {K : PySem.W.Frag} {mg : Str → Option Value} {base : Heap}
def sdI (b : Bool) : Int := if b = true then 1 else 0
def VA (H : Hp) : AV → V → Prop
  | .non, v => v = .non
  | .int n, v => v = .int n
  | .bl b, v => v = .bl b
  | .en e, v => ∃ p, v = .ref p ∧ H p = some (.tup [.str "end", .int e.1, .int (sdI e.2)])
theorem VA.tu {H H' : Hp} (s : Tu H H') : ∀ {a : AV} {v : V}, VA H a v → VA H' a v
  | .non, _, h => h
  | .int _, _, h => h
  | .bl _, _, h => h
  | .en _, _, ⟨p, e, h⟩ => ⟨p, e, s _ _ h⟩
/-- names as a dict's entries -/
def NmV (H : Hp) : Names → List (Key × V) → Prop
  | [], [] => True
  | (x, a) :: m, (k, v) :: kvs => (k = .inr x ∧ VA H a v) ∧ NmV H m kvs
  | _, _ => False
theorem NmV.tu {H H' : Hp} (s : Tu H H') : ∀ {m : Names} {kvs : List (Key × V)}, NmV H m kvs → NmV H' m kvs
  | [], [], _ => trivial
  | (x, a) :: m, (k, v) :: kvs, ⟨⟨e, h⟩, r⟩ => ⟨⟨e, h.tu s⟩, NmV.tu s r⟩
  | [], _ :: _, h => h.elim
  | _ :: _, [], h => h.elim
theorem NmV.len {H : Hp} : ∀ {m : Names} {kvs : List (Key × V)}, NmV H m kvs → kvs.length = m.length
  | [], [], _ => rfl
  | (x, a) :: m, (k, v) :: kvs, ⟨_, r⟩ => congrArg (· + 1) (NmV.len r)
  | [], _ :: _, h => h.elim
  | _ :: _, [], h => h.elim
theorem NmV.get {H : Hp} {x : Str} {a : AV} : ∀ {m : Names} {kvs : List (Key × V)}, NmV H m kvs → m.lookup x = some a → ∃ v, valV kvs (.inr x) = some v ∧ VA H a v
  | [], [], _, e => by cases e
  | (y, b) :: m, (k, v) :: kvs, ⟨⟨e1, h⟩, r⟩, e => by
    rw [List.lookup_cons] at e
    by_cases c : x = y
    · subst c
      rw [beq_self_eq_true] at e
      cases e
      exact ⟨v, valV_pos e1, h⟩
    · rw [beq_eq_false_iff_ne.mpr c] at e
      obtain ⟨v', h1, h2⟩ := NmV.get r e
      refine ⟨v', ?_, h2⟩
      rw [valV_neg (fun z => c (Sum.inr.inj (e1.symm.trans z)).symm)]
      exact h1
  | [], _ :: _, h, _ => h.elim
  | _ :: _, [], h, _ => h.elim
theorem NmV.none {H : Hp} {x : Str} : ∀ {m : Names} {kvs : List (Key × V)}, NmV H m kvs → m.lookup x = none → valV kvs (.inr x) = none
  | [], [], _, _ => rfl
  | (y, b) :: m, (k, v) :: kvs, ⟨⟨e1, h⟩, r⟩, e => by
    rw [List.lookup_cons] at e
    by_cases c : x = y
    · subst c
      rw [beq_self_eq_true] at e
      cases e
    · rw [beq_eq_false_iff_ne.mpr c] at e
      rw [valV_neg (fun z => c (Sum.inr.inj (e1.symm.trans z)).symm)]
      exact NmV.none r e
  | [], _ :: _, h, _ => h.elim
  | _ :: _, [], h, _ => h.elim
def spIsEnd : V → Hp → VK → Prop := fun a H Q => ∃ av, VA H av a ∧ Q (.bl av.en?.isSome) H
theorem ok_is_end (T : Top K mg) : FnG P w K mg base 1 (He.ga K "is_end") p_is_end (S1 spIsEnd) := by
  refine FnG.of1 T.d_is_end sc_is_end rfl fun cdv A outer s H a Q E hr h => ⟨_, (pss_one (ps_ret (pe_and (pe_callB call_isi (by rfl) T.f_isinstance (by decide +kernel) (pa_cons (pv 0) (pa_cons (pe_bltn (v := .ty "tuple") (u := .type "tuple") rfl T.f_tuple (by decide +kernel) rfl) pa_nil))) (pe_and (pe_cmpR op_eq (pe_callB call_len_seq (by rfl) T.f_len PySem.boot_len (pa_cons (pv 0) pa_nil)) pe_int (nomark _)) (pe_one (pe_cmpR op_eq (pe_ix ix_tup (pv 0) pe_int (fun _ _ => rfl)) pe_str (nomark _))))))), ?_⟩
  obtain ⟨av, hv, q⟩ := h
  cases av with
  | non =>
    obtain rfl : a = .non := hv
    exact ⟨_, rfl, _, _, _, _, false, rfl, .ty _, .base .non, kit_ty (by decide +kernel), false, rfl, ite2 (fun c => absurd c (by decide)) fun _ => q⟩
  | int n =>
    obtain rfl : a = .int n := hv
    exact ⟨_, rfl, _, _, _, _, false, rfl, .ty _, .base (.int _), kit_ty (by decide +kernel), false, rfl, ite2 (fun c => absurd c (by decide)) fun _ => q⟩
  | bl b =>
    obtain rfl : a = .bl b := hv
    exact ⟨_, rfl, _, _, _, _, false, rfl, .ty _, .base (.bl _), kit_ty (by decide +kernel), false, rfl, ite2 (fun c => absurd c (by decide)) fun _ => q⟩
  | en e =>
    obtain ⟨p, rfl, hp⟩ := hv
    refine ⟨_, rfl, _, _, _, _, true, rfl, .ty _, .base (.tup hp), kit_ty (by decide +kernel), true, rfl, ite2 (fun _ => ?_) fun c => absurd rfl c⟩
    refine ⟨_, rfl, p, _, rfl, .inr (SqT.of hp), rfl, _, rfl, ite2 (fun _ => ?_) fun c => absurd (by simp) c⟩
    refine ⟨_, rfl, p, _, _, _, rfl, rfl, SqT.of hp, atI_nat (j := 0) rfl, rfl, ?_⟩
    have e1 : decide (V.str "end" = V.str "end") = true := by simp
    rw [e1]
    exact q
def spApply : V → V → V → Hp → VK → Prop := fun a b c H Q => ∃ (o : Op) (i j : Int), a = .str (opn o) ∧ b = .int i ∧ c = .int j ∧ (o = .mul → 0 ≤ j ∧ j < 65536) ∧ ∀ v, ((o.res = .int ∧ ∃ n, v = .int n) ∨ (o.res = .bool ∧ ∃ b, v = .bl b)) → Q v H
theorem ok_apply (T : Top K mg) : FnG P w K mg base 1 (He.ga K "apply") p_apply (S3 spApply) := by
  refine FnG.of3 T.d_apply sc_apply rfl fun cdv A outer s H a b c Q E hr h => ?_
  obtain ⟨t0, mgS⟩ := T.i_SIZE
  refine ⟨_, (pss_cons (ps_if (pt_cmpR op_eq (pv 0) pe_str (nomark _)) (pss_one (ps_ret (pe_op op_mod (pe_op op_add (pv 1) (pv 2)) (pe_glob (v := .int 65536) rfl mgS ⟨_, rfl⟩)))) pss_nil)
    (pss_cons (ps_if (pt_cmpR op_eq (pv 0) pe_str (nomark _)) (pss_one (ps_ret (pe_op op_mod (pe_op op_sub (pv 1) (pv 2)) (pe_glob (v := .int 65536) rfl mgS ⟨_, rfl⟩)))) pss_nil)
    (pss_cons (ps_if (pt_cmpR op_eq (pv 0) pe_str (nomark _)) (pss_one (ps_ret (pe_op op_mod (pe_op op_mul (pv 1) (pv 2)) (pe_glob (v := .int 65536) rfl mgS ⟨_, rfl⟩)))) pss_nil)
    (pss_cons (ps_if (pt_cmpR op_eq (pv 0) pe_str (nomark _)) (pss_one (ps_ret (pe_cmpR op_lt (pv 1) (pv 2) (nomark _)))) pss_nil)
    (pss_cons (ps_if (pt_cmpR op_eq (pv 0) pe_str (nomark _)) (pss_one (ps_ret (pe_cmpR op_le (pv 1) (pv 2) (nomark _)))) pss_nil)
    (pss_cons (ps_if (pt_cmpR op_eq (pv 0) pe_str (nomark _)) (pss_one (ps_ret (pe_cmpR op_eq (pv 1) (pv 2) (nomark _)))) pss_nil)
    (pss_cons (ps_if (pt_cmpR op_eq (pv 0) pe_str (nomark _)) (pss_one (ps_ret (pe_and (pv 1) (pe_one (pv 2))))) pss_nil)
    (pss_one (ps_ret (pe_or (pv 1) (pe_one (pv 2)))))))))))), ?_⟩
  obtain ⟨o, i, j, rfl, rfl, rfl, hm, q⟩ := h
  cases o with
  | add =>
    refine ⟨_, rfl, rfl, _, rfl, ite2 (fun c => ?_) (fun c => absurd (by decide +kernel) c)⟩
    exact ⟨_, rfl, _, rfl, _, _, rfl, rfl, _, _, rfl, rfl, (by show (0 : Int) < _; decide), q _ (.inl ⟨rfl, _, rfl⟩)⟩
  | sub =>
    refine ⟨_, rfl, rfl, _, rfl, ite2 (fun c => absurd c (by decide +kernel)) (fun c => ?_)⟩
    refine ⟨_, rfl, rfl, _, rfl, ite2 (fun c => ?_) (fun c => absurd (by decide +kernel) c)⟩
    exact ⟨_, rfl, _, rfl, _, _, rfl, rfl, _, _, rfl, rfl, (by show (0 : Int) < _; decide), q _ (.inl ⟨rfl, _, rfl⟩)⟩
  | mul =>
    refine ⟨_, rfl, rfl, _, rfl, ite2 (fun c => absurd c (by decide +kernel)) (fun c => ?_)⟩
    refine ⟨_, rfl, rfl, _, rfl, ite2 (fun c => absurd c (by decide +kernel)) (fun c => ?_)⟩
    refine ⟨_, rfl, rfl, _, rfl, ite2 (fun c => ?_) (fun c => absurd (by decide +kernel) c)⟩
    have := hm rfl
    exact ⟨_, rfl, _, rfl, _, _, rfl, rfl, .inr ⟨by omega, by omega⟩, _, _, rfl, rfl, (by show (0 : Int) < _; decide), q _ (.inl ⟨rfl, _, rfl⟩)⟩
  | lt =>
    refine ⟨_, rfl, rfl, _, rfl, ite2 (fun c => absurd c (by decide +kernel)) (fun c => ?_)⟩
    refine ⟨_, rfl, rfl, _, rfl, ite2 (fun c => absurd c (by decide +kernel)) (fun c => ?_)⟩
    refine ⟨_, rfl, rfl, _, rfl, ite2 (fun c => absurd c (by decide +kernel)) (fun c => ?_)⟩
    refine ⟨_, rfl, rfl, _, rfl, ite2 (fun c => ?_) (fun c => absurd (by decide +kernel) c)⟩
    exact ⟨_, rfl, _, rfl, _, _, rfl, rfl, q _ (.inr ⟨rfl, _, rfl⟩)⟩
  | le =>
    refine ⟨_, rfl, rfl, _, rfl, ite2 (fun c => absurd c (by decide +kernel)) (fun c => ?_)⟩
    refine ⟨_, rfl, rfl, _, rfl, ite2 (fun c => absurd c (by decide +kernel)) (fun c => ?_)⟩
    refine ⟨_, rfl, rfl, _, rfl, ite2 (fun c => absurd c (by decide +kernel)) (fun c => ?_)⟩
    refine ⟨_, rfl, rfl, _, rfl, ite2 (fun c => absurd c (by decide +kernel)) (fun c => ?_)⟩
    refine ⟨_, rfl, rfl, _, rfl, ite2 (fun c => ?_) (fun c => absurd (by decide +kernel) c)⟩
    exact ⟨_, rfl, _, rfl, _, _, rfl, rfl, q _ (.inr ⟨rfl, _, rfl⟩)⟩
  | eq =>
    refine ⟨_, rfl, rfl, _, rfl, ite2 (fun c => absurd c (by decide +kernel)) (fun c => ?_)⟩
    refine ⟨_, rfl, rfl, _, rfl, ite2 (fun c => absurd c (by decide +kernel)) (fun c => ?_)⟩
    refine ⟨_, rfl, rfl, _, rfl, ite2 (fun c => absurd c (by decide +kernel)) (fun c => ?_)⟩
    refine ⟨_, rfl, rfl, _, rfl, ite2 (fun c => absurd c (by decide +kernel)) (fun c => ?_)⟩
    refine ⟨_, rfl, rfl, _, rfl, ite2 (fun c => absurd c (by decide +kernel)) (fun c => ?_)⟩
    refine ⟨_, rfl, rfl, _, rfl, ite2 (fun c => ?_) (fun c => absurd (by decide +kernel) c)⟩
    exact ⟨_, rfl, _, rfl, rfl, q _ (.inr ⟨rfl, _, rfl⟩)⟩
def spEval (d : Nat) : V → V → Hp → VK → Prop := fun a b H Q => ∃ (e : Exp) (p : Addr) (kvs : List (Key × V)) (m : Names) (g : Ctx) (t : Ty) (ty : End → Talk), ExpAt H e a ∧ e.dep ≤ d ∧ b = .ref p ∧ H p = some (.dK kvs) ∧ NmV H m kvs ∧ CtxOk g m ty ∧ e.T g t ∧
  ∀ v av, VA H av v → AT ty av t → (∀ x, e = .var x → m.lookup x = some av) → (∀ n, e = .int n → av = .int n) → Q v H
theorem opn_ne (o : Op) : ¬ decide (V.str (opn o) = V.str "int") = true ∧ ¬ decide (V.str (opn o) = V.str "bool") = true ∧ ¬ decide (V.str (opn o) = V.str "var") = true ∧ ¬ decide (V.str (opn o) = V.str "not") = true := by
  cases o <;> decide +kernel
theorem eval_step {k d : Nat} {u : V → V → Hp → VK → Prop} (T : Top K mg) (GE : FnG P w K mg base k (He.ga K "evaluate") p_evaluate (S2 u)) (hk : 2 ≤ k) (hd : d = 0 ∨ u = spEval (d - 1)) :
    FnG P w K mg base (k + 1) (He.ga K "evaluate") p_evaluate (S2 (spEval d)) := by
  refine FnG.of2 T.d_evaluate sc_evaluate rfl fun cdv A outer s H a b Q E hr h => ?_
  have hu := hu_of hr
  refine ⟨_, (pss_cons (ps_if (PW.pt (pw_or (pt_cmpR op_eq (pe_ix ix_tup (pv 0) pe_int (fun _ _ => rfl)) pe_str (nomark _)) (pw_or1 (pt_cmpR op_eq (pe_ix ix_tup (pv 0) pe_int (fun _ _ => rfl)) pe_str (nomark _))))) (pss_one (ps_ret (pe_ix ix_tup (pv 0) pe_int (fun _ _ => rfl)))) pss_nil)
    (pss_cons (ps_if (pt_cmpR op_eq (pe_ix ix_tup (pv 0) pe_int (fun _ _ => rfl)) pe_str (nomark _)) (pss_cons (ps_if (pt_cmp (pc_dnotin hu (pe_ix ix_tup (pv 0) pe_int (fun _ _ => rfl)) (pv 1))) pss_never pss_nil)
    (pss_one (ps_ret (pe_dget hu (pv 1) (pe_ix ix_tup (pv 0) pe_int (fun _ _ => rfl)) (fun _ _ => rfl))))) pss_nil)
    (pss_cons (ps_if (pt_cmpR op_eq (pe_ix ix_tup (pv 0) pe_int (fun _ _ => rfl)) pe_str (nomark _)) (pss_one (ps_ret (pe_not (pcall (GE) (hr.mono (by omega)) T.g_evaluate (pa_cons (pe_ix ix_tup (pv 0) pe_int (fun _ _ => rfl)) (pa_cons (pv 1) pa_nil)))))) pss_nil)
    (pss_cons (ps_set (i := 2) sc_evaluate.nd rfl (Or.inl rfl) (pcall (GE) (hr.mono (by omega)) T.g_evaluate (pa_cons (pe_ix ix_tup (pv 0) pe_int (fun _ _ => rfl)) (pa_cons (pv 1) pa_nil))))
    (pss_cons (ps_set (i := 3) sc_evaluate.nd rfl (Or.inl rfl) (pcall (GE) (hr.mono (by omega)) T.g_evaluate (pa_cons (pe_ix ix_tup (pv 0) pe_int (fun _ _ => rfl)) (pa_cons (pv 1) pa_nil))))
    (pss_one (ps_ret (pcall (ok_apply T) (hr.mono (by omega)) T.g_apply (pa_cons (pe_ix ix_tup (pv 0) pe_int (fun _ _ => rfl)) (pa_cons (pv 2) (pa_cons (pv 3) pa_nil))))))))))), ?_⟩
  obtain ⟨e, np, kvs, m, g, t, ty, he, hdep, rfl, hn, hm, hc, hT, q⟩ := h
  cases e with
  | int n =>
    obtain ⟨p, rfl, hp⟩ := he
    refine ⟨_, rfl, p, _, _, _, rfl, rfl, SqT.of hp, atI_nat (j := 0) rfl, rfl, _, rfl, ite2 (fun c => ite2 (fun _ => ?_) fun c => absurd rfl c) (fun c => absurd (by decide +kernel) c)⟩
    refine ⟨_, rfl, p, _, _, _, rfl, rfl, SqT.of hp, atI_nat (j := 1) rfl, q _ (.int n) rfl ?_ (fun x e => by cases e) fun y e => by cases e; rfl⟩
    have hT : t = .int := hT
    rw [hT]
    trivial
  | bool n =>
    obtain ⟨p, rfl, hp⟩ := he
    refine ⟨_, rfl, p, _, _, _, rfl, rfl, SqT.of hp, atI_nat (j := 0) rfl, rfl, _, rfl, ite2 (fun c => absurd c (by decide +kernel)) (fun c => ?_)⟩
    refine ⟨_, rfl, p, _, _, _, rfl, rfl, SqT.of hp, atI_nat (j := 0) rfl, rfl, _, rfl, ite2 (fun _ => ?_) (fun c => absurd (by decide +kernel) c)⟩
    refine ⟨_, rfl, p, _, _, _, rfl, rfl, SqT.of hp, atI_nat (j := 1) rfl, q _ (.bl n) rfl ?_ (fun x e => by cases e) fun y e => by cases e⟩
    have hT : t = .bool := hT
    rw [hT]
    trivial
  | var x =>
    obtain ⟨p, rfl, hp⟩ := he
    have hT : g x = some t := hT
    obtain ⟨av, hl, ha⟩ := hc.k x t hT
    obtain ⟨v, hv, hva⟩ := hm.get hl
    have hg : DGet H np (.str x) (some v) := by
      rw [← hv]
      exact DGet.k (k := .inr x) hn
    refine ⟨_, rfl, p, _, _, _, rfl, rfl, SqT.of hp, atI_nat (j := 0) rfl, rfl, _, rfl, ite2 (fun c => absurd c (by decide +kernel)) (fun c => ?_)⟩
    refine ⟨_, rfl, p, _, _, _, rfl, rfl, SqT.of hp, atI_nat (j := 0) rfl, rfl, _, rfl, ite2 (fun c => absurd c (by decide +kernel)) (fun c => ?_)⟩
    refine ⟨_, rfl, p, _, _, _, rfl, rfl, SqT.of hp, atI_nat (j := 0) rfl, rfl, _, rfl, ite2 (fun _ => ?_) (fun c => absurd (by decide +kernel) c)⟩
    refine ⟨_, rfl, p, _, _, _, rfl, rfl, SqT.of hp, atI_nat (j := 1) rfl, _, rfl, np, _, rfl, hg, _, rfl, ite2 (fun c => absurd c (by intro z; cases z)) (fun c => ?_)⟩
    exact ⟨_, rfl, _, rfl, p, _, _, _, rfl, rfl, SqT.of hp, atI_nat (j := 1) rfl, np, _, rfl, hg, q _ av hva ha (fun y e => by cases e; exact hl) fun y e => by cases e⟩
  | neg e =>
    obtain ⟨p, w1, rfl, hp, he1⟩ := he
    have hdep : e.dep + 1 ≤ d := hdep
    obtain ⟨hT, hT1⟩ := (show t = .bool ∧ e.T g .bool from hT)
    have hd := hd.resolve_left (by omega)
    subst hd
    refine ⟨_, rfl, p, _, _, _, rfl, rfl, SqT.of hp, atI_nat (j := 0) rfl, rfl, _, rfl, ite2 (fun c => absurd c (by decide +kernel)) (fun c => ?_)⟩
    refine ⟨_, rfl, p, _, _, _, rfl, rfl, SqT.of hp, atI_nat (j := 0) rfl, rfl, _, rfl, ite2 (fun c => absurd c (by decide +kernel)) (fun c => ?_)⟩
    refine ⟨_, rfl, p, _, _, _, rfl, rfl, SqT.of hp, atI_nat (j := 0) rfl, rfl, _, rfl, ite2 (fun c => absurd c (by decide +kernel)) (fun c => ?_)⟩
    refine ⟨_, rfl, p, _, _, _, rfl, rfl, SqT.of hp, atI_nat (j := 0) rfl, rfl, _, rfl, ite2 (fun _ => ?_) (fun c => absurd (by decide +kernel) c)⟩
    refine ⟨_, rfl, p, _, _, _, rfl, rfl, SqT.of hp, atI_nat (j := 1) rfl, _, rfl, e, np, kvs, m, g, .bool, ty, he1, by omega, rfl, hn, hm, hc, hT1, fun v av hv ha _ _ => ?_⟩
    cases av with
    | bl b =>
      obtain rfl : v = .bl b := hv
      rw [hT] at q
      exact ⟨b, rfl, q _ (.bl (!b)) rfl trivial (fun x e => by cases e) fun y e => by cases e⟩
    | _ => exact ha.elim
  | bin o e1 e2 =>
    obtain ⟨p, w1, w2, rfl, hp, he1, he2⟩ := he
    have hdep : max e1.dep e2.dep + 1 ≤ d := hdep
    obtain ⟨hT, hT1, hT2, hT3⟩ := (show t = o.res ∧ e1.T g .int ∧ e2.T g .int ∧ (o = .mul → ∃ k : Int, e2 = .int k ∧ 0 ≤ k ∧ k < 65536) from hT)
    have hd := hd.resolve_left (by omega)
    subst hd
    obtain ⟨o1, o2, o3, o4⟩ := opn_ne o
    refine ⟨_, rfl, p, _, _, _, rfl, rfl, SqT.of hp, atI_nat (j := 0) rfl, rfl, _, rfl, ite2 (fun c => absurd c o1) (fun c => ?_)⟩
    refine ⟨_, rfl, p, _, _, _, rfl, rfl, SqT.of hp, atI_nat (j := 0) rfl, rfl, _, rfl, ite2 (fun c => absurd c o2) (fun c => ?_)⟩
    refine ⟨_, rfl, p, _, _, _, rfl, rfl, SqT.of hp, atI_nat (j := 0) rfl, rfl, _, rfl, ite2 (fun c => absurd c o3) (fun c => ?_)⟩
    refine ⟨_, rfl, p, _, _, _, rfl, rfl, SqT.of hp, atI_nat (j := 0) rfl, rfl, _, rfl, ite2 (fun c => absurd c o4) (fun c => ?_)⟩
    refine ⟨_, rfl, p, _, _, _, rfl, rfl, SqT.of hp, atI_nat (j := 1) rfl, _, rfl, e1, np, kvs, m, g, .int, ty, he1, by omega, rfl, hn, hm, hc, hT1, fun v1 a1 hv1 ha1 _ _ => ?_⟩
    cases a1 with
    | int i =>
      obtain rfl : v1 = .int i := hv1
      refine ⟨_, rfl, p, _, _, _, rfl, rfl, SqT.of hp, atI_nat (j := 2) rfl, _, rfl, e2, np, kvs, m, g, .int, ty, he2, by omega, rfl, hn, hm, hc, hT2, fun v2 a2 hv2 ha2 _ hl2 => ?_⟩
      cases a2 with
      | int j =>
        obtain rfl : v2 = .int j := hv2
        refine ⟨_, rfl, p, _, _, _, rfl, rfl, SqT.of hp, atI_nat (j := 0) rfl, _, rfl, _, rfl, o, i, j, rfl, rfl, rfl, fun e => ?_, fun v hv => ?_⟩
        · obtain ⟨k, e2', h1, h2⟩ := hT3 e
          have := hl2 k e2'
          cases this
          exact ⟨h1, h2⟩
        · rw [hT] at q
          rcases hv with ⟨er, n, rfl⟩ | ⟨er, n, rfl⟩
          · refine q _ (.int n) rfl ?_ (fun x e => by cases e) fun y e => by cases e
            rw [er]
            trivial
          · refine q _ (.bl n) rfl ?_ (fun x e => by cases e) fun y e => by cases e
            rw [er]
            trivial
      | _ => exact ha2.elim
    | _ => exact ha1.elim
theorem ok_eval_n (T : Top K mg) : ∀ d, FnG P w K mg base (3 + d) (He.ga K "evaluate") p_evaluate (S2 (spEval d))
  | 0 => eval_step (k := 2) (u := fun _ _ _ _ => False) T (((FnG.never T.d_evaluate).imp fun vs H Q h => by obtain ⟨_, _, _, h⟩ := h.len; exact h).up (Nat.zero_le _)) (Nat.le_refl _) (.inl rfl)
  | d + 1 => eval_step (k := 3 + d) T (ok_eval_n T d) (by omega) (.inr rfl)
theorem ok_evaluate (T : Top K mg) : FnG P w K mg base 8 (He.ga K "evaluate") p_evaluate (S2 (spEval 3)) := (ok_eval_n T 3).up (by decide)
end G

/-! part W22 -/
set_option Elab.async false
set_option linter.all false
set_option maxRecDepth 100000
set_option maxHeartbeats 4000000
/-! A state as it lies. -/
namespace G
open PySem PySem.Spec PyProof.Rows L2
variable {P : Program} {w : World} {K : PySem.W.Frag} {mg : Str → Option Value} {base : Heap}
inductive Slot where
  | px | pq | st | nw | cv | al | ml | bl | ac (i : Nat) | nm (i : Nat) | mk (c : Nat) | pr (c : Nat) | bx (e : End)
  deriving DecidableEq
def Slot.onN (n na : Nat) : Slot → Prop
  | .ac i => i < na
  | .nm i => i < na
  | .mk c => c < n
  | .pr c => c < n
  | .bx e => e.1 < n
  | _ => True
abbrev Slot.on (s : Sta) (a : Slot) : Prop := a.onN s.n s.na
abbrev Pla := Slot → Addr
def refs (L : Pla) (f : Nat → Slot) (n : Nat) : List V := (List.range n).map fun i => V.ref (L (f i))
theorem refs_len (L : Pla) (f : Nat → Slot) (n : Nat) : (refs L f n).length = n := by
  unfold refs
  rw [List.length_map, List.length_range]
theorem refs_get {L : Pla} {f : Nat → Slot} {n i : Nat} (h : i < n) : (refs L f n)[i]? = some (.ref (L (f i))) := by
  unfold refs
  rw [List.getElem?_map, List.getElem?_range h]
  rfl
theorem refs_at {L : Pla} {f : Nat → Slot} {n i : Nat} (h : i < n) : atI (refs L f n) (i : Int) = some (.ref (L (f i))) := atI_nat (refs_get h)
theorem refs_snoc (L : Pla) (f : Nat → Slot) (n : Nat) : refs L f (n + 1) = refs L f n ++ [.ref (L (f n))] := by
  unfold refs
  rw [List.range_succ, List.map_append]
  rfl
theorem refs_congr {L L' : Pla} {f : Nat → Slot} {n : Nat} (h : ∀ i, i < n → L' (f i) = L (f i)) : refs L' f n = refs L f n := by
  unfold refs
  refine List.map_congr_left fun i hi => ?_
  rw [h i (List.mem_range.mp hi)]
def mkS : Mark → Str
  | .held => "held" | .sent => "sent" | .closed => "closed" | .fallen => "fallen"
def MsV (H : Hp) : Names → List V → Prop
  | [], [] => True
  | (l, a) :: m, v :: vs => (∃ p w, v = .ref p ∧ H p = some (.tup [.str l, w]) ∧ VA H a w) ∧ MsV H m vs
  | _, _ => False
theorem MsV.tu {H H' : Hp} (s : Tu H H') : ∀ {m : Names} {vs : List V}, MsV H m vs → MsV H' m vs
  | [], [], _ => trivial
  | (l, a) :: m, v :: vs, ⟨⟨p, w, e, h1, h2⟩, r⟩ => ⟨⟨p, w, e, s _ _ h1, h2.tu s⟩, MsV.tu s r⟩
  | [], _ :: _, h => h.elim
  | _ :: _, [], h => h.elim
theorem MsV.len {H : Hp} : ∀ {m : Names} {vs : List V}, MsV H m vs → vs.length = m.length
  | [], [], _ => rfl
  | (l, a) :: m, v :: vs, ⟨_, r⟩ => congrArg (· + 1) (MsV.len r)
  | [], _ :: _, h => h.elim
  | _ :: _, [], h => h.elim
theorem MsV.snoc {H : Hp} {l : Str} {a : AV} {p : Addr} {w : V} (h1 : H p = some (.tup [.str l, w])) (h2 : VA H a w) : ∀ {m : Names} {vs : List V}, MsV H m vs → MsV H (m ++ [(l, a)]) (vs ++ [.ref p])
  | [], [], _ => ⟨⟨p, w, rfl, h1, h2⟩, trivial⟩
  | (l, a) :: m, v :: vs, ⟨x, r⟩ => ⟨x, MsV.snoc h1 h2 r⟩
  | [], _ :: _, h => h.elim
  | _ :: _, [], h => h.elim
theorem MsV.get {H : Hp} : ∀ {m : Names} {vs : List V} {i : Nat} {v : V}, MsV H m vs → vs[i]? = some v → ∃ l a p w, m[i]? = some (l, a) ∧ v = .ref p ∧ H p = some (.tup [.str l, w]) ∧ VA H a w
  | [], [], i, v, _, e => by simp at e
  | (l, a) :: m, v :: vs, 0, u, ⟨⟨p, w, e1, h1, h2⟩, r⟩, e => by
    cases e
    exact ⟨l, a, p, w, rfl, e1, h1, h2⟩
  | (l, a) :: m, v :: vs, i + 1, u, ⟨_, r⟩, e => MsV.get (i := i) r e
  | [], _ :: _, _, _, h, _ => h.elim
  | _ :: _, [], _, _, h, _ => h.elim
abbrev cvC (K : PySem.W.Frag) : Addr := He.ga K "Conversations"
abbrev acC (K : PySem.W.Frag) : Addr := He.ga K "Actor"
abbrev stC (K : PySem.W.Frag) : Addr := He.ga K "State"
abbrev cvO (K : PySem.W.Frag) (dx m b : Addr) : HO := .ins (cvC K) dx [("_marks", .ref m), ("_boxes", .ref b)]
abbrev acO (K : PySem.W.Frag) (dx : Addr) (nv : V) (n : Addr) (r : V) (st : Str) : HO := .ins (acC K) dx [("name", nv), ("names", .ref n), ("rest", r), ("status", .str st)]
abbrev stO (K : PySem.W.Frag) (dx p nw al cv : Addr) : HO := .ins (stC K) dx [("_program", .ref p), ("_newest", .ref nw), ("_actors", .ref al), ("conversations", .ref cv)]
structure Rep (K : PySem.W.Frag) (D : Defs) (H : Hp) (L : Pla) (s : Sta) : Prop where
  inj : ∀ a b, a.on s → b.on s → L a = L b → a = b
  px : ∃ dx t, H (L .px) = some (prO K dx t (L .pq))
  pq : ∃ kvs, H (L .pq) = some (.dK kvs) ∧ ∀ f ps, D.sg f = some ps → ∃ v, valV kvs (.inr f) = some v ∧ DfAt H f ps (D.bd f) v
  st : ∃ dx, H (L .st) = some (stO K dx (L .px) (L .nw) (L .al) (L .cv))
  nw : H (L .nw) = some (.dK [])
  cv : ∃ dx, H (L .cv) = some (cvO K dx (L .ml) (L .bl))
  al : H (L .al) = some (.lst (refs L .ac s.na))
  ml : H (L .ml) = some (.lst (refs L .mk s.n))
  bl : H (L .bl) = some (.lst (refs L .pr s.n))
  ac : ∀ i, i < s.na → ∃ dx nv r st us, H (L (.ac i)) = some (acO K dx nv (L (.nm i)) (.ref r) st) ∧ (s.run i = true ↔ st = "running") ∧ H r = some (.tup us) ∧ (s.run i = true → BlkAt H (s.rest i) us)
  nm : ∀ i, i < s.na → ∃ kvs, H (L (.nm i)) = some (.dK kvs) ∧ NmV H (s.nm i) kvs
  mr : ∀ c, c < s.n → H (L (.mk c)) = some (.lst [.str (mkS (s.mark (c, false))), .str (mkS (s.mark (c, true)))])
  pr : ∀ c, c < s.n → H (L (.pr c)) = some (.lst [.ref (L (.bx (c, false))), .ref (L (.bx (c, true)))])
  bx : ∀ e : End, e.1 < s.n → ∃ ms, H (L (.bx e)) = some (.lst ms) ∧ MsV H (s.box e) ms
section
variable {D : Defs} {H H' H1 : Hp} {L L' L1 : Pla} {s s' s1 : Sta}
/-- the same state in a heap that holds the same at its places -/
theorem Rep.keep (R : Rep K D H L s) (k : ∀ a : Slot, a.on s → ∀ o, H (L a) = some o → H' (L a) = some o) (tu : Tu H H') : Rep K D H' L s where
  inj := R.inj
  px := let ⟨dx, t, h⟩ := R.px; ⟨dx, t, k .px trivial _ h⟩
  pq := let ⟨kvs, h, q⟩ := R.pq; ⟨kvs, k .pq trivial _ h, fun f ps e => let ⟨v, h1, h2⟩ := q f ps e; ⟨v, h1, h2.tu tu⟩⟩
  st := let ⟨dx, h⟩ := R.st; ⟨dx, k .st trivial _ h⟩
  nw := k .nw trivial _ R.nw
  cv := let ⟨dx, h⟩ := R.cv; ⟨dx, k .cv trivial _ h⟩
  al := k .al trivial _ R.al
  ml := k .ml trivial _ R.ml
  bl := k .bl trivial _ R.bl
  ac := fun i hi => let ⟨dx, nv, r, st, us, h1, h2, h3, h4⟩ := R.ac i hi; ⟨dx, nv, r, st, us, k (.ac i) hi _ h1, h2, tu _ _ h3, fun e => (h4 e).tu tu⟩
  nm := fun i hi => let ⟨kvs, h1, h2⟩ := R.nm i hi; ⟨kvs, k (.nm i) hi _ h1, h2.tu tu⟩
  mr := fun c hc => k (.mk c) hc _ (R.mr c hc)
  pr := fun c hc => k (.pr c) hc _ (R.pr c hc)
  bx := fun e he => let ⟨ms, h1, h2⟩ := R.bx e he; ⟨ms, k (.bx e) he _ h1, h2.tu tu⟩
theorem Rep.same (R : Rep K D H L s) (k : Same H H') : Rep K D H' L s := R.keep (fun a _ o h => k _ _ h) (Same.tu k)
theorem Rep.got (R : Rep K D H L s) : ∀ a : Slot, a.on s → ∃ o, H (L a) = some o ∧ ∀ xs, o ≠ .tup xs
  | .px, _ => let ⟨_, _, h⟩ := R.px; ⟨_, h, fun _ e => by cases e⟩
  | .pq, _ => let ⟨_, h, _⟩ := R.pq; ⟨_, h, fun _ e => by cases e⟩
  | .st, _ => let ⟨_, h⟩ := R.st; ⟨_, h, fun _ e => by cases e⟩
  | .nw, _ => ⟨_, R.nw, fun _ e => by cases e⟩
  | .cv, _ => let ⟨_, h⟩ := R.cv; ⟨_, h, fun _ e => by cases e⟩
  | .al, _ => ⟨_, R.al, fun _ e => by cases e⟩
  | .ml, _ => ⟨_, R.ml, fun _ e => by cases e⟩
  | .bl, _ => ⟨_, R.bl, fun _ e => by cases e⟩
  | .ac i, h => let ⟨_, _, _, _, _, h, _⟩ := R.ac i h; ⟨_, h, fun _ e => by cases e⟩
  | .nm i, h => let ⟨_, h, _⟩ := R.nm i h; ⟨_, h, fun _ e => by cases e⟩
  | .mk c, h => ⟨_, R.mr c h, fun _ e => by cases e⟩
  | .pr c, h => ⟨_, R.pr c h, fun _ e => by cases e⟩
  | .bx e, h => let ⟨_, h, _⟩ := R.bx e h; ⟨_, h, fun _ e => by cases e⟩
theorem Rep.tu (R : Rep K D H L s) {a : Slot} (ha : a.on s) (o : HO) : Tu H (upd H (L a) o) := by
  obtain ⟨u, h1, h2⟩ := R.got a ha
  exact Tu.at_ h1 h2
/-- an address that is none of the state's -/
def Out (L : Pla) (s : Sta) (b : Addr) : Prop := ∀ a : Slot, a.on s → L a ≠ b
theorem Rep.out (R : Rep K D H L s) {b : Addr} (h : H b = none) : Out L s b := fun a ha e => by
  obtain ⟨o, h1, _⟩ := R.got a ha
  rw [e, h] at h1
  cases h1
theorem Rep.put (R : Rep K D H L s) {b : Addr} {o u : HO} (h : Out L s b) (hb : H b = Option.some u) (hu : ∀ xs, u ≠ .tup xs) : Rep K D (upd H b o) L s :=
  R.keep (fun a ha o e => by rw [upd_ne (h a ha)]; exact e) (Tu.at_ hb hu)
/-- what a part of the run leaves of the rest -/
structure Frm (H H' : Hp) (L L' : Pla) (s s' : Sta) : Prop where
  keep : ∀ b o, H b = Option.some o → Out L s b → H' b = Option.some o
  dom : ∀ b o, H b = Option.some o → ∃ o', H' b = Option.some o'
  new : ∀ a : Slot, a.on s' → (a.on s ∧ L' a = L a) ∨ H (L' a) = none
  mono : ∀ a : Slot, a.on s → a.on s'
  fix : L' .st = L .st ∧ L' .cv = L .cv
  tu : Tu H H'
theorem Frm.out (F : Frm H H' L L' s s') {b : Addr} {o : HO} (h : H b = Option.some o) (hb : Out L s b) : Out L' s' b := fun a ha e => by
  rcases F.new a ha with ⟨h1, h2⟩ | h1
  · exact hb a h1 (h2.symm.trans e)
  · rw [e, h] at h1
    cases h1
theorem Frm.refl (H : Hp) (L : Pla) (s : Sta) : Frm H H L L s s := ⟨fun _ _ h _ => h, fun _ o h => ⟨o, h⟩, fun _ h => .inl ⟨h, rfl⟩, fun _ h => h, ⟨rfl, rfl⟩, Tu.refl H⟩
theorem Frm.trans {H2 : Hp} {L2 : Pla} {s2 : Sta} (A : Frm H H1 L L1 s s1) (B : Frm H1 H2 L1 L2 s1 s2) : Frm H H2 L L2 s s2 where
  keep := fun b o h hb => B.keep b o (A.keep b o h hb) (A.out h hb)
  dom := fun b o h => let ⟨_, h1⟩ := A.dom b o h; B.dom b _ h1
  new := fun a ha => by
    rcases B.new a ha with ⟨h1, h2⟩ | h1
    · rw [h2]
      exact A.new a h1
    · right
      cases e : H (L2 a) with
      | none => rfl
      | some o =>
        obtain ⟨o', h2⟩ := A.dom _ o e
        rw [h2] at h1
        cases h1
  mono := fun a h => B.mono a (A.mono a h)
  fix := ⟨B.fix.1.trans A.fix.1, B.fix.2.trans A.fix.2⟩
  tu := A.tu.trans B.tu
theorem Frm.same (k : Same H H') : Frm H H' L L s s := ⟨fun _ _ h _ => k _ _ h, fun _ o h => ⟨o, k _ _ h⟩, fun _ h => .inl ⟨h, rfl⟩, fun _ h => h, ⟨rfl, rfl⟩, Same.tu k⟩
/-- one place is written -/
theorem Frm.at_ (R : Rep K D H L s) {a : Slot} (ha : a.on s) (o : HO) (on : ∀ b : Slot, b.on s' ↔ b.on s) : Frm H (upd H (L a) o) L L s s' where
  keep := fun b u h hb => by rw [upd_ne (hb a ha).symm]; exact h
  dom := fun b u h => by
    by_cases e : b = L a
    · exact ⟨o, by rw [e]; exact upd_same⟩
    · exact ⟨u, by rw [upd_ne e]; exact h⟩
  new := fun b hb => .inl ⟨(on b).mp hb, rfl⟩
  mono := fun b hb => (on b).mpr hb
  fix := ⟨rfl, rfl⟩
  tu := R.tu ha o
theorem Rep.ne (R : Rep K D H L s) {a b : Slot} (ha : a.on s) (hb : b.on s) (h : a ≠ b) : L a ≠ L b := fun e => h (R.inj a b ha hb e)
/-- what lies at the other places stays -/
theorem Rep.oth (R : Rep K D H L s) {a : Slot} (ha : a.on s) (o : HO) {b : Slot} (hb : b.on s) (h : b ≠ a) {u : HO} (e : H (L b) = Option.some u) : upd H (L a) o (L b) = Option.some u := by
  rw [upd_ne (R.ne hb ha h)]
  exact e
end
end G

/-! part W23 -/
set_option Elab.async false
set_option linter.all false
set_option maxRecDepth 100000
set_option maxHeartbeats 4000000
/-! Marks and mailboxes are written. -/
namespace G
open PySem PySem.Spec PyProof.Rows L2
variable {P : Program} {w : World} {K : PySem.W.Frag} {mg : Str → Option Value} {base : Heap}
section
variable {D : Defs} {H H' H1 : Hp} {L L' L1 : Pla} {s s' s1 : Sta}
def mkL (f : End → Mark) (c : Nat) : List V := [.str (mkS (f (c, false))), .str (mkS (f (c, true)))]
theorem Rep.setMark (R : Rep K D H L s) {c : Nat} (hc : c < s.n) (f : End → Mark) (hf : ∀ e : End, e.1 ≠ c → f e = s.mark e) : Rep K D (upd H (L (.mk c)) (.lst (mkL f c))) L { s with mark := f } := by
  have ha : Slot.on s (.mk c) := hc
  have tu := R.tu ha (.lst (mkL f c))
  have k : ∀ b : Slot, b.on s → b ≠ .mk c → ∀ o, H (L b) = some o → upd H (L (.mk c)) (.lst (mkL f c)) (L b) = some o := fun b hb n o e => R.oth ha _ hb n e
  refine ⟨R.inj, ?_, ?_, ?_, k .nw trivial (by intro e; cases e) _ R.nw, ?_, k .al trivial (by intro e; cases e) _ R.al, k .ml trivial (by intro e; cases e) _ R.ml, k .bl trivial (by intro e; cases e) _ R.bl, fun i hi => ?_, fun i hi => ?_, fun d hd => ?_, fun d hd => k (.pr d) hd (by intro e; cases e) _ (R.pr d hd), fun e he => ?_⟩
  · obtain ⟨dx, t, h⟩ := R.px
    exact ⟨dx, t, k .px trivial (by intro e; cases e) _ h⟩
  · obtain ⟨kvs, h, q⟩ := R.pq
    exact ⟨kvs, k .pq trivial (by intro e; cases e) _ h, fun f ps e => let ⟨v, h1, h2⟩ := q f ps e; ⟨v, h1, h2.tu tu⟩⟩
  · obtain ⟨dx, h⟩ := R.st
    exact ⟨dx, k .st trivial (by intro e; cases e) _ h⟩
  · obtain ⟨dx, h⟩ := R.cv
    exact ⟨dx, k .cv trivial (by intro e; cases e) _ h⟩
  · obtain ⟨dx, nv, r, st, us, h1, h2, h3, h4⟩ := R.ac i hi
    exact ⟨dx, nv, r, st, us, k (.ac i) hi (by intro e; cases e) _ h1, h2, tu _ _ h3, fun e => (h4 e).tu tu⟩
  · obtain ⟨kvs, h1, h2⟩ := R.nm i hi
    exact ⟨kvs, k (.nm i) hi (by intro e; cases e) _ h1, h2.tu tu⟩
  · by_cases e : d = c
    · subst e
      exact upd_same
    · show upd H (L (.mk c)) _ (L (.mk d)) = some (.lst (mkL f d))
      have := k (.mk d) hd (by intro z; cases z; exact e rfl) _ (R.mr d hd)
      rw [this]
      unfold mkL
      rw [hf (d, false) e, hf (d, true) e]
  · obtain ⟨ms, h1, h2⟩ := R.bx e he
    exact ⟨ms, k (.bx e) he (by intro e; cases e) _ h1, h2.tu tu⟩
/-- a mailbox's list is written -/
theorem Rep.setBox (R : Rep K D H L s) {e : End} (he : e.1 < s.n) {ms : List V} {m : Names} (hm : MsV H m ms) : Rep K D (upd H (L (.bx e)) (.lst ms)) L { s with box := fset s.box e m } := by
  have ha : Slot.on s (.bx e) := he
  have tu := R.tu ha (.lst ms)
  have k : ∀ b : Slot, b.on s → b ≠ .bx e → ∀ o, H (L b) = some o → upd H (L (.bx e)) (.lst ms) (L b) = some o := fun b hb n o e => R.oth ha _ hb n e
  refine ⟨R.inj, ?_, ?_, ?_, k .nw trivial (by intro e; cases e) _ R.nw, ?_, k .al trivial (by intro e; cases e) _ R.al, k .ml trivial (by intro e; cases e) _ R.ml, k .bl trivial (by intro e; cases e) _ R.bl, fun i hi => ?_, fun i hi => ?_, fun d hd => k (.mk d) hd (by intro e; cases e) _ (R.mr d hd), fun d hd => k (.pr d) hd (by intro e; cases e) _ (R.pr d hd), fun f hf => ?_⟩
  · obtain ⟨dx, t, h⟩ := R.px
    exact ⟨dx, t, k .px trivial (by intro e; cases e) _ h⟩
  · obtain ⟨kvs, h, q⟩ := R.pq
    exact ⟨kvs, k .pq trivial (by intro e; cases e) _ h, fun f ps e => let ⟨v, h1, h2⟩ := q f ps e; ⟨v, h1, h2.tu tu⟩⟩
  · obtain ⟨dx, h⟩ := R.st
    exact ⟨dx, k .st trivial (by intro e; cases e) _ h⟩
  · obtain ⟨dx, h⟩ := R.cv
    exact ⟨dx, k .cv trivial (by intro e; cases e) _ h⟩
  · obtain ⟨dx, nv, r, st, us, h1, h2, h3, h4⟩ := R.ac i hi
    exact ⟨dx, nv, r, st, us, k (.ac i) hi (by intro e; cases e) _ h1, h2, tu _ _ h3, fun e => (h4 e).tu tu⟩
  · obtain ⟨kvs, h1, h2⟩ := R.nm i hi
    exact ⟨kvs, k (.nm i) hi (by intro e; cases e) _ h1, h2.tu tu⟩
  · by_cases h : f = e
    · subst h
      refine ⟨ms, upd_same, ?_⟩
      show MsV _ (fset s.box f m f) ms
      rw [fset_same]
      exact hm.tu tu
    · obtain ⟨ms', h1, h2⟩ := R.bx f hf
      refine ⟨ms', k (.bx f) hf (by intro z; cases z; exact h rfl) _ h1, ?_⟩
      show MsV _ (fset s.box e m f) ms'
      rw [fset_ne h]
      exact h2.tu tu
/-- a mailbox gets another list -/
theorem Rep.newBox (R : Rep K D H L s) {e : End} (he : e.1 < s.n) {ms : List V} {m : Names} {p : Addr} (hp : H p = some (.lst ms)) (ho : Out L s p) (hm : MsV H m ms) :
    Rep K D (upd H (L (.pr e.1)) (.lst [.ref (fset L (.bx e) p (.bx (e.1, false))), .ref (fset L (.bx e) p (.bx (e.1, true)))])) (fset L (.bx e) p) { s with box := fset s.box e m } := by
  have ha : Slot.on s (.pr e.1) := he
  have tu := R.tu ha (.lst [.ref (fset L (.bx e) p (.bx (e.1, false))), .ref (fset L (.bx e) p (.bx (e.1, true)))])
  have lo : ∀ b : Slot, b ≠ .bx e → fset L (.bx e) p b = L b := fun b h => fset_ne h
  have k : ∀ b : Slot, b.on s → b ≠ .pr e.1 → b ≠ .bx e → ∀ o, H (L b) = some o → upd H (L (.pr e.1)) (.lst [.ref (fset L (.bx e) p (.bx (e.1, false))), .ref (fset L (.bx e) p (.bx (e.1, true)))]) (fset L (.bx e) p b) = some o := fun b hb n n2 o e => by
    rw [lo b n2]
    exact R.oth ha _ hb n e
  refine ⟨fun a b ha' hb h => ?_, ?_, ?_, ?_, ?_, ?_, ?_, ?_, ?_, fun i hi => ?_, fun i hi => ?_, fun d hd => ?_, fun d hd => ?_, fun f hf => ?_⟩
  · by_cases h1 : a = .bx e <;> by_cases h2 : b = .bx e
    · rw [h1, h2]
    · rw [h1, fset_same, lo b h2] at h
      exact absurd h.symm (ho b hb)
    · rw [h2, fset_same, lo a h1] at h
      exact absurd h (ho a ha')
    · rw [lo a h1, lo b h2] at h
      exact R.inj a b ha' hb h
  · obtain ⟨dx, t, h⟩ := R.px
    rw [lo .pq (by intro e; cases e)]
    exact ⟨dx, t, k .px trivial (by intro e; cases e) (by intro e; cases e) _ h⟩
  · obtain ⟨kvs, h, q⟩ := R.pq
    exact ⟨kvs, k .pq trivial (by intro e; cases e) (by intro e; cases e) _ h, fun f ps e => let ⟨v, h1, h2⟩ := q f ps e; ⟨v, h1, h2.tu tu⟩⟩
  · obtain ⟨dx, h⟩ := R.st
    rw [lo .px (by intro e; cases e), lo .nw (by intro e; cases e), lo .al (by intro e; cases e), lo .cv (by intro e; cases e)]
    exact ⟨dx, k .st trivial (by intro e; cases e) (by intro e; cases e) _ h⟩
  · exact k .nw trivial (by intro e; cases e) (by intro e; cases e) _ R.nw
  · obtain ⟨dx, h⟩ := R.cv
    rw [lo .ml (by intro e; cases e), lo .bl (by intro e; cases e)]
    exact ⟨dx, k .cv trivial (by intro e; cases e) (by intro e; cases e) _ h⟩
  · rw [show refs (fset L (.bx e) p) .ac s.na = refs L .ac s.na from refs_congr fun i _ => lo _ (by intro e; cases e)]
    exact k .al trivial (by intro e; cases e) (by intro e; cases e) _ R.al
  · rw [show refs (fset L (.bx e) p) .mk s.n = refs L .mk s.n from refs_congr fun i _ => lo _ (by intro e; cases e)]
    exact k .ml trivial (by intro e; cases e) (by intro e; cases e) _ R.ml
  · rw [show refs (fset L (.bx e) p) .pr s.n = refs L .pr s.n from refs_congr fun i _ => lo _ (by intro e; cases e)]
    exact k .bl trivial (by intro e; cases e) (by intro e; cases e) _ R.bl
  · obtain ⟨dx, nv, r, st, us, h1, h2, h3, h4⟩ := R.ac i hi
    rw [lo (.nm i) (by intro e; cases e)]
    exact ⟨dx, nv, r, st, us, k (.ac i) hi (by intro e; cases e) (by intro e; cases e) _ h1, h2, tu _ _ h3, fun e => (h4 e).tu tu⟩
  · obtain ⟨kvs, h1, h2⟩ := R.nm i hi
    exact ⟨kvs, k (.nm i) hi (by intro e; cases e) (by intro e; cases e) _ h1, h2.tu tu⟩
  · exact k (.mk d) hd (by intro e; cases e) (by intro e; cases e) _ (R.mr d hd)
  · by_cases h : d = e.1
    · subst h
      rw [lo (.pr e.1) (by intro e; cases e)]
      exact upd_same
    · rw [lo (.bx (d, false)) (by intro z; cases z; exact h rfl), lo (.bx (d, true)) (by intro z; cases z; exact h rfl)]
      exact k (.pr d) hd (by intro z; cases z; exact h rfl) (by intro e; cases e) _ (R.pr d hd)
  · by_cases h : f = e
    · subst h
      rw [fset_same]
      refine ⟨ms, ?_, ?_⟩
      · rw [upd_ne (ho _ ha).symm]
        exact hp
      · show MsV _ (fset s.box f m f) ms
        rw [fset_same]
        exact hm.tu tu
    · obtain ⟨ms', h1, h2⟩ := R.bx f hf
      refine ⟨ms', k (.bx f) hf (by intro e; cases e) (by intro z; cases z; exact h rfl) _ h1, ?_⟩
      show MsV _ (fset s.box e m f) ms'
      rw [fset_ne h]
      exact h2.tu tu
theorem Frm.newBox (R : Rep K D H L s) {e : End} (he : e.1 < s.n) {p : Addr} {o : HO} (hp : H1 p = none) (A : Frm H1 H L L s s) : Frm H1 (upd H (L (.pr e.1)) o) L (fset L (.bx e) p) s { s with box := s'.box, mark := s'.mark } := by
  have B : Frm H (upd H (L (.pr e.1)) o) L L s { s with box := s'.box, mark := s'.mark } := Frm.at_ R (a := .pr e.1) he o fun _ => Iff.rfl
  have C := A.trans B
  refine ⟨C.keep, C.dom, fun a ha => ?_, C.mono, ⟨(fset_ne (by intro e; cases e)).trans C.fix.1, (fset_ne (by intro e; cases e)).trans C.fix.2⟩, C.tu⟩
  by_cases h : a = .bx e
  · subst h
    right
    rw [fset_same]
    exact hp
  · rw [fset_ne h]
    exact C.new a ha
end
end G

/-! part W24 -/
set_option Elab.async false
set_option linter.all false
set_option maxRecDepth 100000
set_option maxHeartbeats 4000000
/-! Conversations: marks, mailboxes. -/
namespace G
open PySem PySem.Spec PyProof.Rows L2
variable {P : Program} {w : World} {K : PySem.W.Frag} {mg : Str → Option Value} {base : Heap}
theorem at_sd {x y : V} (b : Bool) : atI [x, y] (sdI b) = some (if b = true then y else x) := by
  cases b
  · exact atI_nat (j := 0) rfl
  · exact atI_nat (j := 1) rfl
theorem ix_sd (b : Bool) : ixN 2 (sdI b) = some (if b = true then 1 else 0) := by
  cases b <;> decide
theorem one_sd (b : Bool) : 1 - sdI b = sdI (!b) := by
  cases b <;> rfl
theorem mk_sd (f : End → Mark) (c : Nat) (b : Bool) : atI (mkL f c) (sdI b) = some (.str (mkS (f (c, b)))) := by
  unfold mkL
  rw [at_sd]
  cases b <;> rfl
theorem mk_set (f : End → Mark) (c : Nat) (b : Bool) (m : Mark) : (mkL f c).set (if b = true then 1 else 0) (.str (mkS m)) = mkL (fset f (c, b) m) c := by
  cases b
  · show [V.str (mkS m), V.str (mkS (f (c, true)))] = mkL _ c
    unfold mkL
    rw [fset_same, fset_ne (by intro e; cases e)]
  · show [V.str (mkS (f (c, false))), V.str (mkS m)] = mkL _ c
    unfold mkL
    rw [fset_same, fset_ne (by intro e; cases e)]
abbrev fMarks : Str := "_marks"
def spMark (K : PySem.W.Frag) (D : Defs) : V → V → V → Hp → VK → Prop := fun a b c H Q => ∃ (L : Pla) (s : Sta) (e : End), a = .ref (L .cv) ∧ b = .int e.1 ∧ c = .int (sdI e.2) ∧ Rep K D H L s ∧ e.1 < s.n ∧ Q (.str (mkS (s.mark e))) H
theorem ok_cv_mark {D : Defs} (T : Top K mg) : FnG P w K mg base 1 (He.ma K (He.ga K "Conversations") "mark") p_cv_mark (S3 (spMark K D)) := by
  refine FnG.of3 T.d_cv_mark sc_cv_mark rfl fun cdv A outer s H a b c Q E hr h => ⟨_, (pss_one (ps_ret (pe_ix ix_list (pe_ix ix_list (pe_fld (pv 0) rfl) (pv 1) (fun _ _ => rfl)) (pv 2) (fun _ _ => rfl)))), ?_⟩
  obtain ⟨L, st, ⟨cc, sd⟩, rfl, rfl, rfl, R, hc, q⟩ := h
  obtain ⟨dx, hcv⟩ := R.cv
  exact ⟨_, rfl, _, _, dx, _, _, rfl, hcv, T.c_cv, T.a_cv_marks, rfl, _, rfl, _, _, _, _, rfl, rfl, SqL.of R.ml, refs_at hc, _, rfl, _, _, _, _, rfl, rfl, SqL.of (R.mr _ hc), mk_sd st.mark cc sd, q⟩
def spMailbox (K : PySem.W.Frag) (D : Defs) : V → V → V → Hp → VK → Prop := fun a b c H Q => ∃ (L : Pla) (s : Sta) (e : End), a = .ref (L .cv) ∧ b = .int e.1 ∧ c = .int (sdI e.2) ∧ Rep K D H L s ∧ e.1 < s.n ∧ ∀ p ms, H p = none → MsV H (s.box e) ms → Q (.ref p) (upd H p (.lst ms))
theorem bx_sd (L : Pla) (c : Nat) (b : Bool) : atI [V.ref (L (.bx (c, false))), V.ref (L (.bx (c, true)))] (sdI b) = some (.ref (L (.bx (c, b)))) := by
  rw [at_sd]
  cases b <;> rfl
theorem ok_cv_mailbox {D : Defs} (T : Top K mg) : FnG P w K mg base 1 (He.ma K (He.ga K "Conversations") "mailbox") p_cv_mailbox (S3 (spMailbox K D)) := by
  refine FnG.of3 T.d_cv_mailbox sc_cv_mailbox rfl fun cdv A outer s H a b c Q E hr h => ⟨_, (pss_one (ps_ret (pe_callTy call_list_of (by rfl) T.f_list (by decide +kernel) (pa_cons (pe_ix ix_list (pe_ix ix_list (pe_fld (pv 0) rfl) (pv 1) (fun _ _ => rfl)) (pv 2) (fun _ _ => rfl)) pa_nil)))), ?_⟩
  obtain ⟨L, st, ⟨cc, sd⟩, rfl, rfl, rfl, R, hc, q⟩ := h
  obtain ⟨dx, hcv⟩ := R.cv
  obtain ⟨ms, h1, h2⟩ := R.bx (cc, sd) hc
  exact ⟨_, rfl, _, _, dx, _, _, rfl, hcv, T.c_cv, T.a_cv_boxes, rfl, _, rfl, _, _, _, _, rfl, rfl, SqL.of R.bl, refs_at hc, _, rfl, _, _, _, _, rfl, rfl, SqL.of (R.pr _ hc), bx_sd L cc sd, _, _, rfl, .inl (SqL.of h1), fun p hp => q p ms hp h2⟩
def spSetMark (K : PySem.W.Frag) (D : Defs) : V → V → V → Hp → VK → Prop := fun a b c H Q => ∃ (L : Pla) (s : Sta) (av : AV) (m : Mark), a = .ref (L .cv) ∧ VA H av b ∧ c = .str (mkS m) ∧ Rep K D H L s ∧ (∀ e, av = .en e → e.1 < s.n) ∧
  ∀ H', Rep K D H' L { s with mark := av.mk s.mark m } → Frm H H' L L s { s with mark := av.mk s.mark m } → Q .non H'
theorem ok_cv_set_mark {D : Defs} (T : Top K mg) : FnG P w K mg base 2 (He.ma K (He.ga K "Conversations") "set_mark") p_cv_set_mark (S3 (spSetMark K D)) := by
  refine FnG.of3 T.d_cv_set_mark sc_cv_set_mark rfl fun cdv A outer s H a b c Q E hr h => ⟨_, (pss_one (ps_if (pt_val (pcall (ok_is_end T) (hr.mono (by omega)) T.g_is_end (pa_cons (pv 1) pa_nil))) (pss_one (ps_asg (pv 2) (pg_sub (pe_ix ix_list (pe_fld (pv 0) rfl) (pe_ix ix_tup (pv 1) pe_int (fun _ _ => rfl)) (fun _ _ => rfl)) (pe_ix ix_tup (pv 1) pe_int (fun _ _ => rfl)) set_list))) pss_nil)), ?_⟩
  obtain ⟨L, st, av, m, rfl, hv, rfl, R, hn, q⟩ := h
  obtain ⟨dx, hcv⟩ := R.cv
  refine ⟨_, rfl, av, hv, _, rfl, ?_⟩
  cases av with
  | en e =>
    obtain ⟨cc, sd⟩ := e
    have hc := hn _ rfl
    obtain ⟨p, rfl, hp⟩ := id hv
    refine ite2 (fun _ => ?_) fun c => absurd rfl c
    refine ⟨_, rfl, _, rfl, _, _, dx, _, _, rfl, hcv, T.c_cv, T.a_cv_marks, rfl, _, rfl, p, _, _, _, rfl, rfl, SqT.of hp, atI_nat (j := 1) rfl, _, _, _, _, rfl, rfl, SqL.of R.ml, refs_at hc, _, rfl, p, _, _, _, rfl, rfl, SqT.of hp, atI_nat (j := 2) rfl, _, _, _, _, rfl, rfl, R.mr _ hc, ix_sd sd, ?_⟩
    have e1 := mk_set st.mark cc sd m
    unfold mkL at e1
    rw [e1]
    exact q _ (R.setMark hc _ fun f hf => fset_ne fun z => hf (by rw [z])) (Frm.at_ R (a := .mk cc) hc _ fun _ => Iff.rfl)
  | non => exact ite2 (fun c => absurd c (by decide)) fun _ => q _ R (Frm.refl _ _ _)
  | int n => exact ite2 (fun c => absurd c (by intro z; cases z)) fun _ => q _ R (Frm.refl _ _ _)
  | bl n => exact ite2 (fun c => absurd c (by intro z; cases z)) fun _ => q _ R (Frm.refl _ _ _)
def EnV (H : Hp) : List End → List V → Prop
  | [], [] => True
  | e :: es, v :: vs => VA H (.en e) v ∧ EnV H es vs
  | _, _ => False
theorem EnV.tu {H H' : Hp} (s : Tu H H') : ∀ {es : List End} {vs : List V}, EnV H es vs → EnV H' es vs
  | [], [], _ => trivial
  | e :: es, v :: vs, ⟨h, r⟩ => ⟨VA.tu s (a := .en e) h, EnV.tu s r⟩
  | [], _ :: _, h => h.elim
  | _ :: _, [], h => h.elim
theorem EnV.len {H : Hp} : ∀ {es : List End} {vs : List V}, EnV H es vs → vs.length = es.length
  | [], [], _ => rfl
  | e :: es, v :: vs, ⟨_, r⟩ => congrArg (· + 1) (EnV.len r)
  | [], _ :: _, h => h.elim
  | _ :: _, [], h => h.elim
theorem EnV.snoc {H : Hp} {e : End} {v : V} (h : VA H (.en e) v) : ∀ {es : List End} {vs : List V}, EnV H es vs → EnV H (es ++ [e]) (vs ++ [v])
  | [], [], _ => ⟨h, trivial⟩
  | e :: es, v :: vs, ⟨x, r⟩ => ⟨x, EnV.snoc h r⟩
  | [], _ :: _, h => h.elim
  | _ :: _, [], h => h.elim
theorem EnV.app {H : Hp} : ∀ {es fs : List End} {vs us : List V}, EnV H es vs → EnV H fs us → EnV H (es ++ fs) (vs ++ us)
  | [], fs, [], us, _, h => h
  | e :: es, fs, v :: vs, us, ⟨x, r⟩, h => ⟨x, EnV.app r h⟩
  | [], _, _ :: _, _, h, _ => h.elim
  | _ :: _, _, [], _, h, _ => h.elim
theorem EnV.get {H : Hp} : ∀ {es : List End} {vs : List V} {i : Nat} {v : V}, EnV H es vs → vs[i]? = some v → ∃ e, es[i]? = some e ∧ VA H (.en e) v
  | [], [], i, v, _, e => by simp at e
  | e :: es, v :: vs, 0, u, ⟨x, r⟩, h => by
    cases h
    exact ⟨e, rfl, x⟩
  | e :: es, v :: vs, i + 1, u, ⟨_, r⟩, h => EnV.get (i := i) r h
  | [], _ :: _, _, _, h, _ => h.elim
  | _ :: _, [], _, _, h, _ => h.elim
theorem take_some {α : Type} {l : List α} {i : Nat} {x : α} (h : l[i]? = some x) : l.take (i + 1) = l.take i ++ [x] := by
  obtain ⟨hj, e⟩ := List.getElem?_eq_some_iff.mp h
  rw [List.take_succ_eq_append_getElem hj, e]
theorem Out.fset {L : Pla} {s s' : Sta} {x : Slot} {p b : Addr} (h : Out L s b) (hp : p ≠ b) (on : ∀ a : Slot, a.on s' ↔ a.on s) : Out (fset L x p) s' b := fun a ha e => by
  by_cases z : a = x
  · rw [z, fset_same] at e
    exact hp e
  · rw [fset_ne z] at e
    exact h a ((on a).mp ha) e
theorem Same.free {H H' : Hp} {p : Addr} (s : Same H H') (h : H' p = none) : H p = none := by
  cases e : H p with
  | none => rfl
  | some o =>
    have := s _ _ e
    rw [h] at this
    cases this
/-- the pair's list with one box replaced -/
theorem pr_set (L : Pla) (c : Nat) (b : Bool) (p : Addr) : ([V.ref (L (.bx (c, false))), V.ref (L (.bx (c, true)))] : List V).set (if b = true then 1 else 0) (.ref p) = [.ref (fset L (.bx (c, b)) p (.bx (c, false))), .ref (fset L (.bx (c, b)) p (.bx (c, true)))] := by
  cases b
  · show [V.ref p, V.ref (L (.bx (c, true)))] = _
    rw [fset_same, fset_ne (by intro e; cases e)]
  · show [V.ref (L (.bx (c, false))), V.ref p] = _
    rw [fset_same, fset_ne (by intro e; cases e)]
def spEmptied (K : PySem.W.Frag) (D : Defs) : V → V → V → Hp → VK → Prop := fun a b c H Q => ∃ (L : Pla) (s : Sta) (e : End), a = .ref (L .cv) ∧ b = .int e.1 ∧ c = .int (sdI e.2) ∧ Rep K D H L s ∧ e.1 < s.n ∧ (s.box e).length ≤ 1000 ∧
  ∀ p vs L' H', H p = none → H' p = some (.lst vs) → EnV H' (endsN (s.box e)) vs → Rep K D H' L' { s with box := fset s.box e [] } → Frm H H' L L' s { s with box := fset s.box e [] } → Out L' { s with box := fset s.box e [] } p → Q (.ref p) H'
theorem ok_cv_emptied {D : Defs} (T : Top K mg) : FnG P w K mg base 2 (He.ma K (He.ga K "Conversations") "emptied") p_cv_emptied (S3 (spEmptied K D)) := by
  refine FnG.of3 T.d_cv_emptied sc_cv_emptied rfl fun cdv A outer s H a b c Q E hr h => ⟨_, (pss_cons (ps_setLc (i := 3) (own := [("label", 4), ("payload", 5)]) (g := gTup K 2 (gCons (gName 4) (gCons (gName 5) gNil))) rfl sc_cv_emptied.nd rfl rfl (sw_true rfl rfl rfl (by decide +kernel)) (pi_list (pe_ix ix_list (pe_ix ix_list (pe_fld (pv 0) rfl) (pv 1) (fun _ _ => rfl)) (pv 2) (fun _ _ => rfl))) (blkOk_by (own := [("label", 4), ("payload", 5)]) (N := n_cv_emptied) (sc := defScope s_cv_emptied) (by decide +kernel)) (fun _ _ _ _ _ => (pg_tup (by rfl) (pgs_cons (pg_name (i := 4) sc_cv_emptied.nd rfl (Or.inl rfl)) (pgs_cons (pg_name (i := 5) sc_cv_emptied.nd rfl (Or.inl rfl)) pgs_nil)))) (fun _ _ _ _ _ => pts_one (pt_val (pcall (ok_is_end T) (hr.mono (by omega)) T.g_is_end (pa_cons (pv 5) pa_nil)))) (fun _ _ _ _ _ => (pv 5)))
    (pss_cons (ps_asg (pe_lst pa_nil) (pg_sub (pe_ix ix_list (pe_fld (pv 0) rfl) (pv 1) (fun _ _ => rfl)) (pv 2) set_list))
    (pss_one (ps_ret (pv 3))))), ?_⟩
  obtain ⟨L, st, ⟨cc, sd⟩, rfl, rfl, rfl, R, hc, hl, q⟩ := h
  obtain ⟨dx, hcv⟩ := R.cv
  obtain ⟨ms, h1, h2⟩ := R.bx (cc, sd) hc
  have lm := h2.len
  refine ⟨_, rfl, _, _, dx, _, _, rfl, hcv, T.c_cv, T.a_cv_boxes, rfl, _, rfl, _, _, _, _, rfl, rfl, SqL.of R.bl, refs_at hc, _, rfl, _, _, _, _, rfl, rfl, SqL.of (R.pr _ hc), bx_sd L cc sd, L (.bx (cc, sd)), rfl, ⟨_, SqL.of h1⟩, fun F hF => ?_⟩
  refine lc_list (K := K) (a := L (.bx (cc, sd))) (xs := ms) (fun i H' => Same H H' ∧ ∃ vs, H' F = some (.lst vs) ∧ EnV H' (endsN ((st.box (cc, sd)).take i)) vs ∧ vs.length ≤ i) ⟨Same.new hF, [], upd_same, trivial, Nat.le_refl _⟩ (fun i H' _ h => SqL.of (h.1 _ _ h1)) ?_ ?_
  · rintro i v H' hi ⟨s1, vs, u1, u2, u3⟩
    obtain ⟨l, av, p, wv, g1, rfl, g2, g3⟩ := h2.get hi
    have li := (List.getElem?_eq_some_iff.mp hi).1
    refine ⟨p, _, rfl, SqT.of (s1 _ _ g2), rfl, _, _, rfl, _, _, rfl, rfl, rfl, ?_⟩
    have g4 := g3.tu (Same.tu s1)
    rw [take_some g1, endsN_app]
    refine ⟨_, rfl, av, g4, _, rfl, ?_⟩
    cases av with
    | en e =>
      refine ite2 (fun _ => ?_) fun c => absurd rfl c
      have ta : Tu H' (upd H' F (.lst (vs ++ [wv]))) := Tu.at_ u1 (by intro xs e; cases e)
      exact ⟨_, rfl, vs, u1, lt_line (by omega), Same.put s1 hF, _, upd_same, EnV.snoc (VA.tu ta (a := .en e) g4) (u2.tu ta), by rw [List.length_append]; show vs.length + 1 ≤ i + 1; omega⟩
    | non => exact ite2 (fun c => absurd c (by intro z; cases z)) fun _ => ⟨s1, vs, u1, by rw [endsN_no rfl, endsN_nil, List.append_nil]; exact u2, by omega⟩
    | int n => exact ite2 (fun c => absurd c (by intro z; cases z)) fun _ => ⟨s1, vs, u1, by rw [endsN_no rfl, endsN_nil, List.append_nil]; exact u2, by omega⟩
    | bl n => exact ite2 (fun c => absurd c (by intro z; cases z)) fun _ => ⟨s1, vs, u1, by rw [endsN_no rfl, endsN_nil, List.append_nil]; exact u2, by omega⟩
  rintro H1 ⟨s1, vs, u1, u2, u3⟩
  rw [lm, List.take_length] at u2
  refine ⟨Nat.zero_le _, fun B hB => ?_⟩
  have s2 := s1.trans (Same.new (o := .lst []) hB)
  have R2 := R.same s2
  obtain ⟨dx2, hcv2⟩ := R2.cv
  refine ⟨_, rfl, _, _, dx2, _, _, rfl, hcv2, T.c_cv, T.a_cv_boxes, rfl, _, rfl, _, _, _, _, rfl, rfl, SqL.of R2.bl, refs_at hc, _, rfl, _, _, _, _, rfl, rfl, R2.pr _ hc, ix_sd sd, ?_⟩
  rw [pr_set]
  have hB0 := s1.free hB
  have oB : Out L st B := R.out hB0
  have oF : Out L st F := R.out hF
  have nFB : B ≠ F := fun e => by
    rw [e] at hB
    rw [u1] at hB
    cases hB
  have a2 : Slot.on st (.pr cc) := hc
  have R3 := R2.newBox (e := (cc, sd)) hc (ms := []) (m := []) (p := B) upd_same oB trivial
  have tu3 := R2.tu a2 (.lst [.ref (fset L (.bx (cc, sd)) B (.bx (cc, false))), .ref (fset L (.bx (cc, sd)) B (.bx (cc, true)))])
  refine ⟨_, rfl, q F vs _ _ hF ?_ ((u2.tu (Tu.new hB)).tu tu3) R3 (Frm.newBox (s' := { st with box := fset st.box (cc, sd) [] }) R2 (e := (cc, sd)) hc hB0 (Frm.same s2)) (oF.fset nFB fun _ => Iff.rfl)⟩
  show upd _ (L (.pr cc)) _ F = _
  rw [upd_ne (oF _ a2).symm]
  exact (Same.new hB) _ _ u1
end G

/-! part W25 -/
set_option Elab.async false
set_option linter.all false
set_option maxRecDepth 100000
set_option maxHeartbeats 4000000
/-! Ends that are let go. -/
namespace G
open PySem PySem.Spec PyProof.Rows L2
variable {P : Program} {w : World} {K : PySem.W.Frag} {mg : Str → Option Value} {base : Heap}
theorem filter_lt {α : Type} {p q : α → Bool} (h : ∀ x, q x = true → p x = true) {x : α} (hp : p x = true) (hq : q x = false) : ∀ {l : List α}, x ∈ l → (l.filter q).length < (l.filter p).length
  | [], m => by cases m
  | y :: l, m => by
    have le : ∀ l : List α, (l.filter q).length ≤ (l.filter p).length := fun l => by
      induction l with
      | nil => exact Nat.le_refl _
      | cons z l ih =>
        rw [List.filter_cons, List.filter_cons]
        by_cases c : q z = true
        · rw [if_pos c, if_pos (h z c)]
          exact Nat.succ_le_succ ih
        · rw [if_neg c]
          split
          · exact Nat.le_succ_of_le ih
          · exact ih
    rw [List.filter_cons, List.filter_cons]
    rcases List.mem_cons.mp m with e | e
    · subst e
      rw [if_pos hp, if_neg (by rw [hq]; decide)]
      exact Nat.lt_succ_of_le (le l)
    · by_cases c : q y = true
      · rw [if_pos c, if_pos (h y c)]
        exact Nat.succ_lt_succ (filter_lt h hp hq e)
      · rw [if_neg c]
        split
        · exact Nat.lt_succ_of_lt (filter_lt h hp hq e)
        · exact filter_lt h hp hq e
def lvB (s : Sta) (e : End) : Bool := decide (s.mark e = .held ∨ s.mark e = .sent)
def cnt (s : Sta) : Nat := ((sidesL s.n).filter (lvB s)).length
theorem sides_len : ∀ n, (sidesL n).length = 2 * n
  | 0 => rfl
  | n + 1 => by
    have := sides_len n
    unfold sidesL at this ⊢
    rw [List.range_succ, List.flatMap_append, List.length_append, this]
    show 2 * n + 2 = _
    omega
theorem cnt_le (s : Sta) : cnt s ≤ 2 * s.n := by
  have := List.length_filter_le (lvB s) (sidesL s.n)
  rw [sides_len] at this
  exact this
theorem cnt_kill {s : Sta} {e : End} {k : Mark} (hk : k ≠ .held ∧ k ≠ .sent) (h : s.live e) : cnt (s.kill e k) < cnt s := by
  refine filter_lt (fun x hx => ?_) (x := e) (decide_eq_true h.2) ?_ (mem_sides.mpr h.1)
  · have hx := of_decide_eq_true hx
    by_cases c : x = e
    · rw [c]
      exact decide_eq_true h.2
    · have hx : fset s.mark e k x = .held ∨ fset s.mark e k x = .sent := hx
      rw [fset_ne c] at hx
      exact decide_eq_true hx
  · refine decide_eq_false fun hx => ?_
    have hx : fset s.mark e k e = .held ∨ fset s.mark e k e = .sent := hx
    rw [fset_same] at hx
    exact hx.elim hk.1 hk.2
theorem lim_len {s : Sta} {lim : List End} {loc : End → Nd} (h : Lin s lim loc) : lim.length ≤ 2 * s.n := by
  have := pigeon (2 * s.n) (lim.map code) (by
    have := h.limN
    clear h
    induction lim with
    | nil => exact List.nodup_nil
    | cons e l ih =>
      obtain ⟨n1, n2⟩ := List.nodup_cons.mp this
      refine List.nodup_cons.mpr ⟨fun z => ?_, ih n2⟩
      obtain ⟨f, hf, ef⟩ := List.mem_map.mp z
      rw [code_inj ef] at hf
      exact n1 hf) (fun x hx => by
    obtain ⟨f, hf, rfl⟩ := List.mem_map.mp hx
    have := (h.limL f hf).1
    unfold code
    split <;> omega)
  rw [List.length_map] at this
  exact this
/-- what a part of the run that lets ends go leaves of the state -/
structure Sb (s s' : Sta) : Prop where
  n : s'.n = s.n
  na : s'.na = s.na
  run : s'.run = s.run
  nm : s'.nm = s.nm
  rest : s'.rest = s.rest
  box : ∀ e, (s'.box e).length ≤ (s.box e).length
theorem Sb.refl (s : Sta) : Sb s s := ⟨rfl, rfl, rfl, rfl, rfl, fun _ => Nat.le_refl _⟩
theorem Sb.trans {a b c : Sta} (x : Sb a b) (y : Sb b c) : Sb a c := ⟨y.n.trans x.n, y.na.trans x.na, y.run.trans x.run, y.nm.trans x.nm, y.rest.trans x.rest, fun e => Nat.le_trans (y.box e) (x.box e)⟩
theorem Sb.kill (s : Sta) (e : End) (k : Mark) : Sb s (s.kill e k) := ⟨rfl, rfl, rfl, rfl, rfl, fun f => by
  show (fset s.box e [] f).length ≤ _
  by_cases h : f = e
  · rw [h, fset_same]
    exact Nat.zero_le _
  · rw [fset_ne h]
    exact Nat.le_refl _⟩
def Bxs (s : Sta) : Prop := s.n ≤ 40 ∧ ∀ e, (s.box e).length ≤ 1000
theorem Bxs.sb {s s' : Sta} (h : Bxs s) (b : Sb s s') : Bxs s' := ⟨by rw [b.n]; exact h.1, fun e => Nat.le_trans (b.box e) (h.2 e)⟩
def spDrop (K : PySem.W.Frag) (D : Defs) : V → V → Hp → VK → Prop := fun a b H Q => ∃ (Tb : Nat → Talk) (L : Pla) (s : Sta) (lim : List End) (loc : End → Nd) (ty : End → Talk) (pl : Addr) (vs : List V), a = .ref (L .cv) ∧ b = .ref pl ∧ H pl = some (.lst vs) ∧ EnV H lim vs ∧ Rep K D H L s ∧ Inv Tb D s lim loc ty ∧ Bxs s ∧
  ∀ p us fs L' s' H', Rep K D H' L' s' → Frm H H' L L' s s' → Inv Tb D s' [] loc ty → Sb s s' → H p = none → H' p = some (.lst us) → EnV H' fs us → us.length ≤ 80 → Out L' s' p → Q (.ref p) H'
theorem ok_cv_drop {D : Defs} (T : Top K mg) : FnG P w K mg base 3 (He.ma K (He.ga K "Conversations") "drop") p_cv_drop (S2 (spDrop K D)) := by
  refine FnG.of2 T.d_cv_drop sc_cv_drop rfl fun cdv A outer s H a b Q E hr h => ?_
  have ok_cv_emptied := fun T => ok_cv_emptied (P := P) (w := w) (K := K) (mg := mg) (base := base) (D := D) T
  have ok_cv_set_mark := fun T => ok_cv_set_mark (P := P) (w := w) (K := K) (mg := mg) (base := base) (D := D) T
  refine ⟨_, (pss_cons (ps_set (i := 2) sc_cv_drop.nd rfl (Or.inl rfl) (pe_lst pa_nil))
    (pss_cons (ps_set (i := 3) sc_cv_drop.nd rfl (Or.inl rfl) (pe_callTy call_list_of (by rfl) T.f_list (by decide +kernel) (pa_cons (pv 1) pa_nil)))
    (pss_cons (ps_while PassesOwn.never (pt_truth (pv 3) (by intro _; rfl)) (pss_cons (ps_set (i := 4) sc_cv_drop.nd rfl (Or.inl rfl) (pe_ix ix_list (pv 3) pe_int (fun _ _ => rfl)))
    (pss_cons (ps_set (i := 3) sc_cv_drop.nd rfl (Or.inl rfl) (pe_op op_cat (pe_slice sl_list (pv 3) (po_some pe_int) po_none) (pmeth (pv 0) T.c_cv T.m_cv_emptied (ok_cv_emptied T) (hr.mono (by omega)) (pa_cons (pe_ix ix_tup (pv 4) pe_int (fun _ _ => rfl)) (pa_cons (pe_ix ix_tup (pv 4) pe_int (fun _ _ => rfl)) pa_nil)))))
    (pss_cons (ps_expr (pmeth (pv 0) T.c_cv T.m_cv_set_mark (ok_cv_set_mark T) (hr.mono (by omega)) (pa_cons (pv 4) (pa_cons pe_str pa_nil))))
    (pss_one (ps_expr (pe_bm PySem.F.plainAttrs_list PySem.F.slot_list_append PySem.F.type_list_append mt_append (pv 2) (pa_cons (pv 4) pa_nil))))))))
    (pss_one (ps_ret (pv 2)))))), ?_⟩
  obtain ⟨Tb, L, st, lim, loc, ty, pl, vs, rfl, rfl, hpl, hE, R, I, hB, q⟩ := h
  refine ⟨Nat.zero_le _, fun F hF => ?_⟩
  have s1 := Same.new (o := .lst []) hF
  refine ⟨_, rfl, pl, _, rfl, .inl (SqL.of (s1 _ _ hpl)), fun R0 hR0 => ?_⟩
  have s2 := s1.trans (Same.new (o := .lst vs) hR0)
  have oF := R.out hF
  have oR := R.out (s1.free hR0)
  refine ⟨fun m σ H' => ∃ (L1 : Pla) (st1 : Sta) (lim1 : List End) (Rl : Addr) (rs us : List V) (fs : List End) (v4 : Option V), σ = [some (.ref (L .cv)), some (.ref pl), some (.ref F), some (.ref Rl), v4] ∧ m = cnt st1 ∧ Rep K D H' L1 st1 ∧ Frm H H' L L1 st st1 ∧
    Inv Tb D st1 lim1 loc ty ∧ Sb st st1 ∧ H' Rl = some (.lst rs) ∧ EnV H' lim1 rs ∧ Out L1 st1 Rl ∧ H' F = some (.lst us) ∧ EnV H' fs us ∧ Out L1 st1 F ∧ F ≠ Rl ∧ us.length + cnt st1 ≤ 80,
    ⟨_, L, st, lim, R0, vs, [], [], none, rfl, rfl, R.same s2, Frm.same s2, I, Sb.refl _, upd_same, hE.tu (Same.tu s2), oR, (Same.new hR0) _ _ upd_same, trivial, oF, ne_of_none upd_same hR0, ?_⟩, ?_⟩
  · have := cnt_le st
    have := hB.1
    show 0 + cnt st ≤ 80
    omega
  rintro m σ H2 ⟨L1, st1, lim1, Rl, rs, us, fs, v4, rfl, rfl, R1, F1, I1, B1, hRl, hE1, oRl, hF1, hE2, oF1, nFR, hc⟩
  have B40 := hB.sb B1
  refine ⟨_, rfl, _, .inl ⟨_, SqL.of hRl, rfl⟩, ?_⟩
  have ecv := F1.fix.2
  cases lim1 with
  | nil =>
    cases rs with
    | cons v rs => exact hE1.elim
    | nil =>
      refine ite2 (fun c => absurd c (by decide)) fun _ => ?_
      exact ⟨_, rfl, q F us fs L1 st1 H2 R1 F1 I1 B1 hF hF1 hE2 (by omega) oF1⟩
  | cons e lim' =>
    cases rs with
    | nil => exact hE1.elim
    | cons v rs =>
      obtain ⟨hv, hE1⟩ := hE1
      have le : st1.live e := I1.lin.limL e List.mem_cons_self
      obtain ⟨p, rfl, hp⟩ := id hv
      have hl := lim_len I1.lin
      have lr := hE1.len
      have hn : st1.n ≤ 40 := B40.1
      refine ite2 (fun _ => ?_) fun c => absurd rfl c
      refine ⟨_, fun _ _ h => h, ?_⟩
      refine ⟨_, rfl, Rl, _, _, _, rfl, rfl, SqL.of hRl, atI_nat (j := 0) rfl, ?_⟩
      refine ⟨_, rfl, _, rfl, Rl, _, rfl, SqL.of hRl, fun C hC => ?_⟩
      rw [show cutV (V.ref p :: rs) (some 1) none = rs from cut_from (xs := V.ref p :: rs) (i := 1) (by show 1 ≤ rs.length + 1; omega)]
      have s3 := Same.new (o := .lst rs) hC
      have R3 := R1.same s3
      obtain ⟨dx, hcv⟩ := R3.cv
      have hcv' := hcv
      rw [ecv] at hcv'
      have hp3 := s3 _ _ hp
      have oC := R1.out hC
      refine ⟨_, rfl, _, dx, _, rfl, hcv', rfl, _, rfl, p, _, _, _, rfl, rfl, SqT.of hp3, atI_nat (j := 1) rfl, _, rfl, p, _, _, _, rfl, rfl, SqT.of hp3, atI_nat (j := 2) rfl, L1, st1, e, by rw [ecv], rfl, rfl, R3, le.1, B40.2 e, fun G gs L4 H4 hG0 hG hGE R4 F4 oG => ?_⟩
      have C4 : H4 C = some (.lst rs) := F4.keep C _ upd_same oC
      have ll : (lim' ++ endsN (st1.box e)).length ≤ 2 * (st1.kill e .fallen).n := lim_len (I1.kill (k := .fallen) ⟨by decide, by decide⟩).lin
      have en : (st1.kill e .fallen).n = st1.n := rfl
      rw [en] at ll
      have lg := hGE.len
      rw [List.length_append] at ll
      refine ⟨C, G, _, _, rfl, rfl, C4, hG, le_line (by omega), fun N hN => ?_⟩
      have s5 := Same.new (o := .lst (rs ++ gs)) hN
      have R5 := R4.same s5
      obtain ⟨dx5, hcv5⟩ := R5.cv
      have ecv4 : L4 .cv = L .cv := F4.fix.2.trans ecv
      have hcv5' := hcv5
      rw [ecv4] at hcv5'
      have t35 := ((Same.tu s3).trans F4.tu).trans (Same.tu s5)
      have hv5 : VA _ (.en e) (.ref p) := VA.tu t35 (a := .en e) hv
      refine ⟨_, rfl, _, dx5, _, rfl, hcv5', rfl, _, rfl, L4, _, .en e, .fallen, by rw [ecv4], hv5, rfl, R5, fun f hf => by cases hf; exact le.1, fun H6 R6 F6 => ?_⟩
      have oN : Out L4 { st1 with box := fset st1.box e [] } N := R4.out hN
      have F14 := ((Frm.same s3).trans F4).trans (Frm.same s5)
      have hFu5 := F14.keep F _ hF1 oF1
      have oF4 := F14.out hF1 oF1
      have hFu6 := F6.keep F _ hFu5 oF4
      have oF6 := F6.out hFu5 oF4
      have N6 := F6.keep N _ upd_same oN
      have oN6 := F6.out upd_same oN
      refine ⟨_, rfl, .inl ⟨rfl, _, SqL.of hFu6⟩, _, rfl, F, _, _, rfl, rfl, hFu6, lt_line (by omega), ?_⟩
      have R7 := R6.put (o := .lst (us ++ [.ref p])) oF6 hFu6 (by intro xs e; cases e)
      have t7 : Tu H6 (upd H6 F (.lst (us ++ [.ref p]))) := Tu.at_ hFu6 (by intro xs e; cases e)
      have t67 := F6.tu.trans t7
      have nFN : F ≠ N := fun z => by
        have h4 := (((Frm.same s3).trans F4).keep F _ hF1 oF1)
        rw [z, hN] at h4
        cases h4
      have ck := cnt_kill (k := .fallen) ⟨by decide, by decide⟩ le
      refine ⟨cnt (st1.kill e .fallen), ck, L4, st1.kill e .fallen, lim' ++ endsN (st1.box e), N, rs ++ gs, us ++ [.ref p], fs ++ [e], some (.ref p), rfl, rfl, R7, ?_, I1.kill ⟨by decide, by decide⟩, B1.trans (Sb.kill _ _ _), ?_, ?_, oN6, upd_same, EnV.snoc (VA.tu t67 (a := .en e) hv5) ((hE2.tu t35).tu t67), oF6, nFN, ?_⟩
      · have A := (F1.trans F14).trans F6
        refine ⟨fun b o h hb => ?_, fun b o h => ?_, A.new, A.mono, A.fix, A.tu.trans t7⟩
        · rw [upd_ne (ne_of_none h hF)]
          exact A.keep b o h hb
        · rw [upd_ne (ne_of_none h hF)]
          exact A.dom b o h
      · rw [upd_ne nFN.symm]
        exact N6
      · exact EnV.app ((hE1.tu t35).tu t67) ((hGE.tu (Same.tu s5)).tu t67)
      · rw [List.length_append]
        show us.length + 1 + _ ≤ 80
        omega
end G

/-! part W26 -/
set_option Elab.async false
set_option linter.all false
set_option maxRecDepth 100000
set_option maxHeartbeats 4000000
/-! To close, to send, to hear. -/
namespace G
open PySem PySem.Spec PyProof.Rows L2
variable {P : Program} {w : World} {K : PySem.W.Frag} {mg : Str → Option Value} {base : Heap}
abbrev DropPost (K : PySem.W.Frag) (D : Defs) (Tb : Nat → Talk) (loc : End → Nd) (ty : End → Talk) (H : Hp) (L : Pla) (s : Sta) (Q : VK) : Prop :=
  ∀ p us fs L' s' H', Rep K D H' L' s' → Frm H H' L L' s s' → Inv Tb D s' [] loc ty → Sb s s' → H p = none → H' p = some (.lst us) → EnV H' fs us → us.length ≤ 80 → Out L' s' p → Q (.ref p) H'
def spClose (K : PySem.W.Frag) (D : Defs) : V → V → V → Hp → VK → Prop := fun a b c H Q => ∃ (Tb : Nat → Talk) (L : Pla) (s : Sta) (e : End) (loc : End → Nd) (ty : End → Talk), a = .ref (L .cv) ∧ b = .int e.1 ∧ c = .int (sdI e.2) ∧ Rep K D H L s ∧ Inv Tb D s [e] loc ty ∧ Bxs s ∧ DropPost K D Tb loc ty H L s Q
theorem ok_cv_close {D : Defs} (T : Top K mg) : FnG P w K mg base 4 (He.ma K (He.ga K "Conversations") "close") p_cv_close (S3 (spClose K D)) := by
  refine FnG.of3 T.d_cv_close sc_cv_close rfl fun cdv A outer s H a b c Q E hr h => ?_
  have ok_cv_emptied := fun T => ok_cv_emptied (P := P) (w := w) (K := K) (mg := mg) (base := base) (D := D) T
  have ok_cv_drop := fun T => ok_cv_drop (P := P) (w := w) (K := K) (mg := mg) (base := base) (D := D) T
  refine ⟨_, (pss_cons (ps_asg pe_str (pg_sub (pe_ix ix_list (pe_fld (pv 0) rfl) (pv 1) (fun _ _ => rfl)) (pv 2) set_list))
    (pss_one (ps_ret (pmeth (pv 0) T.c_cv T.m_cv_drop (ok_cv_drop T) (hr.mono (by omega)) (pa_cons (pmeth (pv 0) T.c_cv T.m_cv_emptied (ok_cv_emptied T) (hr.mono (by omega)) (pa_cons (pv 1) (pa_cons (pv 2) pa_nil))) pa_nil))))), ?_⟩
  obtain ⟨Tb, L, st, ⟨cc, sd⟩, loc, ty, rfl, rfl, rfl, R, I, hB, q⟩ := h
  have le : st.live (cc, sd) := I.lin.limL _ List.mem_cons_self
  have hc : cc < st.n := le.1
  obtain ⟨dx, hcv⟩ := R.cv
  refine ⟨_, rfl, _, _, dx, _, _, rfl, hcv, T.c_cv, T.a_cv_marks, rfl, _, rfl, _, _, _, _, rfl, rfl, SqL.of R.ml, refs_at hc, _, rfl, _, _, _, _, rfl, rfl, R.mr _ hc, ix_sd sd, ?_⟩
  have e1 := mk_set st.mark cc sd .closed
  unfold mkL at e1
  rw [show (V.str "closed" : V) = .str (mkS .closed) from rfl, e1]
  have R1 := R.setMark hc (fset st.mark (cc, sd) .closed) fun f hf => fset_ne fun z => hf (by rw [z])
  have F1 : Frm H _ L L st { st with mark := fset st.mark (cc, sd) .closed } := Frm.at_ R (a := .mk cc) hc (.lst (mkL (fset st.mark (cc, sd) .closed) cc)) fun _ => Iff.rfl
  obtain ⟨dx1, hcv1⟩ := R1.cv
  refine ⟨_, rfl, _, dx1, _, rfl, hcv1, rfl, _, rfl, _, dx1, _, rfl, hcv1, rfl, _, rfl, _, rfl, L, _, (cc, sd), rfl, rfl, rfl, R1, hc, hB.2 _, fun G gs L4 H4 hG0 hG hGE R4 F4 oG => ?_⟩
  have F14 := F1.trans F4
  have e4 : L4 .cv = L .cv := F14.fix.2
  have I4 := I.kill (k := .closed) ⟨by decide, by decide⟩
  refine ⟨Tb, L4, st.kill (cc, sd) .closed, _, loc, ty, G, gs, by rw [e4], rfl, hG, hGE, R4, I4, hB.sb (Sb.kill _ _ _), fun p us fs L' s' H' R' F' I' B' hp hus hfs hl ho => ?_⟩
  refine q p us fs L' s' H' R' (F14.trans F') I' ((Sb.kill _ _ _).trans B') ?_ hus hfs hl ho
  cases e : H p with
  | none => rfl
  | some o =>
    obtain ⟨o', h⟩ := F14.dom p o e
    rw [h] at hp
    cases hp
theorem mk_sd1 (f : End → Mark) (c : Nat) (b : Bool) : atI (mkL f c) (1 - sdI b) = some (.str (mkS (f (c, !b)))) := by
  rw [one_sd]
  exact mk_sd f c (!b)
theorem bx_sd1 (L : Pla) (c : Nat) (b : Bool) : atI [V.ref (L (.bx (c, false))), V.ref (L (.bx (c, true)))] (1 - sdI b) = some (.ref (L (.bx (c, !b)))) := by
  rw [one_sd]
  exact bx_sd L c (!b)
theorem inV_dead (m : Mark) : inV (.str (mkS m)) [.str "closed", .str "fallen"] = decide (m = .closed ∨ m = .fallen) := by
  cases m <;> decide +kernel
theorem dead_iff {s : Sta} {e : End} (h : e.1 < s.n) : (s.mark e = .closed ∨ s.mark e = .fallen) ↔ ¬ s.live e := by
  unfold Sta.live
  cases s.mark e <;> simp [h]
def spSend (K : PySem.W.Frag) (D : Defs) : V → V → V → V → V → Hp → VK → Prop := fun a b c l v H Q => ∃ (L : Pla) (s : Sta) (e : End) (x : Str) (av : AV), a = .ref (L .cv) ∧ b = .int e.1 ∧ c = .int (sdI e.2) ∧ l = .str x ∧ VA H av v ∧ Rep K D H L s ∧ e.1 < s.n ∧ Bxs s ∧
  ((¬ s.live (flip e) ∧ ∃ (Tb : Nat → Talk) (loc : End → Nd) (ty : End → Talk), Inv Tb D s av.ends loc ty ∧ DropPost K D Tb loc ty H L s Q) ∨
   (s.live (flip e) ∧ (∀ f, av = .en f → f.1 < s.n) ∧ (s.box (flip e)).length < 1000 ∧ ∀ p H', Rep K D H' L (s.post (flip e) x av) → Frm H H' L L s (s.post (flip e) x av) → H p = none → H' p = some (.lst []) → Out L (s.post (flip e) x av) p → Q (.ref p) H'))
theorem ok_cv_send {D : Defs} (T : Top K mg) : FnG P w K mg base 4 (He.ma K (He.ga K "Conversations") "send") p_cv_send (S5 (spSend K D)) := by
  refine FnG.of5 T.d_cv_send sc_cv_send rfl fun cdv A outer s H a b c l v Q E hr h => ?_
  have ok_cv_set_mark := fun T => ok_cv_set_mark (P := P) (w := w) (K := K) (mg := mg) (base := base) (D := D) T
  have ok_cv_drop := fun T => ok_cv_drop (P := P) (w := w) (K := K) (mg := mg) (base := base) (D := D) T
  refine ⟨_, (pss_cons (ps_set (i := 5) sc_cv_send.nd rfl (Or.inl rfl) (pe_op op_sub pe_int (pv 2)))
    (pss_cons (ps_if (pt_cmpR op_in_seq (pe_ix ix_list (pe_ix ix_list (pe_fld (pv 0) rfl) (pv 1) (fun _ _ => rfl)) (pv 5) (fun _ _ => rfl)) (pe_tup (pa_cons pe_str (pa_cons pe_str pa_nil))) rfl) (pss_cons (ps_if (pt_val (pcall (ok_is_end T) (hr.mono (by omega)) T.g_is_end (pa_cons (pv 4) pa_nil))) (pss_one (ps_ret (pmeth (pv 0) T.c_cv T.m_cv_drop (ok_cv_drop T) (hr.mono (by omega)) (pa_cons (pe_lst (pa_cons (pv 4) pa_nil)) pa_nil)))) pss_nil)
    (pss_one (ps_ret (pe_lst pa_nil)))) pss_nil)
    (pss_cons (ps_expr (pmeth (pv 0) T.c_cv T.m_cv_set_mark (ok_cv_set_mark T) (hr.mono (by omega)) (pa_cons (pv 4) (pa_cons pe_str pa_nil))))
    (pss_cons (ps_expr (pe_bm PySem.F.plainAttrs_list PySem.F.slot_list_append PySem.F.type_list_append mt_append (pe_ix ix_list (pe_ix ix_list (pe_fld (pv 0) rfl) (pv 1) (fun _ _ => rfl)) (pv 5) (fun _ _ => rfl)) (pa_cons (pe_tup (pa_cons (pv 3) (pa_cons (pv 4) pa_nil))) pa_nil)))
    (pss_one (ps_ret (pe_lst pa_nil))))))), ?_⟩
  obtain ⟨L, st, ⟨cc, sd⟩, x, av, rfl, rfl, rfl, rfl, hv, R, hc, hB, q⟩ := h
  obtain ⟨dx, hcv⟩ := R.cv
  refine ⟨_, rfl, _, _, rfl, rfl, ?_⟩
  refine ⟨_, rfl, _, _, dx, _, _, rfl, hcv, T.c_cv, T.a_cv_marks, rfl, _, rfl, _, _, _, _, rfl, rfl, SqL.of R.ml, refs_at hc, _, rfl, _, _, _, _, rfl, rfl, SqL.of (R.mr _ hc), mk_sd1 st.mark cc sd, ?_⟩
  refine ⟨le_line (by show 2 ≤ _; decide), fun tq htq => ⟨tq, _, rfl, .inr (SqT.of upd_same), rfl, rfl, _, rfl, ?_⟩⟩
  have s1 := Same.new (o := .tup [.str "closed", .str "fallen"]) htq
  have R1 := R.same s1
  have e1 : inV (.str (mkS (st.mark (cc, !sd)))) [.str "closed", .str "fallen"] = decide (st.mark (cc, !sd) = .closed ∨ st.mark (cc, !sd) = .fallen) := inV_dead _
  have hcf : (flip (cc, sd)).1 < st.n := hc
  rw [e1]
  refine ite2 (fun c => ?_) fun c => ?_
  · have dead : ¬ st.live (flip (cc, sd)) := (dead_iff hcf).mp (of_decide_eq_true c)
    obtain ⟨Tb, loc, ty, I, q1⟩ := (q.resolve_right fun h => dead h.1).2
    clear q
    have hv1 := hv.tu (Same.tu s1)
    refine ⟨_, rfl, av, hv1, _, rfl, ?_⟩
    have fin : ∀ {H2 : Hp} {p : Addr}, Same H H2 → av.ends = [] → H2 p = none → Q (.ref p) (upd H2 p (.lst [])) := fun {H2 p} s2 e h => by
      have s3 := s2.trans (Same.new (o := .lst []) h)
      rw [e] at I
      exact q1 p [] [] L st _ (R.same s3) (Frm.same s3) I (Sb.refl _) (s2.free h) upd_same trivial (Nat.zero_le _) (R.out (s2.free h))
    cases av with
    | en f =>
      refine ite2 (fun _ => ?_) fun c => absurd rfl c
      obtain ⟨dx1, hcv1⟩ := R1.cv
      refine ⟨_, rfl, _, dx1, _, rfl, hcv1, rfl, _, rfl, le_line (by show 1 ≤ _; decide), fun p1 hp1 => ?_⟩
      have s2 := s1.trans (Same.new (o := .lst [v]) hp1)
      refine ⟨Tb, L, st, [f], loc, ty, p1, [v], rfl, rfl, upd_same, ⟨VA.tu (Same.tu s2) (a := .en f) hv, trivial⟩, R.same s2, I, hB, fun p us fs L' s' H' R' F' I' B' hp hus hfs hl ho => ?_⟩
      exact q1 p us fs L' s' H' R' ((Frm.same s2).trans F') I' B' (s2.free hp) hus hfs hl ho
    | non => exact ite2 (fun c => absurd c (by intro z; cases z)) fun _ => ⟨Nat.zero_le _, fun p hp => fin s1 rfl hp⟩
    | int n => exact ite2 (fun c => absurd c (by intro z; cases z)) fun _ => ⟨Nat.zero_le _, fun p hp => fin s1 rfl hp⟩
    | bl n => exact ite2 (fun c => absurd c (by intro z; cases z)) fun _ => ⟨Nat.zero_le _, fun p hp => fin s1 rfl hp⟩
  · have live : st.live (flip (cc, sd)) := Classical.byContradiction fun h => c (decide_eq_true ((dead_iff hcf).mpr h))
    obtain ⟨_, hn, hbl, q⟩ := q.resolve_left fun h => h.1 live
    have hv1 := hv.tu (Same.tu s1)
    obtain ⟨dx1, hcv1⟩ := R1.cv
    refine ⟨_, rfl, _, dx1, _, rfl, hcv1, rfl, _, rfl, L, st, av, .sent, rfl, hv1, rfl, R1, hn, fun H2 R2 F2 => ?_⟩
    obtain ⟨dx2, hcv2⟩ := R2.cv
    obtain ⟨ms, h1, h2⟩ := R2.bx (flip (cc, sd)) hcf
    have lm := h2.len
    have lm' : ms.length = (st.box (flip (cc, sd))).length := lm
    have hv2 := hv1.tu F2.tu
    refine ⟨_, rfl, _, _, dx2, _, _, rfl, hcv2, T.c_cv, T.a_cv_boxes, rfl, _, rfl, _, _, _, _, rfl, rfl, SqL.of R2.bl, refs_at hc, _, rfl, _, _, _, _, rfl, rfl, SqL.of (R2.pr _ hc), bx_sd1 L cc sd, .inl ⟨rfl, _, SqL.of h1⟩, _, rfl, _, rfl, le_line (by show 2 ≤ _; decide), fun tp htp => ?_⟩
    have s3 := Same.new (o := .tup [.str x, v]) htp
    refine ⟨_, _, _, rfl, rfl, s3 _ _ h1, lt_line (by omega), ?_⟩
    have R3 := R2.same s3
    have R4 := R3.setBox (e := flip (cc, sd)) hcf (MsV.snoc (l := x) (a := av) upd_same (hv2.tu (Same.tu s3)) (h2.tu (Same.tu s3)))
    have F4 : Frm _ (upd _ (L (.bx (flip (cc, sd)))) (.lst (ms ++ [.ref tp]))) L L { st with mark := av.mk st.mark .sent } (st.post (flip (cc, sd)) x av) := Frm.at_ R3 (a := .bx (flip (cc, sd))) hcf _ fun _ => Iff.rfl
    refine ⟨Nat.zero_le _, fun p hp => ?_⟩
    have s5 := Same.new (o := .lst []) hp
    have FF := (((Frm.same s1).trans F2).trans ((Frm.same s3).trans F4)).trans (Frm.same s5)
    have hp0 : H p = none := by
      cases e : H p with
      | none => rfl
      | some o =>
        obtain ⟨o', h⟩ := (((Frm.same s1).trans F2).trans ((Frm.same s3).trans F4)).dom p o e
        exact absurd (h.symm.trans hp) (by intro z; cases z)
    have R4' : Rep K D _ L (st.post (flip (cc, sd)) x av) := R4
    exact q p _ (R4'.same s5) FF hp0 upd_same (R4'.out hp)
end G

/-! part W27 -/
set_option Elab.async false
set_option linter.all false
set_option maxRecDepth 100000
set_option maxHeartbeats 4000000
/-! To hear. -/
namespace G
open PySem PySem.Spec PyProof.Rows L2
variable {P : Program} {w : World} {K : PySem.W.Frag} {mg : Str → Option Value} {base : Heap}
def spCvHear (K : PySem.W.Frag) (D : Defs) : V → V → V → Hp → VK → Prop := fun a b c H Q => ∃ (L : Pla) (s : Sta) (e : End) (x : Str) (av : AV) (q0 : Names), a = .ref (L .cv) ∧ b = .int e.1 ∧ c = .int (sdI e.2) ∧ Rep K D H L s ∧ e.1 < s.n ∧ s.box e = (x, av) :: q0 ∧ (∀ f, av = .en f → f.1 < s.n) ∧
  ∀ p w L' H', Rep K D H' L' (s.take e av q0) → Frm H H' L L' s (s.take e av q0) → H' p = some (.tup [.str x, w]) → VA H' av w → Q (.ref p) H'
theorem ok_cv_hear {D : Defs} (T : Top K mg) : FnG P w K mg base 3 (He.ma K (He.ga K "Conversations") "hear") p_cv_hear (S3 (spCvHear K D)) := by
  refine FnG.of3 T.d_cv_hear sc_cv_hear rfl fun cdv A outer s H a b c Q E hr h => ?_
  have ok_cv_set_mark := fun T => ok_cv_set_mark (P := P) (w := w) (K := K) (mg := mg) (base := base) (D := D) T
  refine ⟨_, (pss_cons (ps_set (i := 3) sc_cv_hear.nd rfl (Or.inl rfl) (pe_ix ix_list (pe_ix ix_list (pe_fld (pv 0) rfl) (pv 1) (fun _ _ => rfl)) (pv 2) (fun _ _ => rfl)))
    (pss_cons (ps_if (pt_not (pt_truth (pv 3) (by intro _; rfl))) pss_never pss_nil)
    (pss_cons (ps_set (i := 4) sc_cv_hear.nd rfl (Or.inl rfl) (pe_ix ix_list (pv 3) pe_int (fun _ _ => rfl)))
    (pss_cons (ps_asg (pe_slice sl_list (pv 3) (po_some pe_int) po_none) (pg_sub (pe_ix ix_list (pe_fld (pv 0) rfl) (pv 1) (fun _ _ => rfl)) (pv 2) set_list))
    (pss_cons (ps_expr (pmeth (pv 0) T.c_cv T.m_cv_set_mark (ok_cv_set_mark T) (hr.mono (by omega)) (pa_cons (pe_ix ix_tup (pv 4) pe_int (fun _ _ => rfl)) (pa_cons pe_str pa_nil))))
    (pss_one (ps_ret (pv 4)))))))), ?_⟩
  obtain ⟨L, st, ⟨cc, sd⟩, x, av, q0, rfl, rfl, rfl, R, hc, hb, hn, q⟩ := h
  obtain ⟨dx, hcv⟩ := R.cv
  obtain ⟨ms, h1, h2⟩ := R.bx (cc, sd) hc
  rw [hb] at h2
  cases ms with
  | nil => exact h2.elim
  | cons v ms =>
    obtain ⟨⟨p, wv, rfl, g2, g3⟩, g4⟩ := id h2
    refine ⟨_, rfl, _, _, dx, _, _, rfl, hcv, T.c_cv, T.a_cv_boxes, rfl, _, rfl, _, _, _, _, rfl, rfl, SqL.of R.bl, refs_at hc, _, rfl, _, _, _, _, rfl, rfl, SqL.of (R.pr _ hc), bx_sd L cc sd, ?_⟩
    refine ⟨_, rfl, _, .inl ⟨_, SqL.of h1, rfl⟩, ite2 (fun c => absurd c (by intro z; cases z)) fun _ => ?_⟩
    refine ⟨_, rfl, _, _, _, _, rfl, rfl, SqL.of h1, atI_nat (j := 0) rfl, ?_⟩
    refine ⟨_, rfl, _, rfl, _, _, rfl, SqL.of h1, fun B hB => ?_⟩
    rw [show cutV (V.ref p :: ms) (some 1) none = ms from cut_from (xs := V.ref p :: ms) (i := 1) (by show 1 ≤ ms.length + 1; omega)]
    have s2 := Same.new (o := .lst ms) hB
    have R2 := R.same s2
    obtain ⟨dx2, hcv2⟩ := R2.cv
    refine ⟨_, rfl, _, _, dx2, _, _, rfl, hcv2, T.c_cv, T.a_cv_boxes, rfl, _, rfl, _, _, _, _, rfl, rfl, SqL.of R2.bl, refs_at hc, _, rfl, _, _, _, _, rfl, rfl, R2.pr _ hc, ix_sd sd, ?_⟩
    rw [pr_set]
    have R3 := R2.newBox (e := (cc, sd)) hc (ms := ms) (m := q0) (p := B) upd_same (R.out hB) (g4.tu (Same.tu s2))
    have F3 := Frm.newBox (s' := { st with box := fset st.box (cc, sd) q0 }) R2 (e := (cc, sd)) (o := .lst [.ref (fset L (.bx (cc, sd)) B (.bx (cc, false))), .ref (fset L (.bx (cc, sd)) B (.bx (cc, true)))]) hc hB (Frm.same s2)
    obtain ⟨dx3, hcv3⟩ := R3.cv
    have ecv : fset L (.bx (cc, sd)) B .cv = L .cv := fset_ne (by intro e; cases e)
    have hcv3' := hcv3
    rw [ecv] at hcv3'
    have g23 := F3.tu _ _ g2
    refine ⟨_, rfl, _, dx3, _, rfl, hcv3', rfl, _, rfl, p, _, _, _, rfl, rfl, SqT.of g23, atI_nat (j := 1) rfl, fset L (.bx (cc, sd)) B, _, av, .held, by rw [ecv], g3.tu F3.tu, rfl, R3, hn, fun H4 R4 F4 => ?_⟩
    exact ⟨_, rfl, q p wv _ H4 R4 (F3.trans F4) (F4.tu _ _ g23) ((g3.tu F3.tu).tu F4.tu)⟩
theorem mkS_fallen (m : Mark) : decide (V.str (mkS m) = V.str "fallen") = decide (m = .fallen) := by
  cases m <;> decide +kernel
def spCanHear (K : PySem.W.Frag) (D : Defs) : V → V → V → Hp → VK → Prop := fun a b c H Q => ∃ (L : Pla) (s : Sta) (e : End), a = .ref (L .cv) ∧ b = .int e.1 ∧ c = .int (sdI e.2) ∧ Rep K D H L s ∧ e.1 < s.n ∧ Q (.bl (!(s.box e).isEmpty || decide (s.mark (flip e) = .fallen))) H
theorem ok_cv_can_hear {D : Defs} (T : Top K mg) : FnG P w K mg base 1 (He.ma K (He.ga K "Conversations") "can_hear") p_cv_can_hear (S3 (spCanHear K D)) := by
  refine FnG.of3 T.d_cv_can_hear sc_cv_can_hear rfl fun cdv A outer s H a b c Q E hr h => ⟨_, (pss_one (ps_ret (pe_or (pe_cmpR op_gt (pe_callB call_len_seq (by rfl) T.f_len PySem.boot_len (pa_cons (pe_ix ix_list (pe_ix ix_list (pe_fld (pv 0) rfl) (pv 1) (fun _ _ => rfl)) (pv 2) (fun _ _ => rfl)) pa_nil)) pe_int (nomark _)) (pe_one (pe_cmpR op_eq (pe_ix ix_list (pe_ix ix_list (pe_fld (pv 0) rfl) (pv 1) (fun _ _ => rfl)) (pe_op op_sub pe_int (pv 2)) (fun _ _ => rfl)) pe_str (nomark _)))))), ?_⟩
  obtain ⟨L, st, ⟨cc, sd⟩, rfl, rfl, rfl, R, hc, q⟩ := h
  obtain ⟨dx, hcv⟩ := R.cv
  obtain ⟨ms, h1, h2⟩ := R.bx (cc, sd) hc
  have lm := h2.len
  refine ⟨_, rfl, _, _, dx, _, _, rfl, hcv, T.c_cv, T.a_cv_boxes, rfl, _, rfl, _, _, _, _, rfl, rfl, SqL.of R.bl, refs_at hc, _, rfl, _, _, _, _, rfl, rfl, SqL.of (R.pr _ hc), bx_sd L cc sd, _, _, rfl, .inl (SqL.of h1), _, _, rfl, rfl, _, rfl, ?_⟩
  cases eb : st.box (cc, sd) with
  | cons m ms' =>
    rw [eb] at q lm
    refine ite2 (fun _ => q) fun c => absurd ?_ c
    refine decide_eq_true ?_
    have : ms.length = ms'.length + 1 := lm
    omega
  | nil =>
    rw [eb] at q lm
    have lm : ms.length = 0 := lm
    refine ite2 (fun c => ?_) fun _ => ?_
    · have := of_decide_eq_true c
      omega
    · refine ⟨_, rfl, _, _, dx, _, _, rfl, hcv, T.c_cv, T.a_cv_marks, rfl, _, rfl, _, _, _, _, rfl, rfl, SqL.of R.ml, refs_at hc, _, rfl, _, _, rfl, rfl, _, _, _, _, rfl, rfl, SqL.of (R.mr _ hc), mk_sd1 st.mark cc sd, rfl, ?_⟩
      rw [mkS_fallen]
      exact q
def spIsTold (K : PySem.W.Frag) (D : Defs) : V → V → V → Hp → VK → Prop := fun a b c H Q => ∃ (L : Pla) (s : Sta) (e : End), a = .ref (L .cv) ∧ b = .int e.1 ∧ c = .int (sdI e.2) ∧ Rep K D H L s ∧ e.1 < s.n ∧ Q (.bl ((s.box e).isEmpty && decide (s.mark (flip e) = .fallen))) H
theorem ok_cv_is_told {D : Defs} (T : Top K mg) : FnG P w K mg base 1 (He.ma K (He.ga K "Conversations") "is_told") p_cv_is_told (S3 (spIsTold K D)) := by
  refine FnG.of3 T.d_cv_is_told sc_cv_is_told rfl fun cdv A outer s H a b c Q E hr h => ⟨_, (pss_one (ps_ret (pe_and (pe_notT (pe_ix ix_list (pe_ix ix_list (pe_fld (pv 0) rfl) (pv 1) (fun _ _ => rfl)) (pv 2) (fun _ _ => rfl))) (pe_one (pe_cmpR op_eq (pe_ix ix_list (pe_ix ix_list (pe_fld (pv 0) rfl) (pv 1) (fun _ _ => rfl)) (pe_op op_sub pe_int (pv 2)) (fun _ _ => rfl)) pe_str (nomark _)))))), ?_⟩
  obtain ⟨L, st, ⟨cc, sd⟩, rfl, rfl, rfl, R, hc, q⟩ := h
  obtain ⟨dx, hcv⟩ := R.cv
  obtain ⟨ms, h1, h2⟩ := R.bx (cc, sd) hc
  have lm := h2.len
  refine ⟨_, rfl, _, _, dx, _, _, rfl, hcv, T.c_cv, T.a_cv_boxes, rfl, _, rfl, _, _, _, _, rfl, rfl, SqL.of R.bl, refs_at hc, _, rfl, _, _, _, _, rfl, rfl, SqL.of (R.pr _ hc), bx_sd L cc sd, _, .inl ⟨_, SqL.of h1, rfl⟩, _, rfl, ?_⟩
  cases eb : st.box (cc, sd) with
  | cons m ms' =>
    rw [eb] at q lm
    cases ms with
    | nil => cases lm
    | cons => exact ite2 (fun c => absurd c (by intro z; cases z)) fun _ => q
  | nil =>
    rw [eb] at q lm
    cases ms with
    | cons => cases lm
    | nil =>
      refine ite2 (fun _ => ?_) fun c => absurd rfl c
      refine ⟨_, rfl, _, _, dx, _, _, rfl, hcv, T.c_cv, T.a_cv_marks, rfl, _, rfl, _, _, _, _, rfl, rfl, SqL.of R.ml, refs_at hc, _, rfl, _, _, rfl, rfl, _, _, _, _, rfl, rfl, SqL.of (R.mr _ hc), mk_sd1 st.mark cc sd, rfl, ?_⟩
      rw [mkS_fallen]
      exact q
end G

/-! part W28 -/
set_option Elab.async false
set_option linter.all false
set_option maxRecDepth 100000
set_option maxHeartbeats 4000000
/-! len of an instance. -/
namespace G
open PySem PySem.Spec PyProof.Rows L2
variable {P : Program} {w : World} {K : PySem.W.Frag} {mg : Str → Option Value} {base : Heap}
theorem call_lenI {X : Cx} {k : Nat} {f C : Addr} {ps : List Str} {sp : Sp0} (F : FnG X.prog X.w X.K X.mg X.base k f ps sp) (hm : Meth X.K C "__len__" f) (hr : Room (k + 1) X.A) :
    CallR X (.builtin "len") (fun xs H Q => ∃ a dx fs, xs = [.ref a] ∧ H a = some (.ins C dx fs) ∧ sp [.ref a] H (fun v H' => ∃ n : Nat, v = .int n ∧ n < 2 ^ 62 ∧ Q (.int n) H')) := by
  intro pins s σ H xs us Q I r h
  obtain ⟨a, dx, fs, rfl, ha, q⟩ := h
  obtain ⟨u, rfl, ru⟩ := vals1 r
  obtain rfl : u = Value.ref a := ru
  obtain ⟨⟨fd, F1, b⟩, kp⟩ := F
  obtain ⟨mA, J, _⟩ := ins_get I.hok ha
  obtain ⟨od, J, _⟩ := J.look
  refine Calls.call_function_entry kind_len plain_len entry_len (args_len1 _) ?_
  unfold Builtin.«len»
  refine wpAny_bind (m := oneArg "len" _) (wpAny_pure ?_)
  have sb1 := Sub.in1 (X := X) (A := X.A) ⟨hr, rfl⟩
  have e0 : Env0 X.prog X.w X.K X.mg X.base X.A.in1 X.stack s H := by
    have e := I.env0
    exact ⟨by rw [sb1.fr]; exact e.frames, e.mod, e.bs, e.bsz, e.funs, e.frf, e.hok, e.bare⟩
  have hl := F1.len _ _ _ E0 q
  have r2 : Vals [V.ref a] [Value.ref a] := .cons rfl .nil
  have run : wpAny (model X.prog X.w) X.A.in1 (call (.ref f) [.ref a]) (fun u s' => ∃ v H', L2.Inv X pins σ H' s' ∧ RelV v u ∧ ∃ n : Nat, v = .int n ∧ n < 2 ^ 62 ∧ Q (.int n) H') X.xe s := by
    refine wpAny_call (codeAny_mono (F1.run X.A.in1 X.stack s H ⟨[.ref a], []⟩ [.ref a] [.ref a] _ E0 sb1.room e0 (by
      have := b s [.ref a] I.kIn (by simpa using hl)
      simpa using this) r2 q) fun r s' hq => ?_)
    cases r with
    | error e => exact pass0 pins σ H s e s' I hq
    | ok fl =>
      cases fl with
      | ret u =>
        obtain ⟨v, H', I', rv, q'⟩ := I.after hq
        exact ⟨v, H', I', rv, q'⟩
      | next => exact False.elim hq
      | brk => exact False.elim hq
      | cont => exact False.elim hq
  refine wpAny_bind (m := callSpecial? (.ref a) (PySem.Str.ofString "__len__")) (PySem.W.special_fn (name := "__len__") (args := []) I.kIn J hm.at_ (beq_iff_eq.mp hm.fn) (wpAny_mono run (fun u s' hu => ?_) fun _ _ z => z))
  obtain ⟨v, H', I', rv, n, rfl, hn, q'⟩ := hu
  obtain ⟨t, rfl⟩ := (show ∃ t, u = Value.int n t from rv)
  refine wpAny_bind (wpAny_holding (wpAny_pure ?_))
  refine wpAny_bind (wpAny_letGo ?_)
  show wpAny _ _ (if ((n : Nat) : Int) < 0 then _ else _) _ _ _
  rw [if_neg (by omega)]
  show wpAny _ _ (if ((n : Nat) : Int) ≥ 2 ^ 63 then _ else _) _ _ _
  rw [if_neg (by omega)]
  exact wpAny_bind (wpAny_mkInt (wpAny_pure ⟨_, rfl, .int n, H', I'.tok _, ⟨_, rfl⟩, q'⟩))
end G

/-! part W29 -/
set_option Elab.async false
set_option linter.all false
set_option maxRecDepth 100000
set_option maxHeartbeats 4000000
/-! A new conversation. -/
namespace G
open PySem PySem.Spec PyProof.Rows L2
variable {P : Program} {w : World} {K : PySem.W.Frag} {mg : Str → Option Value} {base : Heap}
def Sta.conv (s : Sta) : Sta := { s with n := s.n + 1, mark := fun e => if e.1 = s.n then .held else s.mark e, box := fun e => if e.1 = s.n then [] else s.box e }
def Pla.conv (L : Pla) (n : Nat) (p1 p2 p3 p4 : Addr) : Pla := fun a => if a = .mk n then p1 else if a = .bx (n, false) then p2 else if a = .bx (n, true) then p3 else if a = .pr n then p4 else L a
section
variable {D : Defs} {H H' H1 : Hp} {L L' L1 : Pla} {s s' s1 : Sta} {p1 p2 p3 p4 : Addr}
theorem conv_old {a : Slot} (h : a.on s) : L.conv s.n p1 p2 p3 p4 a = L a := by
  unfold Pla.conv
  have h1 : a ≠ .mk s.n := fun e => by
    rw [e] at h
    exact Nat.lt_irrefl s.n h
  have h2 : ∀ b, a ≠ .bx (s.n, b) := fun b e => by
    rw [e] at h
    exact Nat.lt_irrefl s.n h
  have h3 : a ≠ .pr s.n := fun e => by
    rw [e] at h
    exact Nat.lt_irrefl s.n h
  rw [if_neg h1, if_neg (h2 _), if_neg (h2 _), if_neg h3]
theorem conv_on {a : Slot} (h : a.on s.conv) : a.on s ∨ a = .mk s.n ∨ a = .bx (s.n, false) ∨ a = .bx (s.n, true) ∨ a = .pr s.n := by
  cases a with
  | mk c =>
    have h : c < s.n + 1 := h
    by_cases e : c = s.n
    · exact .inr (.inl (by rw [e]))
    · exact .inl (show c < s.n by omega)
  | pr c =>
    have h : c < s.n + 1 := h
    by_cases e : c = s.n
    · exact .inr (.inr (.inr (.inr (by rw [e]))))
    · exact .inl (show c < s.n by omega)
  | bx e =>
    obtain ⟨c, b⟩ := e
    have h : c < s.n + 1 := h
    by_cases e : c = s.n
    · cases b
      · exact .inr (.inr (.inl (by rw [e])))
      · exact .inr (.inr (.inr (.inl (by rw [e]))))
    · exact .inl (show c < s.n by omega)
  | _ => exact .inl h
theorem conv_mk : L.conv s.n p1 p2 p3 p4 (.mk s.n) = p1 := if_pos rfl
theorem conv_b0 : L.conv s.n p1 p2 p3 p4 (.bx (s.n, false)) = p2 := by
  unfold Pla.conv
  rw [if_neg (by intro e; cases e), if_pos rfl]
theorem conv_b1 : L.conv s.n p1 p2 p3 p4 (.bx (s.n, true)) = p3 := by
  unfold Pla.conv
  rw [if_neg (by intro e; cases e), if_neg (by intro e; cases e), if_pos rfl]
theorem conv_pr : L.conv s.n p1 p2 p3 p4 (.pr s.n) = p4 := by
  unfold Pla.conv
  rw [if_neg (by intro e; cases e), if_neg (by intro e; cases e), if_neg (by intro e; cases e), if_pos rfl]
theorem Rep.newConv (R : Rep K D H L s) (n1 : H p1 = none) (n2 : H p2 = none) (n3 : H p3 = none) (n4 : H p4 = none) (d12 : p1 ≠ p2) (d13 : p1 ≠ p3) (d14 : p1 ≠ p4) (d23 : p2 ≠ p3) (d24 : p2 ≠ p4) (d34 : p3 ≠ p4)
    (hk : ∀ b o, b ≠ L .ml → b ≠ L .bl → H b = some o → H' b = some o) (hm : H' (L .ml) = some (.lst (refs L .mk s.n ++ [.ref p1]))) (hb : H' (L .bl) = some (.lst (refs L .pr s.n ++ [.ref p4])))
    (h1 : H' p1 = some (.lst [.str "held", .str "held"])) (h2 : H' p2 = some (.lst [])) (h3 : H' p3 = some (.lst [])) (h4 : H' p4 = some (.lst [.ref p2, .ref p3])) : Rep K D H' (L.conv s.n p1 p2 p3 p4) s.conv := by
  have tu : Tu H H' := fun b xs e => hk b _ (ne_of e R.ml (by intro z; cases z)) (ne_of e R.bl (by intro z; cases z)) e
  have k : ∀ a : Slot, a.on s → a ≠ .ml → a ≠ .bl → ∀ o, H (L a) = some o → H' (L.conv s.n p1 p2 p3 p4 a) = some o := fun a ha m1 m2 o e => by
    rw [conv_old ha]
    exact hk _ _ (R.ne ha (b := .ml) trivial m1) (R.ne ha (b := .bl) trivial m2) e
  have lo : ∀ a : Slot, a.on s → L.conv s.n p1 p2 p3 p4 a = L a := fun a ha => conv_old ha
  have old : ∀ a : Slot, a.on s → ∀ p, H p = none → L a ≠ p := fun a ha p hp e => R.out hp a ha e
  have fr : ∀ a : Slot, a.on s.conv → (a.on s ∧ L.conv s.n p1 p2 p3 p4 a = L a) ∨ (a = .mk s.n ∧ L.conv s.n p1 p2 p3 p4 a = p1) ∨ (a = .bx (s.n, false) ∧ L.conv s.n p1 p2 p3 p4 a = p2) ∨ (a = .bx (s.n, true) ∧ L.conv s.n p1 p2 p3 p4 a = p3) ∨ (a = .pr s.n ∧ L.conv s.n p1 p2 p3 p4 a = p4) := fun a ha => by
    rcases conv_on ha with h | h | h | h | h
    · exact .inl ⟨h, lo a h⟩
    · exact .inr (.inl ⟨h, by rw [h]; exact conv_mk⟩)
    · exact .inr (.inr (.inl ⟨h, by rw [h]; exact conv_b0⟩))
    · exact .inr (.inr (.inr (.inl ⟨h, by rw [h]; exact conv_b1⟩)))
    · exact .inr (.inr (.inr (.inr ⟨h, by rw [h]; exact conv_pr⟩)))
  refine ⟨fun a b ha hb h => ?_, ?_, ?_, ?_, ?_, ?_, ?_, ?_, ?_, fun i hi => ?_, fun i hi => ?_, fun d hd => ?_, fun d hd => ?_, fun f hf => ?_⟩
  · rcases fr a ha with ⟨x, y⟩ | ⟨x, y⟩ | ⟨x, y⟩ | ⟨x, y⟩ | ⟨x, y⟩ <;> rcases fr b hb with ⟨x', y'⟩ | ⟨x', y'⟩ | ⟨x', y'⟩ | ⟨x', y'⟩ | ⟨x', y'⟩ <;> rw [y, y'] at h
    · exact R.inj a b x x' h
    · exact absurd h (old a x _ n1)
    · exact absurd h (old a x _ n2)
    · exact absurd h (old a x _ n3)
    · exact absurd h (old a x _ n4)
    · exact absurd h.symm (old b x' _ n1)
    · rw [x, x']
    · exact absurd h d12
    · exact absurd h d13
    · exact absurd h d14
    · exact absurd h.symm (old b x' _ n2)
    · exact absurd h.symm d12
    · rw [x, x']
    · exact absurd h d23
    · exact absurd h d24
    · exact absurd h.symm (old b x' _ n3)
    · exact absurd h.symm d13
    · exact absurd h.symm d23
    · rw [x, x']
    · exact absurd h d34
    · exact absurd h.symm (old b x' _ n4)
    · exact absurd h.symm d14
    · exact absurd h.symm d24
    · exact absurd h.symm d34
    · rw [x, x']
  · obtain ⟨dx, t, h⟩ := R.px
    rw [lo .pq trivial]
    exact ⟨dx, t, k .px trivial (by intro e; cases e) (by intro e; cases e) _ h⟩
  · obtain ⟨kvs, h, q⟩ := R.pq
    exact ⟨kvs, k .pq trivial (by intro e; cases e) (by intro e; cases e) _ h, fun f ps e => let ⟨v, h1, h2⟩ := q f ps e; ⟨v, h1, h2.tu tu⟩⟩
  · obtain ⟨dx, h⟩ := R.st
    rw [lo .px trivial, lo .nw trivial, lo .al trivial, lo .cv trivial]
    exact ⟨dx, k .st trivial (by intro e; cases e) (by intro e; cases e) _ h⟩
  · exact k .nw trivial (by intro e; cases e) (by intro e; cases e) _ R.nw
  · obtain ⟨dx, h⟩ := R.cv
    rw [lo .ml trivial, lo .bl trivial]
    exact ⟨dx, k .cv trivial (by intro e; cases e) (by intro e; cases e) _ h⟩
  · show H' _ = some (.lst (refs _ .ac s.na))
    rw [show refs (L.conv s.n p1 p2 p3 p4) .ac s.na = refs L .ac s.na from refs_congr fun i hi => lo (.ac i) hi]
    exact k .al trivial (by intro e; cases e) (by intro e; cases e) _ R.al
  · show H' _ = some (.lst (refs _ .mk (s.n + 1)))
    rw [refs_snoc, show refs (L.conv s.n p1 p2 p3 p4) .mk s.n = refs L .mk s.n from refs_congr fun i hi => lo (.mk i) hi, conv_mk, lo .ml trivial]
    exact hm
  · show H' _ = some (.lst (refs _ .pr (s.n + 1)))
    rw [refs_snoc, show refs (L.conv s.n p1 p2 p3 p4) .pr s.n = refs L .pr s.n from refs_congr fun i hi => lo (.pr i) hi, conv_pr, lo .bl trivial]
    exact hb
  · obtain ⟨dx, nv, r, st, us, h1, h2, h3, h4⟩ := R.ac i hi
    rw [lo (.nm i) hi]
    exact ⟨dx, nv, r, st, us, k (.ac i) hi (by intro e; cases e) (by intro e; cases e) _ h1, h2, tu _ _ h3, fun e => (h4 e).tu tu⟩
  · obtain ⟨kvs, h1, h2⟩ := R.nm i hi
    exact ⟨kvs, k (.nm i) hi (by intro e; cases e) (by intro e; cases e) _ h1, h2.tu tu⟩
  · have hd : d < s.n + 1 := hd
    show H' _ = some (.lst [.str (mkS (if d = s.n then .held else s.mark (d, false))), .str (mkS (if d = s.n then .held else s.mark (d, true)))])
    by_cases e : d = s.n
    · rw [if_pos e, if_pos e, e, conv_mk]
      exact h1
    · rw [if_neg e, if_neg e]
      have hd' : d < s.n := by omega
      exact k (.mk d) hd' (by intro e; cases e) (by intro e; cases e) _ (R.mr d hd')
  · have hd : d < s.n + 1 := hd
    by_cases e : d = s.n
    · rw [e, conv_pr, conv_b0, conv_b1]
      exact h4
    · have hd' : d < s.n := by omega
      rw [lo (.bx (d, false)) hd', lo (.bx (d, true)) hd']
      exact k (.pr d) hd' (by intro e; cases e) (by intro e; cases e) _ (R.pr d hd')
  · obtain ⟨c, b⟩ := f
    have hf : c < s.n + 1 := hf
    show ∃ ms, H' _ = some (.lst ms) ∧ MsV H' (if c = s.n then [] else s.box (c, b)) ms
    by_cases e : c = s.n
    · rw [if_pos e, e]
      cases b
      · rw [conv_b0]
        exact ⟨[], h2, trivial⟩
      · rw [conv_b1]
        exact ⟨[], h3, trivial⟩
    · rw [if_neg e]
      have hf' : c < s.n := by omega
      obtain ⟨ms, g1, g2⟩ := R.bx (c, b) hf'
      exact ⟨ms, k (.bx (c, b)) hf' (by intro e; cases e) (by intro e; cases e) _ g1, g2.tu tu⟩
theorem Frm.newConv (R : Rep K D H L s) (n1 : H p1 = none) (n2 : H p2 = none) (n3 : H p3 = none) (n4 : H p4 = none) (hk : ∀ b o, b ≠ L .ml → b ≠ L .bl → H b = some o → H' b = some o) {o1 o2 : HO} (hm : H' (L .ml) = some o1) (hb : H' (L .bl) = some o2) :
    Frm H H' L (L.conv s.n p1 p2 p3 p4) s s.conv where
  keep := fun b o h hb' => hk b o (hb' .ml trivial).symm (hb' .bl trivial).symm h
  dom := fun b o h => by
    by_cases e : b = L .ml
    · rw [e]
      exact ⟨_, hm⟩
    · by_cases e2 : b = L .bl
      · rw [e2]
        exact ⟨_, hb⟩
      · exact ⟨o, hk b o e e2 h⟩
  new := fun a ha => by
    rcases conv_on ha with h | h | h | h | h
    · exact .inl ⟨h, conv_old h⟩
    · rw [h, conv_mk]
      exact .inr n1
    · rw [h, conv_b0]
      exact .inr n2
    · rw [h, conv_b1]
      exact .inr n3
    · rw [h, conv_pr]
      exact .inr n4
  mono := fun a h => by
    cases a <;> first | exact h | exact Nat.lt_succ_of_lt h
  fix := ⟨conv_old (a := .st) trivial, conv_old (a := .cv) trivial⟩
  tu := fun b xs e => hk b _ (ne_of e R.ml (by intro z; cases z)) (ne_of e R.bl (by intro z; cases z)) e
end
end G

/-! part W30 -/
set_option Elab.async false
set_option linter.all false
set_option maxRecDepth 100000
set_option maxHeartbeats 4000000
/-! Conversations are made. -/
namespace G
open PySem PySem.Spec PyProof.Rows L2
variable {P : Program} {w : World} {K : PySem.W.Frag} {mg : Str → Option Value} {base : Heap}
def spCreate (K : PySem.W.Frag) (D : Defs) : V → Hp → VK → Prop := fun a H Q => ∃ (L : Pla) (s : Sta), a = .ref (L .cv) ∧ Rep K D H L s ∧ s.n < 1000 ∧ ∀ L' H', Rep K D H' L' s.conv → Frm H H' L L' s s.conv → Q (.int s.n) H'
theorem ok_cv_create {D : Defs} (T : Top K mg) : FnG P w K mg base 1 (He.ma K (He.ga K "Conversations") "create") p_cv_create (S1 (spCreate K D)) := by
  refine FnG.of1 T.d_cv_create sc_cv_create rfl fun cdv A outer s H a Q E hr h => ⟨_, (pss_cons (ps_expr (pe_bm PySem.F.plainAttrs_list PySem.F.slot_list_append PySem.F.type_list_append mt_append (pe_fld (pv 0) rfl) (pa_cons (pe_lst (pa_cons pe_str (pa_cons pe_str pa_nil))) pa_nil)))
    (pss_cons (ps_expr (pe_bm PySem.F.plainAttrs_list PySem.F.slot_list_append PySem.F.type_list_append mt_append (pe_fld (pv 0) rfl) (pa_cons (pe_lst (pa_cons (pe_lst pa_nil) (pa_cons (pe_lst pa_nil) pa_nil))) pa_nil)))
    (pss_one (ps_ret (pe_op op_sub (pe_callB call_len_seq (by rfl) T.f_len PySem.boot_len (pa_cons (pe_fld (pv 0) rfl) pa_nil)) pe_int))))), ?_⟩
  obtain ⟨L, st, rfl, R, hn, q⟩ := h
  obtain ⟨dx, hcv⟩ := R.cv
  refine ⟨_, rfl, _, _, dx, _, _, rfl, hcv, T.c_cv, T.a_cv_marks, rfl, .inl ⟨rfl, _, SqL.of R.ml⟩, le_line (by show 2 ≤ _; decide), fun p1 hp1 => ?_⟩
  have s1 := Same.new (o := .lst [.str "held", .str "held"]) hp1
  have R1 := R.same s1
  have lm := refs_len L .mk st.n
  refine ⟨L .ml, _, _, rfl, rfl, R1.ml, lt_line (by omega), ?_⟩
  have o1 : ∀ a : Slot, a.on st → L a ≠ p1 := R.out hp1
  have keep1 : ∀ b o, b ≠ L .ml → H b = some o → upd (upd H p1 (.lst [.str "held", .str "held"])) (L .ml) (.lst (refs L .mk st.n ++ [.ref p1])) b = some o := fun b o hb e => by
    rw [upd_ne hb]
    exact s1 _ _ e
  have hcv1 := keep1 _ _ (R.ne (a := .cv) (b := .ml) trivial trivial (by intro e; cases e)) hcv
  have hbl1 := keep1 _ _ (R.ne (a := .bl) (b := .ml) trivial trivial (by intro e; cases e)) R.bl
  have hp1' : upd (upd H p1 (.lst [.str "held", .str "held"])) (L .ml) (.lst (refs L .mk st.n ++ [.ref p1])) p1 = some (.lst [.str "held", .str "held"]) := by
    rw [upd_ne (o1 .ml trivial).symm]
    exact upd_same
  refine ⟨_, rfl, _, _, dx, _, _, rfl, hcv1, T.c_cv, T.a_cv_boxes, rfl, .inl ⟨rfl, _, SqL.of hbl1⟩, Nat.zero_le _, fun p2 hp2 => ⟨Nat.zero_le _, fun p3 hp3 => ⟨le_line (by show 2 ≤ _; decide), fun p4 hp4 => ?_⟩⟩⟩
  have lb := refs_len L .pr st.n
  have s2 := Same.new (o := .lst []) hp2
  have s3 := Same.new (o := .lst []) hp3
  have s4 := Same.new (o := .lst [.ref p2, .ref p3]) hp4
  have s24 := s2.trans (s3.trans s4)
  refine ⟨L .bl, _, _, rfl, rfl, s24 _ _ hbl1, lt_line (by omega), ?_⟩
  have nml : L .ml ≠ L .bl := R.ne (a := .ml) (b := .bl) trivial trivial (by intro e; cases e)
  -- fresh in H
  have f0 : ∀ p, upd (upd H p1 (.lst [.str "held", .str "held"])) (L .ml) (.lst (refs L .mk st.n ++ [.ref p1])) p = none → H p = none ∧ p ≠ p1 := fun p e => by
    refine ⟨?_, fun z => ?_⟩
    · cases e2 : H p with
      | none => rfl
      | some o =>
        by_cases z : p = L .ml
        · rw [z, upd_same] at e
          cases e
        · rw [keep1 p o z e2] at e
          cases e
    · rw [z, hp1'] at e
      cases e
  have hp3' := s2.free hp3
  have hp4' := (s2.trans s3).free hp4
  have n2 := f0 p2 hp2
  have n3 := f0 p3 hp3'
  have n4 := f0 p4 hp4'
  have d23 : p2 ≠ p3 := ne_of_none upd_same hp3
  have d24 : p2 ≠ p4 := ne_of_none (s3 _ _ upd_same) hp4
  have d34 : p3 ≠ p4 := ne_of_none upd_same hp4
  have ob : ∀ p, H p = none → p ≠ L .bl := fun p h => (R.out h .bl trivial).symm
  have hk : ∀ b o, b ≠ L .ml → b ≠ L .bl → H b = some o → upd (upd (upd (upd (upd (upd H p1 (.lst [.str "held", .str "held"])) (L .ml) (.lst (refs L .mk st.n ++ [.ref p1]))) p2 (.lst [])) p3 (.lst [])) p4 (.lst [.ref p2, .ref p3])) (L .bl) (.lst (refs L .pr st.n ++ [.ref p4])) b = some o := fun b o h1 h2 e => by
    rw [upd_ne h2]
    exact s24 _ _ (keep1 b o h1 e)
  have hml : upd (upd (upd (upd (upd (upd H p1 (.lst [.str "held", .str "held"])) (L .ml) (.lst (refs L .mk st.n ++ [.ref p1]))) p2 (.lst [])) p3 (.lst [])) p4 (.lst [.ref p2, .ref p3])) (L .bl) (.lst (refs L .pr st.n ++ [.ref p4])) (L .ml) = some (.lst (refs L .mk st.n ++ [.ref p1])) := by
    rw [upd_ne nml]
    exact s24 _ _ upd_same
  have R6 := R.newConv (p1 := p1) (p2 := p2) (p3 := p3) (p4 := p4) hp1 n2.1 n3.1 n4.1 n2.2.symm n3.2.symm n4.2.symm d23 d24 d34 hk hml upd_same (by
    rw [upd_ne (ob _ hp1)]
    exact s24 _ _ hp1') (by
    rw [upd_ne (ob _ n2.1)]
    exact (s3.trans s4) _ _ upd_same) (by
    rw [upd_ne (ob _ n3.1)]
    exact s4 _ _ upd_same) (by
    rw [upd_ne (ob _ n4.1)]
    exact upd_same)
  have F6 := Frm.newConv (p1 := p1) (p2 := p2) (p3 := p3) (p4 := p4) R hp1 n2.1 n3.1 n4.1 hk hml upd_same
  have hcv6 := hk _ _ (R.ne (a := .cv) (b := .ml) trivial trivial (by intro e; cases e)) (R.ne (a := .cv) (b := .bl) trivial trivial (by intro e; cases e)) hcv
  refine ⟨_, rfl, _, _, dx, _, _, rfl, hcv6, T.c_cv, T.a_cv_marks, rfl, _, _, rfl, .inl (SqL.of hml), _, _, rfl, rfl, ?_⟩
  have e : (((refs L .mk st.n ++ [V.ref p1]).length : Nat) : Int) - 1 = (st.n : Int) := by
    rw [List.length_append, lm]
    show ((st.n + 1 : Nat) : Int) - 1 = _
    omega
  show Q (.int ((((refs L .mk st.n ++ [V.ref p1]).length : Nat) : Int) - 1)) _
  rw [e]
  exact q _ _ R6 F6
def spLen (K : PySem.W.Frag) (D : Defs) : V → Hp → VK → Prop := fun a H Q => ∃ (L : Pla) (s : Sta), a = .ref (L .cv) ∧ Rep K D H L s ∧ Q (.int s.n) H
theorem ok_cv_len {D : Defs} (T : Top K mg) : FnG P w K mg base 1 (He.ma K (He.ga K "Conversations") "__len__") p_cv_len (S1 (spLen K D)) := by
  refine FnG.of1 T.d_cv_len sc_cv_len rfl fun cdv A outer s H a Q E hr h => ⟨_, (pss_one (ps_ret (pe_callB call_len_seq (by rfl) T.f_len PySem.boot_len (pa_cons (pe_fld (pv 0) rfl) pa_nil)))), ?_⟩
  obtain ⟨L, st, rfl, R, q⟩ := h
  obtain ⟨dx, hcv⟩ := R.cv
  refine ⟨_, rfl, _, _, dx, _, _, rfl, hcv, T.c_cv, T.a_cv_marks, rfl, _, _, rfl, .inl (SqL.of R.ml), ?_⟩
  show Q (.int ((refs L .mk st.n).length : Nat)) _
  rw [refs_len]
  exact q
end G

/-! part W31 -/
set_option Elab.async false
set_option linter.all false
set_option maxRecDepth 100000
set_option maxHeartbeats 4000000
/-! Actors are written, made. -/
namespace G
open PySem PySem.Spec PyProof.Rows L2
variable {P : Program} {w : World} {K : PySem.W.Frag} {mg : Str → Option Value} {base : Heap}
theorem upd_twice {H : Hp} {p : Addr} {o u : HO} : upd (upd H p o) p u = upd H p u := by
  funext b
  by_cases e : b = p
  · rw [e, upd_same, upd_same]
  · rw [upd_ne e, upd_ne e, upd_ne e]
section
variable {D : Defs} {H H' H1 : Hp} {L L' L1 : Pla} {s s' s1 : Sta}
def Sta.act (s : Sta) (i : Nat) (m : Names) (b : Blk) (r : Bool) : Sta := { s with nm := fset s.nm i m, rest := fset s.rest i b, run := fset s.run i r }
theorem Rep.setActor (R : Rep K D H L s) {i : Nat} (hi : i < s.na) {p r dx : Addr} {kvs : List (Key × V)} {m : Names} {nv : V} {st : Str} {us : List V} {b : Blk} {run : Bool} (hp : H p = some (.dK kvs)) (hm : NmV H m kvs) (ho : ∀ a : Slot, a.on s → a ≠ .nm i → L a ≠ p)
    (hr : run = true ↔ st = "running") (hu : H r = some (.tup us)) (hb : run = true → BlkAt H b us) : Rep K D (upd H (L (.ac i)) (acO K dx nv p (.ref r) st)) (fset L (.nm i) p) (s.act i m b run) := by
  have ha : Slot.on s (.ac i) := hi
  have tu := R.tu ha (acO K dx nv p (.ref r) st)
  have lo : ∀ b : Slot, b ≠ .nm i → fset L (.nm i) p b = L b := fun b h => fset_ne h
  have k : ∀ b : Slot, b.on s → b ≠ .ac i → b ≠ .nm i → ∀ o, H (L b) = some o → upd H (L (.ac i)) (acO K dx nv p (.ref r) st) (fset L (.nm i) p b) = some o := fun b hb n n2 o e => by
    rw [lo b n2]
    exact R.oth ha _ hb n e
  refine ⟨fun a b ha' hb h => ?_, ?_, ?_, ?_, ?_, ?_, ?_, ?_, ?_, fun j hj => ?_, fun j hj => ?_, fun d hd => ?_, fun d hd => ?_, fun f hf => ?_⟩
  · by_cases h1 : a = .nm i <;> by_cases h2 : b = .nm i
    · rw [h1, h2]
    · rw [h1, fset_same, lo b h2] at h
      exact absurd h.symm (ho b hb h2)
    · rw [h2, fset_same, lo a h1] at h
      exact absurd h (ho a ha' h1)
    · rw [lo a h1, lo b h2] at h
      exact R.inj a b ha' hb h
  · obtain ⟨dx, t, h⟩ := R.px
    rw [lo .pq (by intro e; cases e)]
    exact ⟨dx, t, k .px trivial (by intro e; cases e) (by intro e; cases e) _ h⟩
  · obtain ⟨kvs, h, q⟩ := R.pq
    exact ⟨kvs, k .pq trivial (by intro e; cases e) (by intro e; cases e) _ h, fun f ps e => let ⟨v, h1, h2⟩ := q f ps e; ⟨v, h1, h2.tu tu⟩⟩
  · obtain ⟨dx, h⟩ := R.st
    rw [lo .px (by intro e; cases e), lo .nw (by intro e; cases e), lo .al (by intro e; cases e), lo .cv (by intro e; cases e)]
    exact ⟨dx, k .st trivial (by intro e; cases e) (by intro e; cases e) _ h⟩
  · exact k .nw trivial (by intro e; cases e) (by intro e; cases e) _ R.nw
  · obtain ⟨dx, h⟩ := R.cv
    rw [lo .ml (by intro e; cases e), lo .bl (by intro e; cases e)]
    exact ⟨dx, k .cv trivial (by intro e; cases e) (by intro e; cases e) _ h⟩
  · show _ = some (HO.lst (refs (fset L (.nm i) p) .ac s.na))
    rw [show refs (fset L (.nm i) p) .ac s.na = refs L .ac s.na from refs_congr fun i _ => lo _ (by intro e; cases e)]
    exact k .al trivial (by intro e; cases e) (by intro e; cases e) _ R.al
  · show _ = some (HO.lst (refs (fset L (.nm i) p) .mk s.n))
    rw [show refs (fset L (.nm i) p) .mk s.n = refs L .mk s.n from refs_congr fun i _ => lo _ (by intro e; cases e)]
    exact k .ml trivial (by intro e; cases e) (by intro e; cases e) _ R.ml
  · show _ = some (HO.lst (refs (fset L (.nm i) p) .pr s.n))
    rw [show refs (fset L (.nm i) p) .pr s.n = refs L .pr s.n from refs_congr fun i _ => lo _ (by intro e; cases e)]
    exact k .bl trivial (by intro e; cases e) (by intro e; cases e) _ R.bl
  · by_cases e : j = i
    · subst e
      rw [lo (.ac j) (by intro e; cases e), fset_same]
      refine ⟨dx, nv, r, st, us, upd_same, ?_, tu _ _ hu, fun e => ?_⟩
      · show fset s.run j run j = true ↔ _
        rw [fset_same]
        exact hr
      · show BlkAt _ (fset s.rest j b j) us
        rw [fset_same]
        have e : fset s.run j run j = true := e
        rw [fset_same] at e
        exact (hb e).tu tu
    · obtain ⟨dx, nv, r, st, us, h1, h2, h3, h4⟩ := R.ac j hj
      rw [lo (.nm j) (by intro z; cases z; exact e rfl)]
      refine ⟨dx, nv, r, st, us, k (.ac j) hj (by intro z; cases z; exact e rfl) (by intro e; cases e) _ h1, ?_, tu _ _ h3, fun z => ?_⟩
      · show fset s.run i run j = true ↔ _
        rw [fset_ne e]
        exact h2
      · have z : fset s.run i run j = true := z
        rw [fset_ne e] at z
        show BlkAt _ (fset s.rest i b j) us
        rw [fset_ne e]
        exact (h4 z).tu tu
  · by_cases e : j = i
    · subst e
      rw [fset_same]
      refine ⟨kvs, ?_, ?_⟩
      · rw [upd_ne (ho _ ha (by intro e; cases e)).symm]
        exact hp
      · show NmV _ (fset s.nm j m j) kvs
        rw [fset_same]
        exact hm.tu tu
    · obtain ⟨kvs', h1, h2⟩ := R.nm j hj
      refine ⟨kvs', k (.nm j) hj (by intro e; cases e) (by intro z; cases z; exact e rfl) _ h1, ?_⟩
      show NmV _ (fset s.nm i m j) kvs'
      rw [fset_ne e]
      exact h2.tu tu
  · exact k (.mk d) hd (by intro e; cases e) (by intro e; cases e) _ (R.mr d hd)
  · rw [lo (.bx (d, false)) (by intro e; cases e), lo (.bx (d, true)) (by intro e; cases e)]
    exact k (.pr d) hd (by intro e; cases e) (by intro e; cases e) _ (R.pr d hd)
  · obtain ⟨ms, h1, h2⟩ := R.bx f hf
    exact ⟨ms, k (.bx f) hf (by intro e; cases e) (by intro e; cases e) _ h1, h2.tu tu⟩
theorem Frm.setActor (R : Rep K D H L s) {i : Nat} (hi : i < s.na) {p : Addr} {o : HO} {m : Names} {b : Blk} {r : Bool} (hp : H1 p = none) (A : Frm H1 H L L s s) : Frm H1 (upd H (L (.ac i)) o) L (fset L (.nm i) p) s (s.act i m b r) := by
  have B : Frm H (upd H (L (.ac i)) o) L L s (s.act i m b r) := Frm.at_ R (a := .ac i) hi o fun _ => Iff.rfl
  have C := A.trans B
  refine ⟨C.keep, C.dom, fun a ha => ?_, C.mono, ⟨(fset_ne (by intro e; cases e)).trans C.fix.1, (fset_ne (by intro e; cases e)).trans C.fix.2⟩, C.tu⟩
  by_cases h : a = .nm i
  · subst h
    right
    rw [fset_same]
    exact hp
  · rw [fset_ne h]
    exact C.new a ha
end
end G

/-! part W32 -/
set_option Elab.async false
set_option linter.all false
set_option maxRecDepth 100000
set_option maxHeartbeats 4000000
/-! A new actor. -/
namespace G
open PySem PySem.Spec PyProof.Rows L2
variable {P : Program} {w : World} {K : PySem.W.Frag} {mg : Str → Option Value} {base : Heap}
section
variable {D : Defs} {H H' H1 : Hp} {L L' L1 : Pla} {s s' s1 : Sta} {pa pn : Addr}
def Sta.born (s : Sta) (m : Names) (b : Blk) : Sta := { s with na := s.na + 1, nm := fset s.nm s.na m, rest := fset s.rest s.na b, run := fset s.run s.na true }
def Pla.born (L : Pla) (n : Nat) (pa pn : Addr) : Pla := fun a => if a = .ac n then pa else if a = .nm n then pn else L a
theorem fset_id {α β : Type} [DecidableEq α] {f : α → β} {a : α} {b : β} (h : f a = b) : fset f a b = f := by
  funext x
  by_cases e : x = a
  · rw [e, fset_same, h]
  · exact fset_ne e
theorem act_put {i : Nat} {m : Names} {b : Blk} (h : s.run i = true) : s.act i m b true = s.put i m b := by
  unfold Sta.act Sta.put
  rw [fset_id h]
theorem act_stop {i : Nat} : s.act i [] .fail false = s.stop i := rfl
theorem act_open {i : Nat} {m m2 : Names} {b b2 : Blk} (h : s.run i = true) : (s.conv.born m2 b2).act i m b true = s.open_ i m b m2 b2 := by
  unfold Sta.act Sta.open_ Sta.born Sta.conv
  have e : fset (fset s.run s.na true) i true = fset s.run s.na true := fset_id (by
    by_cases e : i = s.na
    · rw [e, fset_same]
    · rw [fset_ne e]
      exact h)
  simp only [e]
theorem born_old {a : Slot} (h : a.on s) : L.born s.na pa pn a = L a := by
  unfold Pla.born
  have h1 : a ≠ .ac s.na := fun e => by
    rw [e] at h
    exact Nat.lt_irrefl s.na h
  have h2 : a ≠ .nm s.na := fun e => by
    rw [e] at h
    exact Nat.lt_irrefl s.na h
  rw [if_neg h1, if_neg h2]
theorem born_on {m : Names} {b : Blk} {a : Slot} (h : a.on (s.born m b)) : a.on s ∨ a = .ac s.na ∨ a = .nm s.na := by
  cases a with
  | ac c =>
    have h : c < s.na + 1 := h
    by_cases e : c = s.na
    · exact .inr (.inl (by rw [e]))
    · exact .inl (show c < s.na by omega)
  | nm c =>
    have h : c < s.na + 1 := h
    by_cases e : c = s.na
    · exact .inr (.inr (by rw [e]))
    · exact .inl (show c < s.na by omega)
  | _ => exact .inl h
theorem born_ac : L.born s.na pa pn (.ac s.na) = pa := if_pos rfl
theorem born_nm : L.born s.na pa pn (.nm s.na) = pn := by
  unfold Pla.born
  rw [if_neg (by intro e; cases e), if_pos rfl]
theorem Rep.born (R : Rep K D H L s) {dx r : Addr} {nv : V} {kvs : List (Key × V)} {m : Names} {b : Blk} {us : List V} (n1 : H pa = none) (n2 : H pn = none) (d12 : pa ≠ pn) (hk : ∀ b o, b ≠ L .al → H b = some o → H' b = some o)
    (hm : H' (L .al) = some (.lst (refs L .ac s.na ++ [.ref pa]))) (h1 : H' pa = some (acO K dx nv pn (.ref r) "running")) (h2 : H' pn = some (.dK kvs)) (h3 : NmV H' m kvs) (h4 : H' r = some (.tup us)) (h5 : BlkAt H' b us) :
    Rep K D H' (L.born s.na pa pn) (s.born m b) := by
  have tu : Tu H H' := fun b xs e => hk b _ (ne_of e R.al (by intro z; cases z)) e
  have lo : ∀ a : Slot, a.on s → L.born s.na pa pn a = L a := fun a ha => born_old ha
  have k : ∀ a : Slot, a.on s → a ≠ .al → ∀ o, H (L a) = some o → H' (L.born s.na pa pn a) = some o := fun a ha m1 o e => by
    rw [lo a ha]
    exact hk _ _ (R.ne ha (b := .al) trivial m1) e
  have old : ∀ a : Slot, a.on s → ∀ p, H p = none → L a ≠ p := fun a ha p hp e => R.out hp a ha e
  have fr : ∀ a : Slot, a.on (s.born m b) → (a.on s ∧ L.born s.na pa pn a = L a) ∨ (a = .ac s.na ∧ L.born s.na pa pn a = pa) ∨ (a = .nm s.na ∧ L.born s.na pa pn a = pn) := fun a ha => by
    rcases born_on ha with h | h | h
    · exact .inl ⟨h, lo a h⟩
    · exact .inr (.inl ⟨h, by rw [h]; exact born_ac⟩)
    · exact .inr (.inr ⟨h, by rw [h]; exact born_nm⟩)
  refine ⟨fun a b ha hb h => ?_, ?_, ?_, ?_, ?_, ?_, ?_, ?_, ?_, fun i hi => ?_, fun i hi => ?_, fun d hd => ?_, fun d hd => ?_, fun f hf => ?_⟩
  · rcases fr a ha with ⟨x, y⟩ | ⟨x, y⟩ | ⟨x, y⟩ <;> rcases fr b hb with ⟨x', y'⟩ | ⟨x', y'⟩ | ⟨x', y'⟩ <;> rw [y, y'] at h
    · exact R.inj a b x x' h
    · exact absurd h (old a x _ n1)
    · exact absurd h (old a x _ n2)
    · exact absurd h.symm (old b x' _ n1)
    · rw [x, x']
    · exact absurd h d12
    · exact absurd h.symm (old b x' _ n2)
    · exact absurd h.symm d12
    · rw [x, x']
  · obtain ⟨dx, t, h⟩ := R.px
    rw [lo .pq trivial]
    exact ⟨dx, t, k .px trivial (by intro e; cases e) _ h⟩
  · obtain ⟨kvs, h, q⟩ := R.pq
    exact ⟨kvs, k .pq trivial (by intro e; cases e) _ h, fun f ps e => let ⟨v, h1, h2⟩ := q f ps e; ⟨v, h1, h2.tu tu⟩⟩
  · obtain ⟨dx, h⟩ := R.st
    rw [lo .px trivial, lo .nw trivial, lo .al trivial, lo .cv trivial]
    exact ⟨dx, k .st trivial (by intro e; cases e) _ h⟩
  · exact k .nw trivial (by intro e; cases e) _ R.nw
  · obtain ⟨dx, h⟩ := R.cv
    rw [lo .ml trivial, lo .bl trivial]
    exact ⟨dx, k .cv trivial (by intro e; cases e) _ h⟩
  · show H' _ = some (.lst (refs _ .ac (s.na + 1)))
    rw [refs_snoc, show refs (L.born s.na pa pn) .ac s.na = refs L .ac s.na from refs_congr fun i hi => lo (.ac i) hi, born_ac, lo .al trivial]
    exact hm
  · show H' _ = some (.lst (refs _ .mk s.n))
    rw [show refs (L.born s.na pa pn) .mk s.n = refs L .mk s.n from refs_congr fun i hi => lo (.mk i) hi]
    exact k .ml trivial (by intro e; cases e) _ R.ml
  · show H' _ = some (.lst (refs _ .pr s.n))
    rw [show refs (L.born s.na pa pn) .pr s.n = refs L .pr s.n from refs_congr fun i hi => lo (.pr i) hi]
    exact k .bl trivial (by intro e; cases e) _ R.bl
  · have hi : i < s.na + 1 := hi
    by_cases e : i = s.na
    · rw [e, born_ac, born_nm]
      refine ⟨dx, nv, r, _, us, h1, ?_, h4, fun _ => ?_⟩
      · show fset s.run s.na true s.na = true ↔ _
        rw [fset_same]
        exact ⟨fun _ => rfl, fun _ => rfl⟩
      · show BlkAt _ (fset s.rest s.na b s.na) us
        rw [fset_same]
        exact h5
    · have hi' : i < s.na := by omega
      obtain ⟨dx, nv, r, st, us, g1, g2, g3, g4⟩ := R.ac i hi'
      rw [lo (.nm i) hi']
      refine ⟨dx, nv, r, st, us, k (.ac i) hi' (by intro e; cases e) _ g1, ?_, tu _ _ g3, fun z => ?_⟩
      · show fset s.run s.na true i = true ↔ _
        rw [fset_ne e]
        exact g2
      · have z : fset s.run s.na true i = true := z
        rw [fset_ne e] at z
        show BlkAt _ (fset s.rest s.na b i) us
        rw [fset_ne e]
        exact (g4 z).tu tu
  · have hi : i < s.na + 1 := hi
    by_cases e : i = s.na
    · rw [e, born_nm]
      refine ⟨kvs, h2, ?_⟩
      show NmV H' (fset s.nm s.na m s.na) kvs
      rw [fset_same]
      exact h3
    · have hi' : i < s.na := by omega
      obtain ⟨kvs', g1, g2⟩ := R.nm i hi'
      refine ⟨kvs', k (.nm i) hi' (by intro e; cases e) _ g1, ?_⟩
      show NmV H' (fset s.nm s.na m i) kvs'
      rw [fset_ne e]
      exact g2.tu tu
  · exact k (.mk d) hd (by intro e; cases e) _ (R.mr d hd)
  · have hd : d < s.n := hd
    rw [lo (.bx (d, false)) hd, lo (.bx (d, true)) hd]
    exact k (.pr d) hd (by intro e; cases e) _ (R.pr d hd)
  · obtain ⟨ms, g1, g2⟩ := R.bx f hf
    exact ⟨ms, k (.bx f) hf (by intro e; cases e) _ g1, g2.tu tu⟩
theorem Frm.born (R : Rep K D H L s) {m : Names} {b : Blk} {o1 : HO} (n1 : H pa = none) (n2 : H pn = none) (hk : ∀ b o, b ≠ L .al → H b = some o → H' b = some o) (hm : H' (L .al) = some o1) : Frm H H' L (L.born s.na pa pn) s (s.born m b) where
  keep := fun b o h hb' => hk b o (hb' .al trivial).symm h
  dom := fun b o h => by
    by_cases e : b = L .al
    · rw [e]
      exact ⟨_, hm⟩
    · exact ⟨o, hk b o e h⟩
  new := fun a ha => by
    rcases born_on ha with h | h | h
    · exact .inl ⟨h, born_old h⟩
    · rw [h, born_ac]
      exact .inr n1
    · rw [h, born_nm]
      exact .inr n2
  mono := fun a h => by
    cases a <;> first | exact h | exact Nat.lt_succ_of_lt h
  fix := ⟨born_old (a := .st) trivial, born_old (a := .cv) trivial⟩
  tu := fun b xs e => hk b _ (ne_of e R.al (by intro z; cases z)) e
end
end G

/-! part W33 -/
set_option Elab.async false
set_option linter.all false
set_option maxRecDepth 100000
set_option maxHeartbeats 4000000
/-! The state's methods. -/
namespace G
open PySem PySem.Spec PyProof.Rows L2
variable {P : Program} {w : World} {K : PySem.W.Frag} {mg : Str → Option Value} {base : Heap}
def spStRest (K : PySem.W.Frag) (D : Defs) : V → V → Hp → VK → Prop := fun a b H Q => ∃ (L : Pla) (s : Sta) (i : Nat), a = .ref (L .st) ∧ b = .int i ∧ Rep K D H L s ∧ i < s.na ∧ ∀ r us, H r = some (.tup us) → (s.run i = true → BlkAt H (s.rest i) us) → Q (.ref r) H
theorem ok_st_rest {D : Defs} (T : Top K mg) : FnG P w K mg base 1 (He.ma K (He.ga K "State") "rest") p_st_rest (S2 (spStRest K D)) := by
  refine FnG.of2 T.d_st_rest sc_st_rest rfl fun cdv A outer s H a b Q E hr h => ⟨_, (pss_one (ps_ret (pe_fld (pe_ix ix_list (pe_fld (pv 0) rfl) (pv 1) (fun _ _ => rfl)) rfl))), ?_⟩
  obtain ⟨L, st, i, rfl, rfl, R, hi, q⟩ := h
  obtain ⟨dx, hst⟩ := R.st
  obtain ⟨dxa, nv, r, sv, us, h1, h2, h3, h4⟩ := R.ac i hi
  exact ⟨_, rfl, _, _, dx, _, _, rfl, hst, T.c_st, T.a_st_actors, rfl, _, rfl, _, _, _, _, rfl, rfl, SqL.of R.al, refs_at hi, _, _, dxa, _, _, rfl, h1, T.c_ac, T.a_ac_rest, rfl, q r us h3 h4⟩
def spStNames (K : PySem.W.Frag) (D : Defs) : V → V → Hp → VK → Prop := fun a b H Q => ∃ (L : Pla) (s : Sta) (i : Nat), a = .ref (L .st) ∧ b = .int i ∧ Rep K D H L s ∧ i < s.na ∧ ∀ p kvs, H p = none → NmV H (s.nm i) kvs → Q (.ref p) (upd H p (.dK kvs))
theorem ok_st_names {D : Defs} (T : Top K mg) : FnG P w K mg base 1 (He.ma K (He.ga K "State") "names") p_st_names (S2 (spStNames K D)) := by
  refine FnG.of2 T.d_st_names sc_st_names rfl fun cdv A outer s H a b Q E hr h => ⟨_, (pss_one (ps_ret (pe_callTy call_dictD (by rfl) T.f_dict (by decide +kernel) (pa_cons (pe_fld (pe_ix ix_list (pe_fld (pv 0) rfl) (pv 1) (fun _ _ => rfl)) rfl) pa_nil)))), ?_⟩
  obtain ⟨L, st, i, rfl, rfl, R, hi, q⟩ := h
  obtain ⟨dx, hst⟩ := R.st
  obtain ⟨dxa, nv, r, sv, us, h1, h2, h3, h4⟩ := R.ac i hi
  obtain ⟨kvs, g1, g2⟩ := R.nm i hi
  exact ⟨_, rfl, _, _, dx, _, _, rfl, hst, T.c_st, T.a_st_actors, rfl, _, rfl, _, _, _, _, rfl, rfl, SqL.of R.al, refs_at hi, _, _, dxa, _, _, rfl, h1, T.c_ac, T.a_ac_names, rfl, _, _, rfl, .inl g1, fun p hp => q p kvs hp g2⟩
def spStPut (K : PySem.W.Frag) (D : Defs) : V → V → V → V → Hp → VK → Prop := fun a b c r H Q => ∃ (L : Pla) (s : Sta) (i : Nat) (np rp : Addr) (kvs : List (Key × V)) (m : Names) (us : List V) (b' : Blk), a = .ref (L .st) ∧ b = .int i ∧ c = .ref np ∧ r = .ref rp ∧ Rep K D H L s ∧ i < s.na ∧ H np = some (.dK kvs) ∧ NmV H m kvs ∧ H rp = some (.tup us) ∧
  (s.run i = true → BlkAt H b' us) ∧ ∀ L' H', Rep K D H' L' (s.act i m b' (s.run i)) → Frm H H' L L' s (s.act i m b' (s.run i)) → Q .non H'
theorem ok_st_put {D : Defs} (T : Top K mg) : FnG P w K mg base 1 (He.ma K (He.ga K "State") "put") p_st_put (S4 (spStPut K D)) := by
  refine FnG.of4 T.d_st_put sc_st_put rfl fun cdv A outer s H a b c r Q E hr h => ⟨_, (pss_cons (ps_fld (pe_ix ix_list (pe_fld (pv 0) rfl) (pv 1) (fun _ _ => rfl)) (pe_callTy call_dictD (by rfl) T.f_dict (by decide +kernel) (pa_cons (pv 2) pa_nil)) rfl)
    (pss_one (ps_fld (pe_ix ix_list (pe_fld (pv 0) rfl) (pv 1) (fun _ _ => rfl)) (pv 3) rfl))), ?_⟩
  obtain ⟨L, st, i, np, rp, kvs, m, us, b', rfl, rfl, rfl, rfl, R, hi, hn, hm, hu, hb, q⟩ := h
  refine ⟨_, rfl, _, _, rfl, .inl hn, fun p hp => ?_⟩
  have s1 := Same.new (o := .dK kvs) hp
  have R1 := R.same s1
  obtain ⟨dx, hst⟩ := R1.st
  obtain ⟨dxa, nv, r0, sv, us0, h1, h2, h3, h4⟩ := R1.ac i hi
  refine ⟨_, rfl, _, _, dx, _, _, rfl, hst, T.c_st, T.a_st_actors, rfl, _, rfl, _, _, _, _, rfl, rfl, SqL.of R1.al, refs_at hi, _, _, dxa, _, rfl, h1, T.c_ac, T.a_ac_names, (by show 4 < 1000; decide), ?_⟩
  have ai : Slot.on st (.ac i) := hi
  have hst2 := R1.oth ai (acO K dxa nv p (.ref r0) sv) (b := .st) trivial (by intro e; cases e) hst
  have hal2 := R1.oth ai (acO K dxa nv p (.ref r0) sv) (b := .al) trivial (by intro e; cases e) R1.al
  refine ⟨_, rfl, _, rfl, _, _, dx, _, _, rfl, hst2, T.c_st, T.a_st_actors, rfl, _, rfl, _, _, _, _, rfl, rfl, SqL.of hal2, refs_at hi, _, _, dxa, _, rfl, upd_same, T.c_ac, T.a_ac_rest, (by show 4 < 1000; decide), ?_⟩
  have R2 := R1.setActor (p := p) (r := rp) (dx := dxa) (nv := nv) (st := sv) (b := b') (run := st.run i) hi upd_same (hm.tu (Same.tu s1)) (fun a ha _ => R.out hp a ha) h2 (s1 _ _ hu) fun e => (hb e).tu (Same.tu s1)
  have F2 := Frm.setActor (H1 := H) R1 hi (p := p) (o := acO K dxa nv p (.ref rp) sv) (m := m) (b := b') (r := st.run i) hp (Frm.same s1)
  rw [← upd_twice (o := acO K dxa nv p (.ref r0) sv)] at R2 F2
  exact q _ _ R2 F2
theorem fset_twice {α β : Type} [DecidableEq α] {f : α → β} {a : α} {b c : β} : fset (fset f a b) a c = fset f a c := by
  funext x
  by_cases e : x = a
  · rw [e, fset_same, fset_same]
  · rw [fset_ne e, fset_ne e, fset_ne e]
theorem act_twice {s : Sta} {i : Nat} {m m2 : Names} {b b2 : Blk} {r r2 : Bool} : (s.act i m b r).act i m2 b2 r2 = s.act i m2 b2 r2 := by
  unfold Sta.act
  simp only [fset_twice]
def spFinish (K : PySem.W.Frag) (D : Defs) : V → V → V → Hp → VK → Prop := fun a b c H Q => ∃ (L : Pla) (s : Sta) (i : Nat) (x : Str), a = .ref (L .st) ∧ b = .int i ∧ c = .str x ∧ x ≠ "running" ∧ Rep K D H L s ∧ i < s.na ∧ ∀ L' H', Rep K D H' L' (s.stop i) → Frm H H' L L' s (s.stop i) → Q .non H'
theorem ok_st_finish {D : Defs} (T : Top K mg) : FnG P w K mg base 2 (He.ma K (He.ga K "State") "finish") p_st_finish (S3 (spFinish K D)) := by
  refine FnG.of3 T.d_st_finish sc_st_finish rfl fun cdv A outer s H a b c Q E hr h => ?_
  have ok_st_put := fun T => ok_st_put (P := P) (w := w) (K := K) (mg := mg) (base := base) (D := D) T
  refine ⟨_, (pss_cons (ps_fld (pe_ix ix_list (pe_fld (pv 0) rfl) (pv 1) (fun _ _ => rfl)) (pv 2) rfl)
    (pss_one (ps_expr (pmeth (pv 0) T.c_st T.m_st_put (ok_st_put T) (hr.mono (by omega)) (pa_cons (pv 1) (pa_cons pe_dnewK (pa_cons (pe_tup pa_nil) pa_nil))))))), ?_⟩
  obtain ⟨L, st, i, x, rfl, rfl, rfl, hx, R, hi, q⟩ := h
  obtain ⟨dx, hst⟩ := R.st
  obtain ⟨dxa, nv, r0, sv, us0, h1, h2, h3, h4⟩ := R.ac i hi
  obtain ⟨kvs, g1, g2⟩ := R.nm i hi
  have ai : Slot.on st (.ac i) := hi
  refine ⟨_, rfl, _, rfl, _, _, dx, _, _, rfl, hst, T.c_st, T.a_st_actors, rfl, _, rfl, _, _, _, _, rfl, rfl, SqL.of R.al, refs_at hi, _, _, dxa, _, rfl, h1, T.c_ac, T.a_ac_status, (by show 4 < 1000; decide), ?_⟩
  have R2 := R.setActor (p := L (.nm i)) (r := r0) (dx := dxa) (nv := nv) (st := x) (b := st.rest i) (run := false) hi g1 g2 (fun a ha hn e => hn (R.inj a (.nm i) ha hi e)) ⟨fun e => (by cases e), fun e => absurd e hx⟩ h3 fun e => (by cases e)
  rw [fset_id rfl] at R2
  have F2 : Frm H (upd H (L (.ac i)) (acO K dxa nv (L (.nm i)) (.ref r0) x)) L L st (st.act i (st.nm i) (st.rest i) false) := Frm.at_ R ai _ fun _ => Iff.rfl
  obtain ⟨dx2, hst2⟩ := R2.st
  refine ⟨_, rfl, _, dx2, _, rfl, hst2, rfl, _, rfl, fun n hn => ⟨Nat.zero_le _, fun tp htp => ?_⟩⟩
  have s3 := (Same.new (o := .dK []) hn).trans (Same.new (o := .tup []) htp)
  refine ⟨L, _, i, n, tp, [], [], [], .fail, rfl, rfl, rfl, rfl, R2.same s3, hi, (Same.new htp) _ _ upd_same, trivial, upd_same, fun e => ?_, fun L' H' R' F' => ?_⟩
  · have e : fset st.run i false i = true := e
    rw [fset_same] at e
    cases e
  · have er : (st.act i (st.nm i) (st.rest i) false).run i = false := fset_same
    rw [er, act_twice] at R' F'
    exact q L' H' R' ((F2.trans (Frm.same s3)).trans F')
end G

/-! part W34 -/
set_option Elab.async false
set_option linter.all false
set_option maxRecDepth 100000
set_option maxHeartbeats 4000000
/-! Who runs, who is ready. -/
namespace G
open PySem PySem.Spec PyProof.Rows L2
variable {P : Program} {w : World} {K : PySem.W.Frag} {mg : Str → Option Value} {base : Heap}
def intsV (l : List Nat) : List V := l.map fun i : Nat => V.int i
def spRunning (K : PySem.W.Frag) (D : Defs) : V → Hp → VK → Prop := fun a H Q => ∃ (L : Pla) (s : Sta), a = .ref (L .st) ∧ Rep K D H L s ∧ s.na ≤ 1000 ∧ ∀ p H', Same H H' → H p = none → H' p = some (.lst (intsV (runL s))) → Q (.ref p) H'
theorem ok_st_running {D : Defs} (T : Top K mg) : FnG P w K mg base 1 (He.ma K (He.ga K "State") "running") p_st_running (S1 (spRunning K D)) := by
  refine FnG.of1 T.d_st_running sc_st_running rfl fun cdv A outer s H a Q E hr h => ⟨_, (pss_one (ps_ret (pe_lc (own := [("k", 1)]) (g := gName 1) rfl sc_st_running.nd (pi_range1 (by rfl) T.f_range (pa_cons (pe_callB call_len_seq (by rfl) T.f_len PySem.boot_len (pa_cons (pe_fld (pv 0) rfl) pa_nil)) pa_nil)) (blkOk_by (own := [("k", 1)]) (N := n_st_running) (sc := defScope s_st_running) (by decide +kernel)) (fun _ _ _ _ _ => (pg_name (i := 1) sc_st_running.nd rfl (Or.inl rfl))) (fun _ _ _ _ _ => pts_one (pt_cmpR op_eq (pe_fldK K (pe_ix (ix_listK K) (pe_fldK K (pv 0) rfl) (pv 1) (fun _ _ => rfl)) rfl) pe_str (nomark _))) (fun _ _ _ _ _ => (pv 1))))), ?_⟩
  obtain ⟨L, st, rfl, R, hn, q⟩ := h
  obtain ⟨dx, hst⟩ := R.st
  have la := refs_len L .ac st.na
  refine ⟨_, rfl, _, _, dx, _, _, rfl, hst, T.c_st, T.a_st_actors, rfl, _, _, rfl, .inl (SqL.of R.al), (st.na : Int), by rw [la], by omega, by omega, fun D' hD => ?_⟩
  refine lc_range (n := st.na) (fun i H' => Same H H' ∧ H' D' = some (.lst (intsV ((List.range i).filter fun i => st.run i)))) ⟨Same.new hD, upd_same⟩ ?_ ?_
  · rintro i H' hi ⟨s1, u1⟩
    have R1 := R.same s1
    obtain ⟨dx1, hst1⟩ := R1.st
    obtain ⟨dxa, nv, r, sv, us, h1, h2, h3, h4⟩ := R1.ac i hi
    have ei : atI (refs L .ac st.na) (0 + (i : Int)) = some (.ref (L (.ac i))) := by
      rw [Int.zero_add]
      exact refs_at hi
    have er : (List.range (i + 1)).filter (fun i => st.run i) = (List.range i).filter (fun i => st.run i) ++ (if st.run i = true then [i] else []) := by
      rw [List.range_succ, List.filter_append]
      congr 1
      exact List.filter_cons
    refine ⟨rfl, _, rfl, _, _, dx1, _, _, rfl, hst1, T.c_st, T.a_st_actors, rfl, _, rfl, _, _, _, _, rfl, rfl, SqL.of R1.al, ei, _, _, dxa, _, _, rfl, h1, T.c_ac, T.a_ac_status, rfl, rfl, _, rfl, ite2 (fun c => ?_) (fun c => ?_)⟩
    · have c : sv = "running" := V.str.inj (of_decide_eq_true c)
      have lf := List.length_filter_le (fun i => st.run i) (List.range i)
      rw [List.length_range] at lf
      refine ⟨_, rfl, _, u1, lt_line (by unfold intsV; rw [List.length_map]; omega), Same.put s1 hD, ?_⟩
      rw [upd_same, er, if_pos (h2.mpr c), Int.zero_add]
      unfold intsV
      rw [List.map_append]
      rfl
    · refine ⟨s1, ?_⟩
      rw [er, if_neg, List.append_nil]
      · exact u1
      · intro z
        exact c (decide_eq_true (by rw [h2.mp z]))
  · rintro H' ⟨s1, u1⟩
    exact q D' H' s1 hD u1
def kw : Blk → Str
  | .done => "done" | .fail => "fail" | .become _ _ => "become" | .ite _ _ _ => "if" | .hear _ _ _ => "hear" | .let_ _ _ _ => "let" | .say _ _ _ _ => "say" | .close _ _ => "close" | .drop _ _ => "drop" | .open_ _ _ _ _ => "open"
theorem BlkAt.hd {H : Hp} : ∀ {b : Blk} {us : List V}, BlkAt H b us → ∃ p xs us', us = .ref p :: us' ∧ H p = some (.tup (.str (kw b) :: xs))
  | .done, _, ⟨p, e, h⟩ => ⟨p, _, [], e, h⟩
  | .fail, _, ⟨p, e, h⟩ => ⟨p, _, [], e, h⟩
  | .become _ _, _, ⟨p, _, _, e, h, _⟩ => ⟨p, _, [], e, h⟩
  | .ite _ _ _, _, ⟨p, _, _, _, _, _, e, h, _⟩ => ⟨p, _, [], e, h⟩
  | .hear _ _ _, _, ⟨p, _, _, _, _, e, h, _⟩ => ⟨p, _, [], e, h⟩
  | .let_ _ _ _, _, ⟨p, _, vs', e, h, _⟩ => ⟨p, _, vs', e, h⟩
  | .say _ _ _ _, _, ⟨p, _, vs', e, h, _⟩ => ⟨p, _, vs', e, h⟩
  | .close _ _, _, ⟨p, vs', e, h, _⟩ => ⟨p, _, vs', e, h⟩
  | .drop _ _, _, ⟨p, vs', e, h, _⟩ => ⟨p, _, vs', e, h⟩
  | .open_ _ _ _ _, _, ⟨p, _, _, vs', e, h, _⟩ => ⟨p, _, vs', e, h⟩
def readyB (s : Sta) (i : Nat) : Bool := match s.rest i with
  | .hear x _ _ => match (s.nm i).lookup x with
    | some (.en e) => !(s.box e).isEmpty || decide (s.mark (flip e) = .fallen)
    | _ => true
  | _ => true
def HearOk (s : Sta) (i : Nat) : Prop := ∀ x r b, s.rest i = .hear x r b → ∃ e, (s.nm i).lookup x = some (.en e) ∧ e.1 < s.n
def spIsReady (K : PySem.W.Frag) (D : Defs) : V → V → Hp → VK → Prop := fun a b H Q => ∃ (L : Pla) (s : Sta) (i : Nat), a = .ref (L .st) ∧ b = .int i ∧ Rep K D H L s ∧ i < s.na ∧ s.run i = true ∧ HearOk s i ∧ Q (.bl (readyB s i)) H
theorem ok_st_is_ready {D : Defs} (T : Top K mg) : FnG P w K mg base 2 (He.ma K (He.ga K "State") "is_ready") p_st_is_ready (S2 (spIsReady K D)) := by
  refine FnG.of2 T.d_st_is_ready sc_st_is_ready rfl fun cdv A outer s H a b Q E hr h => ?_
  have hu := hu_of hr
  have ok_cv_can_hear := fun T => ok_cv_can_hear (P := P) (w := w) (K := K) (mg := mg) (base := base) (D := D) T
  refine ⟨_, (pss_cons (ps_set (i := 2) sc_st_is_ready.nd rfl (Or.inl rfl) (pe_ix ix_tup (pe_fld (pe_ix ix_list (pe_fld (pv 0) rfl) (pv 1) (fun _ _ => rfl)) rfl) pe_int (fun _ _ => rfl)))
    (pss_cons (ps_if (pt_cmpR op_ne (pe_ix ix_tup (pv 2) pe_int (fun _ _ => rfl)) pe_str (nomark _)) (pss_one (ps_ret pe_bl)) pss_nil)
    (pss_cons (ps_set (i := 3) sc_st_is_ready.nd rfl (Or.inl rfl) (pe_dget1 hu (pe_fld (pe_ix ix_list (pe_fld (pv 0) rfl) (pv 1) (fun _ _ => rfl)) rfl) (pe_ix ix_tup (pv 2) pe_int (fun _ _ => rfl)) ⟨rfl, rfl, rfl, rfl⟩))
    (pss_cons (ps_if (pt_not (pt_val (pcall (ok_is_end T) (hr.mono (by omega)) T.g_is_end (pa_cons (pv 3) pa_nil)))) (pss_one (ps_ret pe_bl)) pss_nil)
    (pss_one (ps_ret (pmeth (pe_fld (pv 0) rfl) T.c_cv T.m_cv_can_hear (ok_cv_can_hear T) (hr.mono (by omega)) (pa_cons (pe_ix ix_tup (pv 3) pe_int (fun _ _ => rfl)) (pa_cons (pe_ix ix_tup (pv 3) pe_int (fun _ _ => rfl)) pa_nil))))))))), ?_⟩
  obtain ⟨L, st, i, rfl, rfl, R, hi, hrun, hH, q⟩ := h
  obtain ⟨dx, hst⟩ := R.st
  obtain ⟨dxa, nv, r, sv, us, h1, h2, h3, h4⟩ := R.ac i hi
  have hb := h4 hrun
  obtain ⟨p, xs, us', rfl, hp⟩ := hb.hd
  refine ⟨_, rfl, _, _, dx, _, _, rfl, hst, T.c_st, T.a_st_actors, rfl, _, rfl, _, _, _, _, rfl, rfl, SqL.of R.al, refs_at hi, _, _, dxa, _, _, rfl, h1, T.c_ac, T.a_ac_rest, rfl, r, _, _, _, rfl, rfl, SqT.of h3, atI_nat (j := 0) rfl, ?_⟩
  refine ⟨_, rfl, p, _, _, _, rfl, rfl, SqT.of hp, atI_nat (j := 0) rfl, rfl, _, rfl, ?_⟩
  cases eb : st.rest i with
  | hear x rr b =>
    obtain ⟨e, he, hen⟩ := hH x rr b eb
    rw [eb] at hb
    obtain ⟨p', q1, q2, rs, bs, ep, hp', _⟩ := hb
    cases ep
    obtain ⟨kvs, g1, g2⟩ := R.nm i hi
    obtain ⟨v, hv, hva⟩ := g2.get he
    have hg : DGet H (L (.nm i)) (.str x) (some v) := by
      rw [← hv]
      exact DGet.k (k := .inr x) g1
    refine ite2 (fun c => absurd c (by show ¬ (!decide (V.str "hear" = V.str "hear")) = true; simp)) fun c => ?_
    refine ⟨_, rfl, _, _, dx, _, _, rfl, hst, T.c_st, T.a_st_actors, rfl, _, rfl, _, _, _, _, rfl, rfl, SqL.of R.al, refs_at hi, _, _, dxa, _, _, rfl, h1, T.c_ac, T.a_ac_names, rfl, _, rfl, .inl ⟨kvs, .inl g1⟩, _, rfl, p, _, _, _, rfl, rfl, SqT.of hp', atI_nat (j := 1) rfl, some v, hg, ?_⟩
    obtain ⟨pe, rfl, hpe⟩ := id hva
    refine ⟨_, rfl, .en e, hva, _, rfl, ite2 (fun c => absurd c (by intro z; cases z)) fun _ => ?_⟩
    refine ⟨_, rfl, _, _, dx, _, _, rfl, hst, T.c_st, T.a_st_conversations, rfl, ?_⟩
    obtain ⟨dxc, hcv⟩ := R.cv
    refine ⟨_, dxc, _, rfl, hcv, rfl, _, rfl, pe, _, _, _, rfl, rfl, SqT.of hpe, atI_nat (j := 1) rfl, _, rfl, pe, _, _, _, rfl, rfl, SqT.of hpe, atI_nat (j := 2) rfl, L, st, e, rfl, rfl, rfl, R, hen, ?_⟩
    have er : readyB st i = (!(st.box e).isEmpty || decide (st.mark (flip e) = .fallen)) := by
      unfold readyB
      rw [eb]
      simp only [he]
    rw [er] at q
    exact q
  | done =>
    refine ite2 (fun _ => ?_) fun c => absurd (by show (!decide (V.str "done" = V.str "hear")) = true; decide +kernel) c
    have er : readyB st i = true := by
      unfold readyB
      rw [eb]
    rw [er] at q
    exact q
  | fail =>
    refine ite2 (fun _ => ?_) fun c => absurd (by show (!decide (V.str "fail" = V.str "hear")) = true; decide +kernel) c
    have er : readyB st i = true := by
      unfold readyB
      rw [eb]
    rw [er] at q
    exact q
  | become _ _ =>
    refine ite2 (fun _ => ?_) fun c => absurd (by show (!decide (V.str "become" = V.str "hear")) = true; decide +kernel) c
    have er : readyB st i = true := by
      unfold readyB
      rw [eb]
    rw [er] at q
    exact q
  | ite _ _ _ =>
    refine ite2 (fun _ => ?_) fun c => absurd (by show (!decide (V.str "if" = V.str "hear")) = true; decide +kernel) c
    have er : readyB st i = true := by
      unfold readyB
      rw [eb]
    rw [er] at q
    exact q
  | let_ _ _ _ =>
    refine ite2 (fun _ => ?_) fun c => absurd (by show (!decide (V.str "let" = V.str "hear")) = true; decide +kernel) c
    have er : readyB st i = true := by
      unfold readyB
      rw [eb]
    rw [er] at q
    exact q
  | say _ _ _ _ =>
    refine ite2 (fun _ => ?_) fun c => absurd (by show (!decide (V.str "say" = V.str "hear")) = true; decide +kernel) c
    have er : readyB st i = true := by
      unfold readyB
      rw [eb]
    rw [er] at q
    exact q
  | close _ _ =>
    refine ite2 (fun _ => ?_) fun c => absurd (by show (!decide (V.str "close" = V.str "hear")) = true; decide +kernel) c
    have er : readyB st i = true := by
      unfold readyB
      rw [eb]
    rw [er] at q
    exact q
  | drop _ _ =>
    refine ite2 (fun _ => ?_) fun c => absurd (by show (!decide (V.str "drop" = V.str "hear")) = true; decide +kernel) c
    have er : readyB st i = true := by
      unfold readyB
      rw [eb]
    rw [er] at q
    exact q
  | open_ _ _ _ _ =>
    refine ite2 (fun _ => ?_) fun c => absurd (by show (!decide (V.str "open" = V.str "hear")) = true; decide +kernel) c
    have er : readyB st i = true := by
      unfold readyB
      rw [eb]
    rw [er] at q
    exact q
def rdyL (s : Sta) : List Nat := (runL s).filter (readyB s)
theorem runL_mem {s : Sta} {i : Nat} (h : i ∈ runL s) : i < s.na ∧ s.run i = true := by
  unfold runL at h
  obtain ⟨a, b⟩ := List.mem_filter.mp h
  exact ⟨List.mem_range.mp a, b⟩
theorem filter_take1 {α : Type} {p : α → Bool} {l : List α} {i : Nat} {x : α} (h : l[i]? = some x) : (l.take (i + 1)).filter p = (l.take i).filter p ++ (if p x = true then [x] else []) := by
  rw [take_some h, List.filter_append]
  congr 1
  exact List.filter_cons
def spReady (K : PySem.W.Frag) (D : Defs) : V → Hp → VK → Prop := fun a H Q => ∃ (L : Pla) (s : Sta), a = .ref (L .st) ∧ Rep K D H L s ∧ s.na ≤ 1000 ∧ (∀ i, s.run i = true → HearOk s i) ∧ ∀ p H', Same H H' → H p = none → H' p = some (.lst (intsV (rdyL s))) → Q (.ref p) H'
theorem ok_st_ready {D : Defs} (T : Top K mg) : FnG P w K mg base 3 (He.ma K (He.ga K "State") "ready") p_st_ready (S1 (spReady K D)) := by
  refine FnG.of1 T.d_st_ready sc_st_ready rfl fun cdv A outer s H a Q E hr h => ?_
  have ok_st_running := fun T => ok_st_running (P := P) (w := w) (K := K) (mg := mg) (base := base) (D := D) T
  have ok_st_is_ready := fun T => ok_st_is_ready (P := P) (w := w) (K := K) (mg := mg) (base := base) (D := D) T
  refine ⟨_, (pss_one (ps_ret (pe_lc (own := [("k", 1)]) (g := gName 1) rfl sc_st_ready.nd (pi_list (pmeth0 (pv 0) T.c_st T.m_st_running (ok_st_running T) (hr.mono (by omega)))) (blkOk_by (own := [("k", 1)]) (N := n_st_ready) (sc := defScope s_st_ready) (by decide +kernel)) (fun _ _ _ _ _ => (pg_name (i := 1) sc_st_ready.nd rfl (Or.inl rfl))) (fun _ _ _ _ _ => pts_one (pt_val (pmeth (pv 0) T.c_st T.m_st_is_ready (ok_st_is_ready T) (hr.mono (by omega)) (pa_cons (pv 1) pa_nil)))) (fun _ _ _ _ _ => (pv 1))))), ?_⟩
  obtain ⟨L, st, rfl, R, hn, hH, q⟩ := h
  obtain ⟨dx, hst⟩ := R.st
  refine ⟨_, rfl, _, dx, _, rfl, hst, rfl, L, st, rfl, R, hn, fun Z H1 s1 hZ0 hZ => ?_⟩
  refine ⟨Z, rfl, ⟨_, SqL.of hZ⟩, fun D' hD => ?_⟩
  refine lc_list (K := K) (a := Z) (xs := intsV (runL st)) (fun i H' => Same H1 H' ∧ H' D' = some (.lst (intsV (((runL st).take i).filter (readyB st))))) ⟨Same.new hD, upd_same⟩ (fun i H' _ h => SqL.of (h.1 _ _ hZ)) ?_ ?_
  · rintro i v H' hv ⟨s2, u1⟩
    unfold intsV at hv
    rw [List.getElem?_map] at hv
    obtain ⟨k, hk, rfl⟩ := Option.map_eq_some_iff.mp hv
    obtain ⟨k1, k2⟩ := runL_mem (List.mem_of_getElem? hk)
    have R1 := R.same (s1.trans s2)
    obtain ⟨dx1, hst1⟩ := R1.st
    have li := (List.getElem?_eq_some_iff.mp hk).1
    have lr : (runL st).length ≤ st.na := by
      unfold runL
      have := List.length_filter_le (fun i => st.run i) (List.range st.na)
      rw [List.length_range] at this
      exact this
    have lf := List.length_filter_le (readyB st) ((runL st).take i)
    rw [List.length_take] at lf
    rw [filter_take1 hk]
    refine ⟨rfl, _, rfl, _, dx1, _, rfl, hst1, rfl, _, rfl, L, st, k, rfl, rfl, R1, k1, k2, hH k k2, _, rfl, ite2 (fun c => ?_) (fun c => ?_)⟩
    · refine ⟨_, rfl, _, u1, lt_line (by unfold intsV; rw [List.length_map]; omega), Same.put s2 hD, ?_⟩
      rw [upd_same, if_pos c]
      unfold intsV
      rw [List.map_append]
      rfl
    · refine ⟨s2, ?_⟩
      rw [if_neg c, List.append_nil]
      exact u1
  · rintro H' ⟨s2, u1⟩
    have e : (intsV (runL st)).length = (runL st).length := by
      unfold intsV
      rw [List.length_map]
    rw [e, List.take_length] at u1
    exact q D' H' (s1.trans s2) (s1.free hD) u1
def spNewest (K : PySem.W.Frag) (D : Defs) : V → V → Hp → VK → Prop := fun a b H Q => ∃ (L : Pla) (s : Sta) (x : Str) (ps : List (Str × Ty)), a = .ref (L .st) ∧ b = .str x ∧ Rep K D H L s ∧ D.sg x = some ps ∧ ∀ v, DfAt H x ps (D.bd x) v → Q v H
theorem ok_st_newest {D : Defs} (T : Top K mg) : FnG P w K mg base 2 (He.ma K (He.ga K "State") "newest") p_st_newest (S2 (spNewest K D)) := by
  refine FnG.of2 T.d_st_newest sc_st_newest rfl fun cdv A outer s H a b Q E hr h => ?_
  have hu := hu_of hr
  refine ⟨_, (pss_cons (ps_if (pt_cmp (pc_din hu (pv 1) (pe_fld (pv 0) rfl))) (pss_one (ps_ret (pe_dget hu (pe_fld (pv 0) rfl) (pv 1) (fun _ _ => rfl)))) pss_nil)
    (pss_one (ps_ret (pmeth (pe_fld (pv 0) rfl) T.c_pr T.m_pr_actor (ok_pr_actor T) (hr.mono (by omega)) (pa_cons (pv 1) pa_nil))))), ?_⟩
  obtain ⟨L, st, x, ps, rfl, rfl, R, hD, q⟩ := h
  obtain ⟨dx, hst⟩ := R.st
  obtain ⟨dxp, t, hpx⟩ := R.px
  obtain ⟨kvs, hpq, hq⟩ := R.pq
  obtain ⟨v, hv, hd⟩ := hq x ps hD
  refine ⟨_, rfl, _, rfl, _, _, dx, _, _, rfl, hst, T.c_st, T.a_st_newest, rfl, L .nw, none, rfl, DGet.k (k := .inr x) R.nw, _, rfl, ite2 (fun c => absurd c (by intro z; cases z)) fun _ => ?_⟩
  exact ⟨_, rfl, _, _, dx, _, _, rfl, hst, T.c_st, T.a_st_program, rfl, _, dxp, _, rfl, hpx, rfl, _, rfl, _, dxp, t, _, x, kvs, v, rfl, rfl, hpx, hpq, hv, q v hd⟩
end G

/-! part W35 -/
set_option Elab.async false
set_option linter.all false
set_option maxRecDepth 100000
set_option maxHeartbeats 4000000
/-! An actor is bound, started, renamed. -/
namespace G
open PySem PySem.Spec PyProof.Rows L2
variable {P : Program} {w : World} {K : PySem.W.Frag} {mg : Str → Option Value} {base : Heap}
def spAcInit (K : PySem.W.Frag) : V → V → V → V → Hp → VK → Prop := fun a b c d H Q => ∃ (x dx n : Addr), a = .ref x ∧ c = .ref n ∧ H x = some (.ins (acC K) dx []) ∧ Q .non (upd H x (acO K dx b n d "running"))
theorem ok_ac_init (T : Top K mg) : FnG P w K mg base 1 (He.ma K (He.ga K "Actor") "__init__") p_ac_init (S4 (spAcInit K)) := by
  refine FnG.of4 T.d_ac_init sc_ac_init rfl fun cdv A outer s H a b c d Q E hr h => ⟨_, (pss_cons (ps_fld (pv 0) (pv 1) rfl)
    (pss_cons (ps_fld (pv 0) (pv 2) rfl)
    (pss_cons (ps_fld (pv 0) (pv 3) rfl)
    (pss_one (ps_fld (pv 0) pe_str rfl))))), ?_⟩
  obtain ⟨x, dx, n, rfl, rfl, hx, q⟩ := h
  refine ⟨_, rfl, _, rfl, x, _, dx, _, rfl, hx, T.c_ac, T.a_ac_name, (by decide), ?_⟩
  refine ⟨_, rfl, _, rfl, x, _, dx, _, rfl, upd_same, T.c_ac, T.a_ac_names, (by show 1 < 1000; decide), ?_⟩
  refine ⟨_, rfl, _, rfl, x, _, dx, _, rfl, upd_same, T.c_ac, T.a_ac_rest, (by show 2 < 1000; decide), ?_⟩
  refine ⟨_, rfl, x, _, dx, _, rfl, upd_same, T.c_ac, T.a_ac_status, (by show 3 < 1000; decide), ?_⟩
  rw [upd_twice, upd_twice, upd_twice]
  exact q
def VasV (H : Hp) : List AV → List V → Prop
  | [], [] => True
  | a :: as, v :: vs => VA H a v ∧ VasV H as vs
  | _, _ => False
theorem VasV.tu {H H' : Hp} (s : Tu H H') : ∀ {as : List AV} {vs : List V}, VasV H as vs → VasV H' as vs
  | [], [], _ => trivial
  | a :: as, v :: vs, ⟨h, r⟩ => ⟨h.tu s, VasV.tu s r⟩
  | [], _ :: _, h => h.elim
  | _ :: _, [], h => h.elim
theorem VasV.len {H : Hp} : ∀ {as : List AV} {vs : List V}, VasV H as vs → vs.length = as.length
  | [], [], _ => rfl
  | a :: as, v :: vs, ⟨_, r⟩ => congrArg (· + 1) (VasV.len r)
  | [], _ :: _, h => h.elim
  | _ :: _, [], h => h.elim
theorem VasV.get {H : Hp} : ∀ {as : List AV} {vs : List V} {i : Nat} {v : V}, VasV H as vs → vs[i]? = some v → ∃ a, as[i]? = some a ∧ VA H a v
  | [], [], i, v, _, e => by simp at e
  | a :: as, v :: vs, 0, u, ⟨x, _⟩, e => by
    cases e
    exact ⟨a, rfl, x⟩
  | a :: as, v :: vs, i + 1, u, ⟨_, r⟩, e => VasV.get (i := i) r e
  | [], _ :: _, _, _, h, _ => h.elim
  | _ :: _, [], _, _, h, _ => h.elim
theorem ParV.get {H : Hp} : ∀ {vs : List V} {ps : List (Str × Ty)} {i : Nat} {p : Str × Ty}, ParV H vs ps → ps[i]? = some p → ∃ q tv, vs[i]? = some (.ref q) ∧ H q = some (.tup [.str p.1, tv])
  | [], [], i, p, _, e => by simp at e
  | v :: vs, (x, t) :: ps, 0, p, ⟨⟨q, tv, h1, h2⟩, _⟩, e => by
    cases e
    exact ⟨q, tv, by rw [h1]; rfl, h2⟩
  | v :: vs, (x, t) :: ps, i + 1, p, ⟨_, r⟩, e => ParV.get (i := i) r e
  | [], _ :: _, _, _, h, _ => h.elim
  | _ :: _, [], _, _, h, _ => h.elim
theorem ParV.len {H : Hp} : ∀ {vs : List V} {ps : List (Str × Ty)}, ParV H vs ps → vs.length = ps.length
  | [], [], _ => rfl
  | v :: vs, (x, t) :: ps, ⟨_, r⟩ => congrArg (· + 1) (ParV.len r)
  | [], _ :: _, h => h.elim
  | _ :: _, [], h => h.elim
theorem NmV.snoc {H : Hp} {x : Str} {a : AV} {v : V} (h : VA H a v) : ∀ {m : Names} {kvs : List (Key × V)}, NmV H m kvs → NmV H (m ++ [(x, a)]) (kvs ++ [(.inr x, v)])
  | [], [], _ => ⟨⟨rfl, h⟩, trivial⟩
  | (y, b) :: m, (k, u) :: kvs, ⟨e, r⟩ => ⟨e, NmV.snoc h r⟩
  | [], _ :: _, h => h.elim
  | _ :: _, [], h => h.elim
theorem lookup_none {m : Names} {x : Str} (h : x ∉ m.map (·.1)) : m.lookup x = none := by
  induction m with
  | nil => rfl
  | cons p r ih =>
    have h : x ∉ p.1 :: r.map (·.1) := h
    rw [show List.lookup x (p :: r) = _ from List.lookup_cons, beq_false_of_ne fun e => h (by rw [e]; exact List.mem_cons_self)]
    exact ih fun e => h (List.mem_cons_of_mem _ e)
def bndN (ps : List (Str × Ty)) (as : List AV) : Names := (ps.map (·.1)).zip as
def spBound : V → V → Hp → VK → Prop := fun a b H Q => ∃ (nm : Str) (ps : List (Str × Ty)) (bl : Blk) (pv : Addr) (vs : List V) (as : List AV), DfAt H nm ps bl a ∧ b = .ref pv ∧ H pv = some (.lst vs) ∧ VasV H as vs ∧ as.length = ps.length ∧ (ps.map (·.1)).Nodup ∧ ps.length ≤ 10 ∧
  ∀ p kvs, H p = none → NmV H (bndN ps as) kvs → Q (.ref p) (upd H p (.dK kvs))
theorem ok_bound (T : Top K mg) : FnG P w K mg base 1 (He.ga K "bound") p_bound (S2 spBound) := by
  refine FnG.of2 T.d_bound sc_bound rfl fun cdv A outer s H a b Q E hr h => ?_
  have hu := hu_of hr
  refine ⟨_, (pss_cons (ps_set (i := 2) sc_bound.nd rfl (Or.inl rfl) pe_dnewK)
    (pss_cons (ps_for PassesOwn.never rfl (pi_range1 (by rfl) T.f_range (pa_cons (pe_callB call_len_seq (by rfl) T.f_len PySem.boot_len (pa_cons (pv 1) pa_nil)) pa_nil)) (pg_name (i := 3) sc_bound.nd rfl (Or.inl rfl)) (pss_one (ps_dput hu (pv 2) (pe_ix ix_tup (pe_ix ix_tup (pe_ix ix_tup (pv 0) pe_int (fun _ _ => rfl)) (pv 3) (fun _ _ => rfl)) pe_int (fun _ _ => rfl)) (pe_ix ix_list (pv 1) (pv 3) (fun _ _ => rfl)) rfl)))
    (pss_one (ps_ret (pv 2))))), ?_⟩
  obtain ⟨nm, ps, bl, pv, vs, as, hd, rfl, hpv, hV, hl, nd, h10, q⟩ := h
  obtain ⟨pd, qd, rd, ws, us, rfl, d1, d2, d3, d4, d5, d6⟩ := id hd
  have lv := hV.len
  have lp := d3.len
  refine fun R hR => ?_
  have s1 := Same.new (o := .dK []) hR
  refine ⟨_, rfl, _, _, rfl, .inl (SqL.of (s1 _ _ hpv)), (vs.length : Int), rfl, by omega, by omega, for_range (n := vs.length) (fun i σ H' => ∃ (v3 : Option V) (kvs : List (Key × V)), σ = [some (.ref pd), some (.ref pv), some (.ref R), v3] ∧ H' = upd H R (.dK kvs) ∧ NmV H ((bndN ps as).take i) kvs)
    ⟨none, [], rfl, rfl, trivial⟩ ?_ ?_⟩
  · rintro i σ H' hi ⟨v3, kvs, rfl, rfl, hm⟩
    have s2 := Same.new (o := .dK kvs) hR
    obtain ⟨v, hv⟩ : ∃ v, vs[i]? = some v := ⟨_, List.getElem?_eq_getElem hi⟩
    obtain ⟨av, ha, hva⟩ := hV.get hv
    obtain ⟨pp, hp⟩ : ∃ p, ps[i]? = some p := ⟨_, List.getElem?_eq_getElem (show i < ps.length by omega)⟩
    obtain ⟨qq, tv, hq1, hq2⟩ := d3.get hp
    have e0 : ∀ xs : List V, atI xs (0 + (i : Int)) = atI xs (i : Int) := fun xs => by rw [Int.zero_add]
    have hz : (bndN ps as)[i]? = some (pp.1, av) := by
      unfold bndN
      rw [List.getElem?_zip_eq_some]
      exact ⟨by rw [List.getElem?_map, hp]; rfl, ha⟩
    have hnot : pp.1 ∉ ((bndN ps as).take i).map (·.1) := by
      have h1 := nd_take (l := ps.map (·.1)) (i := i) (x := pp.1) nd (by rw [List.getElem?_map, hp]; rfl)
      intro h2
      refine h1 ?_
      rw [List.map_take] at h2
      unfold bndN at h2
      rw [List.map_fst_zip (by rw [List.length_map]; omega)] at h2
      exact h2
    have lk := hm.len
    rw [List.length_take] at lk
    refine ⟨_, rfl, _, rfl, _, _, _, _, rfl, rfl, SqL.of (s2 _ _ hpv), (by rw [e0]; exact atI_nat hv), _, rfl, _, rfl, pd, _, _, _, rfl, rfl, SqT.of (s2 _ _ d1), atI_nat (j := 1) rfl, _, rfl, qd, _, _, _, rfl, rfl, SqT.of (s2 _ _ d2), (by rw [e0]; exact atI_nat hq1), qq, _, _, _, rfl, rfl, SqT.of (s2 _ _ hq2), atI_nat (j := 0) rfl, R, _, rfl, DPut.k (k := .inr pp.1) upd_same (lt_line (by omega)), ?_⟩
    refine ⟨_, _, rfl, by rw [upd_twice, putK_new _ (hm.none (lookup_none hnot))], ?_⟩
    rw [take_some hz]
    exact NmV.snoc hva hm
  · rintro σ H' ⟨v3, kvs, rfl, rfl, hm⟩
    refine ⟨_, rfl, q R kvs hR ?_⟩
    rw [List.take_of_length_le] at hm
    · exact hm
    · unfold bndN
      rw [List.length_zip, List.length_map]
      omega
def spBegin (K : PySem.W.Frag) (D : Defs) : V → V → V → Hp → VK → Prop := fun a b c H Q => ∃ (L : Pla) (s : Sta) (nm : Str) (ps : List (Str × Ty)) (bl : Blk) (pv : Addr) (vs : List V) (as : List AV), a = .ref (L .st) ∧ c = .ref pv ∧ Rep K D H L s ∧ s.na < 1000 ∧ DfAt H nm ps bl b ∧ H pv = some (.lst vs) ∧ VasV H as vs ∧ as.length = ps.length ∧ (ps.map (·.1)).Nodup ∧ ps.length ≤ 10 ∧
  ∀ L' H', Rep K D H' L' (s.born (bndN ps as) bl) → Frm H H' L L' s (s.born (bndN ps as) bl) → Q (.int s.na) H'
theorem ok_st_start {D : Defs} (T : Top K mg) : FnG P w K mg base 3 (He.ma K (He.ga K "State") "start") p_st_start (S3 (spBegin K D)) := by
  refine FnG.of3 T.d_st_start sc_st_start rfl fun cdv A outer s H a b c Q E hr h => ⟨_, (pss_cons (ps_expr (pe_bm PySem.F.plainAttrs_list PySem.F.slot_list_append PySem.F.type_list_append mt_append (pe_fld (pv 0) rfl) (pa_cons (pmake T.k_ac (ok_ac_init T) (hr.mono (by omega)) T.g_ac (pa_cons (pe_ix ix_tup (pv 1) pe_int (fun _ _ => rfl)) (pa_cons (pcall (ok_bound T) (hr.mono (by omega)) T.g_bound (pa_cons (pv 1) (pa_cons (pv 2) pa_nil))) (pa_cons (pe_ix ix_tup (pv 1) pe_int (fun _ _ => rfl)) pa_nil)))) pa_nil)))
    (pss_one (ps_ret (pe_op op_sub (pe_callB call_len_seq (by rfl) T.f_len PySem.boot_len (pa_cons (pe_fld (pv 0) rfl) pa_nil)) pe_int)))), ?_⟩
  obtain ⟨L, st, nm, ps, bl, pv, vs, as, rfl, rfl, R, hn, hd, hpv, hV, hl, nd, h10, q⟩ := h
  obtain ⟨dx, hst⟩ := R.st
  obtain ⟨pd, qd, rd, ws, us, rfl, d1, d2, d3, d4, d5, d6⟩ := id hd
  refine ⟨_, rfl, _, _, dx, _, _, rfl, hst, T.c_st, T.a_st_actors, rfl, .inl ⟨rfl, _, SqL.of R.al⟩, ?_⟩
  refine ⟨_, rfl, pd, _, _, _, rfl, rfl, SqT.of d1, atI_nat (j := 0) rfl, _, rfl, _, rfl, nm, ps, bl, pv, vs, as, hd, rfl, hpv, hV, hl, nd, h10, fun n kvs hn0 hN => ?_⟩
  have s1 := Same.new (o := .dK kvs) hn0
  refine ⟨_, rfl, pd, _, _, _, rfl, rfl, SqT.of (s1 _ _ d1), atI_nat (j := 2) rfl, fun x dxa hx hdx ne => ⟨x, dxa, n, rfl, rfl, upd_same, ⟨rfl, ?_⟩⟩⟩
  rw [upd_twice]
  have la := refs_len L .ac st.na
  have nxn : x ≠ n := fun e => by
    rw [e, upd_same] at hx
    cases hx
  have ndn : dxa ≠ n := fun e => by
    rw [e, upd_same] at hdx
    cases hdx
  have s2 : Same H (upd (upd (upd H n (.dK kvs)) dxa (.own x)) x (acO K dxa (.str nm) n (.ref rd) "running")) := fun b o e => by
    rw [upd_ne (ne_of_none (s1 _ _ e) hx), upd_ne (ne_of_none (s1 _ _ e) hdx)]
    exact s1 _ _ e
  have hx0 := s1.free hx
  refine ⟨L .al, _, _, rfl, rfl, s2 _ _ R.al, lt_line (by omega), ?_⟩
  have hk : ∀ b o, b ≠ L .al → H b = some o → upd (upd (upd (upd H n (.dK kvs)) dxa (.own x)) x (acO K dxa (.str nm) n (.ref rd) "running")) (L .al) (.lst (refs L .ac st.na ++ [.ref x])) b = some o := fun b o h e => by
    rw [upd_ne h]
    exact s2 _ _ e
  have tu : Tu H (upd (upd (upd (upd H n (.dK kvs)) dxa (.own x)) x (acO K dxa (.str nm) n (.ref rd) "running")) (L .al) (.lst (refs L .ac st.na ++ [.ref x]))) := fun b xs e => hk b _ (ne_of e R.al (by intro z; cases z)) e
  have oal : ∀ p, H p = none → p ≠ L .al := fun p h => (R.out h .al trivial).symm
  have R3 := R.born (pa := x) (pn := n) (dx := dxa) (r := rd) (nv := .str nm) (kvs := kvs) (m := bndN ps as) (b := bl) (us := us) hx0 hn0 nxn hk upd_same (by
    rw [upd_ne (oal x hx0)]
    exact upd_same) (by
    rw [upd_ne (oal n hn0), upd_ne nxn.symm, upd_ne ndn.symm]
    exact upd_same) (hN.tu tu) (tu _ _ d4) (d5.tu tu)
  have F3 : Frm H _ L _ st (st.born (bndN ps as) bl) := Frm.born (pa := x) (pn := n) R hx0 hn0 hk upd_same
  obtain hst3 := hk _ _ (R.ne (a := .st) (b := .al) trivial trivial (by intro e; cases e)) hst
  refine ⟨_, rfl, _, _, dx, _, _, rfl, hst3, T.c_st, T.a_st_actors, rfl, _, _, rfl, .inl (SqL.of upd_same), _, _, rfl, rfl, ?_⟩
  have e : (((refs L .ac st.na ++ [V.ref x]).length : Nat) : Int) - 1 = (st.na : Int) := by
    rw [List.length_append, la]
    show ((st.na + 1 : Nat) : Int) - 1 = _
    omega
  show Q (.int ((((refs L .ac st.na ++ [V.ref x]).length : Nat) : Int) - 1)) _
  rw [e]
  exact q _ _ R3 F3
def spRename (K : PySem.W.Frag) (D : Defs) : V → V → V → V → Hp → VK → Prop := fun a i0 b c H Q => ∃ (L : Pla) (s : Sta) (i : Nat) (nm : Str) (ps : List (Str × Ty)) (bl : Blk) (pv : Addr) (vs : List V) (as : List AV), a = .ref (L .st) ∧ i0 = .int i ∧ c = .ref pv ∧ Rep K D H L s ∧ i < s.na ∧ DfAt H nm ps bl b ∧ H pv = some (.lst vs) ∧ Out L s pv ∧ VasV H as vs ∧ as.length = ps.length ∧ (ps.map (·.1)).Nodup ∧ ps.length ≤ 10 ∧
  ∀ L' H', Rep K D H' L' (s.act i (bndN ps as) bl (s.run i)) → Frm H H' L L' s (s.act i (bndN ps as) bl (s.run i)) → Q .non H'
theorem ok_st_rename {D : Defs} (T : Top K mg) : FnG P w K mg base 2 (He.ma K (He.ga K "State") "rename") p_st_rename (S4 (spRename K D)) := by
  refine FnG.of4 T.d_st_rename sc_st_rename rfl fun cdv A outer s H a i0 b c Q E hr h => ?_
  have ok_st_put := fun T => ok_st_put (P := P) (w := w) (K := K) (mg := mg) (base := base) (D := D) T
  refine ⟨_, (pss_cons (ps_fld (pe_ix ix_list (pe_fld (pv 0) rfl) (pv 1) (fun _ _ => rfl)) (pe_ix ix_tup (pv 2) pe_int (fun _ _ => rfl)) rfl)
    (pss_one (ps_expr (pmeth (pv 0) T.c_st T.m_st_put (ok_st_put T) (hr.mono (by omega)) (pa_cons (pv 1) (pa_cons (pcall (ok_bound T) (hr.mono (by omega)) T.g_bound (pa_cons (pv 2) (pa_cons (pv 3) pa_nil))) (pa_cons (pe_ix ix_tup (pv 2) pe_int (fun _ _ => rfl)) pa_nil))))))), ?_⟩
  obtain ⟨L, st, i, nm, ps, bl, pv, vs, as, rfl, rfl, rfl, R, hi, hd, hpv, opv, hV, hl, nd, h10, q⟩ := h
  obtain ⟨dx, hst⟩ := R.st
  obtain ⟨dxa, nv, r0, sv, us0, h1, h2, h3, h4⟩ := R.ac i hi
  obtain ⟨kvs, g1, g2⟩ := R.nm i hi
  obtain ⟨pd, qd, rd, ws, us, rfl, d1, d2, d3, d4, d5, d6⟩ := id hd
  have ai : Slot.on st (.ac i) := hi
  refine ⟨_, rfl, pd, _, _, _, rfl, rfl, SqT.of d1, atI_nat (j := 0) rfl, _, rfl, _, _, dx, _, _, rfl, hst, T.c_st, T.a_st_actors, rfl, _, rfl, _, _, _, _, rfl, rfl, SqL.of R.al, refs_at hi, _, _, dxa, _, rfl, h1, T.c_ac, T.a_ac_name, (by show 4 < 1000; decide), ?_⟩
  have R2 := R.setActor (p := L (.nm i)) (r := r0) (dx := dxa) (nv := .str nm) (st := sv) (b := st.rest i) (run := st.run i) hi g1 g2 (fun a ha hn e => hn (R.inj a (.nm i) ha hi e)) h2 h3 h4
  rw [fset_id rfl] at R2
  have F2 : Frm H (upd H (L (.ac i)) (acO K dxa (.str nm) (L (.nm i)) (.ref r0) sv)) L L st (st.act i (st.nm i) (st.rest i) (st.run i)) := Frm.at_ R ai _ fun _ => Iff.rfl
  have hpv2 := F2.keep _ _ hpv opv
  obtain ⟨dx2, hst2⟩ := R2.st
  have d12 := F2.tu _ _ d1
  refine ⟨_, rfl, _, dx2, _, rfl, hst2, rfl, _, rfl, _, rfl, _, rfl, nm, ps, bl, pv, vs, as, hd.tu F2.tu, rfl, hpv2, hV.tu F2.tu, hl, nd, h10, fun n kvs2 hn hN => ?_⟩
  have s3 := Same.new (o := .dK kvs2) hn
  have t3 := F2.tu.trans (Same.tu s3)
  refine ⟨_, rfl, pd, _, _, _, rfl, rfl, SqT.of (t3 _ _ d1), atI_nat (j := 2) rfl, L, _, i, n, rd, kvs2, _, us, bl, rfl, rfl, rfl, rfl, R2.same s3, hi, upd_same, hN.tu (Same.tu s3), t3 _ _ d4, fun _ => d5.tu t3, fun L' H' R' F' => ?_⟩
  have er : (st.act i (st.nm i) (st.rest i) (st.run i)).run i = st.run i := fset_same
  rw [er, act_twice] at R' F'
  exact q L' H' R' ((F2.trans (Frm.same s3)).trans F')
end G

/-! part W36 -/
set_option Elab.async false
set_option linter.all false
set_option maxRecDepth 100000
set_option maxHeartbeats 4000000
/-! Small words of a step. -/
namespace G
open PySem PySem.Spec PyProof.Rows L2
variable {P : Program} {w : World} {K : PySem.W.Frag} {mg : Str → Option Value} {base : Heap}
def spDrops : V → Hp → VK → Prop := fun a H Q => ∃ (p : Addr) (vs : List V) (fs : List End), a = .ref p ∧ H p = some (.lst vs) ∧ EnV H fs vs ∧ vs.length ≤ 1000 ∧ ∀ r ws H', Same H H' → H r = none → H' r = some (.lst ws) → ws.length ≤ vs.length → Q (.ref r) H'
theorem ok_drops (T : Top K mg) : FnG P w K mg base 1 (He.ga K "drops") p_drops (S1 spDrops) := by
  refine FnG.of1 T.d_drops sc_drops rfl fun cdv A outer s H a Q E hr h => ⟨_, (pss_one (ps_ret (pe_lc (own := [("value", 1)]) (g := gName 1) (tt := tYes) rfl sc_drops.nd (pi_list (pv 0)) (blkOk_by (own := [("value", 1)]) (N := n_drops) (sc := defScope s_drops) (by decide +kernel)) (fun _ _ _ _ _ => (pg_name (i := 1) sc_drops.nd rfl (Or.inl rfl))) (fun _ _ _ _ _ => pts_nil) (fun _ _ _ _ _ => (pe_tup (pa_cons pe_str (pa_cons (pe_ix (ix_tupK K) (pv 1) pe_int (fun _ _ => rfl)) (pa_cons (pe_ix (ix_tupK K) (pv 1) pe_int (fun _ _ => rfl)) pa_nil)))))))), ?_⟩
  obtain ⟨p, vs, fs, rfl, hp, hE, hl, q⟩ := h
  refine ⟨_, rfl, p, rfl, ⟨_, SqL.of hp⟩, fun D hD => ?_⟩
  refine lc_list (K := K) (a := p) (xs := vs) (fun i H' => Same H H' ∧ ∃ ws : List V, H' D = some (.lst ws) ∧ ws.length ≤ i) ⟨Same.new hD, [], upd_same, Nat.le_refl _⟩ (fun i H' _ h => SqL.of (h.1 _ _ hp)) ?_ ?_
  · rintro i v H' hv ⟨s1, ws, u1, u2⟩
    have li := (List.getElem?_eq_some_iff.mp hv).1
    obtain ⟨e, _, he⟩ := hE.get hv
    obtain ⟨pe, rfl, hpe⟩ := VA.tu (Same.tu s1) (a := .en e) he
    refine ⟨rfl, _, rfl, pe, _, _, _, rfl, rfl, SqT.of hpe, atI_nat (j := 1) rfl, _, rfl, pe, _, _, _, rfl, rfl, SqT.of hpe, atI_nat (j := 2) rfl, le_line (by show 3 ≤ _; decide), fun t ht => ?_⟩
    have s2 := Same.new (o := .tup [.str "drop", .int e.1, .int (sdI e.2)]) ht
    exact ⟨ws, s2 _ _ u1, lt_line (by omega), Same.put (s1.trans s2) hD, ws ++ [.ref t], upd_same, by rw [List.length_append]; show ws.length + 1 ≤ i + 1; omega⟩
  · rintro H' ⟨s1, ws, u1, u2⟩
    exact q D ws H' s1 hD u1 u2
def spEndOf : V → V → Hp → VK → Prop := fun a b H Q => ∃ (np : Addr) (kvs : List (Key × V)) (m : Names) (x : Str) (e : End), a = .ref np ∧ b = .str x ∧ H np = some (.dK kvs) ∧ NmV H m kvs ∧ m.lookup x = some (.en e) ∧ ∀ t, H t = none → Q (.ref t) (upd H t (.tup [.int e.1, .int (sdI e.2)]))
theorem ok_end_of (T : Top K mg) : FnG P w K mg base 2 (He.ga K "end_of") p_end_of (S2 spEndOf) := by
  refine FnG.of2 T.d_end_of sc_end_of rfl fun cdv A outer s H a b Q E hr h => ?_
  have hu := hu_of hr
  refine ⟨_, (pss_cons (ps_if (PW.pt (pw_or (pt_cmp (pc_dnotin hu (pv 1) (pv 0))) (pw_or1 (pt_not (pt_val (pcall (ok_is_end T) (hr.mono (by omega)) T.g_is_end (pa_cons (pe_dget hu (pv 0) (pv 1) (fun _ _ => rfl)) pa_nil))))))) pss_never pss_nil)
    (pss_one (ps_ret (pe_tup (pa_cons (pe_ix ix_tup (pe_dget hu (pv 0) (pv 1) (fun _ _ => rfl)) pe_int (fun _ _ => rfl)) (pa_cons (pe_ix ix_tup (pe_dget hu (pv 0) (pv 1) (fun _ _ => rfl)) pe_int (fun _ _ => rfl)) pa_nil)))))), ?_⟩
  obtain ⟨np, kvs, m, x, e, rfl, rfl, hn, hm, hl, q⟩ := h
  obtain ⟨v, hv, hva⟩ := hm.get hl
  have hg : DGet H np (.str x) (some v) := by
    rw [← hv]
    exact DGet.k (k := .inr x) hn
  obtain ⟨pe, rfl, hpe⟩ := id hva
  refine ⟨_, rfl, _, rfl, np, _, rfl, hg, _, rfl, ite2 (fun c => absurd c (by intro z; cases z)) fun _ => ?_⟩
  refine ⟨_, rfl, _, rfl, np, _, rfl, hg, .en e, hva, _, rfl, ite2 (fun c => absurd c (by intro z; cases z)) fun _ => ?_⟩
  exact ⟨_, rfl, _, rfl, np, _, rfl, hg, pe, _, _, _, rfl, rfl, SqT.of hpe, atI_nat (j := 1) rfl, _, rfl, _, rfl, np, _, rfl, hg, pe, _, _, _, rfl, rfl, SqT.of hpe, atI_nat (j := 2) rfl, le_line (by show 2 ≤ _; decide), fun t ht => q t ht⟩
end G

/-! part W37 -/
set_option Elab.async false
set_option linter.all false
set_option maxRecDepth 100000
set_option maxHeartbeats 4000000
/-! Names without some ends. -/
namespace G
open PySem PySem.Spec PyProof.Rows L2
variable {P : Program} {w : World} {K : PySem.W.Frag} {mg : Str → Option Value} {base : Heap}
def avD : AV → PyData
  | .non => .none
  | .int n => .int n
  | .bl b => .bool b
  | .en e => .tuple [.str "end", .int e.1, .int (sdI e.2)]
theorem VA.dp {H : Hp} : ∀ {a : AV} {v : V}, VA H a v → Dp K H v (avD a)
  | .non, _, h => by
    rw [show _ = V.non from h]
    exact .non
  | .int n, _, h => by
    rw [show _ = V.int n from h]
    exact .int n
  | .bl b, _, h => by
    rw [show _ = V.bl b from h]
    exact .bl b
  | .en e, _, ⟨p, h, hp⟩ => by
    rw [h]
    exact .tup (SqT.of hp) (.cons (.str _) (.cons (.int _) (.cons (.int _) .nil)))
theorem VasV.dp {H : Hp} : ∀ {as : List AV} {vs : List V}, VasV H as vs → DpAll K H vs (as.map avD)
  | [], [], _ => .nil
  | a :: as, v :: vs, ⟨h, r⟩ => .cons h.dp (VasV.dp r)
  | [], _ :: _, h => h.elim
  | _ :: _, [], h => h.elim
theorem sdI_inj {a b : Bool} (h : sdI a = sdI b) : a = b := by
  cases a <;> cases b <;> first | rfl | (exfalso; revert h; decide)
theorem eqv_en (a : AV) (e : End) : PyData.eqv (avD a) (avD (.en e)) = decide (a = .en e) := by
  cases a with
  | en f =>
    obtain ⟨c, b⟩ := e
    obtain ⟨c', b'⟩ := f
    have h1 : ((c' : Int) == (c : Int)) = decide (c' = c) := by
      by_cases h : c' = c
      · rw [h]
        simp
      · rw [decide_eq_false h]
        exact beq_eq_false_iff_ne.mpr (by omega)
    have h2 : (sdI b' == sdI b) = decide (b' = b) := by
      cases b <;> cases b' <;> decide
    simp only [avD, PyData.eqv, PyData.eqvAll, Bool.and_true, beq_self_eq_true, Bool.true_and, h1, h2, AV.en.injEq, Prod.mk.injEq]
    by_cases x : c' = c <;> by_cases y : b' = b <;> simp [x, y]
  | non => simp [avD, PyData.eqv]
  | int n => simp [avD, PyData.eqv]
  | bl b => simp [avD, PyData.eqv]
theorem lay_av (a : AV) : PyData.canLay0 (avD a) = true := by
  cases a with
  | en e =>
    simp only [avD, PyData.canLay0, PyData.canLayAll0, Bool.and_true]
    decide +kernel
  | _ => rfl
theorem dep_av (a : AV) : (avD a).depth ≤ 1 := by
  cases a <;> simp [avD, PyData.depth, PyData.depthAll]
theorem shaped_av (a : AV) : SeqAt.shaped (avD a) = true := by
  unfold SeqAt.shaped
  rw [lay_av]
  have := dep_av a
  simp only [Bool.true_and, decide_eq_true_eq]
  omega
theorem shaped_avs (as : List AV) : SeqAt.shaped (.list (as.map avD)) = true := by
  have h1 : PyData.canLayAll0 (as.map avD) = true := by
    induction as with
    | nil => rfl
    | cons a r ih =>
      show (PyData.canLay0 (avD a) && PyData.canLayAll0 (r.map avD)) = true
      rw [lay_av, ih]
      rfl
  have h2 : PyData.depthAll (as.map avD) ≤ 1 := by
    clear h1
    induction as with
    | nil => exact Nat.zero_le _
    | cons a r ih =>
      show max (avD a).depth (PyData.depthAll (r.map avD)) ≤ 1
      have := dep_av a
      omega
  unfold SeqAt.shaped
  have e1 : PyData.canLay0 (.list (as.map avD)) = true := h1
  rw [e1]
  have e2 : (PyData.list (as.map avD)).depth = PyData.depthAll (as.map avD) + 1 := rfl
  rw [e2]
  simp only [Bool.true_and, decide_eq_true_eq]
  omega
def goes (as : List AV) (p : Str × AV) : Bool := p.2.en?.isSome && as.any fun a => decide (a = p.2)
def wout (m : Names) (as : List AV) : Names := m.filter fun p => !goes as p
end G

/-! part W38 -/
set_option Elab.async false
set_option linter.all false
set_option maxRecDepth 100000
set_option maxHeartbeats 4000000
/-! Names without some ends: the walk. -/
namespace G
open PySem PySem.Spec PyProof.Rows L2
variable {P : Program} {w : World} {K : PySem.W.Frag} {mg : Str → Option Value} {base : Heap}
theorem NmV.at_ {H : Hp} : ∀ {m : Names} {kvs : List (Key × V)} {i : Nat} {k : Key} {v : V}, NmV H m kvs → kvs[i]? = some (k, v) → ∃ x a, m[i]? = some (x, a) ∧ k = .inr x
  | [], [], i, k, v, _, e => by simp at e
  | (x, a) :: m, (k', v') :: kvs, 0, k, v, ⟨⟨h, _⟩, _⟩, e => by
    cases e
    exact ⟨x, a, rfl, h⟩
  | (x, a) :: m, (k', v') :: kvs, i + 1, k, v, ⟨_, r⟩, e => NmV.at_ (i := i) r e
  | [], _ :: _, _, _, _, h, _ => h.elim
  | _ :: _, [], _, _, _, h, _ => h.elim
def spWithoutR : V → V → Hp → VK → Prop := fun a b H Q => ∃ (np pv : Addr) (kvs : List (Key × V)) (m : Names) (vs : List V) (as : List AV), a = .ref np ∧ b = .ref pv ∧ H np = some (.dK kvs) ∧ NmV H m kvs ∧ (m.map (·.1)).Nodup ∧ m.length ≤ 1000 ∧ H pv = some (.lst vs) ∧ VasV H as vs ∧
  ∀ r ks H', Same H H' → H r = none → H' r = some (.dK ks) → NmV H' (wout m as) ks → Q (.ref r) H'
theorem ok_without (T : Top K mg) : FnG P w K mg base 2 (He.ga K "without") p_without (S2 spWithoutR) := by
  refine FnG.of2 T.d_without sc_without rfl fun cdv A outer s H a b Q E hr h => ?_
  have hu := hu_of hr
  have hud := hr.in1.units
  refine ⟨_, (pss_cons (ps_set (i := 2) sc_without.nd rfl (Or.inl rfl) pe_dnewK)
    (pss_cons (ps_lock (ps_for PassesOwn.never rfl (pi_keys (pv 0)) (pg_name (i := 3) sc_without.nd rfl (Or.inl rfl)) (pss_one (ps_if (pt_not (PW.pt (pw_and (pt_val (pcall (ok_is_end T) (hr.mono (by omega)) T.g_is_end (pa_cons (pe_dget hu (pv 0) (pv 3) (fun _ _ => rfl)) pa_nil))) (pw_and1 (pt_cmpR (op_inD hud) (pe_dget hu (pv 0) (pv 3) (fun _ _ => rfl)) (pv 1) rfl))))) (pss_one (ps_dput hu (pv 2) (pv 3) (pe_dget hu (pv 0) (pv 3) (fun _ _ => rfl)) rfl)) pss_nil))))
    (pss_one (ps_ret (pv 2))))), ?_⟩
  obtain ⟨np, pv, kvs, m, vs, as, rfl, rfl, hn, hm, nd, hl, hpv, hV, q⟩ := h
  refine fun R hR => ?_
  have s1 := Same.new (o := .dK []) hR
  have nRn : R ≠ np := (ne_of_none hn hR).symm
  refine ⟨np, _, s1 _ _ hn, trivial, fun od => ⟨_, rfl, np, od, rfl, .inl ⟨_, upd_same, ?_⟩⟩⟩
  have lk := hm.len
  refine for_it walk_keys (fun i σ H' => ∃ (v3 : Option V) (ks : List (Key × V)), σ = [some (.ref np), some (.ref pv), some (.ref R), v3] ∧ (∀ b o, b ≠ np → H b = some o → H' b = some o) ∧ H' np = some (.frz od (.dK kvs)) ∧ H' R = some (.dK ks) ∧ NmV H' (wout (m.take i) as) ks)
    ⟨none, [], rfl, fun b o h e => by rw [upd_ne h]; exact s1 _ _ e, upd_same, by rw [upd_ne nRn]; exact upd_same, trivial⟩ (fun i σ H' _ ⟨_, _, _, _, z, _⟩ => z) ?_ ?_
  · rintro i y σ H0 H2 hi ⟨v3, ks, rfl, kk, hz, hR2, hN⟩ ⟨rfl, k, v0, hk, rfl⟩
    obtain ⟨x, av, hx, rfl⟩ := hm.at_ hk
    have tu : Tu H H2 := fun b xs e => kk b _ (ne_of e hn (by intro z; cases z)) e
    have hlk : m.lookup x = some av := (lookup_mem nd).mpr (List.mem_of_getElem? hx)
    obtain ⟨v, hv, hva⟩ := (hm.tu tu).get hlk
    have hg : DGet H2 np (.str x) (some v) := .inl ⟨kvs, .inr x, .inr ⟨od, hz⟩, rfl, hv.symm⟩
    have hpv2 := kk _ _ (ne_of hpv hn (by intro e; cases e)) hpv
    have hnot : x ∉ (wout (m.take i) as).map (·.1) := fun h => by
      have h1 := nd_take (l := m.map (·.1)) (i := i) (x := x) nd (by rw [List.getElem?_map, hx]; rfl)
      rw [← List.map_take] at h1
      obtain ⟨p, hp, e⟩ := List.mem_map.mp h
      exact h1 (List.mem_map.mpr ⟨p, (List.mem_filter.mp hp).1, e⟩)
    have ew : wout (m.take (i + 1)) as = wout (m.take i) as ++ (if (!goes as (x, av)) = true then [(x, av)] else []) := by
      unfold wout
      rw [filter_take1 hx]
    have lN := hN.len
    have l1 : (wout (m.take i) as).length ≤ 1000 := by
      have h1 := List.length_filter_le (fun p => !goes as p) (m.take i)
      have h2 := List.length_take_le i m
      unfold wout
      have h3 : (m.take i).length ≤ m.length := by rw [List.length_take]; exact Nat.min_le_right _ _
      omega
    have skip : (!goes as (x, av)) = false → ∃ (v3 : Option V) (ks : List (Key × V)), [some (V.ref np), some (V.ref pv), some (V.ref R), some (V.str x)] = [some (.ref np), some (.ref pv), some (.ref R), v3] ∧ (∀ b o, b ≠ np → H b = some o → H2 b = some o) ∧ H2 np = some (.frz od (.dK kvs)) ∧ H2 R = some (.dK ks) ∧ NmV H2 (wout (m.take (i + 1)) as) ks := fun c => by
      refine ⟨_, ks, rfl, kk, hz, hR2, ?_⟩
      rw [ew, c, if_neg (by decide), List.append_nil]
      exact hN
    have put : (!goes as (x, av)) = true → ∀ {vv : V}, VA H2 av vv → ∃ (v3 : Option V) (ks' : List (Key × V)), [some (V.ref np), some (V.ref pv), some (V.ref R), some (V.str x)] = [some (.ref np), some (.ref pv), some (.ref R), v3] ∧ (∀ b o, b ≠ np → H b = some o → upd H2 R (.dK (putK ks (.inr x) vv)) b = some o) ∧
        upd H2 R (.dK (putK ks (.inr x) vv)) np = some (.frz od (.dK kvs)) ∧ upd H2 R (.dK (putK ks (.inr x) vv)) R = some (.dK ks') ∧ NmV (upd H2 R (.dK (putK ks (.inr x) vv))) (wout (m.take (i + 1)) as) ks' := fun c vv hvv => by
      have t2 : Tu H2 (upd H2 R (.dK (putK ks (.inr x) vv))) := Tu.at_ hR2 (by intro xs e; cases e)
      have ek : putK ks (.inr x) vv = ks ++ [(.inr x, vv)] := putK_new _ (hN.none (lookup_none hnot))
      refine ⟨_, ks ++ [(.inr x, vv)], rfl, fun b o h e => ?_, ?_, by rw [upd_same, ek], ?_⟩
      · rw [upd_ne (ne_of_none e hR)]
        exact kk b o h e
      · rw [upd_ne nRn.symm]
        exact hz
      · rw [ew, if_pos c]
        exact NmV.snoc (hvv.tu t2) (hN.tu t2)
    refine ⟨_, rfl, _, rfl, np, v, rfl, hg, av, hva, _, rfl, ?_⟩
    cases hav : av.en?.isSome with
    | false =>
      refine ite2 (fun c => absurd c (by intro z; cases z)) fun _ => ?_
      have c : (!goes as (x, av)) = true := by
        unfold goes
        rw [hav]
        rfl
      refine ite2 (fun _ => ?_) fun c2 => absurd rfl c2
      exact ⟨_, rfl, _, rfl, np, v, rfl, hg, _, rfl, _, rfl, R, _, rfl, DPut.k (k := .inr x) hR2 (lt_line (by omega)), put c hva⟩
    | true =>
      obtain ⟨e, rfl⟩ : ∃ e, av = .en e := by
        cases av with
        | en e => exact ⟨e, rfl⟩
        | _ => cases hav
      refine ite2 (fun _ => ?_) fun c => absurd rfl c
      refine ⟨_, rfl, _, rfl, np, v, rfl, hg, _, rfl, avD (.en e), as.map avD, hva.dp, .lst (SqL.of hpv2) (hV.tu tu).dp, shaped_av _, shaped_avs _, ?_⟩
      have ea : ((as.map avD).any fun z => PyData.eqv z (avD (.en e))) = goes as (x, .en e) := by
        unfold goes
        rw [List.any_map]
        show (as.any fun a => PyData.eqv (avD a) (avD (.en e))) = (true && as.any fun a => decide (a = .en e))
        rw [Bool.true_and]
        congr 1
        funext a
        exact eqv_en a e
      rw [ea]
      refine ⟨_, rfl, ite2 (fun c => ?_) fun c => ?_⟩
      · exact ⟨_, rfl, _, rfl, np, v, rfl, hg, _, rfl, _, rfl, R, _, rfl, DPut.k (k := .inr x) hR2 (lt_line (by omega)), put c hva⟩
      · exact skip (Bool.eq_false_iff.mpr c)
  · rintro σ H2 ⟨v3, ks, rfl, kk, hz, hR2, hN⟩
    rw [lk, List.take_length] at hN
    refine ⟨hz, _, rfl, ?_⟩
    have tu : Tu H2 (upd H2 np (.dK kvs)) := Tu.at_ hz (by intro xs e; cases e)
    refine q R ks _ (fun b o e => ?_) hR ?_ (hN.tu tu)
    · by_cases h : b = np
      · rw [h] at e ⊢
        rw [upd_same, ← hn]
        exact e
      · rw [upd_ne h]
        exact kk b o h e
    · rw [upd_ne nRn]
      exact hR2
end G

/-! part W39 -/
set_option Elab.async false
set_option linter.all false
set_option maxRecDepth 100000
set_option maxHeartbeats 4000000
/-! Steps: let, if. -/
namespace G
open PySem PySem.Spec PyProof.Rows L2
variable {P : Program} {w : World} {K : PySem.W.Frag} {mg : Str → Option Value} {base : Heap}
structure Sz (s : Sta) (B : Nat) : Prop where
  n : s.n ≤ B
  na : s.na ≤ B + 1
  nm : ∀ i, (s.nm i).length ≤ B + 10
  bx : ∀ e, (s.box e).length ≤ B + 10
theorem Sz.act {s : Sta} {B : Nat} (z : Sz s B) {i : Nat} {m : Names} {b : Blk} {r : Bool} (h : m.length ≤ B + 11) : Sz (s.act i m b r) (B + 1) := by
  refine ⟨Nat.le_succ_of_le z.n, Nat.le_succ_of_le z.na, fun j => ?_, fun e => Nat.le_succ_of_le (z.bx e)⟩
  show (fset s.nm i m j).length ≤ B + 1 + 10
  by_cases c : j = i
  · rw [c, fset_same]
    omega
  · rw [fset_ne c]
    have := z.nm j
    omega
/-- what a step leaves -/
abbrev StepPost (K : PySem.W.Frag) (D : Defs) (Tb : Nat → Talk) (H : Hp) (L : Pla) (s : Sta) (B : Nat) (Q : VK) : Prop :=
  ∀ v L' s' loc ty H', Rep K D H' L' s' → Frm H H' L L' s s' → Inv Tb D s' [] loc ty → Sz s' (B + 1) → Q v H'
/-- what lies before a step of the actor i -/
structure Pre (K : PySem.W.Frag) (D : Defs) (Tb : Nat → Talk) (H0 H : Hp) (L : Pla) (s : Sta) (loc : End → Nd) (ty : End → Talk) (B i : Nat) (np : Addr) (kvs : List (Key × V)) : Prop where
  R : Rep K D H L s
  I : Inv Tb D s [] loc ty
  z : Sz s B
  B40 : B ≤ 40
  run : s.run i = true
  hn : H np = some (.dK kvs)
  hm : NmV H (s.nm i) kvs
  out : Out L s np
  s0 : Same H0 H
  f0 : H0 np = none
def spLet (K : PySem.W.Frag) (D : Defs) : V → V → V → V → V → Hp → VK → Prop := fun a b c d r H Q => ∃ (Tb : Nat → Talk) (H0 : Hp) (L : Pla) (s : Sta) (loc : End → Nd) (ty : End → Talk) (B i : Nat) (np p rp : Addr) (kvs : List (Key × V)) (x : Str) (e : Exp) (ev : V) (b' : Blk) (us : List V),
  a = .ref (L .st) ∧ b = .int i ∧ c = .ref p ∧ d = .ref np ∧ r = .ref rp ∧ Pre K D Tb H0 H L s loc ty B i np kvs ∧ s.rest i = .let_ x e b' ∧ H p = some (.tup [.str "let", .str x, ev, .int 0]) ∧ ExpAt H e ev ∧ H rp = some (.tup us) ∧ BlkAt H b' us ∧ StepPost K D Tb H0 L s B Q
theorem ok_step_let {D : Defs} (T : Top K mg) : FnG P w K mg base 9 (He.ga K "step_let") p_step_let (S5 (spLet K D)) := by
  refine FnG.of5 T.d_step_let sc_step_let rfl fun cdv A outer s H a b c d r Q E hr h => ?_
  have hu := hu_of hr
  have ok_st_put := fun T => ok_st_put (P := P) (w := w) (K := K) (mg := mg) (base := base) (D := D) T
  refine ⟨_, (pss_cons (ps_dput hu (pv 3) (pe_ix ix_tup (pv 2) pe_int (fun _ _ => rfl)) (pcall (ok_evaluate T) (hr.mono (by omega)) T.g_evaluate (pa_cons (pe_ix ix_tup (pv 2) pe_int (fun _ _ => rfl)) (pa_cons (pv 3) pa_nil))) rfl)
    (pss_cons (ps_expr (pmeth (pv 0) T.c_st T.m_st_put (ok_st_put T) (hr.mono (by omega)) (pa_cons (pv 1) (pa_cons (pv 3) (pa_cons (pv 4) pa_nil)))))
    (pss_one (ps_ret (pe_lst pa_nil))))), ?_⟩
  obtain ⟨Tb, H0, L, st, loc, ty, B, i, np, p, rp, kvs, x, e, ev, b', us, rfl, rfl, rfl, rfl, rfl, X, hrest, hp, he, hrp, hb, q⟩ := h
  obtain ⟨g, hc, hT⟩ := X.I.typ.code i X.run
  rw [hrest] at hT
  obtain ⟨t1, t2, t3, t4⟩ := (show e.T g .int ∧ e.dep ≤ 3 ∧ g x = none ∧ b'.T Tb D.sg (g.put x .int) from hT)
  have hi := X.I.lin.rn i X.run
  have hm := X.hm
  refine ⟨_, rfl, p, _, _, _, rfl, rfl, SqT.of hp, atI_nat (j := 2) rfl, _, rfl, e, np, kvs, _, g, .int, ty, he, t2, rfl, X.hn, hm, hc, t1, fun v av hv ha _ _ => ?_⟩
  cases av with
  | int n =>
    obtain rfl : v = .int n := hv
    have lk := hm.len
    have ln := X.z.nm i
    have hnone : valV kvs (.inr x) = none := hm.none (hc.d x t3)
    refine ⟨_, rfl, _, rfl, p, _, _, _, rfl, rfl, SqT.of hp, atI_nat (j := 1) rfl, np, _, rfl, DPut.k (k := .inr x) X.hn (lt_line (by have := X.B40; omega)), ?_⟩
    rw [putK_new _ hnone]
    have R1 := X.R.put (o := .dK (kvs ++ [(.inr x, .int n)])) X.out X.hn (by intro xs z; cases z)
    have tu : Tu H (upd H np (.dK (kvs ++ [(.inr x, .int n)]))) := Tu.at_ X.hn (by intro xs z; cases z)
    obtain ⟨dx, hst⟩ := R1.st
    refine ⟨_, rfl, _, dx, _, rfl, hst, rfl, _, rfl, _, rfl, _, rfl, L, st, i, np, rp, _, st.nm i ++ [(x, .int n)], us, b', rfl, rfl, rfl, rfl, R1, hi, upd_same, NmV.snoc (a := .int n) rfl (hm.tu tu), tu _ _ hrp, fun _ => hb.tu tu, fun L' H' R' F' => ?_⟩
    refine ⟨Nat.zero_le _, fun l hl => ?_⟩
    rw [X.run, act_put X.run] at R' F'
    have F0 : Frm H0 (upd H np (.dK (kvs ++ [(.inr x, .int n)]))) L L st st := Frm.same (Same.put X.s0 X.f0)
    have I' := X.I.put (i := i) (m := st.nm i ++ [(x, .int n)]) (b := b') (d := []) X.run List.nodup_nil (fun e he => by cases he) (by
      rw [endsN_app]
      show (endsN (st.nm i) ++ []).Nodup
      rw [List.append_nil]
      exact (X.I.lin.act i X.run).1) (fun e => by
      rw [endsN_app]
      show e ∈ endsN (st.nm i) ++ [] ↔ _
      rw [List.append_nil]
      simp) ⟨_, hc.put t3 (a := .int n) (t := .int) trivial, t4⟩
    rw [List.append_nil] at I'
    have s2 := Same.new (o := .lst []) hl
    refine q _ L' _ loc ty _ (R'.same s2) ((F0.trans F').trans (Frm.same s2)) I' ?_
    rw [← act_put X.run]
    exact X.z.act (by rw [List.length_append]; show _ + 1 ≤ _; omega)
  | _ => exact ha.elim
def spIf (K : PySem.W.Frag) (D : Defs) : V → V → V → V → Hp → VK → Prop := fun a b c d H Q => ∃ (Tb : Nat → Talk) (H0 : Hp) (L : Pla) (s : Sta) (loc : End → Nd) (ty : End → Talk) (B i : Nat) (np p q1 q2 : Addr) (kvs : List (Key × V)) (e : Exp) (ev : V) (b1 b2 : Blk) (us1 us2 : List V),
  a = .ref (L .st) ∧ b = .int i ∧ c = .ref p ∧ d = .ref np ∧ Pre K D Tb H0 H L s loc ty B i np kvs ∧ s.rest i = .ite e b1 b2 ∧ H p = some (.tup [.str "if", ev, .ref q1, .ref q2, .int 0]) ∧ ExpAt H e ev ∧ H q1 = some (.tup us1) ∧ BlkAt H b1 us1 ∧ H q2 = some (.tup us2) ∧ BlkAt H b2 us2 ∧ StepPost K D Tb H0 L s B Q
theorem ok_step_if {D : Defs} (T : Top K mg) : FnG P w K mg base 9 (He.ga K "step_if") p_step_if (S4 (spIf K D)) := by
  refine FnG.of4 T.d_step_if sc_step_if rfl fun cdv A outer s H a b c d Q E hr h => ?_
  have ok_st_put := fun T => ok_st_put (P := P) (w := w) (K := K) (mg := mg) (base := base) (D := D) T
  refine ⟨_, (pss_cons (ps_if (pt_val (pcall (ok_evaluate T) (hr.mono (by omega)) T.g_evaluate (pa_cons (pe_ix ix_tup (pv 2) pe_int (fun _ _ => rfl)) (pa_cons (pv 3) pa_nil)))) (pss_one (ps_expr (pmeth (pv 0) T.c_st T.m_st_put (ok_st_put T) (hr.mono (by omega)) (pa_cons (pv 1) (pa_cons (pv 3) (pa_cons (pe_ix ix_tup (pv 2) pe_int (fun _ _ => rfl)) pa_nil)))))) (pss_one (ps_expr (pmeth (pv 0) T.c_st T.m_st_put (ok_st_put T) (hr.mono (by omega)) (pa_cons (pv 1) (pa_cons (pv 3) (pa_cons (pe_ix ix_tup (pv 2) pe_int (fun _ _ => rfl)) pa_nil)))))))
    (pss_one (ps_ret (pe_lst pa_nil)))), ?_⟩
  obtain ⟨Tb, H0, L, st, loc, ty, B, i, np, p, q1, q2, kvs, e, ev, b1, b2, us1, us2, rfl, rfl, rfl, rfl, X, hrest, hp, he, hq1, hb1, hq2, hb2, q⟩ := h
  obtain ⟨g, hc, hT⟩ := X.I.typ.code i X.run
  rw [hrest] at hT
  obtain ⟨t1, t2, t3, t4⟩ := (show e.T g .bool ∧ e.dep ≤ 3 ∧ b1.T Tb D.sg g ∧ b2.T Tb D.sg g from hT)
  have hi := X.I.lin.rn i X.run
  have hm := X.hm
  obtain ⟨dx, hst⟩ := X.R.st
  have fin : ∀ {b' : Blk} {L' : Pla} {H' : Hp}, b'.T Tb D.sg g → Rep K D H' L' (st.act i (st.nm i) b' (st.run i)) → Frm H H' L L' st (st.act i (st.nm i) b' (st.run i)) → ∀ l, H' l = none → Q (.ref l) (upd H' l (.lst [])) := fun {b' L' H'} hb R' F' l hl => by
    rw [X.run, act_put X.run] at R' F'
    have I' := X.I.put (i := i) (m := st.nm i) (b := b') (d := []) X.run List.nodup_nil (fun e he => by cases he) (X.I.lin.act i X.run).1 (fun e => by simp) ⟨g, hc, hb⟩
    rw [List.append_nil] at I'
    have s2 := Same.new (o := .lst []) hl
    refine q _ L' _ loc ty _ (R'.same s2) (((Frm.same X.s0).trans F').trans (Frm.same s2)) I' ?_
    rw [← act_put X.run]
    exact X.z.act (by have := X.z.nm i; omega)
  refine ⟨_, rfl, p, _, _, _, rfl, rfl, SqT.of hp, atI_nat (j := 1) rfl, _, rfl, e, np, kvs, _, g, .bool, ty, he, t2, rfl, X.hn, hm, hc, t1, fun v av hv ha _ _ => ?_⟩
  cases av with
  | bl k =>
    obtain rfl : v = .bl k := hv
    refine ⟨_, rfl, ?_⟩
    cases k with
    | true =>
      refine ite2 (fun _ => ?_) fun c => absurd rfl c
      refine ⟨_, rfl, _, dx, _, rfl, hst, rfl, _, rfl, _, rfl, _, rfl, p, _, _, _, rfl, rfl, SqT.of hp, atI_nat (j := 2) rfl, L, st, i, np, q1, _, st.nm i, us1, b1, rfl, rfl, rfl, rfl, X.R, hi, X.hn, hm, hq1, fun _ => hb1, fun L' H' R' F' => ?_⟩
      exact ⟨Nat.zero_le _, fun l hl => fin t3 R' F' l hl⟩
    | false =>
      refine ite2 (fun c => absurd c (by decide)) fun _ => ?_
      refine ⟨_, rfl, _, dx, _, rfl, hst, rfl, _, rfl, _, rfl, _, rfl, p, _, _, _, rfl, rfl, SqT.of hp, atI_nat (j := 3) rfl, L, st, i, np, q2, _, st.nm i, us2, b2, rfl, rfl, rfl, rfl, X.R, hi, X.hn, hm, hq2, fun _ => hb2, fun L' H' R' F' => ?_⟩
      exact ⟨Nat.zero_le _, fun l hl => fin t4 R' F' l hl⟩
  | _ => exact ha.elim
end G

/-! part W40 -/
set_option Elab.async false
set_option linter.all false
set_option maxRecDepth 100000
set_option maxHeartbeats 4000000
/-! Steps: close, drop. -/
namespace G
open PySem PySem.Spec PyProof.Rows L2
variable {P : Program} {w : World} {K : PySem.W.Frag} {mg : Str → Option Value} {base : Heap}
theorem goes_ends (as : List AV) (p : Str × AV) : goes as p = (endsA as).any fun e => decide (p.2 = .en e) := by
  obtain ⟨x, a⟩ := p
  unfold goes
  cases a with
  | en f =>
    show (true && as.any fun a => decide (a = .en f)) = (endsA as).any fun e => decide (AV.en f = .en e)
    rw [Bool.true_and]
    induction as with
    | nil => rfl
    | cons b r ih =>
      rw [List.any_cons, ih]
      cases b with
      | en h =>
        show _ = (h :: endsA r).any _
        rw [List.any_cons]
        congr 1
        by_cases c : h = f
        · rw [c]
        · rw [decide_eq_false (by intro z; cases z; exact c rfl), decide_eq_false (by intro z; cases z; exact c rfl)]
      | non => rw [decide_eq_false (by intro z; cases z), Bool.false_or]; rfl
      | int n => rw [decide_eq_false (by intro z; cases z), Bool.false_or]; rfl
      | bl n => rw [decide_eq_false (by intro z; cases z), Bool.false_or]; rfl
  | non =>
    show false = _
    symm
    rw [List.any_eq_false]
    intro e _
    simp
  | int n =>
    show false = _
    symm
    rw [List.any_eq_false]
    intro e _
    simp
  | bl n =>
    show false = _
    symm
    rw [List.any_eq_false]
    intro e _
    simp
theorem wout_cut (m : Names) (as : List AV) : wout m as = cutE m (endsA as) := by
  unfold wout cutE
  congr 1
  funext p
  rw [goes_ends]
/-- the ends among the names that are left -/
theorem mem_cutE {m : Names} {d : List End} {e : End} : e ∈ endsN (cutE m d) ↔ e ∈ endsN m ∧ e ∉ d := by
  unfold cutE
  rw [mem_endsN_filter, mem_endsN]
  constructor
  · rintro ⟨x, h1, h2⟩
    refine ⟨⟨x, h1⟩, fun h => ?_⟩
    have h2 : (!d.any fun f => decide (AV.en e = .en f)) = true := h2
    have : (d.any fun f => decide (AV.en e = .en f)) = true := List.any_eq_true.mpr ⟨e, h, by simp⟩
    rw [this] at h2
    cases h2
  · rintro ⟨⟨x, h1⟩, h2⟩
    refine ⟨x, h1, ?_⟩
    show (!d.any fun f => decide (AV.en e = .en f)) = true
    have : (d.any fun f => decide (AV.en e = .en f)) = false := by
      rw [List.any_eq_false]
      intro f hf z
      have z := of_decide_eq_true z
      cases z
      exact h2 hf
    rw [this]
    rfl
theorem cutE_nd {m : Names} {d : List End} (h : (endsN m).Nodup) : (endsN (cutE m d)).Nodup := endsN_filter_nd h
theorem cutE_len (m : Names) (d : List End) : (cutE m d).length ≤ m.length := List.length_filter_le _ _
theorem cutE_one {m : Names} {e : End} : cutE m [e] = m.filter fun p => !decide (p.2 = .en e) := by
  rw [← cutE_cons]
  unfold cutE
  simp
theorem letgo {Tb : Nat → Talk} {D : Defs} {s : Sta} {loc : End → Nd} {ty : End → Talk} {i : Nat} {x : Str} {e : End} {g : Ctx} {b' : Blk} (I : G.Inv Tb D s [] loc ty) (hi : s.run i = true) (hc : CtxOk g (s.nm i) ty) (hl : (s.nm i).lookup x = some (.en e)) (ht : b'.T Tb D.sg (g.del x)) :
    G.Inv Tb D (s.put i (cutE (s.nm i) [e]) b') [e] loc ty := by
  have nd := (I.lin.act i hi).1
  have he : e ∈ endsN (s.nm i) := mem_endsN.mpr ⟨x, (lookup_mem hc.nd).mp hl⟩
  exact I.put (i := i) (m := cutE (s.nm i) [e]) (b := b') (d := [e]) hi (by simp) (fun f hf => by rw [List.mem_singleton.mp hf]; exact he) (cutE_nd nd) (fun f => mem_cutE) ⟨g.del x, by rw [cutE_one]; exact hc.del nd hl, ht⟩
theorem Sz.put {s : Sta} {B : Nat} (z : Sz s B) {i : Nat} {m : Names} {b : Blk} (hi : s.run i = true) (h : m.length ≤ B + 11) : Sz (s.put i m b) (B + 1) := by
  rw [← act_put hi]
  exact z.act h
def spClo (K : PySem.W.Frag) (D : Defs) (kwd : Str) (bk : Str → Blk → Blk) : V → V → V → V → V → Hp → VK → Prop := fun a b c d r H Q => ∃ (Tb : Nat → Talk) (H0 : Hp) (L : Pla) (s : Sta) (loc : End → Nd) (ty : End → Talk) (B i : Nat) (np p rp : Addr) (kvs : List (Key × V)) (x : Str) (b' : Blk) (us : List V),
  a = .ref (L .st) ∧ b = .int i ∧ c = .ref p ∧ d = .ref np ∧ r = .ref rp ∧ Pre K D Tb H0 H L s loc ty B i np kvs ∧ s.rest i = bk x b' ∧ H p = some (.tup [.str kwd, .str x, .int 0]) ∧ H rp = some (.tup us) ∧ BlkAt H b' us ∧ StepPost K D Tb H0 L s B Q
theorem Sz.sb {s s' : Sta} {B : Nat} (z : Sz s B) (b : Sb s s') : Sz s' B := ⟨by rw [b.n]; exact z.n, by rw [b.na]; exact z.na, fun i => by rw [b.nm]; exact z.nm i, fun e => Nat.le_trans (b.box e) (z.bx e)⟩
theorem Sz.bxs {s : Sta} {B : Nat} (z : Sz s B) (h : B ≤ 41) : s.n ≤ 40 → Bxs s := fun h2 => ⟨h2, fun e => by have := z.bx e; omega⟩
theorem ok_step_close {D : Defs} (T : Top K mg) : FnG P w K mg base 5 (He.ga K "step_close") p_step_close (S5 (spClo K D "close" .close)) := by
  refine FnG.of5 T.d_step_close sc_step_close rfl fun cdv A outer s H a b c d r Q E hr h => ?_
  have hu := hu_of hr
  have ok_st_put := fun T => ok_st_put (P := P) (w := w) (K := K) (mg := mg) (base := base) (D := D) T
  have ok_cv_close := fun T => ok_cv_close (P := P) (w := w) (K := K) (mg := mg) (base := base) (D := D) T
  refine ⟨_, (pss_cons (ps_asg (pcall (ok_end_of T) (hr.mono (by omega)) T.g_end_of (pa_cons (pv 3) (pa_cons (pe_ix ix_tup (pv 2) pe_int (fun _ _ => rfl)) pa_nil))) (pg_tup (by rfl) (pgs_cons (pg_name (i := 5) sc_step_close.nd rfl (Or.inl rfl)) (pgs_cons (pg_name (i := 6) sc_step_close.nd rfl (Or.inl rfl)) pgs_nil))))
    (pss_cons (ps_expr (pmeth (pv 0) T.c_st T.m_st_put (ok_st_put T) (hr.mono (by omega)) (pa_cons (pv 1) (pa_cons (pcall (ok_without T) (hr.mono (by omega)) T.g_without (pa_cons (pv 3) (pa_cons (pe_lst (pa_cons (pe_dget hu (pv 3) (pe_ix ix_tup (pv 2) pe_int (fun _ _ => rfl)) (fun _ _ => rfl)) pa_nil)) pa_nil))) (pa_cons (pv 4) pa_nil)))))
    (pss_one (ps_ret (pe_op op_cat (pe_lst (pa_cons (pe_tup (pa_cons pe_str (pa_cons (pv 5) (pa_cons (pv 6) pa_nil)))) pa_nil)) (pcall (ok_drops T) (hr.mono (by omega)) T.g_drops (pa_cons (pmeth (pe_fld (pv 0) rfl) T.c_cv T.m_cv_close (ok_cv_close T) (hr.mono (by omega)) (pa_cons (pv 5) (pa_cons (pv 6) pa_nil))) pa_nil))))))), ?_⟩
  obtain ⟨Tb, H0, L, st, loc, ty, B, i, np, p, rp, kvs, x, b', us, rfl, rfl, rfl, rfl, rfl, X, hrest, hp, hrp, hb, q⟩ := h
  obtain ⟨g, hc, hT⟩ := X.I.typ.code i X.run
  rw [hrest] at hT
  obtain ⟨t, t1, t2, t3⟩ := (show ∃ t, g x = some (.en t) ∧ G.head Tb t = .fin ∧ b'.T Tb D.sg (g.del x) from hT)
  obtain ⟨av, hl, ha⟩ := hc.k x _ t1
  cases av with
  | en e =>
    have hi := X.I.lin.rn i X.run
    have hm := X.hm
    have le : st.live e := (((X.I.lin.act i X.run).2 e).mp (mem_endsN.mpr ⟨x, (lookup_mem hc.nd).mp hl⟩)).1
    refine ⟨_, rfl, _, rfl, p, _, _, _, rfl, rfl, SqT.of hp, atI_nat (j := 1) rfl, np, kvs, _, x, e, rfl, rfl, X.hn, hm, hl, fun tt htt => ?_⟩
    refine ⟨tt, _, rfl, SqT.of upd_same, rfl, _, _, rfl, _, _, rfl, rfl, ?_⟩
    have s1 := Same.new (o := .tup [.int e.1, .int (sdI e.2)]) htt
    have hm1 := hm.tu (Same.tu s1)
    have R1 := X.R.same s1
    obtain ⟨dx, hst⟩ := R1.st
    obtain ⟨v, hv, hva⟩ := hm1.get hl
    have hg : DGet (upd H tt (.tup [.int e.1, .int (sdI e.2)])) np (.str x) (some v) := by
      rw [← hv]
      exact DGet.k (k := .inr x) (s1 _ _ X.hn)
    refine ⟨_, rfl, _, dx, _, rfl, hst, rfl, _, rfl, _, rfl, _, rfl, _, rfl, p, _, _, _, rfl, rfl, SqT.of (s1 _ _ hp), atI_nat (j := 1) rfl, np, v, rfl, hg, le_line (by show 1 ≤ _; decide), fun l hll => ?_⟩
    have s2 := s1.trans (Same.new (o := .lst [v]) hll)
    refine ⟨np, l, kvs, _, [v], [.en e], rfl, rfl, s2 _ _ X.hn, hm.tu (Same.tu s2), hc.nd, ?_, upd_same, ⟨hva.tu (Tu.new hll), trivial⟩, fun r5 ks H5 s5 hr0 hr5 hN => ?_⟩
    · have := X.z.nm i
      have := X.B40
      omega
    rw [wout_cut] at hN
    have s25 := s2.trans s5
    have R5 := X.R.same s25
    obtain ⟨dx5, hst5⟩ := R5.st
    refine ⟨_, rfl, L, st, i, r5, rp, ks, _, us, b', rfl, rfl, rfl, rfl, R5, hi, hr5, hN, s25 _ _ hrp, fun _ => hb.tu (Same.tu s25), fun L' H' R' F' => ?_⟩
    rw [X.run, act_put X.run] at R' F'
    have I' := letgo X.I X.run hc hl t3
    have z' : Sz (st.put i (cutE (st.nm i) [e]) b') (B + 1) := X.z.put X.run (by have := cutE_len (st.nm i) [e]; have := X.z.nm i; omega)
    have hB := z'.bxs (by have := X.B40; omega) (by have := X.z.n; have := X.B40; show st.n ≤ 40; omega)
    have F0 := (Frm.same (L := L) (s := st) (X.s0.trans s25)).trans F'
    refine ⟨_, rfl, _, rfl, le_line (by show 3 ≤ _; decide), fun a1 ha1 => ⟨le_line (by show 1 ≤ _; decide), fun L1 hL1 => ?_⟩⟩
    have Ra := R'.same (Same.new (o := .tup [.str "close", .int e.1, .int (sdI e.2)]) ha1)
    have s6 := (Same.new (o := .tup [.str "close", .int e.1, .int (sdI e.2)]) ha1).trans (Same.new (o := .lst [.ref a1]) hL1)
    have R6 := R'.same s6
    obtain ⟨dx6, hst6⟩ := R6.st
    obtain ⟨dx7, hcv6⟩ := R6.cv
    rw [F'.fix.1] at hst6
    refine ⟨_, rfl, _, _, dx6, _, _, rfl, hst6, T.c_st, T.a_st_conversations, rfl, _, dx7, _, rfl, hcv6, rfl, _, rfl, _, rfl, Tb, L', _, e, loc, ty, rfl, rfl, rfl, R6, I', hB, fun p us fs L2 s2 H2 R2 F2 I2 B2 hp0 hp hE hl ho => ?_⟩
    refine ⟨p, us, fs, rfl, hp, hE, by omega, fun r ws H3 s3 hr0 hr hlw => ?_⟩
    have hL3 : H3 L1 = some (.lst [.ref a1]) := s3 _ _ (F2.keep _ _ upd_same (Ra.out hL1))
    refine ⟨_, _, _, _, rfl, rfl, hL3, hr, le_line (by show 1 + _ ≤ _; omega), fun p5 hp5 => ?_⟩
    have s7 := s3.trans (Same.new (o := .lst ([.ref a1] ++ ws)) hp5)
    exact q _ L2 s2 loc ty _ (R2.same s7) ((F0.trans (Frm.same s6)).trans (F2.trans (Frm.same s7))) I2 (z'.sb B2)
  | _ => exact ha.elim
end G

/-! part W41 -/
set_option Elab.async false
set_option linter.all false
set_option maxRecDepth 100000
set_option maxHeartbeats 4000000
/-! Step: drop. -/
namespace G
open PySem PySem.Spec PyProof.Rows L2
variable {P : Program} {w : World} {K : PySem.W.Frag} {mg : Str → Option Value} {base : Heap}
theorem ok_step_drop {D : Defs} (T : Top K mg) : FnG P w K mg base 4 (He.ga K "step_drop") p_step_drop (S5 (spClo K D "drop" .drop)) := by
  refine FnG.of5 T.d_step_drop sc_step_drop rfl fun cdv A outer s H a b c d r Q E hr h => ?_
  have hu := hu_of hr
  have ok_st_put := fun T => ok_st_put (P := P) (w := w) (K := K) (mg := mg) (base := base) (D := D) T
  have ok_cv_drop := fun T => ok_cv_drop (P := P) (w := w) (K := K) (mg := mg) (base := base) (D := D) T
  refine ⟨_, (pss_cons (ps_asg (pcall (ok_end_of T) (hr.mono (by omega)) T.g_end_of (pa_cons (pv 3) (pa_cons (pe_ix ix_tup (pv 2) pe_int (fun _ _ => rfl)) pa_nil))) (pg_tup (by rfl) (pgs_cons (pg_name (i := 5) sc_step_drop.nd rfl (Or.inl rfl)) (pgs_cons (pg_name (i := 6) sc_step_drop.nd rfl (Or.inl rfl)) pgs_nil))))
    (pss_cons (ps_expr (pmeth (pv 0) T.c_st T.m_st_put (ok_st_put T) (hr.mono (by omega)) (pa_cons (pv 1) (pa_cons (pcall (ok_without T) (hr.mono (by omega)) T.g_without (pa_cons (pv 3) (pa_cons (pe_lst (pa_cons (pe_dget hu (pv 3) (pe_ix ix_tup (pv 2) pe_int (fun _ _ => rfl)) (fun _ _ => rfl)) pa_nil)) pa_nil))) (pa_cons (pv 4) pa_nil)))))
    (pss_one (ps_ret (pcall (ok_drops T) (hr.mono (by omega)) T.g_drops (pa_cons (pmeth (pe_fld (pv 0) rfl) T.c_cv T.m_cv_drop (ok_cv_drop T) (hr.mono (by omega)) (pa_cons (pe_lst (pa_cons (pe_tup (pa_cons pe_str (pa_cons (pv 5) (pa_cons (pv 6) pa_nil)))) pa_nil)) pa_nil)) pa_nil)))))), ?_⟩
  obtain ⟨Tb, H0, L, st, loc, ty, B, i, np, p, rp, kvs, x, b', us, rfl, rfl, rfl, rfl, rfl, X, hrest, hp, hrp, hb, q⟩ := h
  obtain ⟨g, hc, hT⟩ := X.I.typ.code i X.run
  rw [hrest] at hT
  obtain ⟨t, t1, t3⟩ := (show ∃ t, g x = some (.en t) ∧ b'.T Tb D.sg (g.del x) from hT)
  obtain ⟨av, hl, ha⟩ := hc.k x _ t1
  cases av with
  | en e =>
    have hi := X.I.lin.rn i X.run
    have hm := X.hm
    refine ⟨_, rfl, _, rfl, p, _, _, _, rfl, rfl, SqT.of hp, atI_nat (j := 1) rfl, np, kvs, _, x, e, rfl, rfl, X.hn, hm, hl, fun tt htt => ?_⟩
    refine ⟨tt, _, rfl, SqT.of upd_same, rfl, _, _, rfl, _, _, rfl, rfl, ?_⟩
    have s1 := Same.new (o := .tup [.int e.1, .int (sdI e.2)]) htt
    have hm1 := hm.tu (Same.tu s1)
    have R1 := X.R.same s1
    obtain ⟨dx, hst⟩ := R1.st
    obtain ⟨v, hv, hva⟩ := hm1.get hl
    have hg : DGet (upd H tt (.tup [.int e.1, .int (sdI e.2)])) np (.str x) (some v) := by
      rw [← hv]
      exact DGet.k (k := .inr x) (s1 _ _ X.hn)
    refine ⟨_, rfl, _, dx, _, rfl, hst, rfl, _, rfl, _, rfl, _, rfl, _, rfl, p, _, _, _, rfl, rfl, SqT.of (s1 _ _ hp), atI_nat (j := 1) rfl, np, v, rfl, hg, le_line (by show 1 ≤ _; decide), fun l hll => ?_⟩
    have s2 := s1.trans (Same.new (o := .lst [v]) hll)
    refine ⟨np, l, kvs, _, [v], [.en e], rfl, rfl, s2 _ _ X.hn, hm.tu (Same.tu s2), hc.nd, ?_, upd_same, ⟨hva.tu (Tu.new hll), trivial⟩, fun r5 ks H5 s5 hr0 hr5 hN => ?_⟩
    · have := X.z.nm i
      have := X.B40
      omega
    rw [wout_cut] at hN
    have s25 := s2.trans s5
    have R5 := X.R.same s25
    obtain ⟨dx5, hst5⟩ := R5.st
    refine ⟨_, rfl, L, st, i, r5, rp, ks, _, us, b', rfl, rfl, rfl, rfl, R5, hi, hr5, hN, s25 _ _ hrp, fun _ => hb.tu (Same.tu s25), fun L' H' R' F' => ?_⟩
    rw [X.run, act_put X.run] at R' F'
    have I' := letgo X.I X.run hc hl t3
    have z' : Sz (st.put i (cutE (st.nm i) [e]) b') (B + 1) := X.z.put X.run (by have := cutE_len (st.nm i) [e]; have := X.z.nm i; omega)
    have hB := z'.bxs (by have := X.B40; omega) (by have := X.z.n; have := X.B40; show st.n ≤ 40; omega)
    have F0 := (Frm.same (L := L) (s := st) (X.s0.trans s25)).trans F'
    obtain ⟨dx6, hst6⟩ := R'.st
    obtain ⟨dx7, hcv6⟩ := R'.cv
    rw [F'.fix.1] at hst6
    refine ⟨_, rfl, _, _, dx6, _, _, rfl, hst6, T.c_st, T.a_st_conversations, rfl, _, dx7, _, rfl, hcv6, rfl, _, rfl, _, rfl, le_line (by show 3 ≤ _; decide), fun a1 ha1 => ⟨le_line (by show 1 ≤ _; decide), fun L1 hL1 => ?_⟩⟩
    have s6 := (Same.new (o := .tup [.str "end", .int e.1, .int (sdI e.2)]) ha1).trans (Same.new (o := .lst [.ref a1]) hL1)
    have R6 := R'.same s6
    refine ⟨Tb, L', _, [e], loc, ty, L1, [.ref a1], rfl, rfl, upd_same, ⟨⟨a1, rfl, (Same.new hL1) _ _ upd_same⟩, trivial⟩, R6, I', hB, fun p us fs L2 s2 H2 R2 F2 I2 B2 hp0 hp hE hl ho => ?_⟩
    refine ⟨p, us, fs, rfl, hp, hE, by omega, fun r ws H3 s3 hr0 hr hlw => ?_⟩
    exact q _ L2 s2 loc ty _ (R2.same s3) ((F0.trans (Frm.same s6)).trans (F2.trans (Frm.same s3))) I2 (z'.sb B2)
  | _ => exact ha.elim
end G

/-! part W42 -/
set_option Elab.async false
set_option linter.all false
set_option maxRecDepth 100000
set_option maxHeartbeats 4000000
/-! Step: say. -/
namespace G
open PySem PySem.Spec PyProof.Rows L2
variable {P : Program} {w : World} {K : PySem.W.Frag} {mg : Str → Option Value} {base : Heap}
theorem Args.one {g g' : Ctx} {ex : Exp} {u : Ty} (h : Args g [ex] [u] g') : ex.T g u ∧ ex.dep ≤ 3 := Args.at_ (i := 0) h rfl rfl
theorem endsA_one (av : AV) : endsA [av] = av.ends := by cases av <;> rfl
theorem wout_one (m : Names) (av : AV) : wout m [av] = cutE m av.ends := by rw [wout_cut, endsA_one]
theorem VT.of {ty : End → Talk} {av : AV} {k : Kd} {u : Ty} (hk : k.ty = some u) (h : AT ty av u) : VT ty av k := by
  cases k with
  | non => cases hk
  | int => cases hk; cases av <;> exact h
  | bool => cases hk; cases av <;> exact h
  | ref d n => cases hk; cases av <;> exact h
theorem cutE_nil (m : Names) : cutE m [] = m := by
  unfold cutE
  simp
/-- what a say leaves -/
theorem say_facts {Tb : Nat → Talk} {D : Defs} {ty : End → Talk} {m : Names} {x : Str} {eo : Option Exp} {b' : Blk} {g g' : Ctx} {k : Kd} {t' : Talk} {e : End} {av : AV} (nd : (endsN m).Nodup) (hc : CtxOk g m ty) (hl : m.lookup x = some (.en e))
    (h4 : PayT g x eo k.ty g') (h5 : b'.T Tb D.sg (g'.put x (.en t'))) (hav : match eo with
      | none => av = .non
      | some ex => ∃ u, k.ty = some u ∧ AT ty av u ∧ ∀ y, ex = .var y → m.lookup y = some av) :
    VT ty av k ∧ (∀ f, av = .en f → f ∈ endsN m ∧ f ≠ e) ∧ ∃ g, CtxOk g (cutE m av.ends) (fset ty e t') ∧ b'.T Tb D.sg g := by
  cases eo with
  | none =>
    have hav : av = .non := hav
    subst hav
    cases hk : k.ty with
    | some u =>
      rw [hk] at h4
      exact h4.elim
    | none =>
      rw [hk] at h4
      have h4 : g' = g := h4
      subst h4
      refine ⟨?_, fun f z => (by cases z), _, ?_, h5⟩
      · cases k <;> first | trivial | cases hk
      · show CtxOk _ (cutE m []) _
        rw [cutE_nil]
        exact hc.retype nd hl
  | some ex =>
    obtain ⟨u, hk, ha, hv⟩ := hav
    rw [hk] at h4
    obtain ⟨hne, hA⟩ := (show ex ≠ .var x ∧ Args g [ex] [u] g' from h4)
    have ev : EvL m ty [ex] [u] [av] := ⟨⟨ha, hv⟩, trivial⟩
    obtain ⟨a1, a2, a3⟩ := Args.ok hc nd hA ev
    rw [endsA_one] at a2 a3
    have key : ∀ f, av = .en f → f ∈ endsN m ∧ f ≠ e := fun f z => by
      refine ⟨a2 f (mem_ends.mpr z), fun q => ?_⟩
      subst q
      subst z
      cases u with
      | en t =>
        obtain ⟨y, rfl, hy, _⟩ := (show ∃ y, ex = .var y ∧ g y = some (.en t) ∧ Args (g.del y) [] [] g' from hA)
        have := name_one nd ((lookup_mem hc.nd).mp hl) ((lookup_mem hc.nd).mp (hv y rfl))
        cases this
        exact hne rfl
      | int => exact ha
      | bool => exact ha
    refine ⟨VT.of hk ha, key, _, a3.retype (cutE_nd nd) ?_, h5⟩
    refine (lk_filter hc.nd).mpr ⟨hl, ?_⟩
    show (!(av.ends.any fun f => decide (AV.en e = .en f))) = true
    rw [Bool.not_eq_true']
    rw [List.any_eq_false]
    intro f hf z
    have z := of_decide_eq_true z
    cases z
    exact (key e (mem_ends.mp hf)).2 rfl
theorem Sz.post {s : Sta} {B : Nat} (z : Sz s (B + 1)) {f : End} {l : Str} {v : AV} (h : (s.box f).length ≤ B + 10) : Sz (s.post f l v) (B + 1) := by
  refine ⟨z.n, z.na, z.nm, fun e => ?_⟩
  show (fset s.box f (s.box f ++ [(l, v)]) e).length ≤ B + 1 + 10
  by_cases c : e = f
  · rw [c, fset_same, List.length_append]
    show _ + 1 ≤ _
    omega
  · rw [fset_ne c]
    exact z.bx e
def spSSay (K : PySem.W.Frag) (D : Defs) : V → V → V → V → V → Hp → VK → Prop := fun a b c d r H Q => ∃ (Tb : Nat → Talk) (H0 : Hp) (L : Pla) (s : Sta) (loc : End → Nd) (ty : End → Talk) (B i : Nat) (np p rp : Addr) (kvs : List (Key × V)) (x l : Str) (eo : Option Exp) (ev : V) (b' : Blk) (us : List V),
  a = .ref (L .st) ∧ b = .int i ∧ c = .ref p ∧ d = .ref np ∧ r = .ref rp ∧ Pre K D Tb H0 H L s loc ty B i np kvs ∧ s.rest i = .say x l eo b' ∧ H p = some (.tup [.str "say", .str x, .str l, ev, .int 0]) ∧ OptAt H eo ev ∧ H rp = some (.tup us) ∧ BlkAt H b' us ∧ StepPost K D Tb H0 L s B Q
theorem ok_step_say {D : Defs} (T : Top K mg) : FnG P w K mg base 9 (He.ga K "step_say") p_step_say (S5 (spSSay K D)) := by
  refine FnG.of5 T.d_step_say sc_step_say rfl fun cdv A outer s H a b c d r Q E hr h => ?_
  have hu := hu_of hr
  have ok_st_put := fun T => ok_st_put (P := P) (w := w) (K := K) (mg := mg) (base := base) (D := D) T
  have ok_cv_send := fun T => ok_cv_send (P := P) (w := w) (K := K) (mg := mg) (base := base) (D := D) T
  refine ⟨_, (pss_cons (ps_asg (pcall (ok_end_of T) (hr.mono (by omega)) T.g_end_of (pa_cons (pv 3) (pa_cons (pe_ix ix_tup (pv 2) pe_int (fun _ _ => rfl)) pa_nil))) (pg_tup (by rfl) (pgs_cons (pg_name (i := 5) sc_step_say.nd rfl (Or.inl rfl)) (pgs_cons (pg_name (i := 6) sc_step_say.nd rfl (Or.inl rfl)) pgs_nil))))
    (pss_cons (ps_set (i := 7) sc_step_say.nd rfl (Or.inl rfl) pe_non)
    (pss_cons (ps_if (pt_cmpR op_notN (pe_ix ix_tup (pv 2) pe_int (fun _ _ => rfl)) pe_non (nomark _)) (pss_one (ps_set (i := 7) sc_step_say.nd rfl (Or.inl rfl) (pcall (ok_evaluate T) (hr.mono (by omega)) T.g_evaluate (pa_cons (pe_ix ix_tup (pv 2) pe_int (fun _ _ => rfl)) (pa_cons (pv 3) pa_nil))))) pss_nil)
    (pss_cons (ps_expr (pmeth (pv 0) T.c_st T.m_st_put (ok_st_put T) (hr.mono (by omega)) (pa_cons (pv 1) (pa_cons (pcall (ok_without T) (hr.mono (by omega)) T.g_without (pa_cons (pv 3) (pa_cons (pe_lst (pa_cons (pv 7) pa_nil)) pa_nil))) (pa_cons (pv 4) pa_nil)))))
    (pss_cons (ps_set (i := 8) sc_step_say.nd rfl (Or.inl rfl) (pmeth (pe_fld (pv 0) rfl) T.c_cv T.m_cv_send (ok_cv_send T) (hr.mono (by omega)) (pa_cons (pv 5) (pa_cons (pv 6) (pa_cons (pe_ix ix_tup (pv 2) pe_int (fun _ _ => rfl)) (pa_cons (pv 7) pa_nil))))))
    (pss_one (ps_ret (pe_op op_cat (pe_lst (pa_cons (pe_tup (pa_cons pe_str (pa_cons (pv 5) (pa_cons (pv 6) (pa_cons (pe_ix ix_tup (pv 2) pe_int (fun _ _ => rfl)) (pa_cons (pv 7) pa_nil)))))) pa_nil)) (pcall (ok_drops T) (hr.mono (by omega)) T.g_drops (pa_cons (pv 8) pa_nil)))))))))), ?_⟩
  obtain ⟨Tb, H0, L, st, loc, ty, B, i, np, p, rp, kvs, x, x1, eo, ev, b', us, rfl, rfl, rfl, rfl, rfl, X, hrest, hp, he, hrp, hb, q⟩ := h
  obtain ⟨g, hc, hT⟩ := X.I.typ.code i X.run
  rw [hrest] at hT
  obtain ⟨t, rs, k, t', g', t1, t2, t3, t4, t5⟩ := (show ∃ t rs k t' g', g x = some (.en t) ∧ G.head Tb t = .node false rs ∧ rs.find x1 = some (k, t') ∧ PayT g x eo k.ty g' ∧ b'.T Tb D.sg (g'.put x (.en t')) from hT)
  obtain ⟨av0, hl, ha0⟩ := hc.k x _ t1
  cases av0 with
  | en e =>
    have ha0 : ty e = t := ha0
    have nd := (X.I.lin.act i X.run).1
    have he0 : e ∈ endsN (st.nm i) := mem_endsN.mpr ⟨x, (lookup_mem hc.nd).mp hl⟩
    have le := (((X.I.lin.act i X.run).2 e).mp he0).1
    have hi := X.I.lin.rn i X.run
    have hm := X.hm
    refine ⟨_, rfl, _, rfl, p, _, _, _, rfl, rfl, SqT.of hp, atI_nat (j := 1) rfl, np, kvs, _, x, e, rfl, rfl, X.hn, hm, hl, fun tt htt => ?_⟩
    refine ⟨tt, _, rfl, SqT.of upd_same, rfl, _, _, rfl, _, _, rfl, rfl, ?_⟩
    have s1 := Same.new (o := .tup [.int e.1, .int (sdI e.2)]) htt
    have R1 := X.R.same s1
    obtain ⟨dx, hst⟩ := R1.st
    have hp1 := s1 _ _ hp
    refine ⟨_, rfl, p, _, _, _, rfl, rfl, SqT.of hp1, atI_nat (j := 3) rfl, rfl, ?_⟩
    cases eo with
    | none =>
      obtain rfl : ev = .non := he
      refine ⟨_, rfl, ite2 (fun c => absurd c (by simp)) fun _ => ?_⟩
      let v : V := .non
      let av : AV := .non
      have hv : VA (upd H tt (.tup [.int e.1, .int (sdI e.2)])) av v := rfl
      have hav : av = .non := rfl
      refine ⟨_, rfl, _, dx, _, rfl, hst, rfl, _, rfl, _, rfl, _, rfl, le_line (by show 1 ≤ _; decide), fun l hll => ?_⟩
      have s2b := Same.new (o := .lst [v]) hll
      have s2 := s1.trans s2b
      refine ⟨np, l, kvs, _, [v], [av], rfl, rfl, s2 _ _ X.hn, hm.tu (Same.tu s2), hc.nd, ?_, upd_same, ⟨hv.tu (Same.tu s2b), trivial⟩, fun r5 ks H5 s5 hr0 hr5 hN => ?_⟩
      · have := X.z.nm i
        have := X.B40
        omega
      rw [wout_one] at hN
      have s25 := s2.trans s5
      have R5 := X.R.same s25
      obtain ⟨dx5, hst5⟩ := R5.st
      refine ⟨_, rfl, L, st, i, r5, rp, ks, _, us, b', rfl, rfl, rfl, rfl, R5, hi, hr5, hN, s25 _ _ hrp, fun _ => hb.tu (Same.tu s25), fun L' H' R' F' => ?_⟩
      rw [X.run, act_put X.run] at R' F'
      obtain ⟨f1, f2, f3⟩ := say_facts nd hc hl t4 t5 hav
      have z' : Sz (st.put i (cutE (st.nm i) av.ends) b') (B + 1) := X.z.put X.run (by have := cutE_len (st.nm i) av.ends; have := X.z.nm i; omega)
      have hB := z'.bxs (by have := X.B40; omega) (by have := X.z.n; have := X.B40; show st.n ≤ 40; omega)
      have F0 := (Frm.same (L := L) (s := st) (X.s0.trans s25)).trans F'
      obtain ⟨dx6, hst6⟩ := R'.st
      obtain ⟨dx7, hcv6⟩ := R'.cv
      rw [F'.fix.1] at hst6
      have hv6 := hv.tu ((Same.tu (s2b.trans s5)).trans F'.tu)
      have hp6 := F'.tu _ _ (s25 _ _ hp)
      have fl : ∀ f, av = .en f → f.1 < (st.put i (cutE (st.nm i) av.ends) b').n := fun f z => (((X.I.lin.act i X.run).2 f).mp (f2 f z).1).1.1
      have hme : ∀ f, f ∈ endsN (cutE (st.nm i) av.ends) ↔ f ∈ endsN (st.nm i) ∧ av ≠ .en f := fun f => by
        rw [mem_cutE, mem_ends]
      refine ⟨_, rfl, _, _, dx6, _, _, rfl, hst6, T.c_st, T.a_st_conversations, rfl, _, dx7, _, rfl, hcv6, rfl, _, rfl, _, rfl, _, rfl, p, _, _, _, rfl, rfl, SqT.of hp6, atI_nat (j := 2) rfl, _, rfl, L', _, e, x1, av, rfl, rfl, rfl, rfl, hv6, R', le.1, hB, ?_⟩
      by_cases lv : st.live (flip e)
      · obtain ⟨loc2, I2⟩ := X.I.say X.run he0 (by rw [ha0]; exact t2) t3 f1 f2 (cutE_nd nd) hme f3 lv
        refine .inr ⟨lv, fl, (by have := X.z.bx (flip e); have := X.B40; show (st.box (flip e)).length < 1000; omega), fun pf H2 R2 F2 hp0 hpf ho => ?_⟩
        have z2 : Sz ((st.put i (cutE (st.nm i) av.ends) b').post (flip e) x1 av) (B + 1) := z'.post (X.z.bx (flip e))
        have FF := F0.trans F2
        have hpS := F2.tu _ _ hp6
        have hE : EnV H2 [] [] := trivial
        have hlen : ([] : List V).length ≤ 80 := Nat.zero_le _
        refine ⟨_, rfl, _, rfl, _, rfl, p, _, _, _, rfl, rfl, SqT.of hpS, atI_nat (j := 2) rfl, _, rfl, le_line (by show 5 ≤ _; decide), fun a1 ha1 => ⟨le_line (by show 1 ≤ _; decide), fun L1 hL1 => ?_⟩⟩
        have s6 := (Same.new (o := .tup [.str "say", .int e.1, .int (sdI e.2), .str x1, v]) ha1).trans (Same.new (o := .lst [.ref a1]) hL1)
        refine ⟨_, rfl, pf, _, _, rfl, s6 _ _ hpf, hE.tu (Same.tu s6), by omega, fun r ws H3 s3 hr0 hr hlw => ?_⟩
        refine ⟨_, _, _, _, rfl, rfl, s3 _ _ upd_same, hr, le_line (by show 1 + _ ≤ _; omega), fun p5 hp5 => ?_⟩
        have s7 := (s6.trans s3).trans (Same.new (o := .lst ([.ref a1] ++ ws)) hp5)
        exact q _ _ _ _ _ _ (R2.same s7) (FF.trans (Frm.same s7)) I2 z2
      · have I1 := X.I.lost X.run he0 (by rw [ha0]; exact t2) t3 f1 f2 (cutE_nd nd) hme f3 lv
        refine .inl ⟨lv, Tb, loc, _, I1, fun pf us2 fs2 L2 S2 H2 R2 F2 I2 B2 hp0 hpf hE hlen ho => ?_⟩
        have z2 := z'.sb B2
        have FF := F0.trans F2
        have hpS := F2.tu _ _ hp6
        refine ⟨_, rfl, _, rfl, _, rfl, p, _, _, _, rfl, rfl, SqT.of hpS, atI_nat (j := 2) rfl, _, rfl, le_line (by show 5 ≤ _; decide), fun a1 ha1 => ⟨le_line (by show 1 ≤ _; decide), fun L1 hL1 => ?_⟩⟩
        have s6 := (Same.new (o := .tup [.str "say", .int e.1, .int (sdI e.2), .str x1, v]) ha1).trans (Same.new (o := .lst [.ref a1]) hL1)
        refine ⟨_, rfl, pf, _, _, rfl, s6 _ _ hpf, hE.tu (Same.tu s6), by omega, fun r ws H3 s3 hr0 hr hlw => ?_⟩
        refine ⟨_, _, _, _, rfl, rfl, s3 _ _ upd_same, hr, le_line (by show 1 + _ ≤ _; omega), fun p5 hp5 => ?_⟩
        have s7 := (s6.trans s3).trans (Same.new (o := .lst ([.ref a1] ++ ws)) hp5)
        exact q _ _ _ _ _ _ (R2.same s7) (FF.trans (Frm.same s7)) I2 z2
    | some ex =>
      have he : ExpAt H ex ev := he
      have hne : ev ≠ .non := fun z => by
        rw [z] at he
        cases ex with
        | int n => obtain ⟨_, z, _⟩ := he; cases z
        | bool n => obtain ⟨_, z, _⟩ := he; cases z
        | var n => obtain ⟨_, z, _⟩ := he; cases z
        | neg n => obtain ⟨_, _, z, _⟩ := he; cases z
        | bin _ _ _ => obtain ⟨_, _, _, z, _⟩ := he; cases z
      refine ⟨_, rfl, ite2 (fun _ => ?_) fun c => absurd (by simp [hne]) c⟩
      cases hk : k.ty with
      | none =>
        rw [hk] at t4
        exact t4.elim
      | some u =>
        have t40 := t4
        rw [hk] at t40
        obtain ⟨hT1, hT2⟩ := Args.one (show ex ≠ .var x ∧ Args g [ex] [u] g' from t40).2
        refine ⟨_, rfl, p, _, _, _, rfl, rfl, SqT.of hp1, atI_nat (j := 3) rfl, _, rfl, ex, np, kvs, _, g, u, ty, he.tu (Same.tu s1), hT2, rfl, s1 _ _ X.hn, hm.tu (Same.tu s1), hc, hT1, fun v av hv ha hvar _ => ?_⟩
        have hav : ∃ u, k.ty = some u ∧ AT ty av u ∧ ∀ y, ex = .var y → (st.nm i).lookup y = some av := ⟨u, hk, ha, hvar⟩
        refine ⟨_, rfl, _, dx, _, rfl, hst, rfl, _, rfl, _, rfl, _, rfl, le_line (by show 1 ≤ _; decide), fun l hll => ?_⟩
        have s2b := Same.new (o := .lst [v]) hll
        have s2 := s1.trans s2b
        refine ⟨np, l, kvs, _, [v], [av], rfl, rfl, s2 _ _ X.hn, hm.tu (Same.tu s2), hc.nd, ?_, upd_same, ⟨hv.tu (Same.tu s2b), trivial⟩, fun r5 ks H5 s5 hr0 hr5 hN => ?_⟩
        · have := X.z.nm i
          have := X.B40
          omega
        rw [wout_one] at hN
        have s25 := s2.trans s5
        have R5 := X.R.same s25
        obtain ⟨dx5, hst5⟩ := R5.st
        refine ⟨_, rfl, L, st, i, r5, rp, ks, _, us, b', rfl, rfl, rfl, rfl, R5, hi, hr5, hN, s25 _ _ hrp, fun _ => hb.tu (Same.tu s25), fun L' H' R' F' => ?_⟩
        rw [X.run, act_put X.run] at R' F'
        obtain ⟨f1, f2, f3⟩ := say_facts nd hc hl t4 t5 hav
        have z' : Sz (st.put i (cutE (st.nm i) av.ends) b') (B + 1) := X.z.put X.run (by have := cutE_len (st.nm i) av.ends; have := X.z.nm i; omega)
        have hB := z'.bxs (by have := X.B40; omega) (by have := X.z.n; have := X.B40; show st.n ≤ 40; omega)
        have F0 := (Frm.same (L := L) (s := st) (X.s0.trans s25)).trans F'
        obtain ⟨dx6, hst6⟩ := R'.st
        obtain ⟨dx7, hcv6⟩ := R'.cv
        rw [F'.fix.1] at hst6
        have hv6 := hv.tu ((Same.tu (s2b.trans s5)).trans F'.tu)
        have hp6 := F'.tu _ _ (s25 _ _ hp)
        have fl : ∀ f, av = .en f → f.1 < (st.put i (cutE (st.nm i) av.ends) b').n := fun f z => (((X.I.lin.act i X.run).2 f).mp (f2 f z).1).1.1
        have hme : ∀ f, f ∈ endsN (cutE (st.nm i) av.ends) ↔ f ∈ endsN (st.nm i) ∧ av ≠ .en f := fun f => by
          rw [mem_cutE, mem_ends]
        refine ⟨_, rfl, _, _, dx6, _, _, rfl, hst6, T.c_st, T.a_st_conversations, rfl, _, dx7, _, rfl, hcv6, rfl, _, rfl, _, rfl, _, rfl, p, _, _, _, rfl, rfl, SqT.of hp6, atI_nat (j := 2) rfl, _, rfl, L', _, e, x1, av, rfl, rfl, rfl, rfl, hv6, R', le.1, hB, ?_⟩
        by_cases lv : st.live (flip e)
        · obtain ⟨loc2, I2⟩ := X.I.say X.run he0 (by rw [ha0]; exact t2) t3 f1 f2 (cutE_nd nd) hme f3 lv
          refine .inr ⟨lv, fl, (by have := X.z.bx (flip e); have := X.B40; show (st.box (flip e)).length < 1000; omega), fun pf H2 R2 F2 hp0 hpf ho => ?_⟩
          have z2 : Sz ((st.put i (cutE (st.nm i) av.ends) b').post (flip e) x1 av) (B + 1) := z'.post (X.z.bx (flip e))
          have FF := F0.trans F2
          have hpS := F2.tu _ _ hp6
          have hE : EnV H2 [] [] := trivial
          have hlen : ([] : List V).length ≤ 80 := Nat.zero_le _
          refine ⟨_, rfl, _, rfl, _, rfl, p, _, _, _, rfl, rfl, SqT.of hpS, atI_nat (j := 2) rfl, _, rfl, le_line (by show 5 ≤ _; decide), fun a1 ha1 => ⟨le_line (by show 1 ≤ _; decide), fun L1 hL1 => ?_⟩⟩
          have s6 := (Same.new (o := .tup [.str "say", .int e.1, .int (sdI e.2), .str x1, v]) ha1).trans (Same.new (o := .lst [.ref a1]) hL1)
          refine ⟨_, rfl, pf, _, _, rfl, s6 _ _ hpf, hE.tu (Same.tu s6), by omega, fun r ws H3 s3 hr0 hr hlw => ?_⟩
          refine ⟨_, _, _, _, rfl, rfl, s3 _ _ upd_same, hr, le_line (by show 1 + _ ≤ _; omega), fun p5 hp5 => ?_⟩
          have s7 := (s6.trans s3).trans (Same.new (o := .lst ([.ref a1] ++ ws)) hp5)
          exact q _ _ _ _ _ _ (R2.same s7) (FF.trans (Frm.same s7)) I2 z2
        · have I1 := X.I.lost X.run he0 (by rw [ha0]; exact t2) t3 f1 f2 (cutE_nd nd) hme f3 lv
          refine .inl ⟨lv, Tb, loc, _, I1, fun pf us2 fs2 L2 S2 H2 R2 F2 I2 B2 hp0 hpf hE hlen ho => ?_⟩
          have z2 := z'.sb B2
          have FF := F0.trans F2
          have hpS := F2.tu _ _ hp6
          refine ⟨_, rfl, _, rfl, _, rfl, p, _, _, _, rfl, rfl, SqT.of hpS, atI_nat (j := 2) rfl, _, rfl, le_line (by show 5 ≤ _; decide), fun a1 ha1 => ⟨le_line (by show 1 ≤ _; decide), fun L1 hL1 => ?_⟩⟩
          have s6 := (Same.new (o := .tup [.str "say", .int e.1, .int (sdI e.2), .str x1, v]) ha1).trans (Same.new (o := .lst [.ref a1]) hL1)
          refine ⟨_, rfl, pf, _, _, rfl, s6 _ _ hpf, hE.tu (Same.tu s6), by omega, fun r ws H3 s3 hr0 hr hlw => ?_⟩
          refine ⟨_, _, _, _, rfl, rfl, s3 _ _ upd_same, hr, le_line (by show 1 + _ ≤ _; omega), fun p5 hp5 => ?_⟩
          have s7 := (s6.trans s3).trans (Same.new (o := .lst ([.ref a1] ++ ws)) hp5)
          exact q _ _ _ _ _ _ (R2.same s7) (FF.trans (Frm.same s7)) I2 z2
  | _ => exact ha0.elim
end G

/-! part W43 -/
set_option Elab.async false
set_option linter.all false
set_option maxRecDepth 100000
set_option maxHeartbeats 4000000
/-! Step: become. -/
namespace G
open PySem PySem.Spec PyProof.Rows L2
variable {P : Program} {w : World} {K : PySem.W.Frag} {mg : Str → Option Value} {base : Heap}
theorem VasV.snoc {H : Hp} {a : AV} {v : V} (h : VA H a v) : ∀ {as : List AV} {vs : List V}, VasV H as vs → VasV H (as ++ [a]) (vs ++ [v])
  | [], [], _ => ⟨h, trivial⟩
  | a :: as, v :: vs, ⟨x, r⟩ => ⟨x, VasV.snoc h r⟩
  | [], _ :: _, q => q.elim
  | _ :: _, [], q => q.elim
theorem ArgsAt.get {H : Hp} : ∀ {es : List Exp} {vs : List V} {i : Nat} {v : V}, ArgsAt H es vs → vs[i]? = some v → ∃ e, es[i]? = some e ∧ ExpAt H e v
  | [], [], i, v, _, e => by simp at e
  | a :: as, v :: vs, 0, u, h, e => by
    cases e
    exact ⟨a, rfl, h.1⟩
  | a :: as, v :: vs, i + 1, u, h, e => ArgsAt.get (i := i) h.2 e
  | [], _ :: _, _, _, h, _ => h.elim
  | _ :: _, [], _, _, h, _ => h.elim
structure DOk (Tb : Nat → Talk) (D : Defs) : Prop where
  ok : D.Ok Tb
  len : ∀ f ps, D.sg f = some ps → ps.length ≤ 10
theorem noEnds_cut {ty : End → Talk} {g : Ctx} {m : Names} {d : List End} {e : End} (hc : CtxOk g (cutE m d) ty) (h : NoEnds g) (he : e ∈ endsN m) : e ∈ d := by
  refine Classical.byContradiction fun q => ?_
  obtain ⟨x, hx⟩ := mem_endsN.mp (mem_cutE.mpr ⟨he, q⟩)
  obtain ⟨t, ht⟩ := hc.e x e ((lookup_mem hc.nd).mpr hx)
  exact h x t ht
def spSBecome (K : PySem.W.Frag) (D : Defs) : V → V → V → V → Hp → VK → Prop := fun a b c d H Q => ∃ (Tb : Nat → Talk) (H0 : Hp) (L : Pla) (s : Sta) (loc : End → Nd) (ty : End → Talk) (B i : Nat) (np p qq : Addr) (kvs : List (Key × V)) (f : Str) (es : List Exp) (xs : List V),
  a = .ref (L .st) ∧ b = .int i ∧ c = .ref p ∧ d = .ref np ∧ Pre K D Tb H0 H L s loc ty B i np kvs ∧ DOk Tb D ∧ s.rest i = .become f es ∧ H p = some (.tup [.str "become", .str f, .ref qq, .int 0]) ∧ H qq = some (.tup xs) ∧ ArgsAt H es xs ∧ StepPost K D Tb H0 L s B Q
theorem ok_step_become {D : Defs} (T : Top K mg) : FnG P w K mg base 9 (He.ga K "step_become") p_step_become (S4 (spSBecome K D)) := by
  refine FnG.of4 T.d_step_become sc_step_become rfl fun cdv A outer s H a b c d Q E hr h => ?_
  have ok_st_newest := fun T => ok_st_newest (P := P) (w := w) (K := K) (mg := mg) (base := base) (D := D) T
  have ok_st_rename := fun T => ok_st_rename (P := P) (w := w) (K := K) (mg := mg) (base := base) (D := D) T
  refine ⟨_, (pss_cons (ps_set (i := 4) sc_step_become.nd rfl (Or.inl rfl) (pmeth (pv 0) T.c_st T.m_st_newest (ok_st_newest T) (hr.mono (by omega)) (pa_cons (pe_ix ix_tup (pv 2) pe_int (fun _ _ => rfl)) pa_nil)))
    (pss_cons (ps_if (pt_cmpR op_ne (pe_callB call_len_seq (by rfl) T.f_len PySem.boot_len (pa_cons (pe_ix ix_tup (pv 4) pe_int (fun _ _ => rfl)) pa_nil)) (pe_callB call_len_seq (by rfl) T.f_len PySem.boot_len (pa_cons (pe_ix ix_tup (pv 2) pe_int (fun _ _ => rfl)) pa_nil)) (nomark _)) pss_never pss_nil)
    (pss_cons (ps_setLc (i := 5) (own := [("e", 6)]) (g := gName 6) (tt := tYes) rfl sc_step_become.nd rfl rfl (sw_true rfl rfl rfl (by decide +kernel)) (pi_tup (pe_ix ix_tup (pv 2) pe_int (fun _ _ => rfl))) (blkOk_by (own := [("e", 6)]) (N := n_step_become) (sc := defScope s_step_become) (by decide +kernel)) (fun _ _ _ _ _ => (pg_name (i := 6) sc_step_become.nd rfl (Or.inl rfl))) (fun _ _ _ _ _ => pts_nil) (fun _ _ _ _ _ => (pcall (ok_evaluate T) (hr.mono (by omega)) T.g_evaluate (pa_cons (pv 6) (pa_cons (pv 3) pa_nil)))))
    (pss_cons (ps_expr (pmeth (pv 0) T.c_st T.m_st_rename (ok_st_rename T) (hr.mono (by omega)) (pa_cons (pv 1) (pa_cons (pv 4) (pa_cons (pv 5) pa_nil)))))
    (pss_one (ps_ret (pe_lst (pa_cons (pe_tup (pa_cons pe_str (pa_cons (pv 1) (pa_cons (pe_ix ix_tup (pv 2) pe_int (fun _ _ => rfl)) pa_nil)))) pa_nil)))))))), ?_⟩
  obtain ⟨Tb, H0, L, st, loc, ty, B, i, np, p, qq, kvs, f, es, xs, rfl, rfl, rfl, rfl, X, hD, hrest, hp, hq, ha, q⟩ := h
  obtain ⟨g, hc, hT⟩ := X.I.typ.code i X.run
  rw [hrest] at hT
  obtain ⟨ps, g', t1, t2, t3⟩ := (show ∃ ps g', D.sg f = some ps ∧ Args g es (ps.map (·.2)) g' ∧ NoEnds g' from hT)
  have nd := (X.I.lin.act i X.run).1
  have hi := X.I.lin.rn i X.run
  have hm := X.hm
  obtain ⟨dx, hst⟩ := X.R.st
  refine ⟨_, rfl, _, dx, _, rfl, hst, rfl, _, rfl, p, _, _, _, rfl, rfl, SqT.of hp, atI_nat (j := 1) rfl, L, st, f, ps, rfl, rfl, X.R, t1, fun v hd => ?_⟩
  obtain ⟨pd, qd, rd, ws, us, rfl, d1, d2, d3, d4, d5, d6⟩ := id hd
  have l1 := d3.len
  have l2 := ha.len
  have l3 := t2.len
  rw [List.length_map] at l3
  have l10 := hD.len f _ t1
  refine ⟨_, rfl, pd, _, _, _, rfl, rfl, SqT.of d1, atI_nat (j := 1) rfl, _, _, rfl, .inr (SqT.of d2), _, rfl, p, _, _, _, rfl, rfl, SqT.of hp, atI_nat (j := 2) rfl, _, _, rfl, .inr (SqT.of hq), rfl, _, rfl, ite2 (fun c => absurd c ?_) fun _ => ?_⟩
  · rw [show ws.length = xs.length by omega]
    simp
  refine ⟨_, rfl, p, _, _, _, rfl, rfl, SqT.of hp, atI_nat (j := 2) rfl, qq, rfl, ⟨_, SqT.of hq⟩, fun Dl hDl => ?_⟩
  refine lc_tup (K := K) (a := qq) (xs := xs) (fun j H' => Same H H' ∧ ∃ (avs : List AV) (vs : List V), H' Dl = some (.lst vs) ∧ VasV H' avs vs ∧ EvL (st.nm i) ty (es.take j) ((ps.map (·.2)).take j) avs) ⟨Same.new hDl, [], [], upd_same, trivial, trivial⟩ (fun j H' _ h => SqT.of (h.1 _ _ hq)) ?_ ?_
  · rintro j v H' hv ⟨s1, avs, vs, u1, u2, u3⟩
    obtain ⟨ex, hex, hev⟩ := ha.get hv
    have lj := (List.getElem?_eq_some_iff.mp hv).1
    obtain ⟨u, hu'⟩ : ∃ u, (ps.map (·.2))[j]? = some u := ⟨_, List.getElem?_eq_getElem (by rw [List.length_map]; omega)⟩
    obtain ⟨h1, h2⟩ := Args.at_ t2 hex hu'
    refine ⟨rfl, _, rfl, _, rfl, ex, np, kvs, _, g, u, ty, hev.tu (Same.tu s1), h2, rfl, s1 _ _ X.hn, hm.tu (Same.tu s1), hc, h1, fun w av hw hat hvar _ => ?_⟩
    have lv := u2.len
    have le := u3.ats.len
    rw [List.length_take, List.length_map] at le
    have tu : Tu H' (upd H' Dl (.lst (vs ++ [w]))) := Tu.at_ u1 (by intro xs z; cases z)
    refine ⟨vs, u1, lt_line (by omega), Same.put s1 hDl, avs ++ [av], vs ++ [w], upd_same, VasV.snoc (hw.tu tu) (u2.tu tu), ?_⟩
    rw [take_some hex, take_some hu']
    exact EvL.snoc ⟨hat, hvar⟩ u3
  rintro H1 ⟨s1, avs, vs, u1, u2, u3⟩
  rw [List.take_of_length_le (by omega), List.take_of_length_le (by rw [List.length_map]; omega)] at u3
  have lav := u3.ats.len
  rw [List.length_map] at lav
  have lvs := u2.len
  obtain ⟨a1, a2, a3⟩ := Args.ok hc nd t2 u3
  have R1 := X.R.same s1
  obtain ⟨dx1, hst1⟩ := R1.st
  have ndp := hD.ok.nd f ps t1
  refine ⟨_, rfl, _, dx1, _, rfl, hst1, rfl, _, rfl, _, rfl, _, rfl, L, st, i, f, ps, D.bd f, Dl, vs, avs, rfl, rfl, rfl, R1, hi, hd.tu (Same.tu s1), u1, X.R.out hDl, u2, lav, ndp, l10, fun L' H2 R' F' => ?_⟩
  rw [X.run, act_put X.run] at R' F'
  have F0 := (Frm.same (L := L) (s := st) (X.s0.trans s1)).trans F'
  have hp2 := F'.tu _ _ (s1 _ _ hp)
  have e1 : endsN (bndN ps avs) = endsA avs := endsN_zip (by rw [List.length_map]; exact lav)
  have I' := X.I.put (i := i) (m := bndN ps avs) (b := D.bd f) (d := []) X.run List.nodup_nil (fun e he => by cases he) (by rw [e1]; exact a1) (fun e => by
    rw [e1]
    exact ⟨fun h => ⟨a2 e h, by simp⟩, fun h => noEnds_cut a3 t3 h.1⟩) ⟨_, CtxOk.bnd u3.ats ndp, hD.ok.body f ps t1⟩
  have z' : Sz (st.put i (bndN ps avs) (D.bd f)) (B + 1) := X.z.put X.run (by unfold bndN; rw [List.length_zip, List.length_map]; omega)
  refine ⟨_, rfl, _, rfl, p, _, _, _, rfl, rfl, SqT.of hp2, atI_nat (j := 1) rfl, le_line (by show 3 ≤ _; decide), fun a1 ha1 => ⟨le_line (by show 1 ≤ _; decide), fun L1 hL1 => ?_⟩⟩
  have s6 := (Same.new (o := .tup [.str "become", .int i, .str f]) ha1).trans (Same.new (o := .lst [.ref a1]) hL1)
  exact q _ L' _ loc ty _ (R'.same s6) (F0.trans (Frm.same s6)) I' z'
end G

/-! part W44 -/
set_option Elab.async false
set_option linter.all false
set_option maxRecDepth 100000
set_option maxHeartbeats 4000000
/-! Step: open. -/
namespace G
open PySem PySem.Spec PyProof.Rows L2
variable {P : Program} {w : World} {K : PySem.W.Frag} {mg : Str → Option Value} {base : Heap}
theorem Sz.open_ {s : Sta} {B : Nat} (z : Sz s B) {i : Nat} {m m2 : Names} {b b2 : Blk} (h : m.length ≤ B + 11) (h2 : m2.length ≤ B + 11) : Sz (s.open_ i m b m2 b2) (B + 1) := by
  refine ⟨Nat.succ_le_succ z.n, Nat.succ_le_succ z.na, fun j => ?_, fun e => ?_⟩
  · show (fset (fset s.nm s.na m2) i m j).length ≤ B + 1 + 10
    by_cases c : j = i
    · rw [c, fset_same]
      omega
    · rw [fset_ne c]
      by_cases c2 : j = s.na
      · rw [c2, fset_same]
        omega
      · rw [fset_ne c2]
        have := z.nm j
        omega
  · show (if e.1 = s.n then [] else s.box e).length ≤ B + 1 + 10
    split
    · exact Nat.zero_le _
    · exact Nat.le_succ_of_le (z.bx e)
/-- what an open leaves -/
theorem open_facts {Tb : Nat → Talk} {D : Defs} {s : Sta} {loc : End → Nd} {ty : End → Talk} {i : Nat} {c x f : Str} {t : Talk} {ps : List (Str × Ty)} {es : List Exp} {avs : List AV} {g g' : Ctx} {b' : Blk} (I : G.Inv Tb D s [] loc ty) (hi : s.run i = true) (hc : CtxOk g (s.nm i) ty) (hD : D.Ok Tb)
    (t1 : D.sg f = some ((c, .en t) :: ps)) (t2 : Args g es (ps.map (·.2)) g') (t3 : g x = none) (t4 : b'.T Tb D.sg (g'.put x (.en t.dual))) (u3 : EvL (s.nm i) ty es (ps.map (·.2)) avs) :
    ∃ loc', G.Inv Tb D (s.open_ i (cutE (s.nm i) (endsA avs) ++ [(x, .en (s.n, false))]) b' (bndN ((c, .en t) :: ps) (.en (s.n, true) :: avs)) (D.bd f)) [] loc' (oty ty s.n t) := by
  have nd := (I.lin.act i hi).1
  obtain ⟨a1, a2, a3⟩ := Args.ok hc nd t2 u3
  have lv : ∀ e ∈ endsN (s.nm i), e.1 < s.n := fun e he => (((I.lin.act i hi).2 e).mp he).1.1
  have lva : ∀ e ∈ endsA avs, e.1 < s.n := fun e he => lv e (a2 e he)
  have ndp := hD.nd f _ t1
  have lav := u3.ats.len
  rw [List.length_map] at lav
  have e1 : endsN (bndN ((c, .en t) :: ps) (.en (s.n, true) :: avs)) = (s.n, true) :: endsA avs := endsN_zip (by rw [List.length_map, List.length_cons, List.length_cons, lav])
  have e2 : endsN (cutE (s.nm i) (endsA avs) ++ [(x, .en (s.n, false))]) = endsN (cutE (s.nm i) (endsA avs)) ++ [(s.n, false)] := endsN_app _ _
  have oto : ∀ e : End, e.1 < s.n → oty ty s.n t e = ty e := fun e h => if_neg (Nat.ne_of_lt h)
  refine I.opens hi a1 a2 ?_ ?_ ?_ ?_ ⟨g'.put x (.en t.dual), ?_, t4⟩ ⟨fun y => ((c, .en t) :: ps).lookup y, ?_, hD.body f _ t1⟩
  · rw [e2]
    refine List.nodup_append.mpr ⟨cutE_nd nd, by simp, fun a ha b hb z => ?_⟩
    rw [List.mem_singleton.mp hb] at z
    have := lv a (mem_cutE.mp ha).1
    rw [z] at this
    exact Nat.lt_irrefl _ this
  · intro e
    rw [e2, List.mem_append, mem_cutE, List.mem_singleton]
  · rw [e1]
    exact List.nodup_cons.mpr ⟨fun z => Nat.lt_irrefl _ (lva _ z), a1⟩
  · intro e
    rw [e1, List.mem_cons]
    exact Or.comm
  · refine CtxOk.put (a3.congr fun e he => oto e (lv e (mem_cutE.mp he).1)) (t2.sub t3) ?_
    show oty ty s.n t (s.n, false) = t.dual
    unfold oty
    rw [if_pos rfl, if_neg (by simp)]
  · refine CtxOk.bnd (ps := (c, .en t) :: ps) ⟨?_, u3.ats.congr fun e he => oto e (lva e he)⟩ ndp
    show oty ty s.n t (s.n, true) = t
    unfold oty
    rw [if_pos rfl, if_pos rfl]
def spSOpen (K : PySem.W.Frag) (D : Defs) : V → V → V → V → V → Hp → VK → Prop := fun a b c d r H Q => ∃ (Tb : Nat → Talk) (H0 : Hp) (L : Pla) (s : Sta) (loc : End → Nd) (ty : End → Talk) (B i : Nat) (np p rp qq : Addr) (kvs : List (Key × V)) (x f : Str) (es : List Exp) (xs : List V) (b' : Blk) (us : List V),
  a = .ref (L .st) ∧ b = .int i ∧ c = .ref p ∧ d = .ref np ∧ r = .ref rp ∧ Pre K D Tb H0 H L s loc ty B i np kvs ∧ DOk Tb D ∧ s.rest i = .open_ x f es b' ∧ H p = some (.tup [.str "open", .str x, .str f, .ref qq, .int 0]) ∧ H qq = some (.tup xs) ∧ ArgsAt H es xs ∧ H rp = some (.tup us) ∧ BlkAt H b' us ∧ StepPost K D Tb H0 L s B Q
theorem ok_step_open {D : Defs} (T : Top K mg) : FnG P w K mg base 9 (He.ga K "step_open") p_step_open (S5 (spSOpen K D)) := by
  refine FnG.of5 T.d_step_open sc_step_open rfl fun cdv A outer s H a b c d r Q E hr h => ?_
  have hu := hu_of hr
  have ok_st_newest := fun T => ok_st_newest (P := P) (w := w) (K := K) (mg := mg) (base := base) (D := D) T
  have ok_cv_create := fun T => ok_cv_create (P := P) (w := w) (K := K) (mg := mg) (base := base) (D := D) T
  have ok_st_start := fun T => ok_st_start (P := P) (w := w) (K := K) (mg := mg) (base := base) (D := D) T
  have ok_st_put := fun T => ok_st_put (P := P) (w := w) (K := K) (mg := mg) (base := base) (D := D) T
  refine ⟨_, (pss_cons (ps_set (i := 5) sc_step_open.nd rfl (Or.inl rfl) (pmeth (pv 0) T.c_st T.m_st_newest (ok_st_newest T) (hr.mono (by omega)) (pa_cons (pe_ix ix_tup (pv 2) pe_int (fun _ _ => rfl)) pa_nil)))
    (pss_cons (ps_if (pt_cmpR op_ne (pe_callB call_len_seq (by rfl) T.f_len PySem.boot_len (pa_cons (pe_ix ix_tup (pv 5) pe_int (fun _ _ => rfl)) pa_nil)) (pe_op op_add (pe_callB call_len_seq (by rfl) T.f_len PySem.boot_len (pa_cons (pe_ix ix_tup (pv 2) pe_int (fun _ _ => rfl)) pa_nil)) pe_int) (nomark _)) pss_never pss_nil)
    (pss_cons (ps_setLc (i := 6) (own := [("e", 7)]) (g := gName 7) (tt := tYes) rfl sc_step_open.nd rfl rfl (sw_true rfl rfl rfl (by decide +kernel)) (pi_tup (pe_ix ix_tup (pv 2) pe_int (fun _ _ => rfl))) (blkOk_by (own := [("e", 7)]) (N := n_step_open) (sc := defScope s_step_open) (by decide +kernel)) (fun _ _ _ _ _ => (pg_name (i := 7) sc_step_open.nd rfl (Or.inl rfl))) (fun _ _ _ _ _ => pts_nil) (fun _ _ _ _ _ => (pcall (ok_evaluate T) (hr.mono (by omega)) T.g_evaluate (pa_cons (pv 7) (pa_cons (pv 3) pa_nil)))))
    (pss_cons (ps_set (i := 8) sc_step_open.nd rfl (Or.inl rfl) (pmeth0 (pe_fld (pv 0) rfl) T.c_cv T.m_cv_create (ok_cv_create T) (hr.mono (by omega))))
    (pss_cons (ps_set (i := 9) sc_step_open.nd rfl (Or.inl rfl) (pmeth (pv 0) T.c_st T.m_st_start (ok_st_start T) (hr.mono (by omega)) (pa_cons (pv 5) (pa_cons (pe_op op_cat (pe_lst (pa_cons (pe_tup (pa_cons pe_str (pa_cons (pv 8) (pa_cons pe_int pa_nil)))) pa_nil)) (pv 6)) pa_nil))))
    (pss_cons (ps_set (i := 3) sc_step_open.nd rfl (Or.inr rfl) (pcall (ok_without T) (hr.mono (by omega)) T.g_without (pa_cons (pv 3) (pa_cons (pv 6) pa_nil))))
    (pss_cons (ps_dput hu (pv 3) (pe_ix ix_tup (pv 2) pe_int (fun _ _ => rfl)) (pe_tup (pa_cons pe_str (pa_cons (pv 8) (pa_cons pe_int pa_nil)))) rfl)
    (pss_cons (ps_expr (pmeth (pv 0) T.c_st T.m_st_put (ok_st_put T) (hr.mono (by omega)) (pa_cons (pv 1) (pa_cons (pv 3) (pa_cons (pv 4) pa_nil)))))
    (pss_one (ps_ret (pe_lst (pa_cons (pe_tup (pa_cons pe_str (pa_cons (pv 1) (pa_cons (pv 9) (pa_cons (pv 8) (pa_cons (pe_ix ix_tup (pe_ix ix_tup (pe_ix ix_tup (pv 5) pe_int (fun _ _ => rfl)) pe_int (fun _ _ => rfl)) pe_int (fun _ _ => rfl)) pa_nil)))))) pa_nil)))))))))))), ?_⟩
  obtain ⟨Tb, H0, L, st, loc, ty, B, i, np, p, rp, qq, kvs, x, f, es, xs, b', us0, rfl, rfl, rfl, rfl, rfl, X, hD, hrest, hp, hq, ha, hrp, hb, q⟩ := h
  obtain ⟨g, hc, hT⟩ := X.I.typ.code i X.run
  rw [hrest] at hT
  obtain ⟨cn, t, ps, g', t1, t2, t3, t4⟩ := (show ∃ c t ps g', D.sg f = some ((c, .en t) :: ps) ∧ Args g es (ps.map (·.2)) g' ∧ g x = none ∧ b'.T Tb D.sg (g'.put x (.en t.dual)) from hT)
  have nd := (X.I.lin.act i X.run).1
  have hi := X.I.lin.rn i X.run
  have hm := X.hm
  have B40 := X.B40
  obtain ⟨dx, hst⟩ := X.R.st
  refine ⟨_, rfl, _, dx, _, rfl, hst, rfl, _, rfl, p, _, _, _, rfl, rfl, SqT.of hp, atI_nat (j := 2) rfl, L, st, f, _, rfl, rfl, X.R, t1, fun v hd => ?_⟩
  obtain ⟨pd, qd, rd, ws, us, rfl, d1, d2, d3, d4, d5, d6⟩ := id hd
  have l1 := d3.len
  have l2 := ha.len
  have l3 := t2.len
  rw [List.length_map] at l3
  have l10 := hD.len f _ t1
  have l1 : ws.length = ps.length + 1 := l1
  have l10 : ps.length + 1 ≤ 10 := l10
  refine ⟨_, rfl, pd, _, _, _, rfl, rfl, SqT.of d1, atI_nat (j := 1) rfl, _, _, rfl, .inr (SqT.of d2), _, rfl, p, _, _, _, rfl, rfl, SqT.of hp, atI_nat (j := 3) rfl, _, _, rfl, .inr (SqT.of hq), _, _, rfl, rfl, rfl, _, rfl, ite2 (fun c => absurd c ?_) fun _ => ?_⟩
  · rw [show ws.length = xs.length + 1 by omega]
    simp
  refine ⟨_, rfl, p, _, _, _, rfl, rfl, SqT.of hp, atI_nat (j := 3) rfl, qq, rfl, ⟨_, SqT.of hq⟩, fun Dl hDl => ?_⟩
  refine lc_tup (K := K) (a := qq) (xs := xs) (fun j H' => Same H H' ∧ ∃ (avs : List AV) (vs : List V), H' Dl = some (.lst vs) ∧ VasV H' avs vs ∧ EvL (st.nm i) ty (es.take j) ((ps.map (·.2)).take j) avs) ⟨Same.new hDl, [], [], upd_same, trivial, trivial⟩ (fun j H' _ h => SqT.of (h.1 _ _ hq)) ?_ ?_
  · rintro j v H' hv ⟨s1, avs, vs, u1, u2, u3⟩
    obtain ⟨ex, hex, hev⟩ := ha.get hv
    have lj := (List.getElem?_eq_some_iff.mp hv).1
    obtain ⟨u, hu'⟩ : ∃ u, (ps.map (·.2))[j]? = some u := ⟨_, List.getElem?_eq_getElem (by rw [List.length_map]; omega)⟩
    obtain ⟨h1, h2⟩ := Args.at_ t2 hex hu'
    refine ⟨rfl, _, rfl, _, rfl, ex, np, kvs, _, g, u, ty, hev.tu (Same.tu s1), h2, rfl, s1 _ _ X.hn, hm.tu (Same.tu s1), hc, h1, fun w av hw hat hvar _ => ?_⟩
    have lv := u2.len
    have le := u3.ats.len
    rw [List.length_take, List.length_map] at le
    have tu : Tu H' (upd H' Dl (.lst (vs ++ [w]))) := Tu.at_ u1 (by intro xs z; cases z)
    refine ⟨vs, u1, lt_line (by omega), Same.put s1 hDl, avs ++ [av], vs ++ [w], upd_same, VasV.snoc (hw.tu tu) (u2.tu tu), ?_⟩
    rw [take_some hex, take_some hu']
    exact EvL.snoc ⟨hat, hvar⟩ u3
  rintro H1 ⟨s1, avs, vs, u1, u2, u3⟩
  rw [List.take_of_length_le (by omega), List.take_of_length_le (by rw [List.length_map]; omega)] at u3
  have lav := u3.ats.len
  rw [List.length_map] at lav
  have lvs := u2.len
  obtain ⟨a1, a2, a3⟩ := Args.ok hc nd t2 u3
  have R1 := X.R.same s1
  have oDl : Out L st Dl := X.R.out hDl
  obtain ⟨dx1, hst1⟩ := R1.st
  obtain ⟨dxc, hcv1⟩ := R1.cv
  have ndp := hD.ok.nd f _ t1
  refine ⟨_, rfl, _, _, dx1, _, _, rfl, hst1, T.c_st, T.a_st_conversations, rfl, _, dxc, _, rfl, hcv1, rfl, L, st, rfl, R1, (by have := X.z.n; omega), fun L2 H2 R2 F2 => ?_⟩
  have u1' := F2.keep _ _ u1 oDl
  have hn2 := F2.keep _ _ (s1 _ _ X.hn) X.out
  have oD2 := F2.out u1 oDl
  have on2 := F2.out (s1 _ _ X.hn) X.out
  obtain ⟨dx2, hst2⟩ := R2.st
  rw [F2.fix.1] at hst2
  have hE1 : ∀ a1 : Addr, H2 a1 = none → ∀ L1 : Addr, (upd H2 a1 (.tup [.str "end", .int st.n, .int 1])) L1 = none → True := fun _ _ _ _ => trivial
  refine ⟨_, rfl, _, dx2, _, rfl, hst2, rfl, _, rfl, _, rfl, le_line (by show 3 ≤ _; decide), fun e1 he1 => ⟨le_line (by show 1 ≤ _; decide), fun L1 hL1 => ?_⟩⟩
  have s3 := (Same.new (o := .tup [.str "end", .int st.n, .int 1]) he1).trans (Same.new (o := .lst [.ref e1]) hL1)
  refine ⟨_, rfl, L1, Dl, _, _, rfl, rfl, upd_same, s3 _ _ u1', le_line (by show 1 + _ ≤ _; omega), fun pv hpv => ?_⟩
  have s4 := s3.trans (Same.new (o := .lst ([.ref e1] ++ vs)) hpv)
  have t24 : Tu H _ := (Same.tu s1).trans (F2.tu.trans (Same.tu s4))
  have t14 : Tu H1 _ := F2.tu.trans (Same.tu s4)
  have he1' : (upd (upd (upd H2 e1 (.tup [.str "end", .int st.n, .int 1])) L1 (.lst [.ref e1])) pv (.lst ([.ref e1] ++ vs))) e1 = some (.tup [.str "end", .int st.n, .int 1]) := ((Same.new hL1).trans (Same.new hpv)) _ _ upd_same
  refine ⟨L2, st.conv, f, (cn, .en t) :: ps, D.bd f, pv, _, .en (st.n, true) :: avs, by rw [F2.fix.1], rfl, R2.same s4, (by have := X.z.na; show st.na < 1000; omega), hd.tu t24, upd_same, ⟨⟨e1, rfl, he1'⟩, u2.tu t14⟩, (by rw [List.length_cons, List.length_cons, lav]), ndp, l10, fun L4 H4 R4 F4 => ?_⟩
  have FA := (F2.trans (Frm.same s4)).trans F4
  have hn4 := FA.keep _ _ (s1 _ _ X.hn) X.out
  have hD4 := FA.keep _ _ u1 oDl
  have t4A : Tu H H4 := (Same.tu s1).trans FA.tu
  refine ⟨_, rfl, _, rfl, np, Dl, kvs, _, vs, avs, rfl, rfl, hn4, hm.tu t4A, hc.nd, ?_, hD4, u2.tu FA.tu, fun r5 ks H5 s5 hr0 hr5 hN => ?_⟩
  · have := X.z.nm i
    omega
  rw [wout_cut] at hN
  refine ⟨_, rfl, le_line (by show 3 ≤ _; decide), fun e2 he2 => ?_⟩
  have s6 := s5.trans (Same.new (o := .tup [.str "end", .int st.n, .int 0]) he2)
  have hr6 : (upd H5 e2 (.tup [.str "end", .int st.n, .int 0])) r5 = some (.dK ks) := (Same.new he2) _ _ hr5
  have t6 := t4A.trans (Same.tu s6)
  have hN6 := hN.tu (Tu.new (o := .tup [.str "end", .int st.n, .int 0]) he2)
  have lk := hN.len
  have lc := cutE_len (st.nm i) (endsA avs)
  have ln := X.z.nm i
  have hnone : valV ks (.inr x) = none := hN.none (a3.d x (t2.sub t3))
  refine ⟨_, rfl, _, rfl, p, _, _, _, rfl, rfl, SqT.of (t6 _ _ hp), atI_nat (j := 1) rfl, r5, _, rfl, DPut.k (k := .inr x) hr6 (lt_line (by omega)), ?_⟩
  rw [putK_new _ hnone]
  have t7 : Tu _ (upd (upd H5 e2 (.tup [.str "end", .int st.n, .int 0])) r5 (.dK (ks ++ [(.inr x, .ref e2)]))) := Tu.at_ hr6 (by intro xs z; cases z)
  have s7 : Same H4 (upd (upd H5 e2 (.tup [.str "end", .int st.n, .int 0])) r5 (.dK (ks ++ [(.inr x, .ref e2)]))) := Same.put s6 hr0
  have R7 := R4.same s7
  obtain ⟨dx7, hst7⟩ := R7.st
  rw [FA.fix.1] at hst7
  have hva : VA (upd (upd H5 e2 (.tup [.str "end", .int st.n, .int 0])) r5 (.dK (ks ++ [(.inr x, .ref e2)]))) (.en (st.n, false)) (.ref e2) := ⟨e2, rfl, t7 _ _ upd_same⟩
  refine ⟨_, rfl, _, dx7, _, rfl, hst7, rfl, _, rfl, _, rfl, _, rfl, L4, _, i, r5, rp, _, cutE (st.nm i) (endsA avs) ++ [(x, .en (st.n, false))], us0, b', by rw [FA.fix.1], rfl, rfl, rfl, R7, Nat.lt_succ_of_lt hi, upd_same, NmV.snoc hva (hN6.tu t7), t7 _ _ (t6 _ _ hrp), fun _ => hb.tu (t6.trans t7), fun L' H' R' F' => ?_⟩
  have er : (st.conv.born (bndN ((cn, .en t) :: ps) (.en (st.n, true) :: avs)) (D.bd f)).run i = true := (fset_ne (Nat.ne_of_lt hi)).trans X.run
  rw [er, act_open X.run] at R' F'
  obtain ⟨loc', I'⟩ := open_facts X.I X.run hc hD.ok t1 t2 t3 t4 u3
  have z' : Sz (st.open_ i (cutE (st.nm i) (endsA avs) ++ [(x, .en (st.n, false))]) b' (bndN ((cn, .en t) :: ps) (.en (st.n, true) :: avs)) (D.bd f)) (B + 1) := X.z.open_ (by rw [List.length_append]; show _ + 1 ≤ _; omega) (by unfold bndN; rw [List.length_zip, List.length_map, List.length_cons, List.length_cons]; omega)
  have F0 := ((Frm.same (L := L) (s := st) (X.s0.trans s1)).trans FA).trans ((Frm.same s7).trans F')
  have t8 := (t6.trans t7).trans F'.tu
  cases ws with
  | nil => exact d3.elim
  | cons w0 ws =>
    obtain ⟨⟨pp, tv, rfl, hpp⟩, _⟩ := d3
    refine ⟨_, rfl, _, rfl, _, rfl, _, rfl, pd, _, _, _, rfl, rfl, SqT.of (t8 _ _ d1), atI_nat (j := 1) rfl, qd, _, _, _, rfl, rfl, SqT.of (t8 _ _ d2), atI_nat (j := 0) rfl, pp, _, _, _, rfl, rfl, SqT.of (t8 _ _ hpp), atI_nat (j := 1) rfl, le_line (by show 5 ≤ _; decide), fun a1 ha1 => ⟨le_line (by show 1 ≤ _; decide), fun L9 hL9 => ?_⟩⟩
    have s9 := (Same.new (o := .tup [.str "open", .int i, .int st.na, .int st.n, tv]) ha1).trans (Same.new (o := .lst [.ref a1]) hL9)
    exact q _ L' _ loc' _ _ (R'.same s9) (F0.trans (Frm.same s9)) I' z'
end G

/-! part W45 -/
set_option Elab.async false
set_option linter.all false
set_option maxRecDepth 100000
set_option maxHeartbeats 4000000
/-! Step: hear. -/
namespace G
open PySem PySem.Spec PyProof.Rows L2
variable {P : Program} {w : World} {K : PySem.W.Frag} {mg : Str → Option Value} {base : Heap}
theorem AT.of {ty : End → Talk} {av : AV} {k : Kd} {u : Ty} (hk : k.ty = some u) (h : VT ty av k) : AT ty av u := by
  cases k with
  | non => cases hk
  | int => cases hk; cases av <;> exact h
  | bool => cases hk; cases av <;> exact h
  | ref d n => cases hk; cases av <;> exact h
/-- what a hear leaves -/
theorem hear_facts {Tb : Nat → Talk} {D : Defs} {s : Sta} {loc : End → Nd} {ty : End → Talk} {i : Nat} {x l : Str} {e : End} {av : AV} {q0 : Names} {g : Ctx} {t : Talk} {rs : Rows} {r : Brs} (I : G.Inv Tb D s [] loc ty) (hi : s.run i = true) (hc : CtxOk g (s.nm i) ty) (hl : (s.nm i).lookup x = some (.en e))
    (hbox : s.box e = (l, av) :: q0) (hte : ty e = t) (hx : g x = some (.en t)) (h2 : G.head Tb t = .node true rs) (hr : r.T Tb D.sg g x rs) :
    ∃ (bx : Option Str) (bb : Blk) (t' : Talk), r.find l = some (bx, bb) ∧ (∀ f, av = .en f → f.1 < s.n) ∧ (match bx with
      | none => ∃ loc', G.Inv Tb D ((s.put i (s.nm i) bb).take e av q0) [] loc' (fset ty e t')
      | some y => (s.nm i).lookup y = none ∧ ∃ loc', G.Inv Tb D ((s.put i (s.nm i ++ [(y, av)]) bb).take e av q0) [] loc' (fset ty e t')) := by
  have nd := (I.lin.act i hi).1
  have he0 : e ∈ endsN (s.nm i) := mem_endsN.mpr ⟨x, (lookup_mem hc.nd).mp hl⟩
  have le := (((I.lin.act i hi).2 e).mp he0).1
  obtain ⟨tt, hQ⟩ := I.typ.q1 e le
  rw [hbox] at hQ
  obtain ⟨rs', k, t', h3, h4, h5, _⟩ := (show ∃ r k u, G.head Tb (ty e) = .node true r ∧ r.find l = some (k, u) ∧ VT ty av k ∧ QT Tb ty u q0 tt from hQ)
  have h6 := h3
  rw [hte, h2] at h6
  cases h6
  have inb : ∀ f, av = .en f → f ∈ endsN (s.box e) := fun f z => by
    rw [hbox, z]
    exact List.mem_cons_self
  have ne : ∀ f, av = .en f → f ≠ e := fun f z q => by
    subst q
    exact I.lin.notbox hi he0 f (inb f z)
  obtain ⟨bx, bb, hf, hm⟩ := Brs.T_find hr h4
  refine ⟨bx, bb, t', hf, fun f z => (((I.lin.box e le.1).2 f).mp (inb f z)).1.1, ?_⟩
  cases bx with
  | none =>
    cases hk : k.ty with
    | some u =>
      rw [hk] at hm
      exact hm.elim
    | none =>
      rw [hk] at hm
      have hav : ∀ f, av ≠ .en f := fun f z => by
        subst z
        cases k with
        | non => exact h5
        | int => cases hk
        | bool => cases hk
        | ref d n => cases hk
      exact I.hear hi he0 h3 hbox h4 nd (fun f => ⟨fun h => .inl h, fun h => h.elim id fun z => absurd z (hav f)⟩) ⟨_, hc.retype nd hl, hm⟩
  | some y =>
    cases hk : k.ty with
    | none =>
      rw [hk] at hm
      exact hm.elim
    | some u =>
      rw [hk] at hm
      obtain ⟨hy, hT⟩ := hm
      have yx : y ≠ x := fun z => by
        rw [z, hx] at hy
        cases hy
      have e1 : endsN (s.nm i ++ [(y, av)]) = endsN (s.nm i) ++ endsN [(y, av)] := endsN_app _ _
      have ha : AT (fset ty e t') av u := (AT.of hk h5).congr fun f z => fset_ne (ne f z)
      refine ⟨hc.d y hy, I.hear hi he0 h3 hbox h4 ?_ (fun f => ?_) ⟨_, (hc.retype nd hl).put (by rw [Ctx.put_ne yx]; exact hy) ha, hT⟩⟩
      · rw [e1]
        refine List.nodup_append.mpr ⟨nd, ?_, fun a ha b hb z => ?_⟩
        · cases av <;> simp [endsN, AV.en?]
        · subst z
          have z := mem_one.mp hb
          exact I.lin.notbox hi ha e (inb a z)
      · rw [e1, List.mem_append, mem_one]
theorem Sz.take {s : Sta} {B : Nat} (z : Sz s B) {e : End} {v : AV} {q : Names} (h : q.length ≤ (s.box e).length) : Sz (s.take e v q) B := by
  refine ⟨z.n, z.na, z.nm, fun f => ?_⟩
  show (fset s.box e q f).length ≤ B + 10
  by_cases c : f = e
  · rw [c, fset_same]
    have := z.bx e
    omega
  · rw [fset_ne c]
    exact z.bx f
theorem Frm.putNew {H0 H : Hp} {L L' : Pla} {s s' : Sta} (F : Frm H0 H L L' s s') {p : Addr} {o : HO} (h : H0 p = none) : Frm H0 (upd H p o) L L' s s' where
  keep := fun b u hb ho => by rw [upd_ne (ne_of_none hb h)]; exact F.keep b u hb ho
  dom := fun b u hb => by rw [upd_ne (ne_of_none hb h)]; exact F.dom b u hb
  new := F.new
  mono := F.mono
  fix := F.fix
  tu := fun b xs hb => by rw [upd_ne (ne_of_none hb h)]; exact F.tu b xs hb
def spSHear (K : PySem.W.Frag) (D : Defs) : V → V → V → V → Hp → VK → Prop := fun a b c d H Q => ∃ (Tb : Nat → Talk) (H0 : Hp) (L : Pla) (s : Sta) (loc : End → Nd) (ty : End → Talk) (B i : Nat) (np p q1 q2 : Addr) (kvs : List (Key × V)) (x : Str) (r : Brs) (bt : Blk) (rs us : List V),
  a = .ref (L .st) ∧ b = .int i ∧ c = .ref p ∧ d = .ref np ∧ Pre K D Tb H0 H L s loc ty B i np kvs ∧ s.rest i = .hear x r bt ∧ H p = some (.tup [.str "hear", .str x, .ref q1, .ref q2, .int 0]) ∧ H q1 = some (.tup rs) ∧ BrsAt H r rs ∧ H q2 = some (.tup us) ∧ BlkAt H bt us ∧ readyB s i = true ∧ StepPost K D Tb H0 L s B Q
theorem ok_step_hear {D : Defs} (T : Top K mg) : FnG P w K mg base 5 (He.ga K "step_hear") p_step_hear (S4 (spSHear K D)) := by
  refine FnG.of4 T.d_step_hear sc_step_hear rfl fun cdv A outer s H a b c d Q E hr h => ?_
  have hu := hu_of hr
  have ok_st_put := fun T => ok_st_put (P := P) (w := w) (K := K) (mg := mg) (base := base) (D := D) T
  have ok_cv_close := fun T => ok_cv_close (P := P) (w := w) (K := K) (mg := mg) (base := base) (D := D) T
  have ok_cv_hear := fun T => ok_cv_hear (P := P) (w := w) (K := K) (mg := mg) (base := base) (D := D) T
  have ok_cv_is_told := fun T => ok_cv_is_told (P := P) (w := w) (K := K) (mg := mg) (base := base) (D := D) T
  refine ⟨_, (pss_cons (ps_asg (pcall (ok_end_of T) (hr.mono (by omega)) T.g_end_of (pa_cons (pv 3) (pa_cons (pe_ix ix_tup (pv 2) pe_int (fun _ _ => rfl)) pa_nil))) (pg_tup (by rfl) (pgs_cons (pg_name (i := 4) sc_step_hear.nd rfl (Or.inl rfl)) (pgs_cons (pg_name (i := 5) sc_step_hear.nd rfl (Or.inl rfl)) pgs_nil))))
    (pss_cons (ps_if (pt_val (pmeth (pe_fld (pv 0) rfl) T.c_cv T.m_cv_is_told (ok_cv_is_told T) (hr.mono (by omega)) (pa_cons (pv 4) (pa_cons (pv 5) pa_nil)))) (pss_cons (ps_expr (pmeth (pv 0) T.c_st T.m_st_put (ok_st_put T) (hr.mono (by omega)) (pa_cons (pv 1) (pa_cons (pcall (ok_without T) (hr.mono (by omega)) T.g_without (pa_cons (pv 3) (pa_cons (pe_lst (pa_cons (pe_dget hu (pv 3) (pe_ix ix_tup (pv 2) pe_int (fun _ _ => rfl)) (fun _ _ => rfl)) pa_nil)) pa_nil))) (pa_cons (pe_ix ix_tup (pv 2) pe_int (fun _ _ => rfl)) pa_nil)))))
    (pss_one (ps_ret (pe_op op_cat (pe_lst (pa_cons (pe_tup (pa_cons pe_str (pa_cons (pv 4) (pa_cons (pv 5) pa_nil)))) pa_nil)) (pcall (ok_drops T) (hr.mono (by omega)) T.g_drops (pa_cons (pmeth (pe_fld (pv 0) rfl) T.c_cv T.m_cv_close (ok_cv_close T) (hr.mono (by omega)) (pa_cons (pv 4) (pa_cons (pv 5) pa_nil))) pa_nil)))))) pss_nil)
    (pss_cons (ps_asg (pmeth (pe_fld (pv 0) rfl) T.c_cv T.m_cv_hear (ok_cv_hear T) (hr.mono (by omega)) (pa_cons (pv 4) (pa_cons (pv 5) pa_nil))) (pg_tup (by rfl) (pgs_cons (pg_name (i := 6) sc_step_hear.nd rfl (Or.inl rfl)) (pgs_cons (pg_name (i := 7) sc_step_hear.nd rfl (Or.inl rfl)) pgs_nil))))
    (pss_cons (ps_for PassesOwn.never rfl (pi_tup (pe_ix ix_tup (pv 2) pe_int (fun _ _ => rfl))) (pg_tup (by rfl) (pgs_cons (pg_name (i := 8) sc_step_hear.nd rfl (Or.inl rfl)) (pgs_cons (pg_name (i := 9) sc_step_hear.nd rfl (Or.inl rfl)) (pgs_cons (pg_name (i := 10) sc_step_hear.nd rfl (Or.inl rfl)) pgs_nil)))) (pss_one (ps_if (pt_cmpR op_eq (pv 8) (pv 6) (nomark _)) (pss_cons (ps_if (pt_cmpR op_notN (pv 9) pe_non (nomark _)) (pss_one (ps_dput hu (pv 3) (pv 9) (pv 7) rfl)) pss_nil)
    (pss_cons (ps_expr (pmeth (pv 0) T.c_st T.m_st_put (ok_st_put T) (hr.mono (by omega)) (pa_cons (pv 1) (pa_cons (pv 3) (pa_cons (pv 10) pa_nil)))))
    (pss_one (ps_ret (pe_lst (pa_cons (pe_tup (pa_cons pe_str (pa_cons (pv 4) (pa_cons (pv 5) (pa_cons (pv 6) (pa_cons (pv 7) pa_nil)))))) pa_nil)))))) pss_nil)))
    (pss_one ps_never))))), ?_⟩
  obtain ⟨Tb, H0, L, st, loc, ty, B, i, np, p, q1, q2, kvs, x, r, bt, rs, us, rfl, rfl, rfl, rfl, X, hrest, hp, hq1, hrs, hq2, hbt, hrdy, q⟩ := h
  obtain ⟨g, hc, hT⟩ := X.I.typ.code i X.run
  rw [hrest] at hT
  obtain ⟨t, rws, t1, t2, t3, t4⟩ := (show ∃ t rs, g x = some (.en t) ∧ G.head Tb t = .node true rs ∧ r.T Tb D.sg g x rs ∧ bt.T Tb D.sg (g.del x) from hT)
  obtain ⟨av0, hl, ha0⟩ := hc.k x _ t1
  cases av0 with
  | en e =>
    have ha0 : ty e = t := ha0
    have hi := X.I.lin.rn i X.run
    have hm := X.hm
    have B40 := X.B40
    have he0 : e ∈ endsN (st.nm i) := mem_endsN.mpr ⟨x, (lookup_mem hc.nd).mp hl⟩
    have le : st.live e := (((X.I.lin.act i X.run).2 e).mp he0).1
    refine ⟨_, rfl, _, rfl, p, _, _, _, rfl, rfl, SqT.of hp, atI_nat (j := 1) rfl, np, kvs, _, x, e, rfl, rfl, X.hn, hm, hl, fun tt htt => ?_⟩
    refine ⟨tt, _, rfl, SqT.of upd_same, rfl, _, _, rfl, _, _, rfl, rfl, ?_⟩
    have s1 := Same.new (o := .tup [.int e.1, .int (sdI e.2)]) htt
    have hm1 := hm.tu (Same.tu s1)
    have R1 := X.R.same s1
    obtain ⟨dx, hst⟩ := R1.st
    obtain ⟨dxc, hcv⟩ := R1.cv
    refine ⟨_, rfl, _, _, dx, _, _, rfl, hst, T.c_st, T.a_st_conversations, rfl, _, dxc, _, rfl, hcv, rfl, _, rfl, _, rfl, L, st, e, rfl, rfl, rfl, R1, le.1, _, rfl, ite2 (fun c => ?_) fun c => ?_⟩
    · obtain ⟨v, hv, hva⟩ := hm1.get hl
      have hg : DGet (upd H tt (.tup [.int e.1, .int (sdI e.2)])) np (.str x) (some v) := by
        rw [← hv]
        exact DGet.k (k := .inr x) (s1 _ _ X.hn)
      refine ⟨_, rfl, _, dx, _, rfl, hst, rfl, _, rfl, _, rfl, _, rfl, _, rfl, p, _, _, _, rfl, rfl, SqT.of (s1 _ _ hp), atI_nat (j := 1) rfl, np, v, rfl, hg, le_line (by show 1 ≤ _; decide), fun l hll => ?_⟩
      have s2 := s1.trans (Same.new (o := .lst [v]) hll)
      refine ⟨np, l, kvs, _, [v], [.en e], rfl, rfl, s2 _ _ X.hn, hm.tu (Same.tu s2), hc.nd, ?_, upd_same, ⟨hva.tu (Tu.new hll), trivial⟩, fun r5 ks H5 s5 hr0 hr5 hN => ?_⟩
      · have := X.z.nm i
        omega
      rw [wout_cut] at hN
      have s25 := s2.trans s5
      have R5 := X.R.same s25
      obtain ⟨dx5, hst5⟩ := R5.st
      refine ⟨_, rfl, p, _, _, _, rfl, rfl, SqT.of (s25 _ _ hp), atI_nat (j := 3) rfl, L, st, i, r5, q2, ks, _, us, bt, rfl, rfl, rfl, rfl, R5, hi, hr5, hN, s25 _ _ hq2, fun _ => hbt.tu (Same.tu s25), fun L' H' R' F' => ?_⟩
      rw [X.run, act_put X.run] at R' F'
      have I' := letgo X.I X.run hc hl t4
      have z' : Sz (st.put i (cutE (st.nm i) [e]) bt) (B + 1) := X.z.put X.run (by have := cutE_len (st.nm i) [e]; have := X.z.nm i; omega)
      have hB := z'.bxs (by omega) (by have := X.z.n; show st.n ≤ 40; omega)
      have F0 := (Frm.same (L := L) (s := st) (X.s0.trans s25)).trans F'
      refine ⟨_, rfl, _, rfl, le_line (by show 3 ≤ _; decide), fun a1 ha1 => ⟨le_line (by show 1 ≤ _; decide), fun L1 hL1 => ?_⟩⟩
      have Ra := R'.same (Same.new (o := .tup [.str "told", .int e.1, .int (sdI e.2)]) ha1)
      have s6 := (Same.new (o := .tup [.str "told", .int e.1, .int (sdI e.2)]) ha1).trans (Same.new (o := .lst [.ref a1]) hL1)
      have R6 := R'.same s6
      obtain ⟨dx6, hst6⟩ := R6.st
      obtain ⟨dx7, hcv6⟩ := R6.cv
      rw [F'.fix.1] at hst6
      refine ⟨_, rfl, _, _, dx6, _, _, rfl, hst6, T.c_st, T.a_st_conversations, rfl, _, dx7, _, rfl, hcv6, rfl, _, rfl, _, rfl, Tb, L', _, e, loc, ty, rfl, rfl, rfl, R6, I', hB, fun p us fs L2 s2 H2 R2 F2 I2 B2 hp0 hp hE hl ho => ?_⟩
      refine ⟨p, us, fs, rfl, hp, hE, by omega, fun r ws H3 s3 hr0 hr hlw => ?_⟩
      have hL3 : H3 L1 = some (.lst [.ref a1]) := s3 _ _ (F2.keep _ _ upd_same (Ra.out hL1))
      refine ⟨_, _, _, _, rfl, rfl, hL3, hr, le_line (by show 1 + _ ≤ _; omega), fun p5 hp5 => ?_⟩
      have s7 := s3.trans (Same.new (o := .lst ([.ref a1] ++ ws)) hp5)
      exact q _ L2 s2 loc ty _ (R2.same s7) ((F0.trans (Frm.same s6)).trans (F2.trans (Frm.same s7))) I2 (z'.sb B2)
    · have hbox' : st.box e ≠ [] := fun z => by
        unfold readyB at hrdy
        rw [hrest] at hrdy
        simp only [hl, z] at hrdy
        have hrdy : decide (st.mark (flip e) = .fallen) = true := hrdy
        exact c (by rw [z, hrdy]; rfl)
      obtain ⟨⟨lab, av⟩, q0, hbox⟩ : ∃ pr q0, st.box e = pr :: q0 := by
        cases h : st.box e with
        | nil => exact absurd h hbox'
        | cons a b => exact ⟨a, b, rfl⟩
      obtain ⟨bx, bb, t', hf, hfn, hI⟩ := hear_facts X.I X.run hc hl hbox ha0 t1 t2 t3
      refine ⟨_, rfl, _, _, dx, _, _, rfl, hst, T.c_st, T.a_st_conversations, rfl, _, dxc, _, rfl, hcv, rfl, _, rfl, _, rfl, L, st, e, lab, av, q0, rfl, rfl, rfl, R1, le.1, hbox, hfn, fun pm wv L2 H2 R2 F2 hpm hwv => ?_⟩
      refine ⟨pm, _, rfl, SqT.of hpm, rfl, _, _, rfl, _, _, rfl, rfl, ?_⟩
      have t2' : Tu H H2 := (Same.tu s1).trans F2.tu
      have hn2 := F2.keep _ _ (s1 _ _ X.hn) X.out
      have on2 := F2.out (s1 _ _ X.hn) X.out
      have hm2 := hm.tu t2'
      refine ⟨_, rfl, p, _, _, _, rfl, rfl, SqT.of (t2' _ _ hp), atI_nat (j := 2) rfl, q1, rfl, ⟨_, SqT.of (t2' _ _ hq1)⟩, for_tup (K := K) (a := q1) (xs := rs) (fun j σ H' => H' = H2 ∧ ∃ (v8 v9 v10 : Option V) (r' : Brs),
        σ = [some (.ref (L .st)), some (.int i), some (.ref p), some (.ref np), some (.int e.1), some (.int (sdI e.2)), some (.str lab), some wv, v8, v9, v10] ∧ BrsAt H2 r' (rs.drop j) ∧ r'.find lab = some (bx, bb)) ⟨rfl, none, none, none, r, rfl, hrs.tu t2', hf⟩ ?_ ?_ ?_⟩
      · rintro j σ H' _ ⟨rfl, _⟩
        exact SqT.of (t2' _ _ hq1)
      · rintro j v σ H' hv ⟨rfl, v8, v9, v10, r', rfl, hB', hfr⟩
        have lj := (List.getElem?_eq_some_iff.mp hv)
        obtain ⟨lj, ej⟩ := lj
        rw [List.drop_eq_getElem_cons lj, ej] at hB'
        cases r' with
        | nil =>
          have hB' : v :: rs.drop (j + 1) = [] := hB'
          cases hB'
        | cons l' bx' b' r'' =>
          obtain ⟨pp, qq, bs, vs', e1, h1, h2, h3, h4⟩ := hB'
          cases e1
          refine ⟨pp, _, rfl, SqT.of h1, rfl, _, _, rfl, _, _, rfl, _, _, rfl, rfl, ?_⟩
          refine ⟨_, rfl, _, rfl, rfl, _, rfl, ite2 (fun c2 => ?_) fun c2 => ?_⟩
          · have c2 : l' = lab := V.str.inj (of_decide_eq_true c2)
            have hfr : (if l' = lab then some (bx', b') else r''.find lab) = some (bx, bb) := hfr
            rw [if_pos c2] at hfr
            cases hfr
            cases bx with
            | none =>
              obtain ⟨loc', I'⟩ := hI
              refine ⟨_, rfl, rfl, _, rfl, ite2 (fun c3 => absurd c3 (by show ¬ (!decide (V.non = V.non)) = true; simp)) fun _ => ?_⟩
              obtain ⟨m', em⟩ : ∃ m', m' = st.nm i := ⟨_, rfl⟩
              rw [← em] at I'
              have hm3 := hm2
              rw [← em] at hm3
              have lm : m'.length ≤ (st.nm i).length + 1 := by rw [em]; exact Nat.le_succ _
              have R3 := R2
              have hn3 := hn2
              have hqq3 := h2
              have hbb3 := h3
              have F3 := (Frm.same (L := L) (s := st) (X.s0.trans s1)).trans F2
              obtain ⟨dx3, hst3⟩ := R3.st
              rw [F2.fix.1] at hst3
              refine ⟨_, rfl, _, dx3, _, rfl, hst3, rfl, _, rfl, _, rfl, _, rfl, L2, _, i, np, qq, _, m', bs, bb, by rw [F2.fix.1], rfl, rfl, rfl, R3, hi, hn3, hm3, hqq3, fun _ => hbb3, fun L' H' R' F' => ?_⟩
              have er : (st.take e av q0).run i = true := X.run
              rw [er, act_put (s := st.take e av q0) X.run] at R' F'
              have z1 : Sz (st.take e av q0) B := X.z.take (by rw [hbox]; exact Nat.le_succ _)
              have z' : Sz ((st.take e av q0).put i m' bb) (B + 1) := z1.put X.run (by have := X.z.nm i; omega)
              have FF := F3.trans F'
              refine ⟨_, rfl, _, rfl, _, rfl, _, rfl, le_line (by show 5 ≤ _; decide), fun a1 ha1 => ⟨le_line (by show 1 ≤ _; decide), fun L9 hL9 => ?_⟩⟩
              have s9 := (Same.new (o := .tup [.str "hear", .int e.1, .int (sdI e.2), .str lab, wv]) ha1).trans (Same.new (o := .lst [.ref a1]) hL9)
              exact q _ L' _ loc' _ _ (R'.same s9) (FF.trans (Frm.same s9)) I' z'
            | some y =>
              obtain ⟨hy, loc', I'⟩ := hI
              refine ⟨_, rfl, rfl, _, rfl, ite2 (fun _ => ?_) fun c3 => absurd (by show (!decide (V.str y = V.non)) = true; simp) c3⟩
              have hnone : valV kvs (.inr y) = none := hm.none hy
              have lk := hm.len
              have ln := X.z.nm i
              refine ⟨_, rfl, _, rfl, _, rfl, np, _, rfl, DPut.k (k := .inr y) hn2 (lt_line (by omega)), ?_⟩
              rw [putK_new _ hnone]
              have t3' : Tu H' (upd H' np (.dK (kvs ++ [(.inr y, wv)]))) := Tu.at_ hn2 (by intro xs z; cases z)
              have R3 := R2.put (o := .dK (kvs ++ [(.inr y, wv)])) on2 hn2 (by intro xs z; cases z)
              have hn3 : upd H' np (.dK (kvs ++ [(.inr y, wv)])) np = _ := upd_same
              obtain ⟨m', em⟩ : ∃ m', m' = st.nm i ++ [(y, av)] := ⟨_, rfl⟩
              rw [← em] at I'
              have hm3 := NmV.snoc (x := y) (hwv.tu t3') (hm2.tu t3')
              rw [← em] at hm3
              have lm : m'.length ≤ (st.nm i).length + 1 := by rw [em, List.length_append]; exact Nat.le_refl _
              have hqq3 := t3' _ _ h2
              have hbb3 := h3.tu t3'
              have F3 := ((Frm.same (L := L) (s := st) (X.s0.trans s1)).trans F2).putNew (o := .dK (kvs ++ [(.inr y, wv)])) X.f0
              obtain ⟨dx3, hst3⟩ := R3.st
              rw [F2.fix.1] at hst3
              refine ⟨_, rfl, _, dx3, _, rfl, hst3, rfl, _, rfl, _, rfl, _, rfl, L2, _, i, np, qq, _, m', bs, bb, by rw [F2.fix.1], rfl, rfl, rfl, R3, hi, hn3, hm3, hqq3, fun _ => hbb3, fun L' H' R' F' => ?_⟩
              have er : (st.take e av q0).run i = true := X.run
              rw [er, act_put (s := st.take e av q0) X.run] at R' F'
              have z1 : Sz (st.take e av q0) B := X.z.take (by rw [hbox]; exact Nat.le_succ _)
              have z' : Sz ((st.take e av q0).put i m' bb) (B + 1) := z1.put X.run (by have := X.z.nm i; omega)
              have FF := F3.trans F'
              refine ⟨_, rfl, _, rfl, _, rfl, _, rfl, le_line (by show 5 ≤ _; decide), fun a1 ha1 => ⟨le_line (by show 1 ≤ _; decide), fun L9 hL9 => ?_⟩⟩
              have s9 := (Same.new (o := .tup [.str "hear", .int e.1, .int (sdI e.2), .str lab, wv]) ha1).trans (Same.new (o := .lst [.ref a1]) hL9)
              exact q _ L' _ loc' _ _ (R'.same s9) (FF.trans (Frm.same s9)) I' z'
          · refine ⟨rfl, _, _, _, r'', rfl, h4, ?_⟩
            have hfr : (if l' = lab then some (bx', b') else r''.find lab) = some (bx, bb) := hfr
            rw [if_neg (fun z => c2 (by rw [z]; exact decide_eq_true rfl))] at hfr
            exact hfr
      · rintro σ H' ⟨rfl, v8, v9, v10, r', rfl, hB', hfr⟩
        rw [List.drop_length] at hB'
        cases r' with
        | nil => cases hfr
        | cons l' bx' b' r'' =>
          obtain ⟨_, _, _, _, e1, _⟩ := hB'
          cases e1
  | _ => exact ha0.elim
end G

/-! part W46 -/
set_option Elab.async false
set_option linter.all false
set_option maxRecDepth 100000
set_option maxHeartbeats 4000000
/-! sorted of ends; ends_of. -/
namespace G
open PySem PySem.Spec PyProof.Rows L2
variable {P : Program} {w : World} {K : PySem.W.Frag} {mg : Str → Option Value} {base : Heap}
def rSortEn (K : PySem.W.Frag) : List V → Hp → VK → Prop := fun xs H Q => ∃ (a : Addr) (es : List End) (vs : List V), xs = [V.ref a] ∧ SqL K H a vs ∧ EnV H es vs ∧ ∀ es' vs' p, es'.Perm es → EnV H es' vs' → H p = none → Q (.ref p) (upd H p (.lst vs'))
theorem each_of {H : Hp} : ∀ {es : List End} {xs : List V} {its : List Value}, EnV H es xs → Vals xs its → PySem.W.EachIs (fun (v : Value) (b : End × V) => RelV b.2 v) its (es.zip xs)
  | [], [], _, _, .nil => .nil
  | e :: es, x :: xs, _, ⟨h, hs⟩, .cons r rs => .cons r (each_of hs rs)
theorem each_reads {X : Cx} {pins : List (Addr × Obj)} {σ : L2.St} {H : Hp} {s : Shared} (I : L2.Inv X pins σ H s) : ∀ {es : List End} {xs : List V} {its : List Value}, EnV H es xs → Vals xs its →
    PySem.W.EachIs (fun (v : Value) (b : End × V) => ∃ as, Reads s.heap v (avD (.en b.1)) as) its (es.zip xs)
  | [], [], _, _, .nil => .nil
  | e :: es, x :: xs, _, ⟨h, hs⟩, .cons r rs => .cons (Dp.reads I (avD (.en e)) x _ (VA.dp (a := .en e) h) r) (each_reads I hs rs)
theorem each_vals : ∀ {ps : List (End × V)} {out : List Value}, PySem.W.EachIs (fun (v : Value) (b : End × V) => RelV b.2 v) out ps → Vals (ps.map Prod.snd) out
  | [], _, .nil => .nil
  | p :: ps, _, .cons r rs => .cons r (each_vals rs)
theorem zip_mem {H : Hp} : ∀ {es : List End} {xs : List V}, EnV H es xs → ∀ b ∈ es.zip xs, VA H (.en b.1) b.2
  | [], [], _, b, hb => by cases hb
  | e :: es, x :: xs, ⟨h, hs⟩, b, hb => by
    rcases List.mem_cons.mp hb with q | q
    · rw [q]
      exact h
    · exact zip_mem hs b q
  | [], _ :: _, h, _, _ => h.elim
  | _ :: _, [], h, _, _ => h.elim
theorem env_of {H : Hp} : ∀ {ps : List (End × V)}, (∀ b ∈ ps, VA H (.en b.1) b.2) → EnV H (ps.map Prod.fst) (ps.map Prod.snd)
  | [], _ => trivial
  | p :: ps, h => ⟨h p List.mem_cons_self, env_of fun b hb => h b (List.mem_cons_of_mem _ hb)⟩
theorem cr_sortedEn {X : Cx} (hu : X.A.units + 64 < cLine) : CallR X (.builtin "sorted") (rSortEn X.K) := by
  intro pins s σ H vs us Q I r h
  obtain ⟨a, es, xs, rfl, hs, hE, q⟩ := h
  obtain ⟨its, rv, hl, hz⟩ := I.list hs
  obtain ⟨u, rfl, ru⟩ := vals1 r
  obtain rfl : u = Value.ref a := ru
  have le := hE.len
  have lz : (es.zip xs).length = xs.length := by
    rw [List.length_zip]
    omega
  refine PySem.W.sorted_data (R := fun (v : Value) (b : End × V) => RelV b.2 v) (enc := fun b : End × V => avD (.en b.1)) (bs := es.zip xs) hl.isList (each_of hE rv) (each_reads I hE rv) (PySem.W.AllAlike.of fun _ _ => by simp [PySem.W.alike, PySem.W.alikeAll, avD]) (PySem.W.Sortable.tuples fun _ => ⟨_, _, rfl⟩) (by rw [lz]; exact hz) (fun b _ => ?_) fun out ho eo => ?_
  · have := dep_av (.en b.1)
    show X.A.units + 2 + (avD (.en b.1)).depth < cLine
    omega
  · have pm := List.mergeSort_perm (es.zip xs) (PySem.W.dataLe false fun b : End × V => avD (.en b.1))
    obtain ⟨ep, he'⟩ := PyProof.Rows.sortedAll_at s.heap its out.toArray
    refine ⟨.ref _, upd H (s.heap.objs.size + 1) (.lst (((es.zip xs).mergeSort (PySem.W.dataLe false fun b : End × V => avD (.en b.1))).map Prod.snd)), I.laid (t' := s.toks) (fun _ _ => PyProof.Rows.sortedAll_old) (Nat.le_succ _) ⟨?_, out, ep, each_vals eo, he'⟩, rfl,
      q (((es.zip xs).mergeSort (PySem.W.dataLe false fun b : End × V => avD (.en b.1))).map Prod.fst) _ _ ?_ (env_of fun b hb => zip_mem hE b (pm.mem_iff.mp hb)) (I.hok.fresh (Nat.le_succ _))⟩
    · rw [List.length_map, pm.length_eq, lz]
      exact hz
    · have := pm.map Prod.fst
      rw [List.map_fst_zip (by omega)] at this
      exact this
def spEndsOf : V → Hp → VK → Prop := fun a H Q => ∃ (np : Addr) (kvs : List (Key × V)) (m : Names), a = .ref np ∧ H np = some (.dK kvs) ∧ NmV H m kvs ∧ (m.map (·.1)).Nodup ∧ m.length ≤ 1000 ∧
  ∀ r vs es' H', Same H H' → H r = none → H' r = some (.lst vs) → EnV H' es' vs → es'.Perm (endsN m) → Q (.ref r) H'
theorem endsN_len (m : Names) : (endsN m).length ≤ m.length := List.length_filterMap_le _ _
theorem ok_ends_of (T : Top K mg) : FnG P w K mg base 2 (He.ga K "ends_of") p_ends_of (S1 spEndsOf) := by
  refine FnG.of1 T.d_ends_of sc_ends_of rfl fun cdv A outer s H a Q E hr h => ?_
  have hu := hu_of hr
  have hud := hr.units
  refine ⟨_, (pss_one (ps_ret (pe_callB (cr_sortedEn (by exact hud)) (by rfl) T.f_sorted PyProof.Rows.boot_sorted (pa_cons (pe_lock (pe_lc (own := [("name", 1)]) (g := gName 1) rfl sc_ends_of.nd (pi_keys (pv 0)) (blkOk_by (own := [("name", 1)]) (N := n_ends_of) (sc := defScope s_ends_of) (by decide +kernel)) (fun _ _ _ _ _ => (pg_name (i := 1) sc_ends_of.nd rfl (Or.inl rfl))) (fun _ _ _ _ _ => pts_one (pt_val (pcall (ok_is_end T) (hr.mono (by omega)) T.g_is_end (pa_cons (pe_dget hu (pv 0) (pv 1) (fun _ _ => rfl)) pa_nil)))) (fun _ _ _ _ _ => (pe_dget hu (pv 0) (pv 1) (fun _ _ => rfl))))) pa_nil)))), ?_⟩
  obtain ⟨np, kvs, m, rfl, hn, hm, nd, hl, q⟩ := h
  have lk := hm.len
  refine ⟨np, _, hn, trivial, fun od => ⟨_, rfl, np, od, rfl, .inl ⟨_, upd_same, fun D hD => ?_⟩⟩⟩
  have nD : D ≠ np := fun z => by
    rw [z, upd_same] at hD
    cases hD
  have hD0 : H D = none := by
    rw [upd_ne nD] at hD
    exact hD
  refine lc_it walk_keys (fun i H' => (∀ b o, b ≠ np → H b = some o → H' b = some o) ∧ H' np = some (.frz od (.dK kvs)) ∧ ∃ vs, H' D = some (.lst vs) ∧ EnV H' (endsN (m.take i)) vs)
    ⟨fun b o h e => by rw [upd_ne (ne_of_none e hD0), upd_ne h]; exact e, by rw [upd_ne nD.symm]; exact upd_same, [], upd_same, trivial⟩ (fun i H' _ h => h.2.1) ?_ ?_
  · rintro i x H2 H3 hi ⟨k1, z1, vs, u1, u2⟩ ⟨rfl, k, v0, hk, rfl⟩
    obtain ⟨xn, av, hx, rfl⟩ := hm.at_ hk
    have tu : Tu H H3 := fun b xs e => k1 b _ (ne_of e hn (by intro z; cases z)) e
    have hlk : m.lookup xn = some av := (lookup_mem nd).mpr (List.mem_of_getElem? hx)
    obtain ⟨v, hv, hva⟩ := (hm.tu tu).get hlk
    have hg : DGet H3 np (.str xn) (some v) := .inl ⟨kvs, .inr xn, .inr ⟨od, z1⟩, rfl, hv.symm⟩
    have ee : endsN (m.take (i + 1)) = endsN (m.take i) ++ endsN [(xn, av)] := by
      rw [take_some hx]
      exact endsN_app _ _
    have lv := u2.len
    have l1 := endsN_len (m.take i)
    have l2 := List.length_take_le i m
    have l3 : (m.take i).length ≤ m.length := by rw [List.length_take]; exact Nat.min_le_right _ _
    refine ⟨rfl, _, rfl, _, rfl, np, v, rfl, hg, av, hva, _, rfl, ?_⟩
    have no : endsN [(xn, av)] = [] → (∀ b o, b ≠ np → H b = some o → H3 b = some o) ∧ H3 np = some (.frz od (.dK kvs)) ∧ ∃ vs, H3 D = some (.lst vs) ∧ EnV H3 (endsN (m.take (i + 1))) vs := fun c => by
      refine ⟨k1, z1, vs, u1, ?_⟩
      rw [ee, c, List.append_nil]
      exact u2
    cases av with
    | en e =>
      refine ite2 (fun _ => ?_) fun c => absurd rfl c
      have t2 : Tu H3 (upd H3 D (.lst (vs ++ [v]))) := Tu.at_ u1 (by intro xs z; cases z)
      refine ⟨_, rfl, _, rfl, np, v, rfl, hg, vs, u1, lt_line (by omega), fun b o h e => ?_, ?_, vs ++ [v], upd_same, ?_⟩
      · rw [upd_ne (ne_of_none e hD0)]
        exact k1 b o h e
      · rw [upd_ne nD.symm]
        exact z1
      · rw [ee]
        exact (u2.tu t2).snoc (VA.tu t2 (a := .en e) hva)
    | non => exact ite2 (fun c => absurd c (by intro z; cases z)) fun _ => no rfl
    | int n => exact ite2 (fun c => absurd c (by intro z; cases z)) fun _ => no rfl
    | bl n => exact ite2 (fun c => absurd c (by intro z; cases z)) fun _ => no rfl
  · rintro H' ⟨k1, z1, vs, u1, u2⟩
    rw [List.take_of_length_le (by omega)] at u2
    have s2 : Same H (upd H' np (.dK kvs)) := fun b o e => by
      by_cases c : b = np
      · rw [c] at e ⊢
        rw [hn] at e
        cases e
        exact upd_same
      · rw [upd_ne c]
        exact k1 b o c e
    have t3 : Tu H' (upd H' np (.dK kvs)) := Tu.at_ z1 (by intro xs z; cases z)
    refine ⟨z1, D, endsN m, vs, rfl, SqL.of (by rw [upd_ne nD]; exact u1), u2.tu t3, fun es' vs' p perm he hp => ?_⟩
    have s3 := Same.new (o := .lst vs') hp
    exact q p vs' es' _ (s2.trans s3) (s2.free hp) upd_same (he.tu (Same.tu s3)) perm
end G

/-! part W47 -/
set_option Elab.async false
set_option linter.all false
set_option maxRecDepth 100000
set_option maxHeartbeats 4000000
/-! fall. -/
namespace G
open PySem PySem.Spec PyProof.Rows L2
variable {P : Program} {w : World} {K : PySem.W.Frag} {mg : Str → Option Value} {base : Heap}
theorem inV_ints {k : Int} {l : List Nat} : inV (.int k) (intsV l) = true ↔ ∃ i ∈ l, (i : Int) = k := by
  unfold inV intsV
  rw [List.any_map, List.any_eq_true]
  constructor
  · rintro ⟨i, h1, h2⟩
    have h2 : ((i : Int) == k) = true := h2
    exact ⟨i, h1, by simpa using h2⟩
  · rintro ⟨i, h1, h2⟩
    refine ⟨i, h1, ?_⟩
    show ((i : Int) == k) = true
    simpa using h2
theorem flat_ints (l : List Nat) : (intsV l).all flatV = true := by
  unfold intsV
  rw [List.all_map, List.all_eq_true]
  intro i _
  rfl
theorem Sz.stop {s : Sta} {B : Nat} (z : Sz s B) {i : Nat} : Sz (s.stop i) B := by
  refine ⟨z.n, z.na, fun j => ?_, z.bx⟩
  show (fset s.nm i [] j).length ≤ B + 10
  by_cases c : j = i
  · rw [c, fset_same]
    exact Nat.zero_le _
  · rw [fset_ne c]
    exact z.nm j
abbrev FallPost (K : PySem.W.Frag) (D : Defs) (Tb : Nat → Talk) (H : Hp) (L : Pla) (s : Sta) (B : Nat) (Q : VK) : Prop :=
  ∀ v L' s' loc ty H', Rep K D H' L' s' → Frm H H' L L' s s' → Inv Tb D s' [] loc ty → Sz s' B → Q v H'
def spFall (K : PySem.W.Frag) (D : Defs) : V → V → Hp → VK → Prop := fun a b H Q => ∃ (Tb : Nat → Talk) (L : Pla) (s : Sta) (loc : End → Nd) (ty : End → Talk) (B : Nat) (k : Int), a = .ref (L .st) ∧ b = .int k ∧ Rep K D H L s ∧ Inv Tb D s [] loc ty ∧ Sz s B ∧ B ≤ 40 ∧ FallPost K D Tb H L s B Q
theorem ok_fall {D : Defs} (T : Top K mg) : FnG P w K mg base 4 (He.ga K "fall") p_fall (S2 (spFall K D)) := by
  refine FnG.of2 T.d_fall sc_fall rfl fun cdv A outer s H a b Q E hr h => ?_
  have ok_st_running := fun T => ok_st_running (P := P) (w := w) (K := K) (mg := mg) (base := base) (D := D) T
  have ok_st_names := fun T => ok_st_names (P := P) (w := w) (K := K) (mg := mg) (base := base) (D := D) T
  have ok_st_finish := fun T => ok_st_finish (P := P) (w := w) (K := K) (mg := mg) (base := base) (D := D) T
  have ok_cv_drop := fun T => ok_cv_drop (P := P) (w := w) (K := K) (mg := mg) (base := base) (D := D) T
  refine ⟨_, (pss_cons (ps_if (pt_cmpR op_notIn_seq (pv 1) (pmeth0 (pv 0) T.c_st T.m_st_running (ok_st_running T) (hr.mono (by omega))) rfl) (pss_one (ps_ret (pe_lst pa_nil))) pss_nil)
    (pss_cons (ps_set (i := 2) sc_fall.nd rfl (Or.inl rfl) (pcall (ok_ends_of T) (hr.mono (by omega)) T.g_ends_of (pa_cons (pmeth (pv 0) T.c_st T.m_st_names (ok_st_names T) (hr.mono (by omega)) (pa_cons (pv 1) pa_nil)) pa_nil)))
    (pss_cons (ps_expr (pmeth (pv 0) T.c_st T.m_st_finish (ok_st_finish T) (hr.mono (by omega)) (pa_cons (pv 1) (pa_cons pe_str pa_nil))))
    (pss_one (ps_ret (pe_op op_cat (pe_lst (pa_cons (pe_tup (pa_cons pe_str (pa_cons (pv 1) pa_nil))) pa_nil)) (pcall (ok_drops T) (hr.mono (by omega)) T.g_drops (pa_cons (pmeth (pe_fld (pv 0) rfl) T.c_cv T.m_cv_drop (ok_cv_drop T) (hr.mono (by omega)) (pa_cons (pv 2) pa_nil)) pa_nil)))))))), ?_⟩
  obtain ⟨Tb, L, st, loc, ty, B, k, rfl, rfl, R, I, z, B40, q⟩ := h
  obtain ⟨dx, hst⟩ := R.st
  refine ⟨_, rfl, _, rfl, _, dx, _, rfl, hst, rfl, L, st, rfl, R, (by have := z.na; omega), fun Z H1 s1 hZ0 hZ => ?_⟩
  refine ⟨Z, _, rfl, .inl (SqL.of hZ), rfl, flat_ints _, _, rfl, ite2 (fun c => ?_) fun c => ?_⟩
  · exact ⟨Nat.zero_le _, fun l hl => q _ L st loc ty _ (R.same (s1.trans (Same.new hl))) (Frm.same (s1.trans (Same.new hl))) I z⟩
  have c : inV (.int k) (intsV (runL st)) = true := by
    cases h : inV (.int k) (intsV (runL st)) with
    | true => rfl
    | false => exact absurd (by show (!inV (.int k) (intsV (runL st))) = true; rw [h]; rfl) c
  obtain ⟨i, hi, rfl⟩ := inV_ints.mp c
  obtain ⟨hin, hrun⟩ := runL_mem hi
  have R1 := R.same s1
  obtain ⟨dx1, hst1⟩ := R1.st
  obtain ⟨g, hc, hT⟩ := I.typ.code i hrun
  refine ⟨_, rfl, _, dx1, _, rfl, hst1, rfl, _, rfl, L, st, i, rfl, rfl, R1, hin, fun np kvs hnp hN => ?_⟩
  have s2 := s1.trans (Same.new (o := .dK kvs) hnp)
  refine ⟨np, kvs, st.nm i, rfl, upd_same, hN.tu (Tu.new hnp), hc.nd, (by have := z.nm i; omega), fun r vs es' H5 s5 hr0 hr hE perm => ?_⟩
  have s25 := s2.trans s5
  have R5 := R.same s25
  obtain ⟨dx5, hst5⟩ := R5.st
  have or : Out L st r := (R.same s2).out hr0
  refine ⟨_, rfl, _, dx5, _, rfl, hst5, rfl, _, rfl, L, st, i, "fallen", rfl, rfl, rfl, (by decide +kernel), R5, hin, fun L' H' R' F' => ?_⟩
  have I' := I.stop (i := i) (d := es') hrun (perm.nodup_iff.mpr (I.lin.act i hrun).1) fun e => perm.mem_iff
  have z' : Sz (st.stop i) B := z.stop
  have hB := z'.bxs (by omega) (by have := z.n; show st.n ≤ 40; omega)
  refine ⟨_, rfl, le_line (by show 2 ≤ _; decide), fun a1 ha1 => ⟨le_line (by show 1 ≤ _; decide), fun L1 hL1 => ?_⟩⟩
  have Ra := R'.same (Same.new (o := .tup [.str "fall", .int i]) ha1)
  have s6 := (Same.new (o := .tup [.str "fall", .int i]) ha1).trans (Same.new (o := .lst [.ref a1]) hL1)
  have R6 := R'.same s6
  obtain ⟨dx6, hst6⟩ := R6.st
  obtain ⟨dx7, hcv6⟩ := R6.cv
  rw [F'.fix.1] at hst6
  have hr6 := s6 _ _ (F'.keep _ _ hr or)
  refine ⟨_, rfl, _, _, dx6, _, _, rfl, hst6, T.c_st, T.a_st_conversations, rfl, _, dx7, _, rfl, hcv6, rfl, _, rfl, Tb, L', st.stop i, es', loc, ty, r, vs, rfl, rfl, hr6, hE.tu (F'.tu.trans (Same.tu s6)), R6, I', hB, fun p us fs L2 s2 H2 R2 F2 I2 B2 hp0 hp hE hl ho => ?_⟩
  refine ⟨p, us, fs, rfl, hp, hE, by omega, fun r ws H3 s3 hr0 hr hlw => ?_⟩
  have hL3 : H3 L1 = some (.lst [.ref a1]) := s3 _ _ (F2.keep _ _ upd_same (Ra.out hL1))
  refine ⟨_, _, _, _, rfl, rfl, hL3, hr, le_line (by show 1 + _ ≤ _; omega), fun p5 hp5 => ?_⟩
  have s7 := s3.trans (Same.new (o := .lst ([.ref a1] ++ ws)) hp5)
  exact q _ L2 s2 loc ty _ (R2.same s7) ((((Frm.same (L := L) (s := st) s25).trans F').trans (Frm.same s6)).trans (F2.trans (Frm.same s7))) I2 (z'.sb B2)
end G

/-! part W48 -/
set_option Elab.async false
set_option linter.all false
set_option maxRecDepth 100000
set_option maxHeartbeats 4000000
/-! step. Printed by gen_step.py. -/
namespace G
open PySem PySem.Spec PyProof.Rows L2
variable {P : Program} {w : World} {K : PySem.W.Frag} {mg : Str → Option Value} {base : Heap}
def simpB : Blk → Bool
  | .let_ _ _ _ => true
  | .say _ _ _ _ => true
  | .close _ _ => true
  | .drop _ _ => true
  | .open_ _ _ _ _ => true
  | _ => false
def spSSimple (K : PySem.W.Frag) (D : Defs) : V → V → V → V → V → Hp → VK → Prop := fun a b c d r H Q => ∃ (Tb : Nat → Talk) (H0 : Hp) (L : Pla) (s : Sta) (loc : End → Nd) (ty : End → Talk) (B i : Nat) (np p rp : Addr) (kvs : List (Key × V)) (us : List V),
  a = .ref (L .st) ∧ b = .int i ∧ c = .ref p ∧ d = .ref np ∧ r = .ref rp ∧ Pre K D Tb H0 H L s loc ty B i np kvs ∧ DOk Tb D ∧ simpB (s.rest i) = true ∧ BlkAt H (s.rest i) (.ref p :: us) ∧ H rp = some (.tup us) ∧ StepPost K D Tb H0 L s B Q
theorem ok_step_simple {D : Defs} (T : Top K mg) : FnG P w K mg base 10 (He.ga K "step_simple") p_step_simple (S5 (spSSimple K D)) := by
  refine FnG.of5 T.d_step_simple sc_step_simple rfl fun cdv A outer s H a b c d r Q E hr h => ?_
  have ok_step_let := fun T => ok_step_let (P := P) (w := w) (K := K) (mg := mg) (base := base) (D := D) T
  have ok_step_say := fun T => ok_step_say (P := P) (w := w) (K := K) (mg := mg) (base := base) (D := D) T
  have ok_step_close := fun T => ok_step_close (P := P) (w := w) (K := K) (mg := mg) (base := base) (D := D) T
  have ok_step_drop := fun T => ok_step_drop (P := P) (w := w) (K := K) (mg := mg) (base := base) (D := D) T
  have ok_step_open := fun T => ok_step_open (P := P) (w := w) (K := K) (mg := mg) (base := base) (D := D) T
  refine ⟨_, (pss_cons (ps_set (i := 5) sc_step_simple.nd rfl (Or.inl rfl) (pe_ix ix_tup (pv 2) pe_int (fun _ _ => rfl)))
    (pss_cons (ps_if (pt_cmpR op_eq (pv 5) pe_str (nomark _)) (pss_one (ps_ret (pcall (ok_step_let T) (hr.mono (by omega)) T.g_step_let (pa_cons (pv 0) (pa_cons (pv 1) (pa_cons (pv 2) (pa_cons (pv 3) (pa_cons (pv 4) pa_nil)))))))) pss_nil)
    (pss_cons (ps_if (pt_cmpR op_eq (pv 5) pe_str (nomark _)) (pss_one (ps_ret (pcall (ok_step_say T) (hr.mono (by omega)) T.g_step_say (pa_cons (pv 0) (pa_cons (pv 1) (pa_cons (pv 2) (pa_cons (pv 3) (pa_cons (pv 4) pa_nil)))))))) pss_nil)
    (pss_cons (ps_if (pt_cmpR op_eq (pv 5) pe_str (nomark _)) (pss_one (ps_ret (pcall (ok_step_close T) (hr.mono (by omega)) T.g_step_close (pa_cons (pv 0) (pa_cons (pv 1) (pa_cons (pv 2) (pa_cons (pv 3) (pa_cons (pv 4) pa_nil)))))))) pss_nil)
    (pss_cons (ps_if (pt_cmpR op_eq (pv 5) pe_str (nomark _)) (pss_one (ps_ret (pcall (ok_step_drop T) (hr.mono (by omega)) T.g_step_drop (pa_cons (pv 0) (pa_cons (pv 1) (pa_cons (pv 2) (pa_cons (pv 3) (pa_cons (pv 4) pa_nil)))))))) pss_nil)
    (pss_one (ps_ret (pcall (ok_step_open T) (hr.mono (by omega)) T.g_step_open (pa_cons (pv 0) (pa_cons (pv 1) (pa_cons (pv 2) (pa_cons (pv 3) (pa_cons (pv 4) pa_nil))))))))))))), ?_⟩
  obtain ⟨Tb, H0, L, st, loc, ty, B, i, np, p, rp, kvs, us, rfl, rfl, rfl, rfl, rfl, X, hD, hS, hb, hrp, q⟩ := h
  cases er : st.rest i with
  | let_ x e b =>
    rw [er] at hb
    obtain ⟨p', ev, vs', e1, h1, h2, h3⟩ := hb
    cases e1
    refine ⟨_, rfl, p, _, _, _, rfl, rfl, SqT.of h1, atI_nat (j := 0) rfl, ?_⟩
    refine ⟨_, rfl, rfl, _, rfl, ite2 (fun _ => ?_) fun c => absurd (by decide +kernel) c⟩
    exact ⟨_, rfl, _, rfl, _, rfl, _, rfl, _, rfl, Tb, H0, L, st, loc, ty, B, i, np, p, rp, kvs, x, e, ev, b, us, rfl, rfl, rfl, rfl, rfl, X, er, h1, h2, hrp, h3, q⟩
  | say x l e b =>
    rw [er] at hb
    obtain ⟨p', ev, vs', e1, h1, h2, h3⟩ := hb
    cases e1
    refine ⟨_, rfl, p, _, _, _, rfl, rfl, SqT.of h1, atI_nat (j := 0) rfl, ?_⟩
    refine ⟨_, rfl, rfl, _, rfl, ite2 (fun c => absurd c (by decide +kernel)) fun _ => ?_⟩
    refine ⟨_, rfl, rfl, _, rfl, ite2 (fun _ => ?_) fun c => absurd (by decide +kernel) c⟩
    exact ⟨_, rfl, _, rfl, _, rfl, _, rfl, _, rfl, Tb, H0, L, st, loc, ty, B, i, np, p, rp, kvs, x, l, e, ev, b, us, rfl, rfl, rfl, rfl, rfl, X, er, h1, h2, hrp, h3, q⟩
  | close x b =>
    rw [er] at hb
    obtain ⟨p', vs', e1, h1, h3⟩ := hb
    cases e1
    refine ⟨_, rfl, p, _, _, _, rfl, rfl, SqT.of h1, atI_nat (j := 0) rfl, ?_⟩
    refine ⟨_, rfl, rfl, _, rfl, ite2 (fun c => absurd c (by decide +kernel)) fun _ => ?_⟩
    refine ⟨_, rfl, rfl, _, rfl, ite2 (fun c => absurd c (by decide +kernel)) fun _ => ?_⟩
    refine ⟨_, rfl, rfl, _, rfl, ite2 (fun _ => ?_) fun c => absurd (by decide +kernel) c⟩
    exact ⟨_, rfl, _, rfl, _, rfl, _, rfl, _, rfl, Tb, H0, L, st, loc, ty, B, i, np, p, rp, kvs, x, b, us, rfl, rfl, rfl, rfl, rfl, X, er, h1, hrp, h3, q⟩
  | drop x b =>
    rw [er] at hb
    obtain ⟨p', vs', e1, h1, h3⟩ := hb
    cases e1
    refine ⟨_, rfl, p, _, _, _, rfl, rfl, SqT.of h1, atI_nat (j := 0) rfl, ?_⟩
    refine ⟨_, rfl, rfl, _, rfl, ite2 (fun c => absurd c (by decide +kernel)) fun _ => ?_⟩
    refine ⟨_, rfl, rfl, _, rfl, ite2 (fun c => absurd c (by decide +kernel)) fun _ => ?_⟩
    refine ⟨_, rfl, rfl, _, rfl, ite2 (fun c => absurd c (by decide +kernel)) fun _ => ?_⟩
    refine ⟨_, rfl, rfl, _, rfl, ite2 (fun _ => ?_) fun c => absurd (by decide +kernel) c⟩
    exact ⟨_, rfl, _, rfl, _, rfl, _, rfl, _, rfl, Tb, H0, L, st, loc, ty, B, i, np, p, rp, kvs, x, b, us, rfl, rfl, rfl, rfl, rfl, X, er, h1, hrp, h3, q⟩
  | open_ x f es b =>
    rw [er] at hb
    obtain ⟨p', qq, xs, vs', e1, h1, h2, h3, h4⟩ := hb
    cases e1
    refine ⟨_, rfl, p, _, _, _, rfl, rfl, SqT.of h1, atI_nat (j := 0) rfl, ?_⟩
    refine ⟨_, rfl, rfl, _, rfl, ite2 (fun c => absurd c (by decide +kernel)) fun _ => ?_⟩
    refine ⟨_, rfl, rfl, _, rfl, ite2 (fun c => absurd c (by decide +kernel)) fun _ => ?_⟩
    refine ⟨_, rfl, rfl, _, rfl, ite2 (fun c => absurd c (by decide +kernel)) fun _ => ?_⟩
    refine ⟨_, rfl, rfl, _, rfl, ite2 (fun c => absurd c (by decide +kernel)) fun _ => ?_⟩
    exact ⟨_, rfl, _, rfl, _, rfl, _, rfl, _, rfl, Tb, H0, L, st, loc, ty, B, i, np, p, rp, qq, kvs, x, f, es, xs, b, us, rfl, rfl, rfl, rfl, rfl, X, hD, er, h1, h2, h3, hrp, h4, q⟩
  | done =>
    rw [er] at hS
    cases hS
  | fail =>
    rw [er] at hS
    cases hS
  | become _ _ =>
    rw [er] at hS
    cases hS
  | ite _ _ _ =>
    rw [er] at hS
    cases hS
  | hear _ _ _ =>
    rw [er] at hS
    cases hS
theorem hearOk {Tb : Nat → Talk} {D : Defs} {s : Sta} {loc : End → Nd} {ty : End → Talk} (I : G.Inv Tb D s [] loc ty) (i : Nat) (hi : s.run i = true) : HearOk s i := fun x r b e => by
  obtain ⟨g, hc, hT⟩ := I.typ.code i hi
  rw [e] at hT
  obtain ⟨t, rs, t1, _⟩ := (show ∃ t rs, g x = some (.en t) ∧ G.head Tb t = .node true rs ∧ r.T Tb D.sg g x rs ∧ b.T Tb D.sg (g.del x) from hT)
  obtain ⟨av, hl, ha⟩ := hc.k x _ t1
  cases av with
  | en f => exact ⟨f, hl, (((I.lin.act i hi).2 f).mp (mem_endsN.mpr ⟨x, (lookup_mem hc.nd).mp hl⟩)).1.1⟩
  | _ => exact ha.elim
theorem Sz.mono {s : Sta} {B : Nat} (z : Sz s B) : Sz s (B + 1) := ⟨Nat.le_succ_of_le z.n, Nat.le_succ_of_le z.na, fun i => Nat.le_succ_of_le (z.nm i), fun e => Nat.le_succ_of_le (z.bx e)⟩
def spStep (K : PySem.W.Frag) (D : Defs) : V → V → Hp → VK → Prop := fun a b H Q => ∃ (Tb : Nat → Talk) (L : Pla) (s : Sta) (loc : End → Nd) (ty : End → Talk) (B i : Nat),
  a = .ref (L .st) ∧ b = .int i ∧ Rep K D H L s ∧ Inv Tb D s [] loc ty ∧ Sz s B ∧ B ≤ 40 ∧ DOk Tb D ∧ i ∈ rdyL s ∧ StepPost K D Tb H L s B Q
theorem ok_step {D : Defs} (T : Top K mg) : FnG P w K mg base 11 (He.ga K "step") p_step (S2 (spStep K D)) := by
  refine FnG.of2 T.d_step sc_step rfl fun cdv A outer s H a b Q E hr h => ?_
  have hu := hu_of hr
  have ok_st_ready := fun T => ok_st_ready (P := P) (w := w) (K := K) (mg := mg) (base := base) (D := D) T
  have ok_st_names := fun T => ok_st_names (P := P) (w := w) (K := K) (mg := mg) (base := base) (D := D) T
  have ok_st_rest := fun T => ok_st_rest (P := P) (w := w) (K := K) (mg := mg) (base := base) (D := D) T
  have ok_st_finish := fun T => ok_st_finish (P := P) (w := w) (K := K) (mg := mg) (base := base) (D := D) T
  have ok_fall := fun T => ok_fall (P := P) (w := w) (K := K) (mg := mg) (base := base) (D := D) T
  have ok_step_become := fun T => ok_step_become (P := P) (w := w) (K := K) (mg := mg) (base := base) (D := D) T
  have ok_step_if := fun T => ok_step_if (P := P) (w := w) (K := K) (mg := mg) (base := base) (D := D) T
  have ok_step_hear := fun T => ok_step_hear (P := P) (w := w) (K := K) (mg := mg) (base := base) (D := D) T
  have ok_step_simple := fun T => ok_step_simple (P := P) (w := w) (K := K) (mg := mg) (base := base) (D := D) T
  refine ⟨_, (pss_cons (ps_if (pt_cmpR op_notIn_seq (pv 1) (pmeth0 (pv 0) T.c_st T.m_st_ready (ok_st_ready T) (hr.mono (by omega))) rfl) pss_never pss_nil)
    (pss_cons (ps_set (i := 2) sc_step.nd rfl (Or.inl rfl) (pmeth (pv 0) T.c_st T.m_st_names (ok_st_names T) (hr.mono (by omega)) (pa_cons (pv 1) pa_nil)))
    (pss_cons (ps_set (i := 3) sc_step.nd rfl (Or.inl rfl) (pmeth (pv 0) T.c_st T.m_st_rest (ok_st_rest T) (hr.mono (by omega)) (pa_cons (pv 1) pa_nil)))
    (pss_cons (ps_set (i := 4) sc_step.nd rfl (Or.inl rfl) (pe_ix ix_tup (pv 3) pe_int (fun _ _ => rfl)))
    (pss_cons (ps_if (pt_cmpR op_eq (pe_ix ix_tup (pv 4) pe_int (fun _ _ => rfl)) pe_str (nomark _)) (pss_cons (ps_expr (pmeth (pv 0) T.c_st T.m_st_finish (ok_st_finish T) (hr.mono (by omega)) (pa_cons (pv 1) (pa_cons pe_str pa_nil))))
    (pss_one (ps_ret (pe_lst (pa_cons (pe_tup (pa_cons pe_str (pa_cons (pv 1) pa_nil))) pa_nil))))) pss_nil)
    (pss_cons (ps_if (pt_cmpR op_eq (pe_ix ix_tup (pv 4) pe_int (fun _ _ => rfl)) pe_str (nomark _)) (pss_one (ps_ret (pcall (ok_fall T) (hr.mono (by omega)) T.g_fall (pa_cons (pv 0) (pa_cons (pv 1) pa_nil))))) pss_nil)
    (pss_cons (ps_if (pt_cmpR op_eq (pe_ix ix_tup (pv 4) pe_int (fun _ _ => rfl)) pe_str (nomark _)) (pss_one (ps_ret (pcall (ok_step_become T) (hr.mono (by omega)) T.g_step_become (pa_cons (pv 0) (pa_cons (pv 1) (pa_cons (pv 4) (pa_cons (pv 2) pa_nil))))))) pss_nil)
    (pss_cons (ps_if (pt_cmpR op_eq (pe_ix ix_tup (pv 4) pe_int (fun _ _ => rfl)) pe_str (nomark _)) (pss_one (ps_ret (pcall (ok_step_if T) (hr.mono (by omega)) T.g_step_if (pa_cons (pv 0) (pa_cons (pv 1) (pa_cons (pv 4) (pa_cons (pv 2) pa_nil))))))) pss_nil)
    (pss_cons (ps_if (pt_cmpR op_eq (pe_ix ix_tup (pv 4) pe_int (fun _ _ => rfl)) pe_str (nomark _)) (pss_one (ps_ret (pcall (ok_step_hear T) (hr.mono (by omega)) T.g_step_hear (pa_cons (pv 0) (pa_cons (pv 1) (pa_cons (pv 4) (pa_cons (pv 2) pa_nil))))))) pss_nil)
    (pss_one (ps_ret (pcall (ok_step_simple T) (hr.mono (by omega)) T.g_step_simple (pa_cons (pv 0) (pa_cons (pv 1) (pa_cons (pv 4) (pa_cons (pv 2) (pa_cons (pe_slice sl_tup (pv 3) (po_some pe_int) po_none) pa_nil))))))))))))))))), ?_⟩
  obtain ⟨Tb, L, st, loc, ty, B, i, rfl, rfl, R, I, z, B40, hD, hi, q⟩ := h
  obtain ⟨hrl, hrdy⟩ := List.mem_filter.mp hi
  obtain ⟨hin, hrun⟩ := runL_mem hrl
  obtain ⟨dx, hst⟩ := R.st
  refine ⟨_, rfl, _, rfl, _, dx, _, rfl, hst, rfl, L, st, rfl, R, (by have := z.na; omega), hearOk I, fun Z H1 s1 hZ0 hZ => ?_⟩
  have hin2 : inV (.int i) (intsV (rdyL st)) = true := inV_ints.mpr ⟨i, hi, rfl⟩
  refine ⟨Z, _, rfl, .inl (SqL.of hZ), rfl, flat_ints _, _, rfl, ite2 (fun c => absurd c ?_) fun _ => ?_⟩
  · show ¬ (!inV (.int i) (intsV (rdyL st))) = true
    rw [hin2]
    decide
  have R1 := R.same s1
  obtain ⟨dx1, hst1⟩ := R1.st
  refine ⟨_, rfl, _, dx1, _, rfl, hst1, rfl, _, rfl, L, st, i, rfl, rfl, R1, hin, fun np kvs hnp hN => ?_⟩
  have s2 := s1.trans (Same.new (o := .dK kvs) hnp)
  have R2 := R.same s2
  obtain ⟨dx2, hst2⟩ := R2.st
  have X : Pre K D Tb H _ L st loc ty B i np kvs := ⟨R2, I, z, B40, hrun, upd_same, hN.tu (Tu.new hnp), R1.out hnp, s2, s1.free hnp⟩
  refine ⟨_, rfl, _, dx2, _, rfl, hst2, rfl, _, rfl, L, st, i, rfl, rfl, R2, hin, fun rr us hrr hb => ?_⟩
  have hb := hb hrun
  obtain ⟨p, xs, us', rfl, hp⟩ := hb.hd
  refine ⟨_, rfl, rr, _, _, _, rfl, rfl, SqT.of hrr, atI_nat (j := 0) rfl, ?_⟩
  cases er : st.rest i with
  | done =>
    rw [er] at hp
    replace hp : _ = some (HO.tup (V.str "done" :: xs)) := hp
    refine ⟨_, rfl, p, _, _, _, rfl, rfl, SqT.of hp, atI_nat (j := 0) rfl, rfl, _, rfl, ite2 (fun _ => ?_) fun c => absurd (by decide +kernel) c⟩
    obtain ⟨g, hc, hT⟩ := I.typ.code i hrun
    rw [er] at hT
    have hT : NoEnds g := hT
    refine ⟨_, rfl, _, dx2, _, rfl, hst2, rfl, _, rfl, L, st, i, "done", rfl, rfl, rfl, (by decide +kernel), R2, hin, fun L' H' R' F' => ?_⟩
    have I' := I.stop (i := i) (d := []) hrun List.nodup_nil fun e => ⟨fun h => (by cases h), fun h => by
      obtain ⟨x, hx⟩ := mem_endsN.mp h
      obtain ⟨t, ht⟩ := hc.e x e ((lookup_mem hc.nd).mpr hx)
      exact absurd ht (hT x t)⟩
    refine ⟨_, rfl, le_line (by show 2 ≤ _; decide), fun a1 ha1 => ⟨le_line (by show 1 ≤ _; decide), fun L1 hL1 => ?_⟩⟩
    have s6 := (Same.new (o := .tup [.str "done", .int i]) ha1).trans (Same.new (o := .lst [.ref a1]) hL1)
    exact q _ L' _ loc ty _ (R'.same s6) (((Frm.same (L := L) (s := st) s2).trans F').trans (Frm.same s6)) I' z.stop.mono
  | fail =>
    rw [er] at hp
    replace hp : _ = some (HO.tup (V.str "fail" :: xs)) := hp
    refine ⟨_, rfl, p, _, _, _, rfl, rfl, SqT.of hp, atI_nat (j := 0) rfl, rfl, _, rfl, ite2 (fun c => absurd c (by decide +kernel)) fun _ => ?_⟩
    refine ⟨_, rfl, p, _, _, _, rfl, rfl, SqT.of hp, atI_nat (j := 0) rfl, rfl, _, rfl, ite2 (fun _ => ?_) fun c => absurd (by decide +kernel) c⟩
    exact ⟨_, rfl, _, rfl, Tb, L, st, loc, ty, B, i, rfl, rfl, R2, I, z, B40, fun v L' s' loc' ty' H' R' F' I' z' => q v L' s' loc' ty' H' R' ((Frm.same (L := L) (s := st) s2).trans F') I' z'.mono⟩
  | become f es =>
    rw [er] at hp
    replace hp : _ = some (HO.tup (V.str "become" :: xs)) := hp
    refine ⟨_, rfl, p, _, _, _, rfl, rfl, SqT.of hp, atI_nat (j := 0) rfl, rfl, _, rfl, ite2 (fun c => absurd c (by decide +kernel)) fun _ => ?_⟩
    refine ⟨_, rfl, p, _, _, _, rfl, rfl, SqT.of hp, atI_nat (j := 0) rfl, rfl, _, rfl, ite2 (fun c => absurd c (by decide +kernel)) fun _ => ?_⟩
    refine ⟨_, rfl, p, _, _, _, rfl, rfl, SqT.of hp, atI_nat (j := 0) rfl, rfl, _, rfl, ite2 (fun _ => ?_) fun c => absurd (by decide +kernel) c⟩
    rw [er] at hb
    obtain ⟨p', qq, xs2, e1, h1, h2, h3⟩ := hb
    cases e1
    exact ⟨_, rfl, _, rfl, _, rfl, _, rfl, Tb, H, L, st, loc, ty, B, i, np, p, qq, kvs, f, es, xs2, rfl, rfl, rfl, rfl, X, hD, er, h1, h2, h3, q⟩
  | ite e b b2 =>
    rw [er] at hp
    replace hp : _ = some (HO.tup (V.str "if" :: xs)) := hp
    refine ⟨_, rfl, p, _, _, _, rfl, rfl, SqT.of hp, atI_nat (j := 0) rfl, rfl, _, rfl, ite2 (fun c => absurd c (by decide +kernel)) fun _ => ?_⟩
    refine ⟨_, rfl, p, _, _, _, rfl, rfl, SqT.of hp, atI_nat (j := 0) rfl, rfl, _, rfl, ite2 (fun c => absurd c (by decide +kernel)) fun _ => ?_⟩
    refine ⟨_, rfl, p, _, _, _, rfl, rfl, SqT.of hp, atI_nat (j := 0) rfl, rfl, _, rfl, ite2 (fun c => absurd c (by decide +kernel)) fun _ => ?_⟩
    refine ⟨_, rfl, p, _, _, _, rfl, rfl, SqT.of hp, atI_nat (j := 0) rfl, rfl, _, rfl, ite2 (fun _ => ?_) fun c => absurd (by decide +kernel) c⟩
    rw [er] at hb
    obtain ⟨p', ev, q1, q2, bs, cs, e1, h1, h2, h3, h4, h5, h6⟩ := hb
    cases e1
    exact ⟨_, rfl, _, rfl, _, rfl, _, rfl, Tb, H, L, st, loc, ty, B, i, np, p, q1, q2, kvs, e, ev, b, b2, bs, cs, rfl, rfl, rfl, rfl, X, er, h1, h2, h3, h4, h5, h6, q⟩
  | hear x r b =>
    rw [er] at hp
    replace hp : _ = some (HO.tup (V.str "hear" :: xs)) := hp
    refine ⟨_, rfl, p, _, _, _, rfl, rfl, SqT.of hp, atI_nat (j := 0) rfl, rfl, _, rfl, ite2 (fun c => absurd c (by decide +kernel)) fun _ => ?_⟩
    refine ⟨_, rfl, p, _, _, _, rfl, rfl, SqT.of hp, atI_nat (j := 0) rfl, rfl, _, rfl, ite2 (fun c => absurd c (by decide +kernel)) fun _ => ?_⟩
    refine ⟨_, rfl, p, _, _, _, rfl, rfl, SqT.of hp, atI_nat (j := 0) rfl, rfl, _, rfl, ite2 (fun c => absurd c (by decide +kernel)) fun _ => ?_⟩
    refine ⟨_, rfl, p, _, _, _, rfl, rfl, SqT.of hp, atI_nat (j := 0) rfl, rfl, _, rfl, ite2 (fun c => absurd c (by decide +kernel)) fun _ => ?_⟩
    refine ⟨_, rfl, p, _, _, _, rfl, rfl, SqT.of hp, atI_nat (j := 0) rfl, rfl, _, rfl, ite2 (fun _ => ?_) fun c => absurd (by decide +kernel) c⟩
    rw [er] at hb
    obtain ⟨p', q1, q2, rs, bs, e1, h1, h2, h3, h4, h5⟩ := hb
    cases e1
    exact ⟨_, rfl, _, rfl, _, rfl, _, rfl, Tb, H, L, st, loc, ty, B, i, np, p, q1, q2, kvs, x, r, b, rs, bs, rfl, rfl, rfl, rfl, X, er, h1, h2, h3, h4, h5, hrdy, q⟩
  | let_ x e b =>
    rw [er] at hp
    replace hp : _ = some (HO.tup (V.str "let" :: xs)) := hp
    refine ⟨_, rfl, p, _, _, _, rfl, rfl, SqT.of hp, atI_nat (j := 0) rfl, rfl, _, rfl, ite2 (fun c => absurd c (by decide +kernel)) fun _ => ?_⟩
    refine ⟨_, rfl, p, _, _, _, rfl, rfl, SqT.of hp, atI_nat (j := 0) rfl, rfl, _, rfl, ite2 (fun c => absurd c (by decide +kernel)) fun _ => ?_⟩
    refine ⟨_, rfl, p, _, _, _, rfl, rfl, SqT.of hp, atI_nat (j := 0) rfl, rfl, _, rfl, ite2 (fun c => absurd c (by decide +kernel)) fun _ => ?_⟩
    refine ⟨_, rfl, p, _, _, _, rfl, rfl, SqT.of hp, atI_nat (j := 0) rfl, rfl, _, rfl, ite2 (fun c => absurd c (by decide +kernel)) fun _ => ?_⟩
    refine ⟨_, rfl, p, _, _, _, rfl, rfl, SqT.of hp, atI_nat (j := 0) rfl, rfl, _, rfl, ite2 (fun c => absurd c (by decide +kernel)) fun _ => ?_⟩
    refine ⟨_, rfl, _, rfl, _, rfl, _, rfl, _, rfl, _, rfl, rr, _, rfl, SqT.of hrr, ?_, fun nr hnr => ?_⟩
    · have e1 : HT.sIx (V.ref p :: us').length 0 (some 1) = 1 := (HT.sIx_nat (V.ref p :: us').length 0 1).trans (by rw [List.length_cons]; omega)
      rw [e1]
      omega
    rw [show cutV (V.ref p :: us') (some 1) none = us' from cut_from (xs := V.ref p :: us') (i := 1) (by show 1 ≤ us'.length + 1; omega)]
    have s3 := Same.new (o := .tup us') hnr
    have X3 : Pre K D Tb H _ L st loc ty B i np kvs := ⟨R2.same s3, I, z, B40, hrun, s3 _ _ upd_same, (hN.tu (Tu.new hnp)).tu (Same.tu s3), R1.out hnp, s2.trans s3, s1.free hnp⟩
    exact ⟨Tb, H, L, st, loc, ty, B, i, np, p, nr, kvs, us', rfl, rfl, rfl, rfl, rfl, X3, hD, (by rw [er]; rfl), hb.tu (Same.tu s3), upd_same, q⟩
  | say x l e b =>
    rw [er] at hp
    replace hp : _ = some (HO.tup (V.str "say" :: xs)) := hp
    refine ⟨_, rfl, p, _, _, _, rfl, rfl, SqT.of hp, atI_nat (j := 0) rfl, rfl, _, rfl, ite2 (fun c => absurd c (by decide +kernel)) fun _ => ?_⟩
    refine ⟨_, rfl, p, _, _, _, rfl, rfl, SqT.of hp, atI_nat (j := 0) rfl, rfl, _, rfl, ite2 (fun c => absurd c (by decide +kernel)) fun _ => ?_⟩
    refine ⟨_, rfl, p, _, _, _, rfl, rfl, SqT.of hp, atI_nat (j := 0) rfl, rfl, _, rfl, ite2 (fun c => absurd c (by decide +kernel)) fun _ => ?_⟩
    refine ⟨_, rfl, p, _, _, _, rfl, rfl, SqT.of hp, atI_nat (j := 0) rfl, rfl, _, rfl, ite2 (fun c => absurd c (by decide +kernel)) fun _ => ?_⟩
    refine ⟨_, rfl, p, _, _, _, rfl, rfl, SqT.of hp, atI_nat (j := 0) rfl, rfl, _, rfl, ite2 (fun c => absurd c (by decide +kernel)) fun _ => ?_⟩
    refine ⟨_, rfl, _, rfl, _, rfl, _, rfl, _, rfl, _, rfl, rr, _, rfl, SqT.of hrr, ?_, fun nr hnr => ?_⟩
    · have e1 : HT.sIx (V.ref p :: us').length 0 (some 1) = 1 := (HT.sIx_nat (V.ref p :: us').length 0 1).trans (by rw [List.length_cons]; omega)
      rw [e1]
      omega
    rw [show cutV (V.ref p :: us') (some 1) none = us' from cut_from (xs := V.ref p :: us') (i := 1) (by show 1 ≤ us'.length + 1; omega)]
    have s3 := Same.new (o := .tup us') hnr
    have X3 : Pre K D Tb H _ L st loc ty B i np kvs := ⟨R2.same s3, I, z, B40, hrun, s3 _ _ upd_same, (hN.tu (Tu.new hnp)).tu (Same.tu s3), R1.out hnp, s2.trans s3, s1.free hnp⟩
    exact ⟨Tb, H, L, st, loc, ty, B, i, np, p, nr, kvs, us', rfl, rfl, rfl, rfl, rfl, X3, hD, (by rw [er]; rfl), hb.tu (Same.tu s3), upd_same, q⟩
  | close x b =>
    rw [er] at hp
    replace hp : _ = some (HO.tup (V.str "close" :: xs)) := hp
    refine ⟨_, rfl, p, _, _, _, rfl, rfl, SqT.of hp, atI_nat (j := 0) rfl, rfl, _, rfl, ite2 (fun c => absurd c (by decide +kernel)) fun _ => ?_⟩
    refine ⟨_, rfl, p, _, _, _, rfl, rfl, SqT.of hp, atI_nat (j := 0) rfl, rfl, _, rfl, ite2 (fun c => absurd c (by decide +kernel)) fun _ => ?_⟩
    refine ⟨_, rfl, p, _, _, _, rfl, rfl, SqT.of hp, atI_nat (j := 0) rfl, rfl, _, rfl, ite2 (fun c => absurd c (by decide +kernel)) fun _ => ?_⟩
    refine ⟨_, rfl, p, _, _, _, rfl, rfl, SqT.of hp, atI_nat (j := 0) rfl, rfl, _, rfl, ite2 (fun c => absurd c (by decide +kernel)) fun _ => ?_⟩
    refine ⟨_, rfl, p, _, _, _, rfl, rfl, SqT.of hp, atI_nat (j := 0) rfl, rfl, _, rfl, ite2 (fun c => absurd c (by decide +kernel)) fun _ => ?_⟩
    refine ⟨_, rfl, _, rfl, _, rfl, _, rfl, _, rfl, _, rfl, rr, _, rfl, SqT.of hrr, ?_, fun nr hnr => ?_⟩
    · have e1 : HT.sIx (V.ref p :: us').length 0 (some 1) = 1 := (HT.sIx_nat (V.ref p :: us').length 0 1).trans (by rw [List.length_cons]; omega)
      rw [e1]
      omega
    rw [show cutV (V.ref p :: us') (some 1) none = us' from cut_from (xs := V.ref p :: us') (i := 1) (by show 1 ≤ us'.length + 1; omega)]
    have s3 := Same.new (o := .tup us') hnr
    have X3 : Pre K D Tb H _ L st loc ty B i np kvs := ⟨R2.same s3, I, z, B40, hrun, s3 _ _ upd_same, (hN.tu (Tu.new hnp)).tu (Same.tu s3), R1.out hnp, s2.trans s3, s1.free hnp⟩
    exact ⟨Tb, H, L, st, loc, ty, B, i, np, p, nr, kvs, us', rfl, rfl, rfl, rfl, rfl, X3, hD, (by rw [er]; rfl), hb.tu (Same.tu s3), upd_same, q⟩
  | drop x b =>
    rw [er] at hp
    replace hp : _ = some (HO.tup (V.str "drop" :: xs)) := hp
    refine ⟨_, rfl, p, _, _, _, rfl, rfl, SqT.of hp, atI_nat (j := 0) rfl, rfl, _, rfl, ite2 (fun c => absurd c (by decide +kernel)) fun _ => ?_⟩
    refine ⟨_, rfl, p, _, _, _, rfl, rfl, SqT.of hp, atI_nat (j := 0) rfl, rfl, _, rfl, ite2 (fun c => absurd c (by decide +kernel)) fun _ => ?_⟩
    refine ⟨_, rfl, p, _, _, _, rfl, rfl, SqT.of hp, atI_nat (j := 0) rfl, rfl, _, rfl, ite2 (fun c => absurd c (by decide +kernel)) fun _ => ?_⟩
    refine ⟨_, rfl, p, _, _, _, rfl, rfl, SqT.of hp, atI_nat (j := 0) rfl, rfl, _, rfl, ite2 (fun c => absurd c (by decide +kernel)) fun _ => ?_⟩
    refine ⟨_, rfl, p, _, _, _, rfl, rfl, SqT.of hp, atI_nat (j := 0) rfl, rfl, _, rfl, ite2 (fun c => absurd c (by decide +kernel)) fun _ => ?_⟩
    refine ⟨_, rfl, _, rfl, _, rfl, _, rfl, _, rfl, _, rfl, rr, _, rfl, SqT.of hrr, ?_, fun nr hnr => ?_⟩
    · have e1 : HT.sIx (V.ref p :: us').length 0 (some 1) = 1 := (HT.sIx_nat (V.ref p :: us').length 0 1).trans (by rw [List.length_cons]; omega)
      rw [e1]
      omega
    rw [show cutV (V.ref p :: us') (some 1) none = us' from cut_from (xs := V.ref p :: us') (i := 1) (by show 1 ≤ us'.length + 1; omega)]
    have s3 := Same.new (o := .tup us') hnr
    have X3 : Pre K D Tb H _ L st loc ty B i np kvs := ⟨R2.same s3, I, z, B40, hrun, s3 _ _ upd_same, (hN.tu (Tu.new hnp)).tu (Same.tu s3), R1.out hnp, s2.trans s3, s1.free hnp⟩
    exact ⟨Tb, H, L, st, loc, ty, B, i, np, p, nr, kvs, us', rfl, rfl, rfl, rfl, rfl, X3, hD, (by rw [er]; rfl), hb.tu (Same.tu s3), upd_same, q⟩
  | open_ x f es b =>
    rw [er] at hp
    replace hp : _ = some (HO.tup (V.str "open" :: xs)) := hp
    refine ⟨_, rfl, p, _, _, _, rfl, rfl, SqT.of hp, atI_nat (j := 0) rfl, rfl, _, rfl, ite2 (fun c => absurd c (by decide +kernel)) fun _ => ?_⟩
    refine ⟨_, rfl, p, _, _, _, rfl, rfl, SqT.of hp, atI_nat (j := 0) rfl, rfl, _, rfl, ite2 (fun c => absurd c (by decide +kernel)) fun _ => ?_⟩
    refine ⟨_, rfl, p, _, _, _, rfl, rfl, SqT.of hp, atI_nat (j := 0) rfl, rfl, _, rfl, ite2 (fun c => absurd c (by decide +kernel)) fun _ => ?_⟩
    refine ⟨_, rfl, p, _, _, _, rfl, rfl, SqT.of hp, atI_nat (j := 0) rfl, rfl, _, rfl, ite2 (fun c => absurd c (by decide +kernel)) fun _ => ?_⟩
    refine ⟨_, rfl, p, _, _, _, rfl, rfl, SqT.of hp, atI_nat (j := 0) rfl, rfl, _, rfl, ite2 (fun c => absurd c (by decide +kernel)) fun _ => ?_⟩
    refine ⟨_, rfl, _, rfl, _, rfl, _, rfl, _, rfl, _, rfl, rr, _, rfl, SqT.of hrr, ?_, fun nr hnr => ?_⟩
    · have e1 : HT.sIx (V.ref p :: us').length 0 (some 1) = 1 := (HT.sIx_nat (V.ref p :: us').length 0 1).trans (by rw [List.length_cons]; omega)
      rw [e1]
      omega
    rw [show cutV (V.ref p :: us') (some 1) none = us' from cut_from (xs := V.ref p :: us') (i := 1) (by show 1 ≤ us'.length + 1; omega)]
    have s3 := Same.new (o := .tup us') hnr
    have X3 : Pre K D Tb H _ L st loc ty B i np kvs := ⟨R2.same s3, I, z, B40, hrun, s3 _ _ upd_same, (hN.tu (Tu.new hnp)).tu (Same.tu s3), R1.out hnp, s2.trans s3, s1.free hnp⟩
    exact ⟨Tb, H, L, st, loc, ty, B, i, np, p, nr, kvs, us', rfl, rfl, rfl, rfl, rfl, X3, hD, (by rw [er]; rfl), hb.tu (Same.tu s3), upd_same, q⟩
end G

/-! part W49 -/
set_option Elab.async false
set_option linter.all false
set_option maxRecDepth 100000
set_option maxHeartbeats 4000000
/-! The first state. -/
namespace G
open PySem PySem.Spec PyProof.Rows L2
variable {P : Program} {w : World} {K : PySem.W.Frag} {mg : Str → Option Value} {base : Heap}
/-- all but one place is kept -/
def Kx (x : Addr) (H H' : Hp) : Prop := ∀ y o, y ≠ x → H y = some o → H' y = some o
theorem Kx.refl (x : Addr) (H : Hp) : Kx x H H := fun _ _ _ e => e
theorem Kx.trans {x : Addr} {H H1 H2 : Hp} (a : Kx x H H1) (b : Kx x H1 H2) : Kx x H H2 := fun y o n e => b y o n (a y o n e)
theorem Kx.new {x p : Addr} {H : Hp} {o : HO} (h : H p = none) : Kx x H (upd H p o) := fun y u _ e => by
  rw [upd_ne (ne_of_none e h)]
  exact e
theorem Kx.at_ {x : Addr} {H : Hp} {o : HO} : Kx x H (upd H x o) := fun y u n e => by
  rw [upd_ne n]
  exact e
def spCvInit (K : PySem.W.Frag) : V → Hp → VK → Prop := fun a H Q => ∃ (x dx : Addr), a = .ref x ∧ H x = some (.ins (cvC K) dx []) ∧
  ∀ m b H', Kx x H H' → H m = none → H b = none → m ≠ b → m ≠ x → b ≠ x → H' m = some (.lst []) → H' b = some (.lst []) → H' x = some (cvO K dx m b) → Q .non H'
theorem ok_cv_init (T : Top K mg) : FnG P w K mg base 1 (He.ma K (He.ga K "Conversations") "__init__") p_cv_init (S1 (spCvInit K)) := by
  refine FnG.of1 T.d_cv_init sc_cv_init rfl fun cdv A outer s H a Q E hr h => ⟨_, (pss_cons (ps_fld (pv 0) (pe_lst pa_nil) rfl)
    (pss_one (ps_fld (pv 0) (pe_lst pa_nil) rfl))), ?_⟩
  obtain ⟨x, dx, rfl, hx, q⟩ := h
  refine ⟨Nat.zero_le _, fun m hm => ⟨_, rfl, x, _, dx, _, rfl, (Same.new hm) _ _ hx, T.c_cv, T.a_cv_marks, (by decide), ?_⟩⟩
  have mx : m ≠ x := (ne_of_none hx hm).symm
  refine ⟨Nat.zero_le _, fun b hb => ⟨_, rfl, x, _, dx, _, rfl, (Same.new hb) _ _ upd_same, T.c_cv, T.a_cv_boxes, (by show 1 < 1000; decide), ?_⟩⟩
  have bx : b ≠ x := fun z => by
    rw [z, upd_same] at hb
    cases hb
  have hb1 : upd H m (.lst []) b = none := by
    rw [upd_ne bx] at hb
    exact hb
  have mb : m ≠ b := fun z => by
    rw [← z, upd_same] at hb1
    cases hb1
  have hb0 : H b = none := by
    rw [upd_ne mb.symm] at hb1
    exact hb1
  refine q m b _ ((Kx.new hm).trans (Kx.at_.trans ((Kx.new hb).trans Kx.at_))) hm hb0 mb mx bx ?_ ?_ upd_same
  · rw [upd_ne mx, upd_ne mb, upd_ne mx]
    exact upd_same
  · rw [upd_ne bx]
    exact upd_same
def s00 : Sta := ⟨0, fun _ => .fallen, fun _ => [], 0, fun _ => false, fun _ => [], fun _ => .fail⟩
theorem inv0 {Tb : Nat → Talk} {D : Defs} (hD : D.Ok Tb) (h : D.sg sMain = some []) : G.Inv Tb D (s00.born [] (D.bd sMain)) [] (fun _ => .a 0) (fun _ => .fin) where
  lin := {
    rn := fun i hi => by
      by_cases c : i = 0
      · rw [c]
        exact Nat.zero_lt_one
      · have hi : fset s00.run 0 true i = true := hi
        rw [fset_ne c] at hi
        cases hi
    act := fun i hi => by
      have e : (s00.born [] (D.bd sMain)).nm i = [] := by
        show fset s00.nm 0 [] i = []
        by_cases c : i = 0
        · rw [c]
          exact fset_same
        · exact fset_ne c
      rw [e]
      exact ⟨List.nodup_nil, fun e => ⟨fun h => (by cases h), fun h => absurd h.1.1 (Nat.not_lt_zero _)⟩⟩
    box := fun f hf => absurd hf (Nat.not_lt_zero _)
    there := fun e he => absurd he.1 (Nat.not_lt_zero _)
    limN := List.nodup_nil
    limL := fun e he => by cases he
    dead := fun f _ => rfl }
  typ := {
    q1 := fun e he => absurd he.1 (Nat.not_lt_zero _)
    q2 := fun e he => absurd he.1 (Nat.not_lt_zero _)
    code := fun i hi => by
      have c : i = 0 := by
        refine Classical.byContradiction fun c => ?_
        have hi : fset s00.run 0 true i = true := hi
        rw [fset_ne c] at hi
        cases hi
      subst c
      refine ⟨fun x => ([] : List (Str × Ty)).lookup x, ?_, ?_⟩
      · show CtxOk _ (fset s00.nm 0 [] 0) _
        rw [fset_same]
        exact CtxOk.bnd (ps := []) (as := []) trivial List.nodup_nil
      · show (fset s00.rest 0 (D.bd sMain) 0).T Tb D.sg _
        rw [fset_same]
        exact hD.body sMain [] h }
  fo := ⟨fun e he => absurd he.1.1 (Nat.not_lt_zero _), fun c hc => absurd hc.1.1 (Nat.not_lt_zero _)⟩
def L00 (px pq x nw cx al m b : Addr) : Pla
  | .px => px | .pq => pq | .st => x | .nw => nw | .cv => cx | .al => al | .ml => m | .bl => b | _ => x
theorem rep0 {D : Defs} {H : Hp} {px pq x nw cx al m b : Addr} (nd : [px, pq, x, nw, cx, al, m, b].Nodup) (h1 : ∃ dx t, H px = some (prO K dx t pq)) (h2 : ∃ kvs, H pq = some (.dK kvs) ∧ ∀ f ps, D.sg f = some ps → ∃ v, valV kvs (.inr f) = some v ∧ DfAt H f ps (D.bd f) v)
    (h3 : ∃ dx, H x = some (stO K dx px nw al cx)) (h4 : H nw = some (.dK [])) (h5 : ∃ dx, H cx = some (cvO K dx m b)) (h6 : H al = some (.lst [])) (h7 : H m = some (.lst [])) (h8 : H b = some (.lst [])) : Rep K D H (L00 px pq x nw cx al m b) s00 where
  inj := fun a c ha hc e => by
    simp only [List.nodup_cons, List.mem_cons, List.not_mem_nil, or_false, not_or, not_false_eq_true, and_true, List.nodup_nil] at nd
    obtain ⟨⟨n1, n2, n3, n4, n5, n6, n7⟩, ⟨n8, n9, n10, n11, n12, n13⟩, ⟨n14, n15, n16, n17, n18⟩, ⟨n19, n20, n21, n22⟩, ⟨n23, n24, n25⟩, ⟨n26, n27⟩, n28⟩ := nd
    cases a <;> cases c <;> first
      | rfl
      | exact absurd ha (Nat.not_lt_zero _)
      | exact absurd hc (Nat.not_lt_zero _)
      | exact absurd e (by assumption)
      | exact absurd e.symm (by assumption)
  px := h1
  pq := h2
  st := h3
  nw := h4
  cv := h5
  al := h6
  ml := h7
  bl := h8
  ac := fun i hi => absurd hi (Nat.not_lt_zero _)
  nm := fun i hi => absurd hi (Nat.not_lt_zero _)
  mr := fun i hi => absurd hi (Nat.not_lt_zero _)
  pr := fun i hi => absurd hi (Nat.not_lt_zero _)
  bx := fun i hi => absurd hi (Nat.not_lt_zero _)
def spStInit (K : PySem.W.Frag) : V → V → Hp → VK → Prop := fun a c H Q => ∃ (x dx px : Addr) (D : Defs) (Tb : Nat → Talk), a = .ref x ∧ c = .ref px ∧ H x = some (.ins (stC K) dx []) ∧ PrAt K H px D ∧ D.Ok Tb ∧ D.sg sMain = some [] ∧
  ∀ L s loc ty H', Rep K D H' L s → Inv Tb D s [] loc ty → Sz s 0 → L .st = x → (∀ y o, (∀ k, o ≠ .dK k) → (∀ c d f, o ≠ .ins c d f) → H y = some o → H' y = some o ∧ Out L s y) → Q .non H'
theorem ok_st_init (T : Top K mg) : FnG P w K mg base 4 (He.ma K (He.ga K "State") "__init__") p_st_init (S2 (spStInit K)) := by
  refine FnG.of2 T.d_st_init sc_st_init rfl fun cdv A outer s H a c Q E hr h => ?_
  obtain ⟨x, dx, px, D, Tb, rfl, rfl, hx, hP, hD, hM, q⟩ := h
  have ok_st_start := fun T => ok_st_start (P := P) (w := w) (K := K) (mg := mg) (base := base) (D := D) T
  refine ⟨_, (pss_cons (ps_set (i := 2) sc_st_init.nd rfl (Or.inl rfl) (pmeth (pv 1) T.c_pr T.m_pr_actor (ok_pr_actor T) (hr.mono (by omega)) (pa_cons pe_str pa_nil)))
    (pss_cons (ps_if (pt_cmpR (op_neD (by exact hr.units)) (pe_ix ix_tup (pv 2) pe_int (fun _ _ => rfl)) (pe_tup pa_nil) (nomark _)) pss_never pss_nil)
    (pss_cons (ps_fld (pv 0) (pv 1) rfl)
    (pss_cons (ps_fld (pv 0) pe_dnewK rfl)
    (pss_cons (ps_fld (pv 0) (pe_lst pa_nil) rfl)
    (pss_cons (ps_fld (pv 0) (pmake0 T.k_cv (ok_cv_init T) (hr.mono (by omega)) T.g_cv) rfl)
    (pss_one (ps_expr (pmeth (pv 0) T.c_st T.m_st_start (ok_st_start T) (hr.mono (by omega)) (pa_cons (pv 2) (pa_cons (pe_lst pa_nil) pa_nil))))))))))), ?_⟩
  obtain ⟨dxp, t, pq, kvs, hpx, hpq, hq⟩ := hP.ex
  obtain ⟨v, hv, hd⟩ := hq sMain [] hM
  obtain ⟨pd, qd, rd, ws, us, rfl, d1, d2, d3, d4, d5, d6⟩ := id hd
  cases ws with
  | cons _ _ => exact d3.elim
  | nil =>
  refine ⟨_, rfl, px, dxp, _, rfl, hpx, rfl, px, dxp, t, pq, sMain, kvs, _, rfl, rfl, hpx, hpq, hv, ?_⟩
  refine ⟨_, rfl, pd, _, _, _, rfl, rfl, SqT.of d1, atI_nat (j := 1) rfl, Nat.zero_le _, fun tp htp => ⟨.tuple [], .tuple [], .tup (SqT.of ((Same.new htp) _ _ d2)) .nil, .tup (SqT.of upd_same) .nil, rfl, rfl, _, rfl, ite2 (fun c => absurd c (by decide +kernel)) fun _ => ?_⟩⟩
  have k1 : Kx x H (upd H tp (.tup [])) := Kx.new htp
  refine ⟨_, rfl, _, rfl, x, _, dx, _, rfl, (Same.new htp) _ _ hx, T.c_st, T.a_st_program, (by decide), ?_⟩
  have k2 := k1.trans (Kx.at_ (o := .ins (stC K) dx [("_program", .ref px)]))
  refine fun nw hnw => ⟨_, rfl, x, _, dx, _, rfl, (Same.new hnw) _ _ upd_same, T.c_st, T.a_st_newest, (by show 1 < 1000; decide), ?_⟩
  have nx : nw ≠ x := (ne_of_none upd_same hnw).symm
  have k3 := k2.trans ((Kx.new (o := .dK []) hnw).trans (Kx.at_ (o := .ins (stC K) dx [("_program", .ref px), ("_newest", .ref nw)])))
  refine ⟨Nat.zero_le _, fun al hal => ⟨_, rfl, x, _, dx, _, rfl, (Same.new hal) _ _ upd_same, T.c_st, T.a_st_actors, (by show 2 < 1000; decide), ?_⟩⟩
  have pxx : px ≠ x := ne_of hpx hx (by intro z; injection z with _ _ z; cases z)
  have pqx : pq ≠ x := ne_of hpq hx (by intro z; cases z)
  have ppq : px ≠ pq := ne_of hpx hpq (by intro z; cases z)
  have b1 : ∀ {H' : Hp}, Kx x H H' → ∀ p : Addr, H' p = none → px ≠ p ∧ pq ≠ p := fun k p h => ⟨ne_of_none (k _ _ pxx hpx) h, ne_of_none (k _ _ pqx hpq) h⟩
  have xnw : x ≠ nw := nx.symm
  obtain ⟨a1, a2⟩ := b1 k2 _ hnw
  have xal : x ≠ al := ne_of_none upd_same hal
  obtain ⟨a3, a4⟩ := b1 k3 _ hal
  have nwal : nw ≠ al := ne_of_none (by rw [upd_ne nx]; exact upd_same) hal
  have k34 := (Kx.new (x := x) (o := .lst []) hal).trans (Kx.at_ (o := .ins (stC K) dx [("_program", .ref px), ("_newest", .ref nw), ("_actors", .ref al)]))
  have k4 := k3.trans k34
  refine fun cx cdx hcx hcdx ne => ⟨cx, cdx, rfl, upd_same, fun m b H8 kk hm hb mb mcx bcx um ub ucx => ⟨rfl, ?_⟩⟩
  have xcx : x ≠ cx := ne_of_none upd_same hcx
  obtain ⟨a5, a6⟩ := b1 k4 _ hcx
  have hnwc := k34 nw _ nx (by rw [upd_ne nx]; exact upd_same)
  have nwcx : nw ≠ cx := ne_of_none hnwc hcx
  have halc : ∀ {H' : Hp} {o : HO}, upd (upd H' al (.lst [])) x o al = some (.lst []) := fun {H' o} => by
    rw [upd_ne xal.symm]
    exact upd_same
  have alcx : al ≠ cx := ne_of_none halc hcx
  have s5 : Same _ (upd (upd _ cdx (.own cx)) cx (.ins (cvC K) cdx [])) := fun b o e => by
    rw [upd_ne (ne_of_none e hcx), upd_ne (ne_of_none e hcdx)]
    exact e
  have k5 : Kx x H _ := fun y o n e => s5 _ _ (k4 y o n e)
  obtain ⟨a7, a8⟩ := b1 k5 _ hm
  obtain ⟨a9, a10⟩ := b1 k5 _ hb
  have xm : x ≠ m := ne_of_none (s5 _ _ upd_same) hm
  have xb : x ≠ b := ne_of_none (s5 _ _ upd_same) hb
  have nwm : nw ≠ m := ne_of_none (s5 _ _ hnwc) hm
  have nwb : nw ≠ b := ne_of_none (s5 _ _ hnwc) hb
  have alm : al ≠ m := ne_of_none (s5 _ _ halc) hm
  have alb : al ≠ b := ne_of_none (s5 _ _ halc) hb
  have hx8 := kk x _ xcx (s5 _ _ upd_same)
  refine ⟨_, rfl, x, _, dx, _, rfl, hx8, T.c_st, T.a_st_conversations, (by show 3 < 1000; decide), ?_⟩
  have fin : ∀ {y : Addr} {o : HO}, y ≠ x → H8 y = some o → upd H8 x (stO K dx px nw al cx) y = some o := fun n e => by
    rw [upd_ne n]
    exact e
  have kf : ∀ y o, y ≠ x → H y = some o → y ≠ cx → upd H8 x (stO K dx px nw al cx) y = some o := fun y o n e n2 => fin n (kk y o n2 (k5 y o n e))
  have tuf : Tu H (upd H8 x (stO K dx px nw al cx)) := fun y xs e => kf y _ (ne_of e hx (by intro z; cases z)) e (by
    intro z
    rw [z] at e
    have e4 := k4 cx _ xcx.symm e
    exact absurd (hcx.symm.trans e4) (by intro z; cases z))
  have R9 : Rep K D (upd H8 x (stO K dx px nw al cx)) (L00 px pq x nw cx al m b) s00 := by
    refine rep0 ?_ ⟨dxp, t, kf _ _ pxx hpx a5⟩ ⟨kvs, kf _ _ pqx hpq a6, fun f ps e => ?_⟩ ⟨dx, upd_same⟩ (fin nx (kk nw _ nwcx (s5 _ _ hnwc))) ⟨cdx, fin xcx.symm ucx⟩ (fin xal.symm (kk al _ alcx (s5 _ _ halc))) (fin xm.symm um) (fin xb.symm ub)
    · simp only [List.nodup_cons, List.mem_cons, List.not_mem_nil, or_false, not_or, not_false_eq_true, and_true, List.nodup_nil]
      exact ⟨⟨ppq, pxx, a1, a5, a3, a7, a9⟩, ⟨pqx, a2, a6, a4, a8, a10⟩, ⟨xnw, xcx, xal, xm, xb⟩, ⟨nwcx, nwal, nwm, nwb⟩, ⟨alcx.symm, mcx.symm, bcx.symm⟩, ⟨alm, alb⟩, mb⟩
    · obtain ⟨v, h1, h2⟩ := hq f ps e
      exact ⟨v, h1, h2.tu tuf⟩
  refine ⟨_, rfl, _, dx, _, rfl, upd_same, rfl, _, rfl, Nat.zero_le _, fun l hl => ?_⟩
  have s9 := Same.new (o := .lst []) hl
  refine ⟨L00 px pq x nw cx al m b, s00, sMain, [], D.bd sMain, l, [], [], rfl, rfl, R9.same s9, (by show 0 < 1000; decide), hd.tu (tuf.trans (Same.tu s9)), upd_same, trivial, rfl, List.nodup_nil, Nat.zero_le _, fun L' H' R' F' => ?_⟩
  refine q L' _ _ _ H' R' (inv0 hD hM) ⟨Nat.le_refl _, Nat.le_refl _, fun i => ?_, fun e => Nat.zero_le _⟩ F'.fix.1 fun y o n1 n2 e => ?_
  · show (fset s00.nm 0 [] i).length ≤ _
    by_cases c : i = 0
    · rw [c, fset_same]
      exact Nat.zero_le _
    · rw [fset_ne c]
      exact Nat.zero_le _
  · have yx : y ≠ x := fun z => by
      rw [z, hx] at e
      cases e
      exact n2 _ _ _ rfl
    have ypx : y ≠ px := fun z => by
      rw [z, hpx] at e
      cases e
      exact n2 _ _ _ rfl
    have ypq : y ≠ pq := fun z => by
      rw [z, hpq] at e
      cases e
      exact n1 _ rfl
    have ynw : y ≠ nw := ne_of_none (k2 _ _ yx e) hnw
    have yal : y ≠ al := ne_of_none (k3 _ _ yx e) hal
    have ycx : y ≠ cx := ne_of_none (k4 _ _ yx e) hcx
    have ym : y ≠ m := ne_of_none (k5 _ _ yx e) hm
    have yb : y ≠ b := ne_of_none (k5 _ _ yx e) hb
    have oy : Out (L00 px pq x nw cx al m b) s00 y := fun a ha z => by
      cases a <;> first
        | exact absurd ha (Nat.not_lt_zero _)
        | exact absurd z.symm (by assumption)
    have e9 := s9 _ _ (kf y o yx e ycx)
    exact ⟨F'.keep _ _ e9 oy, F'.out e9 oy⟩
end G

/-! part W50 -/
set_option Elab.async false
set_option linter.all false
set_option maxRecDepth 100000
set_option maxHeartbeats 4000000
/-! The law's table of places. -/
namespace G
open PySem PySem.Spec PyProof.Rows L2
variable {P : Program} {w : World} {K : PySem.W.Frag} {mg : Str → Option Value} {base : Heap}
def kE (e : End) : List Key := [.inl (e.1 : Int), .inl (sdI e.2)]
theorem kE_inj {e f : End} (h : kE e = kE f) : e = f := by
  obtain ⟨a, b⟩ := e
  obtain ⟨c, d⟩ := f
  unfold kE at h
  simp only [List.cons.injEq, Sum.inl.injEq, and_true] at h
  obtain ⟨h1, h2⟩ := h
  rw [sdI_inj h2, Int.ofNat.inj h1]
def ndO : Nd → HO
  | .a i => .tup [.str "actor", .int i, .int 0]
  | .e f => .tup [.str "box", .int f.1, .int (sdI f.2)]
theorem ndO_tup (n : Nd) : ∃ xs, ndO n = .tup xs := by cases n <;> exact ⟨_, rfl⟩
def NdsV (H : Hp) : List Nd → List V → Prop
  | [], [] => True
  | n :: ns, v :: vs => (∃ a, v = .ref a ∧ H a = some (ndO n)) ∧ NdsV H ns vs
  | _, _ => False
theorem NdsV.imp {H H' : Hp} (k : ∀ a n, H a = some (ndO n) → H' a = some (ndO n)) : ∀ {ns : List Nd} {vs : List V}, NdsV H ns vs → NdsV H' ns vs
  | [], [], _ => trivial
  | n :: ns, v :: vs, ⟨⟨a, e, h⟩, r⟩ => ⟨⟨a, e, k a n h⟩, NdsV.imp k r⟩
  | [], _ :: _, h => h.elim
  | _ :: _, [], h => h.elim
theorem NdsV.len {H : Hp} : ∀ {ns : List Nd} {vs : List V}, NdsV H ns vs → vs.length = ns.length
  | [], [], _ => rfl
  | n :: ns, v :: vs, ⟨_, r⟩ => congrArg (· + 1) (NdsV.len r)
  | [], _ :: _, h => h.elim
  | _ :: _, [], h => h.elim
theorem NdsV.snoc {H : Hp} {n : Nd} {a : Addr} (h : H a = some (ndO n)) : ∀ {ns : List Nd} {vs : List V}, NdsV H ns vs → NdsV H (ns ++ [n]) (vs ++ [.ref a])
  | [], [], _ => ⟨⟨a, rfl, h⟩, trivial⟩
  | n :: ns, v :: vs, ⟨x, r⟩ => ⟨x, NdsV.snoc h r⟩
  | [], _ :: _, h => h.elim
  | _ :: _, [], h => h.elim
/-- the dict of places -/
def PlV (H : Hp) (R : Addr) (p : Pls) : Prop := ∃ kvs : List (List Key × V), H R = some (.dT kvs) ∧ kvs.length ≤ p.length ∧ ∀ e, (found p e = [] → valV kvs (kE e) = none) ∧ (found p e ≠ [] → ∃ a vs, valV kvs (kE e) = some (.ref a) ∧ H a = some (.lst vs) ∧ NdsV H (found p e) vs)
theorem PlV.keep {H H' : Hp} {R : Addr} {p : Pls} (h : PlV H R p) (k : ∀ b o, H b = some o → (∀ od u, o ≠ .frz od u) → H' b = some o) : PlV H' R p := by
  obtain ⟨kvs, h1, h2, h3⟩ := h
  refine ⟨kvs, k _ _ h1 (fun _ _ z => by cases z), h2, fun e => ⟨(h3 e).1, fun n => ?_⟩⟩
  obtain ⟨a, vs, h4, h5, h6⟩ := (h3 e).2 n
  refine ⟨a, vs, h4, k _ _ h5 (fun _ _ z => by cases z), h6.imp fun a n h => k _ _ h fun _ _ z => ?_⟩
  obtain ⟨xs, e⟩ := ndO_tup n
  rw [e] at z
  cases z
theorem PlV.same {H H' : Hp} {R : Addr} {p : Pls} (h : PlV H R p) (s : Same H H') : PlV H' R p := h.keep fun b o e _ => s b o e
theorem PlV.get {H : Hp} {R : Addr} {p : Pls} (h : PlV H R p) (e : End) : ∃ kvs : List (List Key × V), H R = some (.dT kvs) ∧ kvs.length ≤ p.length ∧ ∀ (H' : Hp) (d : Addr), Same H H' → H' d = some (.lst []) → ∃ a vs, (valV kvs (kE e)).getD (.ref d) = .ref a ∧ H' a = some (.lst vs) ∧ NdsV H' (found p e) vs := by
  obtain ⟨kvs, h1, h2, h3⟩ := h
  refine ⟨kvs, h1, h2, fun H' d s hd => ?_⟩
  by_cases c : found p e = []
  · refine ⟨d, [], by rw [(h3 e).1 c]; rfl, hd, ?_⟩
    rw [c]
    trivial
  · obtain ⟨a, vs, h4, h5, h6⟩ := (h3 e).2 c
    exact ⟨a, vs, by rw [h4]; rfl, s _ _ h5, h6.imp fun a n h => s _ _ h⟩
theorem putKlen {κ : Type} [DecidableEq κ] (c : List (κ × V)) (k : κ) (x : V) : (putK c k x).length ≤ c.length + 1 := by
  unfold putK
  split
  · rw [List.length_map]
    exact Nat.le_succ _
  · rw [List.length_append]
    exact Nat.le_refl _
theorem found_one (e f : End) (n : Nd) : found [(e, n)] f = if e = f then [n] else [] := by
  unfold found
  by_cases c : e = f
  · rw [if_pos c, c]
    simp
  · rw [if_neg c]
    simp [c]
theorem PlV.add {H H1 : Hp} {R nl : Addr} {p : Pls} {e : End} {n : Nd} {kvs : List (List Key × V)} {vs' : List V} (h : PlV H R p) (s : Same H H1) (hk : H R = some (.dT kvs)) (hn : H1 nl = some (.lst vs')) (hv : NdsV H1 (found p e ++ [n]) vs') :
    PlV (upd H1 R (.dT (putK kvs (kE e) (.ref nl)))) R (p ++ [(e, n)]) := by
  obtain ⟨kvs', h1, h2, h3⟩ := h
  rw [hk] at h1
  cases h1
  have hR := s _ _ hk
  have kk : ∀ b o, (∀ k, o ≠ .dT k) → H1 b = some o → upd H1 R (.dT (putK kvs (kE e) (.ref nl))) b = some o := fun b o n e => by
    by_cases c : b = R
    · rw [c, hR] at e
      cases e
      exact absurd rfl (n _)
    · rw [upd_ne c]
      exact e
  have ndk : ∀ a n, H1 a = some (ndO n) → upd H1 R (.dT (putK kvs (kE e) (.ref nl))) a = some (ndO n) := fun a n h => kk _ _ (fun k z => by
    obtain ⟨xs, e⟩ := ndO_tup n
    rw [e] at z
    cases z) h
  refine ⟨_, upd_same, ?_, fun f => ?_⟩
  · rw [List.length_append]
    have := putKlen kvs (kE e) (.ref nl)
    show _ ≤ p.length + 1
    omega
  rw [found_app, found_one, valV_put]
  by_cases c : e = f
  · subst c
    rw [if_pos rfl, if_pos rfl]
    exact ⟨fun z => absurd z (by simp), fun _ => ⟨nl, vs', rfl, kk _ _ (fun k z => by cases z) hn, hv.imp ndk⟩⟩
  · rw [if_neg c, if_neg (fun z => c (kE_inj z).symm), List.append_nil]
    refine ⟨(h3 f).1, fun z => ?_⟩
    obtain ⟨a, vs, h4, h5, h6⟩ := (h3 f).2 z
    exact ⟨a, vs, h4, kk _ _ (fun k z => by cases z) (s _ _ h5), (h6.imp fun a n h => s _ _ h).imp ndk⟩
structure SzP (s : Sta) : Prop where
  n : s.n ≤ 100
  na : s.na ≤ 100
  nm : ∀ i, (s.nm i).length ≤ 100
  bx : ∀ e, (s.box e).length ≤ 100
theorem flat_le {α β : Type} {f : α → List β} {k : Nat} : ∀ {l : List α}, (∀ x ∈ l, (f x).length ≤ k) → (l.flatMap f).length ≤ l.length * k
  | [], _ => Nat.zero_le _
  | x :: l, h => by
    rw [List.flatMap_cons, List.length_append, List.length_cons, Nat.succ_mul]
    have h1 := h x List.mem_cons_self
    have h2 := flat_le (l := l) fun y hy => h y (List.mem_cons_of_mem _ hy)
    omega
theorem plA_le {s : Sta} (z : SzP s) (i : Nat) : (plA s i).length ≤ 100 := by
  unfold plA
  rw [List.length_map]
  exact Nat.le_trans (endsN_len _) (z.nm i)
theorem plB_le {s : Sta} (z : SzP s) (e : End) : (plB s e).length ≤ 100 := by
  unfold plB
  rw [List.length_map]
  exact Nat.le_trans (endsN_len _) (z.bx e)
theorem runL_le (s : Sta) : (runL s).length ≤ s.na := by
  unfold runL
  have := List.length_filter_le (fun i => s.run i) (List.range s.na)
  rw [List.length_range] at this
  exact this
theorem pA_le {s : Sta} (z : SzP s) (i : Nat) : (((runL s).take i).flatMap (plA s)).length ≤ 10000 := by
  have h := flat_le (f := plA s) (k := 100) (l := (runL s).take i) fun x _ => plA_le z x
  have h1 : ((runL s).take i).length ≤ (runL s).length := by rw [List.length_take]; exact Nat.min_le_right _ _
  have h2 := runL_le s
  have h3 := z.na
  omega
theorem pB_le {s : Sta} (z : SzP s) {c : Nat} (hc : c ≤ s.n) : ((sidesL c).flatMap (plB s)).length ≤ 20000 := by
  have h := flat_le (f := plB s) (k := 100) (l := sidesL c) fun x _ => plB_le z x
  rw [sides_len] at h
  have h3 := z.n
  omega
theorem plA_take (s : Sta) {i a : Nat} (h : (runL s)[i]? = some a) : ((runL s).take (i + 1)).flatMap (plA s) = ((runL s).take i).flatMap (plA s) ++ plA s a := by
  rw [take_some h, List.flatMap_append]
  simp
theorem sides_succ (c : Nat) : sidesL (c + 1) = sidesL c ++ [(c, false), (c, true)] := by
  unfold sidesL
  rw [List.range_succ, List.flatMap_append]
  simp
/-- names or messages one more -/
theorem ends_take {m : Names} {i : Nat} {x : Str} {av : AV} (h : m[i]? = some (x, av)) (nd : Nd) : (endsN (m.take (i + 1))).map (fun e => (e, nd)) = (endsN (m.take i)).map (fun e => (e, nd)) ++ av.ends.map fun e => (e, nd) := by
  rw [take_some h, endsN_app, List.map_append]
  congr 1
  cases av <;> rfl
theorem ends_take_le {m : Names} (i : Nat) (nd : Nd) (h : m.length ≤ 100) : ((endsN (m.take i)).map fun e => (e, nd)).length ≤ 100 := by
  rw [List.length_map]
  refine Nat.le_trans (endsN_len _) ?_
  rw [List.length_take]
  omega
def spPlaces (K : PySem.W.Frag) (D : Defs) : V → Hp → VK → Prop := fun a H Q => ∃ (L : Pla) (s : Sta), a = .ref (L .st) ∧ Rep K D H L s ∧ SzP s ∧ (∀ i, s.run i = true → ((s.nm i).map (·.1)).Nodup) ∧ ∀ R H', Same H H' → H R = none → PlV H' R (places s) → Q (.ref R) H'
theorem found_le (p : Pls) (e : End) : (found p e).length ≤ p.length := by
  unfold found
  rw [List.length_map]
  exact List.length_filter_le _ _
theorem ok_l_places {D : Defs} (T : Top K mg) : FnG P w K mg base 4 (He.ga K "_law_places") p_l_places (S1 (spPlaces K D)) := by
  refine FnG.of1 T.d_l_places sc_l_places rfl fun cdv A outer s H a Q E hr h => ?_
  have hu := hu_of hr
  have ok_st_running := fun T => ok_st_running (P := P) (w := w) (K := K) (mg := mg) (base := base) (D := D) T
  have ok_st_names := fun T => ok_st_names (P := P) (w := w) (K := K) (mg := mg) (base := base) (D := D) T
  have ok_cv_len := fun T => ok_cv_len (P := P) (w := w) (K := K) (mg := mg) (base := base) (D := D) T
  have ok_cv_mailbox := fun T => ok_cv_mailbox (P := P) (w := w) (K := K) (mg := mg) (base := base) (D := D) T
  refine ⟨_, (pss_cons (ps_set (i := 1) sc_l_places.nd rfl (Or.inl rfl) pe_dnewT)
    (pss_cons (ps_for PassesOwn.never rfl (pi_list (pmeth0 (pv 0) T.c_st T.m_st_running (ok_st_running T) (hr.mono (by omega)))) (pg_name (i := 2) sc_l_places.nd rfl (Or.inl rfl)) (pss_cons (ps_set (i := 3) sc_l_places.nd rfl (Or.inl rfl) (pmeth (pv 0) T.c_st T.m_st_names (ok_st_names T) (hr.mono (by omega)) (pa_cons (pv 2) pa_nil)))
    (pss_one (ps_lock (ps_for PassesOwn.never rfl (pi_keys (pv 3)) (pg_name (i := 4) sc_l_places.nd rfl (Or.inl rfl)) (pss_one (ps_if (pt_val (pe_callB call_isi (by rfl) T.f_isinstance (by decide +kernel) (pa_cons (pe_dget hu (pv 3) (pv 4) (fun _ _ => rfl)) (pa_cons (pe_bltn (v := .ty "tuple") (u := .type "tuple") rfl T.f_tuple (by decide +kernel) rfl) pa_nil)))) (pss_cons (ps_set (i := 5) sc_l_places.nd rfl (Or.inl rfl) (pe_tup (pa_cons (pe_ix ix_tup (pe_dget hu (pv 3) (pv 4) (fun _ _ => rfl)) pe_int (fun _ _ => rfl)) (pa_cons (pe_ix ix_tup (pe_dget hu (pv 3) (pv 4) (fun _ _ => rfl)) pe_int (fun _ _ => rfl)) pa_nil))))
    (pss_one (ps_dput hu (pv 1) (pv 5) (pe_op op_cat (pe_dget2 hu (pv 1) (pv 5) (pe_lst pa_nil) ⟨rfl, rfl, rfl, rfl⟩) (pe_lst (pa_cons (pe_tup (pa_cons pe_str (pa_cons (pv 2) (pa_cons pe_int pa_nil)))) pa_nil))) rfl))) pss_nil)))))))
    (pss_cons (ps_for PassesOwn.never rfl (pi_range1 (by rfl) T.f_range (pa_cons (pe_callB (call_lenI (ok_cv_len T) T.m_cv_len (hr.mono (by omega))) (by rfl) T.f_len PySem.boot_len (pa_cons (pe_fld (pv 0) rfl) pa_nil)) pa_nil)) (pg_name (i := 6) sc_l_places.nd rfl (Or.inl rfl)) (pss_one (ps_for PassesOwn.never rfl (pi_list (pe_lst (pa_cons pe_int (pa_cons pe_int pa_nil)))) (pg_name (i := 7) sc_l_places.nd rfl (Or.inl rfl)) (pss_one (ps_for PassesOwn.never rfl (pi_list (pmeth (pe_fld (pv 0) rfl) T.c_cv T.m_cv_mailbox (ok_cv_mailbox T) (hr.mono (by omega)) (pa_cons (pv 6) (pa_cons (pv 7) pa_nil)))) (pg_tup (by rfl) (pgs_cons (pg_name (i := 8) sc_l_places.nd rfl (Or.inl rfl)) (pgs_cons (pg_name (i := 9) sc_l_places.nd rfl (Or.inl rfl)) pgs_nil))) (pss_one (ps_if (pt_val (pe_callB call_isi (by rfl) T.f_isinstance (by decide +kernel) (pa_cons (pv 9) (pa_cons (pe_bltn (v := .ty "tuple") (u := .type "tuple") rfl T.f_tuple (by decide +kernel) rfl) pa_nil)))) (pss_cons (ps_set (i := 5) sc_l_places.nd rfl (Or.inl rfl) (pe_tup (pa_cons (pe_ix ix_tup (pv 9) pe_int (fun _ _ => rfl)) (pa_cons (pe_ix ix_tup (pv 9) pe_int (fun _ _ => rfl)) pa_nil))))
    (pss_one (ps_dput hu (pv 1) (pv 5) (pe_op op_cat (pe_dget2 hu (pv 1) (pv 5) (pe_lst pa_nil) ⟨rfl, rfl, rfl, rfl⟩) (pe_lst (pa_cons (pe_tup (pa_cons pe_str (pa_cons (pv 6) (pa_cons (pv 7) pa_nil)))) pa_nil))) rfl))) pss_nil)))))))
    (pss_one (ps_ret (pv 1)))))), ?_⟩
  obtain ⟨L, st, rfl, R0, z, hnd, q⟩ := h
  have zn := z.n
  have zna := z.na
  refine fun R hR => ?_
  have s1 := Same.new (o := .dT []) hR
  have R1 := R0.same s1
  obtain ⟨dx1, hst1⟩ := R1.st
  refine ⟨_, rfl, _, dx1, _, rfl, hst1, rfl, L, st, rfl, R1, (by omega), fun Z H1 s2 hZ0 hZ => ?_⟩
  have hR1 : H1 R = some (.dT []) := s2 _ _ upd_same
  have hZR : Z ≠ R := fun e => by
    rw [e, hR1] at hZ
    cases hZ
  have sm : ∀ {H' : Hp}, Kx R H1 H' → Same H H' := fun k b o e => k b o (ne_of_none e hR) (s2 _ _ (s1 _ _ e))
  have pl0 : PlV H1 R [] := ⟨[], hR1, Nat.le_refl _, fun e => ⟨fun _ => rfl, fun n => absurd rfl n⟩⟩
  refine ⟨Z, rfl, ⟨_, SqL.of hZ⟩, for_list (K := K) (a := Z) (xs := intsV (runL st)) (fun i σ H' => ∃ (v2 v3 v4 v5 : Option V), σ = [some (.ref (L .st)), some (.ref R), v2, v3, v4, v5, none, none, none, none] ∧ Kx R H1 H' ∧ PlV H' R (((runL st).take i).flatMap (plA st)))
    ⟨none, none, none, none, rfl, Kx.refl _ _, pl0⟩ (fun i σ H' _ ⟨_, _, _, _, _, k, _⟩ => SqL.of (k _ _ hZR hZ)) ?_ ?_⟩
  · rintro i v σ H' hv ⟨v2, v3, v4, v5, rfl, k1, pl⟩
    unfold intsV at hv
    rw [List.getElem?_map] at hv
    obtain ⟨a, ha, rfl⟩ := Option.map_eq_some_iff.mp hv
    obtain ⟨han, har⟩ := runL_mem (List.mem_of_getElem? ha)
    have R2 := R0.same (sm k1)
    obtain ⟨dx2, hst2⟩ := R2.st
    refine ⟨_, rfl, _, dx2, _, rfl, hst2, rfl, _, rfl, L, st, a, rfl, rfl, R2, han, fun np kvs hnp hN => ?_⟩
    have pl2 := pl.same (Same.new (o := .dK kvs) hnp)
    have nR : np ≠ R := fun e => by
      obtain ⟨_, h, _⟩ := pl
      rw [e, h] at hnp
      cases hnp
    refine ⟨np, _, upd_same, trivial, fun od => ⟨_, rfl, np, od, rfl, .inl ⟨_, upd_same, ?_⟩⟩⟩
    have lk := hN.len
    have nd := hnd a har
    have tu0 : Tu H' (upd (upd H' np (.dK kvs)) np (.frz od (.dK kvs))) := by
      rw [upd_twice]
      exact Tu.new hnp
    have pl3 : PlV (upd (upd H' np (.dK kvs)) np (.frz od (.dK kvs))) R (((runL st).take i).flatMap (plA st) ++ []) := by
      rw [upd_twice, List.append_nil]
      exact pl.same (Same.new hnp)
    refine for_it walk_keys (fun j σ H'' => ∃ (v4 v5 : Option V), σ = [some (.ref (L .st)), some (.ref R), some (.int a), some (.ref np), v4, v5, none, none, none, none] ∧ (∀ b o, b ≠ R → H' b = some o → H'' b = some o) ∧ H'' np = some (.frz od (.dK kvs)) ∧
      PlV H'' R (((runL st).take i).flatMap (plA st) ++ (endsN ((st.nm a).take j)).map fun e => (e, .a a)))
      ⟨v4, v5, rfl, fun b o h e => by rw [upd_twice, upd_ne (ne_of_none e hnp)]; exact e, upd_same, pl3⟩ (fun j σ H'' _ ⟨_, _, _, _, z, _⟩ => z) ?_ ?_
    · rintro j x σ H2 H3 hj ⟨v4, v5, rfl, k2, z1, plj⟩ ⟨rfl, k, v0, hk, rfl⟩
      obtain ⟨xn, av, hx, rfl⟩ := hN.at_ hk
      have tu : Tu H' H3 := fun b xs e => k2 b _ (fun z => by
        obtain ⟨_, h, _⟩ := pl
        rw [z, h] at e
        cases e) e
      have hlk : (st.nm a).lookup xn = some av := (lookup_mem nd).mpr (List.mem_of_getElem? hx)
      obtain ⟨v, hv, hva⟩ := (hN.tu tu).get hlk
      have hg : ∀ {H4 : Hp}, Same H3 H4 → DGet H4 np (.str xn) (some v) := fun s => .inl ⟨kvs, .inr xn, .inr ⟨od, s _ _ z1⟩, rfl, hv.symm⟩
      have ee := ends_take hx (.a a)
      have no : av.ends = [] → ∃ (v4 v5' : Option V), [some (V.ref (L .st)), some (.ref R), some (.int a), some (.ref np), some (.str xn), v5, none, none, none, none] = [some (.ref (L .st)), some (.ref R), some (.int a), some (.ref np), v4, v5', none, none, none, none] ∧ (∀ b o, b ≠ R → H' b = some o → H3 b = some o) ∧ H3 np = some (.frz od (.dK kvs)) ∧
          PlV H3 R (((runL st).take i).flatMap (plA st) ++ (endsN ((st.nm a).take (j + 1))).map fun e => (e, .a a)) := fun c => by
        refine ⟨_, _, rfl, k2, z1, ?_⟩
        rw [ee, c, List.map_nil, List.append_nil]
        exact plj
      cases av with
      | non =>
        obtain rfl : v = .non := hva
        exact ⟨_, rfl, _, rfl, np, _, rfl, hg (Same.refl _), _, _, _, _, false, rfl, .ty _, .base .non, kit_ty (by decide +kernel), false, rfl, ite2 (fun c => absurd c (by decide)) fun _ => no rfl⟩
      | int n =>
        obtain rfl : v = .int n := hva
        exact ⟨_, rfl, _, rfl, np, _, rfl, hg (Same.refl _), _, _, _, _, false, rfl, .ty _, .base (.int _), kit_ty (by decide +kernel), false, rfl, ite2 (fun c => absurd c (by decide)) fun _ => no rfl⟩
      | bl b =>
        obtain rfl : v = .bl b := hva
        exact ⟨_, rfl, _, rfl, np, _, rfl, hg (Same.refl _), _, _, _, _, false, rfl, .ty _, .base (.bl _), kit_ty (by decide +kernel), false, rfl, ite2 (fun c => absurd c (by decide)) fun _ => no rfl⟩
      | en e =>
        obtain ⟨pe, rfl, hpe⟩ := hva
        refine ⟨_, rfl, _, rfl, np, _, rfl, hg (Same.refl _), _, _, _, _, true, rfl, .ty _, .base (.tup hpe), kit_ty (by decide +kernel), true, rfl, ite2 (fun _ => ?_) fun c => absurd rfl c⟩
        refine ⟨_, rfl, _, rfl, np, _, rfl, hg (Same.refl _), pe, _, _, _, rfl, rfl, SqT.of hpe, atI_nat (j := 1) rfl, _, rfl, _, rfl, np, _, rfl, hg (Same.refl _), pe, _, _, _, rfl, rfl, SqT.of hpe, atI_nat (j := 2) rfl, le_line (by show 2 ≤ _; decide), fun t ht => ?_⟩
        have lb1 := pA_le z i
        have lb2 := ends_take_le (m := st.nm a) j (.a a) (z.nm a)
        have lbb : (((runL st).take i).flatMap (plA st) ++ (endsN ((st.nm a).take j)).map fun e => (e, Nd.a a)).length ≤ 10100 := by
          rw [List.length_append]
          omega
        obtain ⟨kv, hk, hkl, hget⟩ := plj.get e
        have s4 := Same.new (o := .tup [.int e.1, .int (sdI e.2)]) ht
        refine ⟨_, rfl, R, rfl, .inr ⟨kv, .inl (s4 _ _ hk)⟩, _, rfl, Nat.zero_le _, fun d hd => ⟨_, DGet.t (k := kE e) ((Same.new hd) _ _ (s4 _ _ hk)) ((Same.new hd) _ _ upd_same), ?_⟩⟩
        have s5 := s4.trans (Same.new (o := .lst []) hd)
        obtain ⟨la, lvs, hla, hlv, hnv⟩ := hget _ d s5 upd_same
        rw [hla]
        have lfl := hnv.len
        have lff := found_le (((runL st).take i).flatMap (plA st) ++ (endsN ((st.nm a).take j)).map fun e => (e, Nd.a a)) e
        refine ⟨_, rfl, le_line (by show 3 ≤ _; decide), fun a1 ha1 => ⟨le_line (by show 1 ≤ _; decide), fun L1 hL1 => ?_⟩⟩
        have s7 := (Same.new (o := .tup [.str "actor", .int a, .int 0]) ha1).trans (Same.new (o := .lst [.ref a1]) hL1)
        refine ⟨la, L1, lvs, _, rfl, rfl, s7 _ _ hlv, upd_same, le_line (by show lvs.length + 1 ≤ _; omega), fun nl hnl => ?_⟩
        have s8 := s7.trans (Same.new (o := .lst (lvs ++ [.ref a1])) hnl)
        have s58 := s5.trans s8
        have ht8 := s8 _ _ ((Same.new (o := .lst []) hd) _ _ (upd_same (H := H3) (a := t) (o := .tup [.int e.1, .int (sdI e.2)])))
        refine ⟨_, rfl, _, rfl, R, _, rfl, DPut.t (k := kE e) (s58 _ _ hk) ht8 (lt_line (by omega)), ?_⟩
        have ha8 := ((Same.new (o := .lst [.ref a1]) hL1).trans (Same.new (o := .lst (lvs ++ [.ref a1])) hnl)) _ _ upd_same
        have pl' := plj.add (e := e) (n := .a a) s58 hk upd_same (NdsV.snoc (n := .a a) ha8 (hnv.imp fun a n h => s8 _ _ h))
        refine ⟨_, _, rfl, fun b o h e => ?_, ?_, ?_⟩
        · rw [upd_ne h]
          exact s58 _ _ (k2 b o h e)
        · rw [upd_ne nR]
          exact s58 _ _ z1
        · rw [ee, ← List.append_assoc]
          exact pl'
    · rintro σ H'' ⟨v4, v5, rfl, k2, z1, plj⟩
      refine ⟨z1, _, _, _, _, rfl, fun y o n e => ?_, ?_⟩
      · rw [upd_ne (ne_of_none (k1 y o n e) hnp)]
        exact k2 y o n (k1 y o n e)
      · rw [List.take_of_length_le (l := st.nm a) (by omega)] at plj
        rw [plA_take st ha]
        refine plj.keep fun b o e n => ?_
        rw [upd_ne fun c => ?_]
        · exact e
        · rw [c, z1] at e
          cases e
          exact n _ _ rfl
  rintro σ H2 ⟨v2, v3, v4, v5, rfl, k1, pl⟩
  have el : (intsV (runL st)).length = (runL st).length := by
    unfold intsV
    rw [List.length_map]
  rw [el, List.take_length] at pl
  have lb1 : ((runL st).flatMap (plA st)).length ≤ 10000 := by
    have := pA_le z (runL st).length
    rw [List.take_length] at this
    exact this
  have R2 := R0.same (sm k1)
  obtain ⟨dx2, hst2⟩ := R2.st
  obtain ⟨dxc, hcv2⟩ := R2.cv
  refine ⟨_, rfl, _, _, dx2, _, _, rfl, hst2, T.c_st, T.a_st_conversations, rfl, _, dxc, _, rfl, hcv2, L, st, rfl, R2, st.n, rfl, (by omega), (st.n : Int), rfl, by omega, by omega, for_range (n := st.n) (fun c σ H' => ∃ (v2 v3 v4 v5 v6 v7 v8 v9 : Option V), σ = [some (.ref (L .st)), some (.ref R), v2, v3, v4, v5, v6, v7, v8, v9] ∧ Kx R H1 H' ∧ PlV H' R ((runL st).flatMap (plA st) ++ (sidesL c).flatMap (plB st)))
    ⟨v2, v3, v4, v5, none, none, none, none, rfl, k1, by show PlV H2 R (_ ++ []); rw [List.append_nil]; exact pl⟩ ?_ ?_⟩
  · rintro c σ H3 hc ⟨v2, v3, v4, v5, v6, v7, v8, v9, rfl, k1, pl⟩
    rw [Int.zero_add]
    refine ⟨le_line (by show 2 ≤ _; decide), fun qa hqa => ⟨qa, rfl, ⟨_, SqL.of upd_same⟩, ?_⟩⟩
    have k2 := k1.trans (Kx.new (o := .lst [.int 0, .int 1]) hqa)
    have qaR : qa ≠ R := fun e => by
      obtain ⟨_, h, _⟩ := pl
      rw [e, h] at hqa
      cases hqa
    refine for_list (K := K) (a := qa) (xs := [false, true].map fun b => V.int (sdI b)) (fun j σ H' => ∃ (v2 v3 v4 v5 v7 v8 v9 : Option V), σ = [some (.ref (L .st)), some (.ref R), v2, v3, v4, v5, some (.int c), v7, v8, v9] ∧ Kx R (upd H3 qa (.lst [.int 0, .int 1])) H' ∧ PlV H' R ((runL st).flatMap (plA st) ++ (sidesL c).flatMap (plB st) ++ (([false, true].take j).flatMap fun b => plB st (c, b))))
      ⟨v2, v3, v4, v5, v7, v8, v9, rfl, Kx.refl _ _, by show PlV _ R (_ ++ []); rw [List.append_nil]; exact pl.same (Same.new hqa)⟩ (fun j σ H' _ ⟨_, _, _, _, _, _, _, _, k, _⟩ => SqL.of (k _ _ qaR upd_same)) ?_ ?_
    · rintro j v σ H4 hv ⟨v2, v3, v4, v5, v7, v8, v9, rfl, k3, pl⟩
      rw [List.getElem?_map] at hv
      obtain ⟨b, hb, rfl⟩ := Option.map_eq_some_iff.mp hv
      have k4 := k2.trans k3
      have R4 := R0.same (sm k4)
      obtain ⟨dx4, hst4⟩ := R4.st
      obtain ⟨dxc4, hcv4⟩ := R4.cv
      refine ⟨_, rfl, _, _, dx4, _, _, rfl, hst4, T.c_st, T.a_st_conversations, rfl, _, dxc4, _, rfl, hcv4, rfl, _, rfl, _, rfl, L, st, (c, b), rfl, rfl, rfl, R4, hc, fun mp ms hmp hM => ?_⟩
      have mpR : mp ≠ R := fun e => by
        obtain ⟨_, h, _⟩ := pl
        rw [e, h] at hmp
        cases hmp
      have lm := hM.len
      have zb := z.bx (c, b)
      have hM5 := hM.tu (Tu.new (o := .lst ms) hmp)
      refine ⟨mp, rfl, ⟨_, SqL.of upd_same⟩, for_list (K := K) (a := mp) (xs := ms) (fun i σ H' => ∃ (v5 v8 v9 : Option V), σ = [some (.ref (L .st)), some (.ref R), v2, v3, v4, v5, some (.int c), some (.int (sdI b)), v8, v9] ∧ Kx R (upd H4 mp (.lst ms)) H' ∧
        PlV H' R ((runL st).flatMap (plA st) ++ (sidesL c).flatMap (plB st) ++ (([false, true].take j).flatMap fun b => plB st (c, b)) ++ (endsN ((st.box (c, b)).take i)).map fun e => (e, .e (c, b))))
        ⟨v5, v8, v9, rfl, Kx.refl _ _, by show PlV _ R (_ ++ []); rw [List.append_nil]; exact pl.same (Same.new hmp)⟩ (fun j σ H' _ ⟨_, _, _, _, k, _⟩ => SqL.of (k _ _ mpR upd_same)) ?_ ?_⟩
      · rintro i v σ H3 hv ⟨v5, v8, v9, rfl, k5, plj⟩
        have hRt : ∀ xs, upd H4 mp (.lst ms) R ≠ some (.tup xs) := fun xs z => by
          obtain ⟨_, h, _⟩ := pl
          rw [upd_ne mpR.symm, h] at z
          cases z
        have tu5 : Tu (upd H4 mp (.lst ms)) H3 := fun b xs e => k5 b _ (fun z => hRt xs (by rw [← z]; exact e)) e
        obtain ⟨l, av, pm, wv, hx, rfl, h1, h2⟩ := (hM5.tu tu5).get hv
        have ee := ends_take hx (.e (c, b))
        refine ⟨pm, _, rfl, SqT.of h1, rfl, _, _, rfl, _, _, rfl, rfl, ?_⟩
        have no : av.ends = [] → ∃ (v5' v8 v9 : Option V), [some (V.ref (L .st)), some (.ref R), v2, v3, v4, v5, some (.int c), some (.int (sdI b)), some (.str l), some wv] = [some (.ref (L .st)), some (.ref R), v2, v3, v4, v5', some (.int c), some (.int (sdI b)), v8, v9] ∧ Kx R (upd H4 mp (.lst ms)) H3 ∧
            PlV H3 R ((runL st).flatMap (plA st) ++ (sidesL c).flatMap (plB st) ++ (([false, true].take j).flatMap fun b => plB st (c, b)) ++ (endsN ((st.box (c, b)).take (i + 1))).map fun e => (e, .e (c, b))) := fun c => by
          refine ⟨_, _, _, rfl, k5, ?_⟩
          rw [ee, c, List.map_nil, List.append_nil]
          exact plj
        cases av with
        | non =>
          obtain rfl : wv = .non := h2
          exact ⟨_, rfl, _, _, _, _, false, rfl, .ty _, .base .non, kit_ty (by decide +kernel), false, rfl, ite2 (fun c => absurd c (by decide)) fun _ => no rfl⟩
        | int n =>
          obtain rfl : wv = .int n := h2
          exact ⟨_, rfl, _, _, _, _, false, rfl, .ty _, .base (.int _), kit_ty (by decide +kernel), false, rfl, ite2 (fun c => absurd c (by decide)) fun _ => no rfl⟩
        | bl n =>
          obtain rfl : wv = .bl n := h2
          exact ⟨_, rfl, _, _, _, _, false, rfl, .ty _, .base (.bl _), kit_ty (by decide +kernel), false, rfl, ite2 (fun c => absurd c (by decide)) fun _ => no rfl⟩
        | en e =>
          obtain ⟨pe, rfl, hpe⟩ := h2
          refine ⟨_, rfl, _, _, _, _, true, rfl, .ty _, .base (.tup hpe), kit_ty (by decide +kernel), true, rfl, ite2 (fun _ => ?_) fun c => absurd rfl c⟩
          refine ⟨_, rfl, pe, _, _, _, rfl, rfl, SqT.of hpe, atI_nat (j := 1) rfl, _, rfl, pe, _, _, _, rfl, rfl, SqT.of hpe, atI_nat (j := 2) rfl, le_line (by show 2 ≤ _; decide), fun t ht => ?_⟩
          have lb2 := ends_take_le (m := st.box (c, b)) i (.e (c, b)) zb
          have lb3 := pB_le z (Nat.le_of_lt hc)
          have lb4 : (([false, true].take j).flatMap fun b => plB st (c, b)).length ≤ 200 := by
            have := flat_le (f := fun b => plB st (c, b)) (k := 100) (l := [false, true].take j) fun x _ => plB_le z _
            have h2 : ([false, true].take j).length ≤ 2 := by rw [List.length_take]; exact Nat.min_le_right _ _
            omega
          have lbb : ((runL st).flatMap (plA st) ++ (sidesL c).flatMap (plB st) ++ (([false, true].take j).flatMap fun b => plB st (c, b)) ++ (endsN ((st.box (c, b)).take i)).map fun e => (e, Nd.e (c, b))).length ≤ 31000 := by
            rw [List.length_append, List.length_append, List.length_append]
            omega
          obtain ⟨kv, hk, hkl, hget⟩ := plj.get e
          have s4 := Same.new (o := .tup [.int e.1, .int (sdI e.2)]) ht
          refine ⟨_, rfl, R, rfl, .inr ⟨kv, .inl (s4 _ _ hk)⟩, _, rfl, Nat.zero_le _, fun d hd => ⟨_, DGet.t (k := kE e) ((Same.new hd) _ _ (s4 _ _ hk)) ((Same.new hd) _ _ upd_same), ?_⟩⟩
          have s5 := s4.trans (Same.new (o := .lst []) hd)
          obtain ⟨la, lvs, hla, hlv, hnv⟩ := hget _ d s5 upd_same
          rw [hla]
          have lfl := hnv.len
          have lff := found_le ((runL st).flatMap (plA st) ++ (sidesL c).flatMap (plB st) ++ (([false, true].take j).flatMap fun b => plB st (c, b)) ++ (endsN ((st.box (c, b)).take i)).map fun e => (e, Nd.e (c, b))) e
          refine ⟨_, rfl, _, rfl, le_line (by show 3 ≤ _; decide), fun a1 ha1 => ⟨le_line (by show 1 ≤ _; decide), fun L1 hL1 => ?_⟩⟩
          have s7 := (Same.new (o := .tup [.str "box", .int c, .int (sdI b)]) ha1).trans (Same.new (o := .lst [.ref a1]) hL1)
          refine ⟨la, L1, lvs, _, rfl, rfl, s7 _ _ hlv, upd_same, le_line (by show lvs.length + 1 ≤ _; omega), fun nl hnl => ?_⟩
          have s8 := s7.trans (Same.new (o := .lst (lvs ++ [.ref a1])) hnl)
          have s58 := s5.trans s8
          have ht8 := s8 _ _ ((Same.new (o := .lst []) hd) _ _ (upd_same (H := H3) (a := t) (o := .tup [.int e.1, .int (sdI e.2)])))
          refine ⟨_, rfl, _, rfl, R, _, rfl, DPut.t (k := kE e) (s58 _ _ hk) ht8 (lt_line (by omega)), ?_⟩
          have ha8 := ((Same.new (o := .lst [.ref a1]) hL1).trans (Same.new (o := .lst (lvs ++ [.ref a1])) hnl)) _ _ upd_same
          have pl' := plj.add (e := e) (n := .e (c, b)) s58 hk upd_same (NdsV.snoc (n := .e (c, b)) ha8 (hnv.imp fun a n h => s8 _ _ h))
          refine ⟨_, _, _, rfl, fun b o h e => ?_, ?_⟩
          · rw [upd_ne h]
            exact s58 _ _ (k5 b o h e)
          · rw [ee, ← List.append_assoc]
            exact pl'
      · rintro σ H5 ⟨v5, v8, v9, rfl, k5, plj⟩
        rw [List.take_of_length_le (l := st.box (c, b)) (by omega)] at plj
        refine ⟨_, _, _, _, _, _, _, rfl, k3.trans ((Kx.new (o := .lst ms) hmp).trans k5), ?_⟩
        rw [take_some hb, List.flatMap_append]
        show PlV H5 R (_ ++ (_ ++ (plB st (c, b) ++ [])))
        rw [List.append_nil, ← List.append_assoc]
        exact plj
    · rintro σ H4 ⟨v2, v3, v4, v5, v7, v8, v9, rfl, k3, pl⟩
      refine ⟨_, _, _, _, _, _, _, _, rfl, k2.trans k3, ?_⟩
      rw [sides_succ, List.flatMap_append, ← List.append_assoc]
      exact pl
  · rintro σ H3 ⟨v2, v3, v4, v5, v6, v7, v8, v9, rfl, k1, pl⟩
    exact ⟨_, rfl, q R H3 (sm k1) hR pl⟩
end G

/-! part W51 -/
set_option Elab.async false
set_option linter.all false
set_option maxRecDepth 100000
set_option maxHeartbeats 4000000
/-! The marks fit. -/
namespace G
open PySem PySem.Spec PyProof.Rows L2
variable {P : Program} {w : World} {K : PySem.W.Frag} {mg : Str → Option Value} {base : Heap}
/-- what is found of an end -/
theorem found_by {Tb : Nat → Talk} {D : Defs} {s : Sta} {loc : End → Nd} {ty : End → Talk} (I : G.Inv Tb D s [] loc ty) (e : End) (he : e.1 < s.n) :
    (∃ i, s.mark e = .held ∧ found (places s) e = [.a i]) ∨ (∃ f, s.mark e = .sent ∧ found (places s) e = [.e f]) ∨ (s.mark e = .closed ∧ found (places s) e = []) ∨ (s.mark e = .fallen ∧ found (places s) e = []) := by
  obtain ⟨h1, h2⟩ := I.found e
  cases hm : s.mark e with
  | held =>
    have lv : s.live e := ⟨he, .inl hm⟩
    rcases I.lin.there e lv (by simp) with ⟨i, h3, _, _⟩ | ⟨f, h3, _, h4⟩
    · exact .inl ⟨i, rfl, by rw [h1 lv, h3]⟩
    · rw [hm] at h4
      cases h4
  | sent =>
    have lv : s.live e := ⟨he, .inr hm⟩
    rcases I.lin.there e lv (by simp) with ⟨i, h3, _, h4⟩ | ⟨f, h3, _, h4⟩
    · rw [hm] at h4
      cases h4
    · exact .inr (.inl ⟨f, rfl, by rw [h1 lv, h3]⟩)
  | closed =>
    refine .inr (.inr (.inl ⟨rfl, h2 fun lv => ?_⟩))
    rcases lv.2 with h | h <;> rw [hm] at h <;> cases h
  | fallen =>
    refine .inr (.inr (.inr ⟨rfl, h2 fun lv => ?_⟩))
    rcases lv.2 with h | h <;> rw [hm] at h <;> cases h
theorem NdsV.one {H : Hp} {n : Nd} {vs : List V} (h : NdsV H [n] vs) : ∃ a, vs = [.ref a] ∧ H a = some (ndO n) := by
  cases vs with
  | nil => exact h.elim
  | cons v vs =>
    cases vs with
    | nil =>
      obtain ⟨⟨a, e, h1⟩, _⟩ := h
      exact ⟨a, by rw [e], h1⟩
    | cons _ _ => exact h.2.elim
theorem NdsV.zero {H : Hp} {vs : List V} (h : NdsV H [] vs) : vs = [] := by
  cases vs with
  | nil => rfl
  | cons _ _ => exact h.elim
def spMarks (K : PySem.W.Frag) (D : Defs) : V → V → Hp → VK → Prop := fun a b H Q => ∃ (Tb : Nat → Talk) (L : Pla) (s : Sta) (loc : End → Nd) (ty : End → Talk) (R : Addr), a = .ref (L .st) ∧ b = .ref R ∧ Rep K D H L s ∧ Inv Tb D s [] loc ty ∧ s.n ≤ 100 ∧ PlV H R (places s) ∧ ∀ H', Same H H' → Q (.bl true) H'
theorem ok_l_marks_fit {D : Defs} (T : Top K mg) : FnG P w K mg base 4 (He.ga K "_law_marks_fit") p_l_marks_fit (S2 (spMarks K D)) := by
  refine FnG.of2 T.d_l_marks_fit sc_l_marks_fit rfl fun cdv A outer s H a b Q E hr h => ?_
  have hu := hu_of hr
  have ok_cv_len := fun T => ok_cv_len (P := P) (w := w) (K := K) (mg := mg) (base := base) (D := D) T
  have ok_cv_mark := fun T => ok_cv_mark (P := P) (w := w) (K := K) (mg := mg) (base := base) (D := D) T
  refine ⟨_, (pss_cons (ps_for PassesOwn.never rfl (pi_range1 (by rfl) T.f_range (pa_cons (pe_callB (call_lenI (ok_cv_len T) T.m_cv_len (hr.mono (by omega))) (by rfl) T.f_len PySem.boot_len (pa_cons (pe_fld (pv 0) rfl) pa_nil)) pa_nil)) (pg_name (i := 2) sc_l_marks_fit.nd rfl (Or.inl rfl)) (pss_one (ps_for PassesOwn.never rfl (pi_list (pe_lst (pa_cons pe_int (pa_cons pe_int pa_nil)))) (pg_name (i := 3) sc_l_marks_fit.nd rfl (Or.inl rfl)) (pss_cons (ps_set (i := 4) sc_l_marks_fit.nd rfl (Or.inl rfl) (pmeth (pe_fld (pv 0) rfl) T.c_cv T.m_cv_mark (ok_cv_mark T) (hr.mono (by omega)) (pa_cons (pv 2) (pa_cons (pv 3) pa_nil))))
    (pss_cons (ps_set (i := 5) sc_l_marks_fit.nd rfl (Or.inl rfl) (pe_dget2 hu (pv 1) (pe_tup (pa_cons (pv 2) (pa_cons (pv 3) pa_nil))) (pe_lst pa_nil) ⟨rfl, rfl, rfl, rfl⟩))
    (pss_cons (ps_if (PW.pt (pw_and (pt_cmpR op_eq (pv 4) pe_str (nomark _)) (pw_and1 (PW.pt (pw_or (pt_cmpR op_ne (pe_callB call_len_seq (by rfl) T.f_len PySem.boot_len (pa_cons (pv 5) pa_nil)) pe_int (nomark _)) (pw_or1 (pt_cmpR op_ne (pe_ix ix_tup (pe_ix ix_list (pv 5) pe_int (fun _ _ => rfl)) pe_int (fun _ _ => rfl)) pe_str (nomark _)))))))) (pss_one (ps_ret pe_bl)) pss_nil)
    (pss_cons (ps_if (PW.pt (pw_and (pt_cmpR op_eq (pv 4) pe_str (nomark _)) (pw_and1 (PW.pt (pw_or (pt_cmpR op_ne (pe_callB call_len_seq (by rfl) T.f_len PySem.boot_len (pa_cons (pv 5) pa_nil)) pe_int (nomark _)) (pw_or1 (pt_cmpR op_ne (pe_ix ix_tup (pe_ix ix_list (pv 5) pe_int (fun _ _ => rfl)) pe_int (fun _ _ => rfl)) pe_str (nomark _)))))))) (pss_one (ps_ret pe_bl)) pss_nil)
    (pss_cons (ps_if (PW.pt (pw_and (pt_cmpR op_in_seq (pv 4) (pe_lst (pa_cons pe_str (pa_cons pe_str pa_nil))) rfl) (pw_and1 (pt_cmpR op_gt (pe_callB call_len_seq (by rfl) T.f_len PySem.boot_len (pa_cons (pv 5) pa_nil)) pe_int (nomark _))))) (pss_one (ps_ret pe_bl)) pss_nil)
    (pss_one (ps_if (pt_cmpR op_notIn_seq (pv 4) (pe_lst (pa_cons pe_str (pa_cons pe_str (pa_cons pe_str (pa_cons pe_str pa_nil))))) rfl) (pss_one (ps_ret pe_bl)) pss_nil))))))))))
    (pss_one (ps_ret pe_bl))), ?_⟩
  obtain ⟨Tb, L, st, loc, ty, R, rfl, rfl, R0, I, zn, pl, q⟩ := h
  obtain ⟨dx, hst⟩ := R0.st
  obtain ⟨dxc, hcv⟩ := R0.cv
  refine ⟨_, rfl, _, _, dx, _, _, rfl, hst, T.c_st, T.a_st_conversations, rfl, _, dxc, _, rfl, hcv, L, st, rfl, R0, st.n, rfl, (by omega), (st.n : Int), rfl, by omega, by omega, for_range (n := st.n) (fun c σ H' => ∃ (v2 v3 v4 v5 : Option V), σ = [some (.ref (L .st)), some (.ref R), v2, v3, v4, v5] ∧ Same H H')
    ⟨_, _, _, _, rfl, Same.refl _⟩ ?_ ?_⟩
  · rintro c σ H1 hc ⟨v2, v3, v4, v5, rfl, s1⟩
    rw [Int.zero_add]
    refine ⟨le_line (by show 2 ≤ _; decide), fun qa hqa => ⟨qa, rfl, ⟨_, SqL.of upd_same⟩, ?_⟩⟩
    refine for_list (K := K) (a := qa) (xs := [false, true].map fun b => V.int (sdI b)) (fun j σ H' => ∃ (v3 v4 v5 : Option V), σ = [some (.ref (L .st)), some (.ref R), some (.int c), v3, v4, v5] ∧ Same (upd H1 qa (.lst [.int 0, .int 1])) H')
      ⟨_, _, _, rfl, Same.refl _⟩ (fun j σ H' _ ⟨_, _, _, _, k⟩ => SqL.of (k _ _ upd_same)) ?_ ?_
    · rintro j v σ H2 hv ⟨v3, v4, v5, rfl, s2⟩
      rw [List.getElem?_map] at hv
      obtain ⟨b, hb, rfl⟩ := Option.map_eq_some_iff.mp hv
      have s12 := (s1.trans (Same.new (o := .lst [.int 0, .int 1]) hqa)).trans s2
      have R2 := R0.same s12
      have pl2 := pl.same s12
      obtain ⟨dx2, hst2⟩ := R2.st
      obtain ⟨dxc2, hcv2⟩ := R2.cv
      refine ⟨_, rfl, _, _, dx2, _, _, rfl, hst2, T.c_st, T.a_st_conversations, rfl, _, dxc2, _, rfl, hcv2, rfl, _, rfl, _, rfl, L, st, (c, b), rfl, rfl, rfl, R2, hc, ?_⟩
      obtain ⟨kv, hk, hkl, hget⟩ := pl2.get (c, b)
      refine ⟨_, rfl, R, rfl, .inr ⟨kv, .inl hk⟩, _, rfl, _, rfl, le_line (by show 2 ≤ _; decide), fun t ht => ⟨Nat.zero_le _, fun d hd => ⟨_, DGet.t (k := kE (c, b)) ((Same.new hd) _ _ ((Same.new ht) _ _ hk)) ((Same.new hd) _ _ upd_same), ?_⟩⟩⟩
      have s5 := (Same.new (o := .tup [.int c, .int (sdI b)]) ht).trans (Same.new (o := .lst []) hd)
      obtain ⟨la, lvs, hla, hlv, hnv⟩ := hget _ d s5 upd_same
      rw [hla]
      have fb := found_by I (c, b) hc
      have hmk : st.mark (c, b) = st.mark (c, b) := rfl
      rcases fb with ⟨i, hm, hf⟩ | ⟨f, hm, hf⟩ | ⟨hm, hf⟩ | ⟨hm, hf⟩
      · rw [hf] at hnv
        obtain ⟨a1, rfl, ha1⟩ := hnv.one
        rw [hm]
        refine ⟨_, rfl, rfl, _, rfl, ite2 (fun _ => ?_) fun c => absurd (by decide +kernel) c⟩
        refine ⟨_, rfl, la, _, rfl, .inl (SqL.of hlv), rfl, _, rfl, ite2 (fun c => absurd c (by simp)) fun _ => ?_⟩
        refine ⟨_, rfl, la, _, _, _, rfl, rfl, SqL.of hlv, atI_nat (j := 0) rfl, a1, _, _, _, rfl, rfl, SqT.of ha1, atI_nat (j := 0) rfl, rfl, _, rfl, ite2 (fun c => absurd c (by decide +kernel)) fun _ => ?_⟩
        refine ⟨_, rfl, rfl, _, rfl, ite2 (fun c => absurd c (by decide +kernel)) fun _ => ite2 (fun c => absurd c (by decide)) fun _ => ?_⟩
        refine ⟨_, rfl, le_line (by show 2 ≤ _; decide), fun q1 hq1 => ⟨q1, _, rfl, .inl (SqL.of upd_same), rfl, rfl, _, rfl, ite2 (fun c => absurd c (by decide +kernel)) fun _ => ite2 (fun c => absurd c (by decide)) fun _ => ?_⟩⟩
        refine ⟨_, rfl, le_line (by show 4 ≤ _; decide), fun q2 hq2 => ⟨q2, _, rfl, .inl (SqL.of upd_same), rfl, rfl, _, rfl, ite2 (fun c => absurd c (by decide +kernel)) fun _ => ?_⟩⟩
        exact ⟨_, _, _, rfl, s2.trans ((s5.trans (Same.new hq1)).trans (Same.new hq2))⟩
      · rw [hf] at hnv
        obtain ⟨a1, rfl, ha1⟩ := hnv.one
        rw [hm]
        refine ⟨_, rfl, rfl, _, rfl, ite2 (fun c => absurd c (by decide +kernel)) fun _ => ite2 (fun c => absurd c (by decide)) fun _ => ?_⟩
        refine ⟨_, rfl, rfl, _, rfl, ite2 (fun _ => ?_) fun c => absurd (by decide +kernel) c⟩
        refine ⟨_, rfl, la, _, rfl, .inl (SqL.of hlv), rfl, _, rfl, ite2 (fun c => absurd c (by simp)) fun _ => ?_⟩
        refine ⟨_, rfl, la, _, _, _, rfl, rfl, SqL.of hlv, atI_nat (j := 0) rfl, a1, _, _, _, rfl, rfl, SqT.of ha1, atI_nat (j := 0) rfl, rfl, _, rfl, ite2 (fun c => absurd c (by decide +kernel)) fun _ => ?_⟩
        refine ⟨_, rfl, le_line (by show 2 ≤ _; decide), fun q1 hq1 => ⟨q1, _, rfl, .inl (SqL.of upd_same), rfl, rfl, _, rfl, ite2 (fun c => absurd c (by decide +kernel)) fun _ => ite2 (fun c => absurd c (by decide)) fun _ => ?_⟩⟩
        refine ⟨_, rfl, le_line (by show 4 ≤ _; decide), fun q2 hq2 => ⟨q2, _, rfl, .inl (SqL.of upd_same), rfl, rfl, _, rfl, ite2 (fun c => absurd c (by decide +kernel)) fun _ => ?_⟩⟩
        exact ⟨_, _, _, rfl, s2.trans ((s5.trans (Same.new hq1)).trans (Same.new hq2))⟩
      · rw [hf] at hnv
        obtain rfl := hnv.zero
        rw [hm]
        refine ⟨_, rfl, rfl, _, rfl, ite2 (fun c => absurd c (by decide +kernel)) fun _ => ite2 (fun c => absurd c (by decide)) fun _ => ?_⟩
        refine ⟨_, rfl, rfl, _, rfl, ite2 (fun c => absurd c (by decide +kernel)) fun _ => ite2 (fun c => absurd c (by decide)) fun _ => ?_⟩
        refine ⟨_, rfl, le_line (by show 2 ≤ _; decide), fun q1 hq1 => ⟨q1, _, rfl, .inl (SqL.of upd_same), rfl, rfl, _, rfl, ite2 (fun _ => ?_) fun c => absurd (by decide +kernel) c⟩⟩
        refine ⟨_, rfl, la, _, rfl, .inl (SqL.of ((Same.new hq1) _ _ hlv)), _, _, rfl, rfl, _, rfl, ite2 (fun c => absurd c (by decide +kernel)) fun _ => ?_⟩
        refine ⟨_, rfl, le_line (by show 4 ≤ _; decide), fun q2 hq2 => ⟨q2, _, rfl, .inl (SqL.of upd_same), rfl, rfl, _, rfl, ite2 (fun c => absurd c (by decide +kernel)) fun _ => ?_⟩⟩
        exact ⟨_, _, _, rfl, s2.trans ((s5.trans (Same.new hq1)).trans (Same.new hq2))⟩
      · rw [hf] at hnv
        obtain rfl := hnv.zero
        rw [hm]
        refine ⟨_, rfl, rfl, _, rfl, ite2 (fun c => absurd c (by decide +kernel)) fun _ => ite2 (fun c => absurd c (by decide)) fun _ => ?_⟩
        refine ⟨_, rfl, rfl, _, rfl, ite2 (fun c => absurd c (by decide +kernel)) fun _ => ite2 (fun c => absurd c (by decide)) fun _ => ?_⟩
        refine ⟨_, rfl, le_line (by show 2 ≤ _; decide), fun q1 hq1 => ⟨q1, _, rfl, .inl (SqL.of upd_same), rfl, rfl, _, rfl, ite2 (fun _ => ?_) fun c => absurd (by decide +kernel) c⟩⟩
        refine ⟨_, rfl, la, _, rfl, .inl (SqL.of ((Same.new hq1) _ _ hlv)), _, _, rfl, rfl, _, rfl, ite2 (fun c => absurd c (by decide +kernel)) fun _ => ?_⟩
        refine ⟨_, rfl, le_line (by show 4 ≤ _; decide), fun q2 hq2 => ⟨q2, _, rfl, .inl (SqL.of upd_same), rfl, rfl, _, rfl, ite2 (fun c => absurd c (by decide +kernel)) fun _ => ?_⟩⟩
        exact ⟨_, _, _, rfl, s2.trans ((s5.trans (Same.new hq1)).trans (Same.new hq2))⟩
    · rintro σ H2 ⟨v3, v4, v5, rfl, s2⟩
      exact ⟨_, _, _, _, rfl, (s1.trans (Same.new hqa)).trans s2⟩
  · rintro σ H1 ⟨v2, v3, v4, v5, rfl, s1⟩
    exact q H1 s1
end G

/-! part W52 -/
set_option Elab.async false
set_option linter.all false
set_option maxRecDepth 100000
set_option maxHeartbeats 4000000
/-! Holders, roots. -/
namespace G
open PySem PySem.Spec PyProof.Rows L2
variable {P : Program} {w : World} {K : PySem.W.Frag} {mg : Str → Option Value} {base : Heap}
def spHolder (D : Defs) : V → V → V → Hp → VK → Prop := fun a b c H Q => ∃ (Tb : Nat → Talk) (s : Sta) (loc : End → Nd) (ty : End → Talk) (R : Addr) (e : End), a = .ref R ∧ b = .int e.1 ∧ c = .int (sdI e.2) ∧ Inv Tb D s [] loc ty ∧ s.live e ∧ s.n ≤ 40 ∧ PlV H R (places s) ∧ ∀ (i : Nat) H', Same H H' → Up loc e i → Q (.int i) H'
theorem ok_l_holder {D : Defs} (T : Top K mg) : FnG P w K mg base 1 (He.ga K "_law_holder") p_l_holder (S3 (spHolder D)) := by
  refine FnG.of3 T.d_l_holder sc_l_holder rfl fun cdv A outer s H a b c Q E hr h => ?_
  have hu := hu_of hr
  refine ⟨_, (pss_cons (ps_set (i := 3) sc_l_holder.nd rfl (Or.inl rfl) (pe_tup (pa_cons (pv 1) (pa_cons (pv 2) pa_nil))))
    (pss_cons (ps_for PassesOwn.never rfl (pi_range1 (by rfl) T.f_range (pa_cons pe_int pa_nil)) (pg_name (i := 4) sc_l_holder.nd rfl (Or.inl rfl)) (pss_cons (ps_set (i := 5) sc_l_holder.nd rfl (Or.inl rfl) (pe_dget2 hu (pv 0) (pv 3) (pe_lst pa_nil) ⟨rfl, rfl, rfl, rfl⟩))
    (pss_cons (ps_if (pt_cmpR op_ne (pe_callB call_len_seq (by rfl) T.f_len PySem.boot_len (pa_cons (pv 5) pa_nil)) pe_int (nomark _)) (pss_one (ps_ret pe_non)) pss_nil)
    (pss_cons (ps_if (pt_cmpR op_eq (pe_ix ix_tup (pe_ix ix_list (pv 5) pe_int (fun _ _ => rfl)) pe_int (fun _ _ => rfl)) pe_str (nomark _)) (pss_one (ps_ret (pe_ix ix_tup (pe_ix ix_list (pv 5) pe_int (fun _ _ => rfl)) pe_int (fun _ _ => rfl)))) pss_nil)
    (pss_one (ps_set (i := 3) sc_l_holder.nd rfl (Or.inl rfl) (pe_tup (pa_cons (pe_ix ix_tup (pe_ix ix_list (pv 5) pe_int (fun _ _ => rfl)) pe_int (fun _ _ => rfl)) (pa_cons (pe_ix ix_tup (pe_ix ix_list (pv 5) pe_int (fun _ _ => rfl)) pe_int (fun _ _ => rfl)) pa_nil)))))))))
    (pss_one (ps_ret pe_non)))), ?_⟩
  obtain ⟨Tb, st, loc, ty, R, e, rfl, rfl, rfl, I, le, zn, pl, q⟩ := h
  refine ⟨_, rfl, _, rfl, le_line (by show 2 ≤ _; decide), fun t0 ht0 => ?_⟩
  have s0 := Same.new (o := .tup [.int e.1, .int (sdI e.2)]) ht0
  refine ⟨(80 : Int), rfl, by omega, by omega, for_range (n := 80) (fun k σ H' => ∃ (t : Addr) (f : End) (v4 v5 : Option V), σ = [some (.ref R), some (.int e.1), some (.int (sdI e.2)), some (.ref t), v4, v5] ∧ Same H H' ∧ H' t = some (.tup [.int f.1, .int (sdI f.2)]) ∧ st.live f ∧ hop loc k e = .e f ∧ ∀ i, Up loc f i → Up loc e i)
    ⟨t0, e, _, _, rfl, s0, upd_same, le, rfl, fun i h => h⟩ ?_ ?_⟩
  · rintro k σ H1 hk ⟨t, f, v4, v5, rfl, s1, ht, lf, hop, up⟩
    have pl1 := pl.same s1
    obtain ⟨kv, hkv, hkl, hget⟩ := pl1.get f
    refine ⟨_, rfl, R, rfl, .inr ⟨kv, .inl hkv⟩, _, rfl, Nat.zero_le _, fun d hd => ⟨_, DGet.t (k := kE f) ((Same.new hd) _ _ hkv) ((Same.new hd) _ _ ht), ?_⟩⟩
    have s2 := Same.new (o := .lst []) hd
    obtain ⟨la, lvs, hla, hlv, hnv⟩ := hget _ d s2 upd_same
    rw [hla]
    rw [(I.found f).1 lf] at hnv
    obtain ⟨a1, rfl, ha1⟩ := hnv.one
    refine ⟨_, rfl, la, _, rfl, .inl (SqL.of hlv), rfl, _, rfl, ite2 (fun c => absurd c (by simp)) fun _ => ?_⟩
    cases hl : loc f with
    | a i =>
      rw [hl] at ha1
      refine ⟨_, rfl, la, _, _, _, rfl, rfl, SqL.of hlv, atI_nat (j := 0) rfl, a1, _, _, _, rfl, rfl, SqT.of ha1, atI_nat (j := 0) rfl, rfl, _, rfl, ite2 (fun _ => ?_) fun c => absurd (by decide +kernel) c⟩
      exact ⟨_, rfl, la, _, _, _, rfl, rfl, SqL.of hlv, atI_nat (j := 0) rfl, a1, _, _, _, rfl, rfl, SqT.of ha1, atI_nat (j := 1) rfl, q i _ (s1.trans s2) (up i (.here hl))⟩
    | e g =>
      rw [hl] at ha1
      refine ⟨_, rfl, la, _, _, _, rfl, rfl, SqL.of hlv, atI_nat (j := 0) rfl, a1, _, _, _, rfl, rfl, SqT.of ha1, atI_nat (j := 0) rfl, rfl, _, rfl, ite2 (fun c => absurd c (by decide +kernel)) fun _ => ?_⟩
      refine ⟨_, rfl, la, _, _, _, rfl, rfl, SqL.of hlv, atI_nat (j := 0) rfl, a1, _, _, _, rfl, rfl, SqT.of ha1, atI_nat (j := 1) rfl, _, rfl, la, _, _, _, rfl, rfl, SqL.of hlv, atI_nat (j := 0) rfl, a1, _, _, _, rfl, rfl, SqT.of ha1, atI_nat (j := 2) rfl, le_line (by show 2 ≤ _; decide), fun t2 ht2 => ?_⟩
      refine ⟨t2, g, _, _, rfl, (s1.trans s2).trans (Same.new ht2), upd_same, I.up f g lf hl, ?_, fun i h => up i (.more hl h)⟩
      show (match G.hop loc k e with | .e f => loc f | .a i => .a i) = .e g
      rw [hop]
      exact hl
  · rintro σ H1 ⟨t, f, v4, v5, rfl, s1, ht, lf, hop, up⟩
    have := I.short le hop
    omega
/-- the dict of parents -/
def ParD (H : Hp) (p : Addr) (par : Nat → Option Nat) (n : Nat) : Prop := ∃ kvs : List (Key × V), H p = some (.dK kvs) ∧ kvs.length ≤ n ∧ ∀ i : Nat, valV kvs (.inl i) = (par i).map fun j : Nat => V.int j
theorem ParD.same {H H' : Hp} {p : Addr} {par : Nat → Option Nat} {n : Nat} (h : ParD H p par n) (s : Same H H') : ParD H' p par n := by
  obtain ⟨kvs, h1, h2⟩ := h
  exact ⟨kvs, s _ _ h1, h2⟩
theorem ParD.put {H H1 : Hp} {p : Addr} {par : Nat → Option Nat} {n : Nat} {kvs : List (Key × V)} (h : ParD H p par n) (hk : H p = some (.dK kvs)) (i j : Nat) : ParD (upd H1 p (.dK (putK kvs (.inl i) (.int j)))) p (fset par i (some j)) (n + 1) := by
  obtain ⟨kvs', h1, h2, h3⟩ := h
  rw [hk] at h1
  cases h1
  refine ⟨_, upd_same, ?_, fun l => ?_⟩
  · have := putKlen kvs (.inl (i : Int)) (.int j)
    omega
  · rw [valV_put]
    by_cases c : l = i
    · rw [c, if_pos rfl, fset_same]
      rfl
    · rw [if_neg (show ¬ (Sum.inl (l : Int) : Key) = Sum.inl (i : Int) from fun z => c (Int.ofNat.inj (Sum.inl.inj z))), fset_ne c]
      exact h3 l
def spRoot : V → V → Hp → VK → Prop := fun a b H Q => ∃ (p : Addr) (par : Nat → Option Nat) (n i : Nat), a = .ref p ∧ b = .int i ∧ ParD H p par n ∧ ∀ (j : Nat), Wk par i j → Q (.int j) H
theorem ok_l_root (T : Top K mg) : FnG P w K mg base 1 (He.ga K "_law_root") p_l_root (S2 spRoot) := by
  refine FnG.of2 T.d_l_root sc_l_root rfl fun cdv A outer s H a b Q E hr h => ?_
  have hu := hu_of hr
  refine ⟨_, (pss_cons (ps_for PassesOwn.never rfl (pi_range1 (by rfl) T.f_range (pa_cons pe_int pa_nil)) (pg_name (i := 2) sc_l_root.nd rfl (Or.inl rfl)) (pss_one (ps_if (pt_cmpR op_ne (pe_dget2 hu (pv 0) (pv 1) (pv 1) ⟨rfl, rfl, rfl, rfl⟩) (pv 1) (nomark _)) (pss_one (ps_set (i := 1) sc_l_root.nd rfl (Or.inl rfl) (pe_dget hu (pv 0) (pv 1) (fun _ _ => rfl)))) pss_nil)))
    (pss_one (ps_ret (pv 1)))), ?_⟩
  obtain ⟨p, par, n, i, rfl, rfl, ⟨kvs, h1, h2, h3⟩, q⟩ := h
  refine ⟨(80 : Int), rfl, by omega, by omega, for_range (n := 80) (fun k σ H' => H' = H ∧ ∃ (j : Nat) (v2 : Option V), σ = [some (.ref p), some (.int j), v2] ∧ Wk par i j) ⟨rfl, i, _, rfl, .stay⟩ ?_ ?_⟩
  · rintro k σ H1 hk ⟨rfl, j, v2, rfl, wk⟩
    refine ⟨_, rfl, p, rfl, .inl ⟨kvs, .inl h1⟩, _, rfl, _, rfl, _, DGet.k (k := .inl (j : Int)) h1, ?_⟩
    rw [h3 j]
    cases hp : par j with
    | none =>
      exact ⟨_, rfl, rfl, _, rfl, ite2 (fun c => absurd c (by show ¬ (!decide (V.int j = V.int j)) = true; simp)) fun _ => ⟨rfl, j, _, rfl, wk⟩⟩
    | some m =>
      refine ⟨_, rfl, rfl, _, rfl, ite2 (fun _ => ?_) fun _ => ⟨rfl, j, _, rfl, wk⟩⟩
      have hg : DGet H1 p (.int j) (some (.int m)) := by
        have := h3 j
        rw [hp] at this
        rw [show some (V.int m) = valV kvs (.inl (j : Int)) from this.symm]
        exact DGet.k (k := .inl (j : Int)) h1
      exact ⟨_, rfl, _, rfl, p, _, rfl, hg, rfl, m, _, rfl, .go wk hp⟩
  · rintro σ H1 ⟨rfl, j, v2, rfl, wk⟩
    exact ⟨_, rfl, q j wk⟩
end G

/-! part W53 -/
set_option Elab.async false
set_option linter.all false
set_option maxRecDepth 100000
set_option maxHeartbeats 4000000
/-! It is a forest. -/
namespace G
open PySem PySem.Spec PyProof.Rows L2
variable {P : Program} {w : World} {K : PySem.W.Frag} {mg : Str → Option Value} {base : Heap}
theorem inV_live (m : Mark) : inV (.str (mkS m)) [.str "held", .str "sent"] = decide (m = .held ∨ m = .sent) := by
  cases m <;> decide +kernel
theorem live_up {Tb : Nat → Talk} {D : Defs} {s : Sta} {loc : End → Nd} {ty : End → Talk} : True := trivial
def spFor (K : PySem.W.Frag) (D : Defs) : V → V → Hp → VK → Prop := fun a b H Q => ∃ (Tb : Nat → Talk) (L : Pla) (s : Sta) (loc : End → Nd) (ty : End → Talk) (R : Addr), a = .ref (L .st) ∧ b = .ref R ∧ Rep K D H L s ∧ Inv Tb D s [] loc ty ∧ s.n ≤ 40 ∧ PlV H R (places s) ∧ ∀ H', Same H H' → Q (.bl true) H'
theorem ok_l_is_forest {D : Defs} (T : Top K mg) : FnG P w K mg base 4 (He.ga K "_law_is_forest") p_l_is_forest (S2 (spFor K D)) := by
  refine FnG.of2 T.d_l_is_forest sc_l_is_forest rfl fun cdv A outer s H a b Q E hr h => ?_
  have hu := hu_of hr
  have ok_cv_len := fun T => ok_cv_len (P := P) (w := w) (K := K) (mg := mg) (base := base) (D := D) T
  have ok_cv_mark := fun T => ok_cv_mark (P := P) (w := w) (K := K) (mg := mg) (base := base) (D := D) T
  have ok_l_holder := fun T => ok_l_holder (P := P) (w := w) (K := K) (mg := mg) (base := base) (D := D) T
  refine ⟨_, (pss_cons (ps_set (i := 2) sc_l_is_forest.nd rfl (Or.inl rfl) pe_dnewK)
    (pss_cons (ps_for PassesOwn.never rfl (pi_range1 (by rfl) T.f_range (pa_cons (pe_callB (call_lenI (ok_cv_len T) T.m_cv_len (hr.mono (by omega))) (by rfl) T.f_len PySem.boot_len (pa_cons (pe_fld (pv 0) rfl) pa_nil)) pa_nil)) (pg_name (i := 3) sc_l_is_forest.nd rfl (Or.inl rfl)) (pss_cons (ps_set (i := 4) sc_l_is_forest.nd rfl (Or.inl rfl) (pe_lst (pa_cons (pmeth (pe_fld (pv 0) rfl) T.c_cv T.m_cv_mark (ok_cv_mark T) (hr.mono (by omega)) (pa_cons (pv 3) (pa_cons pe_int pa_nil))) (pa_cons (pmeth (pe_fld (pv 0) rfl) T.c_cv T.m_cv_mark (ok_cv_mark T) (hr.mono (by omega)) (pa_cons (pv 3) (pa_cons pe_int pa_nil))) pa_nil))))
    (pss_one (ps_if (PW.pt (pw_and (pt_cmpR op_in_seq (pe_ix ix_list (pv 4) pe_int (fun _ _ => rfl)) (pe_lst (pa_cons pe_str (pa_cons pe_str pa_nil))) rfl) (pw_and1 (pt_cmpR op_in_seq (pe_ix ix_list (pv 4) pe_int (fun _ _ => rfl)) (pe_lst (pa_cons pe_str (pa_cons pe_str pa_nil))) rfl)))) (pss_cons (ps_set (i := 5) sc_l_is_forest.nd rfl (Or.inl rfl) (pcall (ok_l_holder T) (hr.mono (by omega)) T.g_l_holder (pa_cons (pv 1) (pa_cons (pv 3) (pa_cons pe_int pa_nil)))))
    (pss_cons (ps_set (i := 6) sc_l_is_forest.nd rfl (Or.inl rfl) (pcall (ok_l_holder T) (hr.mono (by omega)) T.g_l_holder (pa_cons (pv 1) (pa_cons (pv 3) (pa_cons pe_int pa_nil)))))
    (pss_cons (ps_if (PW.pt (pw_or (pt_cmpR op_isN (pv 5) pe_non (nomark _)) (pw_or1 (pt_cmpR op_isN (pv 6) pe_non (nomark _))))) (pss_one (ps_ret pe_bl)) pss_nil)
    (pss_cons (ps_set (i := 5) sc_l_is_forest.nd rfl (Or.inl rfl) (pcall (ok_l_root T) (hr.mono (by omega)) T.g_l_root (pa_cons (pv 2) (pa_cons (pv 5) pa_nil))))
    (pss_cons (ps_set (i := 6) sc_l_is_forest.nd rfl (Or.inl rfl) (pcall (ok_l_root T) (hr.mono (by omega)) T.g_l_root (pa_cons (pv 2) (pa_cons (pv 6) pa_nil))))
    (pss_cons (ps_if (pt_cmpR op_eq (pv 5) (pv 6) (nomark _)) (pss_one (ps_ret pe_bl)) pss_nil)
    (pss_one (ps_dput hu (pv 2) (pv 5) (pv 6) rfl)))))))) pss_nil))))
    (pss_one (ps_ret pe_bl)))), ?_⟩
  obtain ⟨Tb, L, st, loc, ty, R, rfl, rfl, R0, I, zn, pl, q⟩ := h
  refine fun pp hpp => ?_
  have s0 := Same.new (o := .dK []) hpp
  have R1 := R0.same s0
  obtain ⟨dx, hst⟩ := R1.st
  obtain ⟨dxc, hcv⟩ := R1.cv
  have Rp : R ≠ pp := fun z => by
    obtain ⟨_, h, _⟩ := pl
    rw [z, hpp] at h
    cases h
  refine ⟨_, rfl, _, _, dx, _, _, rfl, hst, T.c_st, T.a_st_conversations, rfl, _, dxc, _, rfl, hcv, L, st, rfl, R1, st.n, rfl, (by omega), (st.n : Int), rfl, by omega, by omega, for_range (n := st.n) (fun c σ H' => ∃ (v3 v4 v5 v6 : Option V) (par : Nat → Option Nat), σ = [some (.ref (L .st)), some (.ref R), some (.ref pp), v3, v4, v5, v6] ∧ Same H H' ∧ ParD H' pp par c ∧ Uf st loc c par)
    ⟨_, _, _, _, fun _ => none, rfl, s0, ⟨[], upd_same, Nat.le_refl _, fun i => rfl⟩, uf_zero st loc⟩ ?_ ?_⟩
  · rintro c σ H1 hc ⟨v3, v4, v5, v6, par, rfl, s1, pd, U⟩
    rw [Int.zero_add]
    have R2 := R0.same s1
    have pl2 := pl.same s1
    obtain ⟨dx2, hst2⟩ := R2.st
    obtain ⟨dxc2, hcv2⟩ := R2.cv
    refine ⟨_, rfl, _, _, dx2, _, _, rfl, hst2, T.c_st, T.a_st_conversations, rfl, _, dxc2, _, rfl, hcv2, rfl, _, rfl, L, st, (c, false), rfl, rfl, rfl, R2, hc, ?_⟩
    refine ⟨_, rfl, _, _, dx2, _, _, rfl, hst2, T.c_st, T.a_st_conversations, rfl, _, dxc2, _, rfl, hcv2, rfl, _, rfl, L, st, (c, true), rfl, rfl, rfl, R2, hc, le_line (by show 2 ≤ _; decide), fun ml hml => ?_⟩
    have s2 := Same.new (o := .lst [.str (mkS (st.mark (c, false))), .str (mkS (st.mark (c, true)))]) hml
    have fskip : ∀ {H' : Hp} {v5 v6 : Option V}, Same H1 H' → ∃ (v3 v4' v5' v6' : Option V) (par : Nat → Option Nat), [some (V.ref (L .st)), some (.ref R), some (.ref pp), some (.int c), some (.ref ml), v5, v6] = [some (.ref (L .st)), some (.ref R), some (.ref pp), v3, v4', v5', v6'] ∧ Same H H' ∧ ParD H' pp par (c + 1) ∧ Uf st loc (c + 1) par := fun {H' v5 v6} s => by
      obtain ⟨kvs, h1, h2, h3⟩ := pd
      exact ⟨_, _, _, _, par, rfl, s1.trans s, ⟨kvs, s _ _ h1, Nat.le_succ_of_le h2, h3⟩, U.skip⟩
    refine ⟨_, rfl, ml, _, _, _, rfl, rfl, SqL.of upd_same, atI_nat (j := 0) rfl, le_line (by show 2 ≤ _; decide), fun q1 hq1 => ⟨q1, _, rfl, .inl (SqL.of upd_same), rfl, rfl, _, rfl, ?_⟩⟩
    have s3 := s2.trans (Same.new (o := .lst [.str "held", .str "sent"]) hq1)
    have e1 : inV (.str (mkS (st.mark (c, false)))) [.str "held", .str "sent"] = decide (st.mark (c, false) = .held ∨ st.mark (c, false) = .sent) := inV_live _
    have e2 : inV (.str (mkS (st.mark (c, true)))) [.str "held", .str "sent"] = decide (st.mark (c, true) = .held ∨ st.mark (c, true) = .sent) := inV_live _
    rw [e1]
    refine ite2 (fun c1 => ?_) fun _ => fskip s3
    have l1 : st.live (c, false) := ⟨hc, of_decide_eq_true c1⟩
    refine ⟨_, rfl, ml, _, _, _, rfl, rfl, SqL.of ((Same.new hq1) _ _ upd_same), atI_nat (j := 1) rfl, le_line (by show 2 ≤ _; decide), fun q2 hq2 => ⟨q2, _, rfl, .inl (SqL.of upd_same), rfl, rfl, _, rfl, ?_⟩⟩
    have s4 := s3.trans (Same.new (o := .lst [.str "held", .str "sent"]) hq2)
    rw [e2]
    refine ite2 (fun c2 => ?_) fun _ => fskip s4
    have l2 : st.live (c, true) := ⟨hc, of_decide_eq_true c2⟩
    refine ⟨_, rfl, _, rfl, Tb, st, loc, ty, R, (c, false), rfl, rfl, rfl, I, l1, zn, pl2.same s4, fun i1 H5 s5 u1 => ?_⟩
    refine ⟨_, rfl, _, rfl, Tb, st, loc, ty, R, (c, true), rfl, rfl, rfl, I, l2, zn, (pl2.same s4).same s5, fun i2 H6 s6 u2 => ?_⟩
    have s46 := (s4.trans s5).trans s6
    have pd6 := pd.same s46
    refine ⟨_, rfl, rfl, _, rfl, ite2 (fun c => absurd c (by simp)) fun _ => ⟨_, rfl, rfl, _, rfl, ite2 (fun c => absurd c (by simp)) fun _ => ?_⟩⟩
    refine ⟨_, rfl, _, rfl, pp, par, c, i1, rfl, rfl, pd6, fun r1 w1 => ?_⟩
    refine ⟨_, rfl, _, rfl, pp, par, c, i2, rfl, rfl, pd6, fun r2 w2 => ?_⟩
    obtain ⟨ne, U'⟩ := U.join I ⟨l1, l2⟩ u1 u2 w1 w2
    refine ⟨_, rfl, _, rfl, rfl, _, rfl, ite2 (fun c => absurd (Int.ofNat.inj (V.int.inj (of_decide_eq_true c))) ne) fun _ => ?_⟩
    obtain ⟨kvs, h1, h2, h3⟩ := id pd6
    refine ⟨_, rfl, _, rfl, _, rfl, pp, _, rfl, DPut.k (k := .inl (r1 : Int)) h1 (lt_line (by omega)), ?_⟩
    exact ⟨_, _, _, _, fset par r1 (some r2), rfl, Same.put (s1.trans s46) hpp, pd6.put h1 r1 r2, U'⟩
  · rintro σ H1 ⟨v3, v4, v5, v6, par, rfl, s1, pd, U⟩
    exact q H1 s1
end G

/-! part W54 -/
set_option Elab.async false
set_option linter.all false
set_option maxRecDepth 100000
set_option maxHeartbeats 4000000
/-! The law. -/
namespace G
open PySem PySem.Spec PyProof.Rows L2
variable {P : Program} {w : World} {K : PySem.W.Frag} {mg : Str → Option Value} {base : Heap}
theorem mkD_dok {m : Nat} {Tb : Nat → Talk} {bs : List Blk} (h : (mkD m bs).Ok Tb) : DOk Tb (mkD m bs) := by
  refine ⟨h, fun f ps e => ?_⟩
  have e : (f, ps) ∈ (sMain, []) :: defsN m := mem_sg e
  rcases List.mem_cons.mp e with e | e
  · cases e
    exact Nat.zero_le _
  · obtain ⟨d, k, _, e | e⟩ := defsN_mem e
    · cases e
      show 2 ≤ 10
      omega
    · cases e
      show 4 ≤ 10
      omega
theorem PrAt.same {H H' : Hp} {x : Addr} {D : Defs} (h : PrAt K H x D) (s : Same H H') : PrAt K H' x D := by
  obtain ⟨dx, t, q, kvs, h1, h2, h3⟩ := h.ex
  exact ⟨⟨dx, t, q, kvs, s _ _ h1, s _ _ h2, fun f ps e => by
    obtain ⟨v, h4, h5⟩ := h3 f ps e
    exact ⟨v, h4, h5.tu (Same.tu s)⟩⟩⟩
theorem SqL.keepI {H H' : Hp} {a : Addr} {xs : List V} (h : SqL K H a xs) (k : ∀ y o, (∀ k, o ≠ .dK k) → (∀ c d f, o ≠ .ins c d f) → H y = some o → H' y = some o) : SqL K H' a xs :=
  h.elim (fun h => .inl (h.elim (fun h => .inl (k _ _ (fun _ z => by cases z) (fun _ _ _ z => by cases z) h)) fun ⟨o, h⟩ => .inr ⟨o, k _ _ (fun _ z => by cases z) (fun _ _ _ z => by cases z) h⟩)) fun h => .inr h
theorem Sz.p {s : Sta} {B : Nat} (z : Sz s B) (h : B ≤ 41) : SzP s := ⟨by have := z.n; omega, by have := z.na; omega, fun i => by have := z.nm i; omega, fun e => by have := z.bx e; omega⟩
def spLaw (K : PySem.W.Frag) : V → Hp → VK → Prop := fun a H Q => ∃ (p : Addr) (ns : List Int), a = .ref p ∧ SqL K H p (ns.map V.int) ∧ ∀ H', Q (.bl true) H'
structure LPre (K : PySem.W.Frag) (D : Defs) (Tb : Nat → Talk) (x FL PL : Addr) (fvs : List V) (ms : List Int) (H : Hp) (t : Nat) (L : Pla) (s : Sta) (loc : End → Nd) (ty : End → Talk) : Prop where
  R : Rep K D H L s
  I : Inv Tb D s [] loc ty
  z : Sz s t
  fl : H FL = some (.lst fvs)
  fv : FalV H fvs
  pl : H PL = some (.lst (ms.map V.int))
  of : Out L s FL
  op : Out L s PL
  st : L .st = x
theorem LPre.go {D : Defs} {Tb : Nat → Talk} {x FL PL : Addr} {fvs : List V} {ms : List Int} {H H' : Hp} {t t' : Nat} {L L' : Pla} {s s' : Sta} {loc loc' : End → Nd} {ty ty' : End → Talk} (X : LPre K D Tb x FL PL fvs ms H t L s loc ty)
    (R' : Rep K D H' L' s') (F : Frm H H' L L' s s') (I' : G.Inv Tb D s' [] loc' ty') (z' : Sz s' t') : LPre K D Tb x FL PL fvs ms H' t' L' s' loc' ty' :=
  ⟨R', I', z', F.keep _ _ X.fl X.of, X.fv.tu F.tu, F.keep _ _ X.pl X.op, F.out X.fl X.of, F.out X.pl X.op, F.fix.1.trans X.st⟩
theorem LPre.same {D : Defs} {Tb : Nat → Talk} {x FL PL : Addr} {fvs : List V} {ms : List Int} {H H' : Hp} {t : Nat} {L : Pla} {s : Sta} {loc : End → Nd} {ty : End → Talk} (X : LPre K D Tb x FL PL fvs ms H t L s loc ty) (k : Same H H') : LPre K D Tb x FL PL fvs ms H' t L s loc ty :=
  X.go (X.R.same k) (Frm.same k) X.I X.z
theorem PSs.any {X : Cx} {ι : Type} {ss : List Stmt} {t : ι → TS} (h : ∀ i, PSs X ss (t i)) : PSs X ss (fun D σ H => ∃ i, t i D σ H) := ⟨fun pins s σ H D I ⟨i, q⟩ => (h i).run pins s σ H D I q⟩
theorem law_body (T : Top K mg) {E : XK} (cdv : Value) (A : Around) (outer : List Env) (s : Shared) (H : Hp) (a : V) (Q : VK) (hr : Room 30 (A.deeper (envOfC "law" (defScope s_law) s.heap.objs.size (He.ga K "law") cdv))) (h : spLaw K a H Q) :
    ∃ t, PSs (Bd P w K mg base n_law "law" s_law (He.ga K "law") cdv A outer s H E) (defBody s_law) t ∧ t { nx := fun _ H' => Q .non H', rt := Q } (start n_law [a]) H := by
  have hu := hu_of hr
  obtain ⟨p, ns, rfl, hS, q⟩ := h
  refine ⟨_, (pss_cons (ps_asg (pcall (ok_l_start T) (hr.mono (by omega)) T.g_l_start (pa_cons (pv 0) pa_nil)) (pg_unl (by rfl) (pgs_cons (pg_name (i := 1) sc_law.nd rfl (Or.inl rfl)) (pgs_cons (pg_name (i := 2) sc_law.nd rfl (Or.inl rfl)) (pgs_cons (pg_name (i := 3) sc_law.nd rfl (Or.inl rfl)) pgs_nil)))))
    (pss_cons (ps_set (i := 4) sc_law.nd rfl (Or.inl rfl) (pmake T.k_st (ok_st_init T) (hr.mono (by omega)) T.g_st (pa_cons (pcall (ok_l_program T) (hr.mono (by omega)) T.g_l_program (pa_cons (pv 1) (pa_cons (pv 2) (pa_cons (pv 3) pa_nil)))) pa_nil)))
    (pss_cons (ps_set (i := 5) sc_law.nd rfl (Or.inl rfl) (pcall (ok_l_falls T) (hr.mono (by omega)) T.g_l_falls (pa_cons (pe_callB call_abs (by rfl) T.f_abs (by decide +kernel) (pa_cons (pcall (ok_l_cell T) (hr.mono (by omega)) T.g_l_cell (pa_cons (pv 0) (pa_cons pe_int pa_nil))) pa_nil)) pa_nil)))
    (pss_cons (ps_set (i := 6) sc_law.nd rfl (Or.inl rfl) (pcall (ok_l_plays T) (hr.mono (by omega)) T.g_l_plays (pa_cons (pv 0) (pa_cons pe_int (pa_cons pe_int pa_nil)))))
    (PSs.any fun D : Defs => (pss_cons (ps_for PassesOwn.never rfl (pi_range1 (by rfl) T.f_range (pa_cons pe_int pa_nil)) (pg_name (i := 7) sc_law.nd rfl (Or.inl rfl)) (pss_cons (ps_for PassesOwn.never rfl (pi_list (pv 5)) (pg_tup (by rfl) (pgs_cons (pg_name (i := 8) sc_law.nd rfl (Or.inl rfl)) (pgs_cons (pg_name (i := 9) sc_law.nd rfl (Or.inl rfl)) pgs_nil))) (pss_one (ps_if (pt_cmpR op_eq (pv 8) (pv 7) (nomark _)) (pss_one (ps_expr (pcall (ok_fall (D := D) T) (hr.mono (by omega)) T.g_fall (pa_cons (pv 4) (pa_cons (pv 9) pa_nil))))) pss_nil)))
    (pss_cons (ps_set (i := 10) sc_law.nd rfl (Or.inl rfl) (pcall (ok_l_places (D := D) T) (hr.mono (by omega)) T.g_l_places (pa_cons (pv 4) pa_nil)))
    (pss_cons (ps_if (PW.pt (pw_or (pt_not (pt_val (pcall (ok_l_marks_fit (D := D) T) (hr.mono (by omega)) T.g_l_marks_fit (pa_cons (pv 4) (pa_cons (pv 10) pa_nil))))) (pw_or1 (pt_not (pt_val (pcall (ok_l_is_forest (D := D) T) (hr.mono (by omega)) T.g_l_is_forest (pa_cons (pv 4) (pa_cons (pv 10) pa_nil)))))))) (pss_one (ps_ret pe_bl)) pss_nil)
    (pss_cons (ps_set (i := 11) sc_law.nd rfl (Or.inl rfl) (pmeth0 (pv 4) T.c_st T.m_st_ready (ok_st_ready (D := D) T) (hr.mono (by omega))))
    (pss_one (ps_if (pt_cmpR op_gt (pe_callB call_len_seq (by rfl) T.f_len PySem.boot_len (pa_cons (pv 11) pa_nil)) pe_int (nomark _)) (pss_cons (ps_set (i := 12) sc_law.nd rfl (Or.inl rfl) pe_int)
    (pss_cons (ps_if (pt_cmpR op_lt (pv 7) (pe_callB call_len_seq (by rfl) T.f_len PySem.boot_len (pa_cons (pv 6) pa_nil)) (nomark _)) (pss_one (ps_set (i := 12) sc_law.nd rfl (Or.inl rfl) (pe_ix ix_list (pv 6) (pv 7) (fun _ _ => rfl)))) pss_nil)
    (pss_one (ps_expr (pcall (ok_step (D := D) T) (hr.mono (by omega)) T.g_step (pa_cons (pv 4) (pa_cons (pe_ix ix_list (pv 11) (pe_op op_mod (pv 12) (pe_callB call_len_seq (by rfl) T.f_len PySem.boot_len (pa_cons (pv 11) pa_nil))) (fun _ _ => rfl)) pa_nil))))))) pss_nil)))))))
    (pss_one (ps_ret pe_bl)))))))), ?_⟩
  refine ⟨_, rfl, p, ns, rfl, hS, fun R0 q0 Lh m Tb b0 vs v0 bs H1 s1 hR0 hTab hm hMain hMT hLh hDefs => ?_⟩
  refine ⟨R0, _, rfl, SqL.of hR0, rfl, _, _, rfl, _, _, rfl, _, _, rfl, rfl, ?_⟩
  refine ⟨_, rfl, _, rfl, _, rfl, q0, m, Tb, b0, Lh, vs, bs, rfl, hTab, hm, hMain, hMT, rfl, hLh, hDefs, fun x H2 s2 hx0 hP hOk => ?_⟩
  have hD := mkD_dok hOk
  refine fun sx dx hsx hdx ne => ⟨sx, dx, x, mkD m (b0 :: bs), Tb, rfl, rfl, upd_same, ?_, hOk, rfl, fun L st loc ty H3 R3 I3 z3 hst3 keep => ⟨rfl, ?_⟩⟩
  · refine hP.same fun b o e => ?_
    rw [upd_ne (ne_of_none e hsx), upd_ne (ne_of_none e hdx)]
    exact e
  have hS3 : SqL K H3 p (ns.map V.int) := by
    refine SqL.keepI (H := upd (upd H2 dx (.own sx)) sx (.ins (stC K) dx [])) (SqL.same hS ((s1.trans s2).trans fun b o e => ?_)) fun y o h1 h2 h3 => (keep y o h1 h2 h3).1
    rw [upd_ne (ne_of_none e hsx), upd_ne (ne_of_none e hdx)]
    exact e
  refine ⟨_, rfl, p, ns, 2, rfl, rfl, hS3, by decide, fun c1 => ⟨c1, rfl, _, rfl, fun FL fvs H4 s4 hFL0 hFL hF => ?_⟩⟩
  refine ⟨_, rfl, p, ns, rfl, rfl, rfl, SqL.same hS3 s4, fun PL ms H5 s5 hPL0 hPL => ?_⟩
  have R4 := R3.same s4
  have X5 : LPre K (mkD m (b0 :: bs)) Tb sx FL PL fvs ms H5 0 L st loc ty := ⟨R4.same s5, I3, z3, s5 _ _ hFL, hF.tu (Same.tu s5), hPL, R3.out hFL0, R4.out hPL0, hst3⟩
  generalize mkD m (b0 :: bs) = D at hD X5
  refine ⟨D, (40 : Int), rfl, by omega, by omega, for_range (n := 40) (fun t σ H' => ∃ (v7 v8 v9 v10 v11 v12 : Option V) (L : Pla) (s : Sta) (loc : End → Nd) (ty : End → Talk), σ = [some (.ref p), some (.ref q0), some v0, some (.ref Lh), some (.ref sx), some (.ref FL), some (.ref PL), v7, v8, v9, v10, v11, v12] ∧ LPre K D Tb sx FL PL fvs ms H' t L s loc ty)
    ⟨_, _, _, _, _, _, L, st, loc, ty, rfl, X5⟩ ?_ ?_⟩
  · clear X5 R4 R3 I3 z3 hst3 keep
    rintro t σ H6 ht ⟨v7, v8, v9, v10, v11, v12, L, st, loc, ty, rfl, X6⟩
    rw [Int.zero_add]
    refine ⟨_, rfl, FL, rfl, ⟨_, SqL.of X6.fl⟩, for_list (K := K) (a := FL) (xs := fvs) (fun j σ H' => ∃ (v8 v9 : Option V) (L : Pla) (s : Sta) (loc : End → Nd) (ty : End → Talk), σ = [some (.ref p), some (.ref q0), some v0, some (.ref Lh), some (.ref sx), some (.ref FL), some (.ref PL), some (.int t), v8, v9, v10, v11, v12] ∧ LPre K D Tb sx FL PL fvs ms H' t L s loc ty)
      ⟨v8, v9, L, st, loc, ty, rfl, X6⟩ (fun j σ H' _ ⟨_, _, _, _, _, _, _, X⟩ => SqL.of X.fl) ?_ ?_⟩
    · clear X6
      rintro j v σ H7 hv ⟨v8, v9, L, st, loc, ty, rfl, X7⟩
      obtain ⟨pf, fa, fb, rfl, hpf⟩ := X7.fv.get hv
      refine ⟨pf, _, rfl, SqT.of hpf, rfl, _, _, rfl, _, _, rfl, rfl, ?_⟩
      refine ⟨_, rfl, _, rfl, rfl, _, rfl, ite2 (fun _ => ?_) fun _ => ⟨_, _, L, st, loc, ty, rfl, X7⟩⟩
      refine ⟨_, rfl, _, rfl, Tb, L, st, loc, ty, t, fb, by rw [X7.st], rfl, X7.R, X7.I, X7.z, (by omega), fun v L' s' loc' ty' H' R' F' I' z' => ?_⟩
      exact ⟨_, _, L', s', loc', ty', rfl, X7.go R' F' I' z'⟩
    clear X6
    rintro σ H7 ⟨v8, v9, L, st, loc, ty, rfl, X7⟩
    have zt := X7.z.p (by omega)
    have zn := X7.z.n
    have zna := X7.z.na
    refine ⟨_, rfl, L, st, by rw [X7.st], X7.R, zt, fun i hi => ?_, fun Rp H8 s8 hRp pl => ?_⟩
    · obtain ⟨g, hc, _⟩ := X7.I.typ.code i hi
      exact hc.nd
    have X8 := X7.same s8
    refine ⟨_, rfl, _, rfl, Tb, L, st, loc, ty, Rp, by rw [X7.st], rfl, X8.R, X8.I, (by omega), pl, fun H9 s9 => ?_⟩
    have X9 := X8.same s9
    refine ⟨_, rfl, ite2 (fun c => absurd c (by decide)) fun _ => ?_⟩
    refine ⟨_, rfl, _, rfl, Tb, L, st, loc, ty, Rp, by rw [X9.st], rfl, X9.R, X9.I, (by omega), pl.same s9, fun H10 s10 => ?_⟩
    have X10 := X9.same s10
    obtain ⟨dx10, hst10⟩ := X10.R.st
    rw [X10.st] at hst10
    refine ⟨_, rfl, ite2 (fun c => absurd c (by decide)) fun _ => ?_⟩
    refine ⟨_, rfl, _, dx10, _, rfl, hst10, rfl, L, st, by rw [X10.st], X10.R, (by omega), hearOk X10.I, fun Z H11 s11 hZ0 hZ => ?_⟩
    have X8 := X10.same s11
    clear X10 X9 X7
    have lz : (intsV (rdyL st)).length = (rdyL st).length := by unfold intsV; rw [List.length_map]
    refine ⟨_, rfl, Z, _, rfl, .inl (SqL.of hZ), _, _, rfl, rfl, _, rfl, ite2 (fun c => ?_) fun _ => ⟨_, _, _, _, _, _, L, st, loc, ty, rfl, X8.go X8.R (Frm.refl _ _ _) X8.I X8.z.mono⟩⟩
    have hpos : 0 < (rdyL st).length := by
      have c := of_decide_eq_true c
      rw [lz] at c
      omega
    refine ⟨_, rfl, _, rfl, PL, _, rfl, .inl (SqL.of X8.pl), _, _, rfl, rfl, _, rfl, ite2 (fun c => ?_) fun _ => ?_⟩
    · have c := of_decide_eq_true c
      rw [List.length_map] at c
      have ht' : t < ms.length := by omega
      obtain ⟨kk, hkk⟩ : ∃ kk, ms[t]? = some kk := ⟨_, List.getElem?_eq_getElem ht'⟩
      refine ⟨_, rfl, _, rfl, PL, _, _, _, rfl, rfl, SqL.of X8.pl, atI_nat (j := t) (by rw [List.getElem?_map, hkk]; rfl), ?_⟩
      have hlt : ((rdyL st).length : Int) ≠ 0 := by omega
      have m1 := Int.emod_nonneg kk hlt
      have m2 := Int.emod_lt_of_pos kk (show (0 : Int) < (rdyL st).length by omega)
      have li : (intsV (rdyL st)).length = (rdyL st).length := by unfold intsV; rw [List.length_map]
      obtain ⟨j, hj⟩ : ∃ j : Nat, kk % ((rdyL st).length : Int) = j := ⟨(kk % ((rdyL st).length : Int)).toNat, by omega⟩
      have hjl : j < (rdyL st).length := by omega
      obtain ⟨i, hi⟩ : ∃ i, (rdyL st)[j]? = some i := ⟨_, List.getElem?_eq_getElem hjl⟩
      have hat : atI (intsV (rdyL st)) (kk % (((intsV (rdyL st)).length : Nat) : Int)) = some (.int i) := by
        rw [li, hj]
        refine atI_nat ?_
        unfold intsV
        rw [List.getElem?_map, hi]
        rfl
      refine ⟨_, rfl, _, rfl, _, rfl, _, rfl, Z, _, rfl, .inl (SqL.of hZ), _, _, rfl, rfl, (by rw [li]; omega), Z, _, _, _, rfl, rfl, SqL.of hZ, hat, Tb, L, st, loc, ty, t, i, by rw [X8.st], rfl, X8.R, X8.I, X8.z, (by omega), hD, List.mem_of_getElem? hi, fun v L' s' loc' ty' H9 R' F' I' z' => ?_⟩
      exact ⟨_, _, _, _, _, _, L', s', loc', ty', rfl, X8.go R' F' I' z'⟩
    · skip
      have hlt : ((rdyL st).length : Int) ≠ 0 := by omega
      have m1 := Int.emod_nonneg (0 : Int) hlt
      have m2 := Int.emod_lt_of_pos (0 : Int) (show (0 : Int) < (rdyL st).length by omega)
      have li : (intsV (rdyL st)).length = (rdyL st).length := by unfold intsV; rw [List.length_map]
      obtain ⟨j, hj⟩ : ∃ j : Nat, (0 : Int) % ((rdyL st).length : Int) = j := ⟨((0 : Int) % ((rdyL st).length : Int)).toNat, by omega⟩
      have hjl : j < (rdyL st).length := by omega
      obtain ⟨i, hi⟩ : ∃ i, (rdyL st)[j]? = some i := ⟨_, List.getElem?_eq_getElem hjl⟩
      have hat : atI (intsV (rdyL st)) ((0 : Int) % (((intsV (rdyL st)).length : Nat) : Int)) = some (.int i) := by
        rw [li, hj]
        refine atI_nat ?_
        unfold intsV
        rw [List.getElem?_map, hi]
        rfl
      refine ⟨_, rfl, _, rfl, _, rfl, _, rfl, Z, _, rfl, .inl (SqL.of hZ), _, _, rfl, rfl, (by rw [li]; omega), Z, _, _, _, rfl, rfl, SqL.of hZ, hat, Tb, L, st, loc, ty, t, i, by rw [X8.st], rfl, X8.R, X8.I, X8.z, (by omega), hD, List.mem_of_getElem? hi, fun v L' s' loc' ty' H9 R' F' I' z' => ?_⟩
      exact ⟨_, _, _, _, _, _, L', s', loc', ty', rfl, X8.go R' F' I' z'⟩
  · rintro σ H6 ⟨v7, v8, v9, v10, v11, v12, L, st, loc, ty, rfl, X6⟩
    exact q H6
end G

/-! part W55 -/
set_option Elab.async false
set_option linter.all false
set_option maxRecDepth 100000
set_option maxHeartbeats 4000000
/-! The law, with its head. -/
namespace G
open PySem PySem.Spec PyProof.Rows L2
theorem law_fn {P : Program} {w : World} {K : PySem.W.Frag} {mg : Str → Option Value} {base : Heap} (T : Top K mg) {fd : FuncData} (F : FnP K "law" "law" s_law (He.ga K "law") fd) :
    FnOk P w K mg base CX0 31 (He.ga K "law") fd p_law (fun vs H Q _ => S1 (spLaw K) vs H Q) := by
  refine F.ok sc_law (fun vs H Q _ h => by obtain ⟨_, rfl, _⟩ := h.len; rfl) fun cdv A outer s H vs Q E hr h => ?_
  obtain ⟨v1, rfl, h⟩ := h.len
  obtain ⟨t, h1, h2⟩ := law_body (P := P) (w := w) (base := base) (E := E) T cdv A outer s H v1 Q hr h
  exact ⟨t, h1.nox, h2⟩
theorem law_binds {K : PySem.W.Frag} {f : Addr} {fd : FuncData} (F : FnP K "law" "law" s_law f fd) (s : Shared) (v : Value) : BindsTo s fd ⟨[v], []⟩ [("_law_script", v)] := by
  have b := FunD.bindsA (ps := ["_law_script"]) F fun _ _ _ _ _ _ us hl => match us, hl with | [_], _ => rfl
  exact b s [v] rfl
end G
set_option maxHeartbeats 0
open PySem PySem.W PySem.Calls PyProof.Rows
theorem PySem.Challenge.cw_pourparler_k51_whole_forest_of_actors_holds : PySem.Challenge.rw_pourparler_k51_whole_forest_of_actors.Holds := by
  w_on; o_law
  refine HandSHeadRun.head_any (r := OpenLaw.row PySem.Challenge.rw_pourparler_k51_whole_forest_of_actors) (q := view (OpenLaw.row PySem.Challenge.rw_pourparler_k51_whole_forest_of_actors).prog [72]) (H := G.hk) (ob := G.ob) (M := 6000) (loose := G.loose) (d := HandSHeadRun.topDef (OpenLaw.row PySem.Challenge.rw_pourparler_k51_whole_forest_of_actors).prog 72) (kwd := []) G.ob_eq
    (by kernel_rfl) (fun s => by kernel_rfl) G.run (by kernel_rfl) (by kernel_rfl) (by kernel_rfl) (by rfl) (by first | assumption | decide +kernel) (by decide +kernel) ⟨rfl, rfl, rfl, rfl, rfl, by decide +kernel⟩ ?hw ?hc
  case hw => w_witness2
  case hc =>
    refine L2.walk_ofE (l := PySem.Challenge.rw_pourparler_k51_whole_forest_of_actors) (n := 63) (k := 31) (x := "_law_script") (CX := L2.CX0) rfl (by decide) (by kernel_rfl) ⟨rfl, by decide, by decide⟩ ?F (fun _ _ _ _ z => z)
    intro w mg fa h Y Gn hmg0
    obtain ⟨K, KX, c⟩ := Y
    have T := G.top_of KX Gn c
    have hmg : mg ("law" : PySem.Str) = some (.ref fa) := by
      have e : (HandSHeadRun.topDef (OpenLaw.row PySem.Challenge.rw_pourparler_k51_whole_forest_of_actors).prog 72).name = ("law" : PySem.Str) := by kernel_rfl
      rw [← e]
      exact hmg0
    have efa : fa = He.ga K "law" := by
      have := hmg.symm.trans T.g_law
      cases this
      rfl
    subst efa
    obtain ⟨fd, F, b⟩ := T.d_law.ex
    exact ⟨K, fd, fun vs H Q _ => G.S1 (G.spLaw K) vs H Q, KX, fun s v => G.law_binds F s v, fun H a ns hl _ hS => ⟨a, ns, rfl, hS, fun _ => rfl⟩, fun base hb hn => G.law_fn T F⟩
