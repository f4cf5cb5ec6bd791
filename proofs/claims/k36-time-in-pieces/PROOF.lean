import PyProof.Rows.All
import Wide.All
import OpenK.AllK
import Wide.FinOn
import HandS.ForMost
import HandS.More
import HandS.Defaults
import HandS.Exc
import HandS.Head0
import HandS.Head1
import HandS.Head2
import HandS.HeadEnd
import HandS.HeadHook1
import HandS.HeadHook2
import HandS.HeadHook3
import HandS.HeadHook4
import HandS.StrMore
import HandS.DictTup
import KE.KDictWalk
import HandS.SortKw
import PyProof.Rows.SortShellAny
import HandS.Conv
import KE.GoesZip
import KE.GoesEnum
import KE.GoesMore
import KE.KDictSum
import PyProof.ReprRoads
import HandS.Strs
import HandS.ListItems
import HandS.Codes
import HandS.DictComp
import HandS.SetFor
import HandS.Zip
import HandS.Style
import PyProof.ReprLen
import PySem.Challenge.RW_pagesatonce_k36_time_in_pieces
set_option Elab.async false
set_option linter.all false
set_option maxRecDepth 100000
set_option maxHeartbeats 4000000
/-! The text by places; the facts of the top by names. Printed by gen_txt.py. -/
namespace L2.TP
open PySem PySem.Spec PyProof.Rows L2
def topS (i : Nat) : Stmt := PySem.Challenge.pw_pagesatonce_k36_time_in_pieces.main.body.getD i (.Pass ⟨0, 0, 0, 0⟩)
abbrev s_Cache___init__ : Stmt := (inClass (topS 3) 0)
theorem sc_Cache___init__ : FnScope ["self"] ["self"] (defScope s_Cache___init__) := ⟨rfl, rfl, rfl, by decide +kernel, rfl, by decide +kernel, by decide +kernel⟩
abbrev s_Cache_add : Stmt := (inClass (topS 3) 1)
theorem sc_Cache_add : FnScope ["self", "rendering", "name", "others", "other"] ["self", "rendering"] (defScope s_Cache_add) := ⟨rfl, rfl, rfl, by decide +kernel, rfl, by decide +kernel, by decide +kernel⟩
abbrev s_Cache_keep : Stmt := (inClass (topS 3) 3)
theorem sc_Cache_keep : FnScope ["self", "names", "name"] ["self", "names"] (defScope s_Cache_keep) := ⟨rfl, rfl, rfl, by decide +kernel, rfl, by decide +kernel, by decide +kernel⟩
abbrev s_Cache_find : Stmt := (inClass (topS 3) 4)
theorem sc_Cache_find : FnScope ["self", "name", "text", "found", "_", "known_text", "known_found", "known_result"] ["self", "name", "text", "found"] (defScope s_Cache_find) := ⟨rfl, rfl, rfl, by decide +kernel, rfl, by decide +kernel, by decide +kernel⟩
abbrev s_is_name : Stmt := (topS 11)
theorem sc_is_name : FnScope ["text", "sign"] ["text"] (defScope s_is_name) := ⟨rfl, rfl, rfl, by decide +kernel, rfl, by decide +kernel, by decide +kernel⟩
abbrev s_is_text : Stmt := (topS 12)
theorem sc_is_text : FnScope ["text", "sign"] ["text"] (defScope s_is_text) := ⟨rfl, rfl, rfl, by decide +kernel, rfl, by decide +kernel, by decide +kernel⟩
abbrev s_is_after : Stmt := (topS 13)
theorem sc_is_after : FnScope ["one", "other"] ["one", "other"] (defScope s_is_after) := ⟨rfl, rfl, rfl, by decide +kernel, rfl, by decide +kernel, by decide +kernel⟩
abbrev s_are_pages : Stmt := (topS 14)
theorem sc_are_pages : FnScope ["names", "name"] ["names"] (defScope s_are_pages) := ⟨rfl, rfl, rfl, by decide +kernel, rfl, by decide +kernel, by decide +kernel⟩
abbrev s_failures : Stmt := (topS 15)
theorem sc_failures : FnScope ["text"] ["text"] (defScope s_failures) := ⟨rfl, rfl, rfl, by decide +kernel, rfl, by decide +kernel, by decide +kernel⟩
abbrev s__segment : Stmt := (topS 18)
theorem sc__segment : FnScope ["name", "text", "at", "end", "inner", "word", "target"] ["name", "text", "at"] (defScope s__segment) := ⟨rfl, rfl, rfl, by decide +kernel, rfl, by decide +kernel, by decide +kernel⟩
abbrev s_split : Stmt := (topS 19)
theorem sc_split : FnScope ["name", "text", "segments", "plain", "at", "found"] ["name", "text"] (defScope s_split) := ⟨rfl, rfl, rfl, by decide +kernel, rfl, by decide +kernel, by decide +kernel⟩
abbrev s_target : Stmt := (topS 23)
theorem sc_target : FnScope ["name", "found"] ["name", "found"] (defScope s_target) := ⟨rfl, rfl, rfl, by decide +kernel, rfl, by decide +kernel, by decide +kernel⟩
abbrev s__first_failure : Stmt := (topS 24)
theorem sc__first_failure : FnScope ["name", "text", "attempts", "found", "_", "result_found"] ["name", "text", "attempts", "found"] (defScope s__first_failure) := ⟨rfl, rfl, rfl, by decide +kernel, rfl, by decide +kernel, by decide +kernel⟩
abbrev s__join_segments : Stmt := (topS 25)
theorem sc__join_segments : FnScope ["name", "text", "found", "characters", "links", "at", "kind", "inner", "told", "led", "link"] ["name", "text", "found"] (defScope s__join_segments) := ⟨rfl, rfl, rfl, by decide +kernel, rfl, by decide +kernel, by decide +kernel⟩
abbrev s_join_result : Stmt := (topS 26)
theorem sc_join_result : FnScope ["name", "text", "attempts", "found", "failure", "characters", "links"] ["name", "text", "attempts", "found"] (defScope s_join_result) := ⟨rfl, rfl, rfl, by decide +kernel, rfl, by decide +kernel, by decide +kernel⟩
abbrev s__open_link : Stmt := (topS 28)
theorem sc__open_link : FnScope ["found", "kept", "name"] ["found", "kept"] (defScope s__open_link) := ⟨rfl, rfl, rfl, by decide +kernel, rfl, by decide +kernel, by decide +kernel⟩
abbrev s__greatest : Stmt := (topS 29)
theorem sc__greatest : FnScope ["pages", "results", "kept", "_", "name"] ["pages", "results"] (defScope s__greatest) := ⟨rfl, rfl, rfl, by decide +kernel, rfl, by decide +kernel, by decide +kernel⟩
abbrev s_closed : Stmt := (topS 30)
theorem sc_closed : FnScope ["pages", "results", "kept", "behind", "name", "found"] ["pages", "results"] (defScope s_closed) := ⟨rfl, rfl, rfl, by decide +kernel, rfl, by decide +kernel, by decide +kernel⟩
abbrev s_check_options : Stmt := (topS 38)
theorem sc_check_options : FnScope ["options", "number", "least", "most"] ["options"] (defScope s_check_options) := ⟨rfl, rfl, rfl, by decide +kernel, rfl, by decide +kernel, by decide +kernel⟩
abbrev s_duration : Stmt := (topS 39)
theorem sc_duration : FnScope ["options", "many"] ["options", "many"] (defScope s_duration) := ⟨rfl, rfl, rfl, by decide +kernel, rfl, by decide +kernel, by decide +kernel⟩
abbrev s_delay : Stmt := (topS 40)
theorem sc_delay : FnScope ["options", "attempt", "ticks", "_"] ["options", "attempt"] (defScope s_delay) := ⟨rfl, rfl, rfl, by decide +kernel, rfl, by decide +kernel, by decide +kernel⟩
abbrev s_Snapshot___init__ : Stmt := (inClass (topS 42) 0)
theorem sc_Snapshot___init__ : FnScope ["self", "sources", "pages", "attempts", "cache", "name", "found", "_", "result"] ["self", "sources", "pages", "attempts", "cache"] (defScope s_Snapshot___init__) := ⟨rfl, rfl, rfl, by decide +kernel, rfl, by decide +kernel, by decide +kernel⟩
abbrev s_Snapshot_known : Stmt := (inClass (topS 42) 1)
theorem sc_Snapshot_known : FnScope ["self", "name"] ["self", "name"] (defScope s_Snapshot_known) := ⟨rfl, rfl, rfl, by decide +kernel, rfl, by decide +kernel, by decide +kernel⟩
abbrev s_Snapshot_told : Stmt := (inClass (topS 42) 2)
theorem sc_Snapshot_told : FnScope ["self", "name", "found", "kind", "inner", "known", "led"] ["self", "name"] (defScope s_Snapshot_told) := ⟨rfl, rfl, rfl, by decide +kernel, rfl, by decide +kernel, by decide +kernel⟩
abbrev s_Snapshot_required : Stmt := (inClass (topS 42) 3)
theorem sc_Snapshot_required : FnScope ["self", "names", "waiting", "name", "other", "_"] ["self"] (defScope s_Snapshot_required) := ⟨rfl, rfl, rfl, by decide +kernel, rfl, by decide +kernel, by decide +kernel⟩
abbrev s_Snapshot__is_renderable : Stmt := (inClass (topS 42) 4)
theorem sc_Snapshot__is_renderable : FnScope ["self", "name", "_", "known"] ["self", "name"] (defScope s_Snapshot__is_renderable) := ⟨rfl, rfl, rfl, by decide +kernel, rfl, by decide +kernel, by decide +kernel⟩
abbrev s_Snapshot_renderable : Stmt := (inClass (topS 42) 5)
theorem sc_Snapshot_renderable : FnScope ["self", "name"] ["self"] (defScope s_Snapshot_renderable) := ⟨rfl, rfl, rfl, by decide +kernel, rfl, by decide +kernel, by decide +kernel⟩
abbrev s_Snapshot_is_ready : Stmt := (inClass (topS 42) 6)
theorem sc_Snapshot_is_ready : FnScope ["self", "name"] ["self"] (defScope s_Snapshot_is_ready) := ⟨rfl, rfl, rfl, by decide +kernel, rfl, by decide +kernel, by decide +kernel⟩
abbrev s_Timers___init__ : Stmt := (inClass (topS 44) 0)
theorem sc_Timers___init__ : FnScope ["self"] ["self"] (defScope s_Timers___init__) := ⟨rfl, rfl, rfl, by decide +kernel, rfl, by decide +kernel, by decide +kernel⟩
abbrev s_Timers_put : Stmt := (inClass (topS 44) 1)
theorem sc_Timers_put : FnScope ["self", "key", "due"] ["self", "key", "due"] (defScope s_Timers_put) := ⟨rfl, rfl, rfl, by decide +kernel, rfl, by decide +kernel, by decide +kernel⟩
abbrev s_Timers_remove : Stmt := (inClass (topS 44) 2)
theorem sc_Timers_remove : FnScope ["self", "key"] ["self", "key"] (defScope s_Timers_remove) := ⟨rfl, rfl, rfl, by decide +kernel, rfl, by decide +kernel, by decide +kernel⟩
abbrev s_Timers_due : Stmt := (inClass (topS 44) 3)
theorem sc_Timers_due : FnScope ["self", "key"] ["self", "key"] (defScope s_Timers_due) := ⟨rfl, rfl, rfl, by decide +kernel, rfl, by decide +kernel, by decide +kernel⟩
abbrev s_Timers_first : Stmt := (inClass (topS 44) 4)
theorem sc_Timers_first : FnScope ["self", "found", "key", "due"] ["self"] (defScope s_Timers_first) := ⟨rfl, rfl, rfl, by decide +kernel, rfl, by decide +kernel, by decide +kernel⟩
abbrev s_check_edit : Stmt := (topS 53)
theorem sc_check_edit : FnScope ["edit"] ["edit"] (defScope s_check_edit) := ⟨rfl, rfl, rfl, by decide +kernel, rfl, by decide +kernel, by decide +kernel⟩
abbrev s_apply_edit : Stmt := (topS 54)
theorem sc_apply_edit : FnScope ["sources", "pages", "edit", "later"] ["sources", "pages", "edit"] (defScope s_apply_edit) := ⟨rfl, rfl, rfl, by decide +kernel, rfl, by decide +kernel, by decide +kernel⟩
abbrev s_Job___init__ : Stmt := (inClass (topS 55) 0)
theorem sc_Job___init__ : FnScope ["self", "text", "found"] ["self", "text", "found"] (defScope s_Job___init__) := ⟨rfl, rfl, rfl, by decide +kernel, rfl, by decide +kernel, by decide +kernel⟩
abbrev s_Frozen___init__ : Stmt := (inClass (topS 56) 0)
theorem sc_Frozen___init__ : FnScope ["self", "sources", "pages", "count", "time"] ["self", "sources", "pages", "count", "time"] (defScope s_Frozen___init__) := ⟨rfl, rfl, rfl, by decide +kernel, rfl, by decide +kernel, by decide +kernel⟩
abbrev s_Publisher___init__ : Stmt := (inClass (topS 57) 0)
theorem sc_Publisher___init__ : FnScope ["self", "options", "clock"] ["self", "options", "clock"] (defScope s_Publisher___init__) := ⟨rfl, rfl, rfl, by decide +kernel, rfl, by decide +kernel, by decide +kernel⟩
abbrev s_Publisher_would_edit : Stmt := (inClass (topS 57) 1)
theorem sc_Publisher_would_edit : FnScope ["self", "edit"] ["self", "edit"] (defScope s_Publisher_would_edit) := ⟨rfl, rfl, rfl, by decide +kernel, rfl, by decide +kernel, by decide +kernel⟩
abbrev s_Publisher_edit : Stmt := (inClass (topS 57) 2)
theorem sc_Publisher_edit : FnScope ["self", "edit"] ["self", "edit"] (defScope s_Publisher_edit) := ⟨rfl, rfl, rfl, by decide +kernel, rfl, by decide +kernel, by decide +kernel⟩
abbrev s_Publisher__make : Stmt := (inClass (topS 57) 3)
theorem sc_Publisher__make : FnScope ["self", "edit"] ["self", "edit"] (defScope s_Publisher__make) := ⟨rfl, rfl, rfl, by decide +kernel, rfl, by decide +kernel, by decide +kernel⟩
abbrev s_Publisher__touch : Stmt := (inClass (topS 57) 4)
theorem sc_Publisher__touch : FnScope ["self"] ["self"] (defScope s_Publisher__touch) := ⟨rfl, rfl, rfl, by decide +kernel, rfl, by decide +kernel, by decide +kernel⟩
abbrev s_Publisher__snapshot : Stmt := (inClass (topS 57) 6)
theorem sc_Publisher__snapshot : FnScope ["self", "attempts"] ["self"] (defScope s_Publisher__snapshot) := ⟨rfl, rfl, rfl, by decide +kernel, rfl, by decide +kernel, by decide +kernel⟩
abbrev s_Publisher__text : Stmt := (inClass (topS 57) 7)
theorem sc_Publisher__text : FnScope ["self", "name", "sources"] ["self", "name"] (defScope s_Publisher__text) := ⟨rfl, rfl, rfl, by decide +kernel, rfl, by decide +kernel, by decide +kernel⟩
abbrev s_Publisher__forget : Stmt := (inClass (topS 57) 8)
theorem sc_Publisher__forget : FnScope ["self", "names"] ["self"] (defScope s_Publisher__forget) := ⟨rfl, rfl, rfl, by decide +kernel, rfl, by decide +kernel, by decide +kernel⟩
abbrev s_Publisher__is_valid : Stmt := (inClass (topS 57) 9)
theorem sc_Publisher__is_valid : FnScope ["self", "name", "job", "snapshot", "required"] ["self", "name", "job", "snapshot", "required"] (defScope s_Publisher__is_valid) := ⟨rfl, rfl, rfl, by decide +kernel, rfl, by decide +kernel, by decide +kernel⟩
abbrev s_Publisher__drop_jobs : Stmt := (inClass (topS 57) 10)
theorem sc_Publisher__drop_jobs : FnScope ["self", "snapshot", "required", "name", "job"] ["self", "snapshot"] (defScope s_Publisher__drop_jobs) := ⟨rfl, rfl, rfl, by decide +kernel, rfl, by decide +kernel, by decide +kernel⟩
abbrev s_Publisher__running : Stmt := (inClass (topS 57) 11)
theorem sc_Publisher__running : FnScope ["self", "job"] ["self"] (defScope s_Publisher__running) := ⟨rfl, rfl, rfl, by decide +kernel, rfl, by decide +kernel, by decide +kernel⟩
abbrev s_Publisher__start : Stmt := (inClass (topS 57) 12)
theorem sc_Publisher__start : FnScope ["self", "snapshot", "name", "job"] ["self", "snapshot"] (defScope s_Publisher__start) := ⟨rfl, rfl, rfl, by decide +kernel, rfl, by decide +kernel, by decide +kernel⟩
abbrev s_Publisher__progress : Stmt := (inClass (topS 57) 13)
theorem sc_Publisher__progress : FnScope ["self", "snapshot"] ["self"] (defScope s_Publisher__progress) := ⟨rfl, rfl, rfl, by decide +kernel, rfl, by decide +kernel, by decide +kernel⟩
abbrev s_Publisher__publish : Stmt := (inClass (topS 57) 14)
theorem sc_Publisher__publish : FnScope ["self", "snapshot", "wanted", "results", "kept", "left", "pages", "behind", "number", "name"] ["self", "snapshot"] (defScope s_Publisher__publish) := ⟨rfl, rfl, rfl, by decide +kernel, rfl, by decide +kernel, by decide +kernel⟩
abbrev s_Publisher__release : Stmt := (inClass (topS 57) 15)
theorem sc_Publisher__release : FnScope ["self", "passed"] ["self"] (defScope s_Publisher__release) := ⟨rfl, rfl, rfl, by decide +kernel, rfl, by decide +kernel, by decide +kernel⟩
abbrev s_Publisher__freeze : Stmt := (inClass (topS 57) 16)
theorem sc_Publisher__freeze : FnScope ["self"] ["self"] (defScope s_Publisher__freeze) := ⟨rfl, rfl, rfl, by decide +kernel, rfl, by decide +kernel, by decide +kernel⟩
abbrev s_Publisher__end : Stmt := (inClass (topS 57) 17)
theorem sc_Publisher__end : FnScope ["self", "name", "job", "told"] ["self", "name"] (defScope s_Publisher__end) := ⟨rfl, rfl, rfl, by decide +kernel, rfl, by decide +kernel, by decide +kernel⟩
abbrev s_Publisher__fire : Stmt := (inClass (topS 57) 18)
theorem sc_Publisher__fire : FnScope ["self", "key"] ["self", "key"] (defScope s_Publisher__fire) := ⟨rfl, rfl, rfl, by decide +kernel, rfl, by decide +kernel, by decide +kernel⟩
abbrev s_Publisher_turn : Stmt := (inClass (topS 57) 19)
theorem sc_Publisher_turn : FnScope ["self", "last", "first"] ["self", "last"] (defScope s_Publisher_turn) := ⟨rfl, rfl, rfl, by decide +kernel, rfl, by decide +kernel, by decide +kernel⟩
abbrev s_Publisher_check_ticks : Stmt := (inClass (topS 57) 20)
theorem sc_Publisher_check_ticks : FnScope ["self", "ticks"] ["self", "ticks"] (defScope s_Publisher_check_ticks) := ⟨rfl, rfl, rfl, by decide +kernel, rfl, by decide +kernel, by decide +kernel⟩
abbrev s_Publisher_advance : Stmt := (inClass (topS 57) 21)
theorem sc_Publisher_advance : FnScope ["self", "ticks", "last", "fired"] ["self", "ticks"] (defScope s_Publisher_advance) := ⟨rfl, rfl, rfl, by decide +kernel, rfl, by decide +kernel, by decide +kernel⟩
abbrev s_Publisher_clock : Stmt := (inClass (topS 57) 22)
theorem sc_Publisher_clock : FnScope ["self"] ["self"] (defScope s_Publisher_clock) := ⟨rfl, rfl, rfl, by decide +kernel, rfl, by decide +kernel, by decide +kernel⟩
abbrev s_Publisher_count : Stmt := (inClass (topS 57) 23)
theorem sc_Publisher_count : FnScope ["self"] ["self"] (defScope s_Publisher_count) := ⟨rfl, rfl, rfl, by decide +kernel, rfl, by decide +kernel, by decide +kernel⟩
abbrev s_Publisher_sources : Stmt := (inClass (topS 57) 24)
theorem sc_Publisher_sources : FnScope ["self", "name"] ["self"] (defScope s_Publisher_sources) := ⟨rfl, rfl, rfl, by decide +kernel, rfl, by decide +kernel, by decide +kernel⟩
abbrev s_Publisher_pages : Stmt := (inClass (topS 57) 25)
theorem sc_Publisher_pages : FnScope ["self"] ["self"] (defScope s_Publisher_pages) := ⟨rfl, rfl, rfl, by decide +kernel, rfl, by decide +kernel, by decide +kernel⟩
abbrev s_Publisher_version : Stmt := (inClass (topS 57) 26)
theorem sc_Publisher_version : FnScope ["self"] ["self"] (defScope s_Publisher_version) := ⟨rfl, rfl, rfl, by decide +kernel, rfl, by decide +kernel, by decide +kernel⟩
abbrev s_Publisher_published : Stmt := (inClass (topS 57) 27)
theorem sc_Publisher_published : FnScope ["self"] ["self"] (defScope s_Publisher_published) := ⟨rfl, rfl, rfl, by decide +kernel, rfl, by decide +kernel, by decide +kernel⟩
abbrev s_Publisher_state : Stmt := (inClass (topS 57) 28)
theorem sc_Publisher_state : FnScope ["self"] ["self"] (defScope s_Publisher_state) := ⟨rfl, rfl, rfl, by decide +kernel, rfl, by decide +kernel, by decide +kernel⟩
abbrev s_Publisher_dirty_since : Stmt := (inClass (topS 57) 29)
theorem sc_Publisher_dirty_since : FnScope ["self"] ["self"] (defScope s_Publisher_dirty_since) := ⟨rfl, rfl, rfl, by decide +kernel, rfl, by decide +kernel, by decide +kernel⟩
abbrev s_Publisher_next_due : Stmt := (inClass (topS 57) 30)
theorem sc_Publisher_next_due : FnScope ["self", "first"] ["self"] (defScope s_Publisher_next_due) := ⟨rfl, rfl, rfl, by decide +kernel, rfl, by decide +kernel, by decide +kernel⟩
abbrev s_Publisher__job_row : Stmt := (inClass (topS 57) 31)
theorem sc_Publisher__job_row : FnScope ["self", "name", "job", "due"] ["self", "name"] (defScope s_Publisher__job_row) := ⟨rfl, rfl, rfl, by decide +kernel, rfl, by decide +kernel, by decide +kernel⟩
abbrev s_Publisher_jobs : Stmt := (inClass (topS 57) 32)
theorem sc_Publisher_jobs : FnScope ["self", "name"] ["self"] (defScope s_Publisher_jobs) := ⟨rfl, rfl, rfl, by decide +kernel, rfl, by decide +kernel, by decide +kernel⟩
abbrev s_Publisher_required : Stmt := (inClass (topS 57) 34)
theorem sc_Publisher_required : FnScope ["self"] ["self"] (defScope s_Publisher_required) := ⟨rfl, rfl, rfl, by decide +kernel, rfl, by decide +kernel, by decide +kernel⟩
abbrev s_Publisher_attempts_made : Stmt := (inClass (topS 57) 35)
theorem sc_Publisher_attempts_made : FnScope ["self"] ["self"] (defScope s_Publisher_attempts_made) := ⟨rfl, rfl, rfl, by decide +kernel, rfl, by decide +kernel, by decide +kernel⟩
abbrev s__law_cell : Stmt := (topS 59)
theorem sc__law_cell : FnScope ["_law_script", "_law_k"] ["_law_script", "_law_k"] (defScope s__law_cell) := ⟨rfl, rfl, rfl, by decide +kernel, rfl, by decide +kernel, by decide +kernel⟩
abbrev s__law_digits : Stmt := (topS 60)
theorem sc__law_digits : FnScope ["_law_script", "_law_first", "_law_last", "_law_digits_here", "_law_k", "_law_cell_here", "_law_turn", "_law_seed"] ["_law_script", "_law_first", "_law_last"] (defScope s__law_digits) := ⟨rfl, rfl, rfl, by decide +kernel, rfl, by decide +kernel, by decide +kernel⟩
abbrev s__law_draw : Stmt := (topS 61)
theorem sc__law_draw : FnScope ["_law_box", "_law_many", "_law_at"] ["_law_box", "_law_many"] (defScope s__law_draw) := ⟨rfl, rfl, rfl, by decide +kernel, rfl, by decide +kernel, by decide +kernel⟩
abbrev s__law_name : Stmt := (topS 62)
theorem sc__law_name : FnScope ["_law_box"] ["_law_box"] (defScope s__law_name) := ⟨rfl, rfl, rfl, by decide +kernel, rfl, by decide +kernel, by decide +kernel⟩
abbrev s__law_text : Stmt := (topS 63)
theorem sc__law_text : FnScope ["_law_box", "_law_most", "_law_text_here", "_law_turn", "_law_name_here", "_law_kind"] ["_law_box", "_law_most"] (defScope s__law_text) := ⟨rfl, rfl, rfl, by decide +kernel, rfl, by decide +kernel, by decide +kernel⟩
abbrev s__law_pages : Stmt := (topS 64)
theorem sc__law_pages : FnScope ["_law_box", "_law_pages_here", "_law_turn", "_law_name_here"] ["_law_box"] (defScope s__law_pages) := ⟨rfl, rfl, rfl, by decide +kernel, rfl, by decide +kernel, by decide +kernel⟩
abbrev s__law_alike : Stmt := (topS 65)
theorem sc__law_alike : FnScope ["_law_one", "_law_two"] ["_law_one", "_law_two"] (defScope s__law_alike) := ⟨rfl, rfl, rfl, by decide +kernel, rfl, by decide +kernel, by decide +kernel⟩
abbrev s__law_edit : Stmt := (topS 66)
theorem sc__law_edit : FnScope ["_law_box", "_law_pages_here", "_law_kind", "_law_text_here"] ["_law_box", "_law_pages_here"] (defScope s__law_edit) := ⟨rfl, rfl, rfl, by decide +kernel, rfl, by decide +kernel, by decide +kernel⟩
abbrev s__law_options : Stmt := (topS 67)
theorem sc__law_options : FnScope ["_law_box"] ["_law_box"] (defScope s__law_options) := ⟨rfl, rfl, rfl, by decide +kernel, rfl, by decide +kernel, by decide +kernel⟩
abbrev s__law_ticks : Stmt := (topS 68)
theorem sc__law_ticks : FnScope ["_law_box"] ["_law_box"] (defScope s__law_ticks) := ⟨rfl, rfl, rfl, by decide +kernel, rfl, by decide +kernel, by decide +kernel⟩
abbrev s__law_told_by : Stmt := (topS 69)
theorem sc__law_told_by : FnScope ["_law_publisher", "_law_rows"] ["_law_publisher"] (defScope s__law_told_by) := ⟨rfl, rfl, rfl, by decide +kernel, rfl, by decide +kernel, by decide +kernel⟩
abbrev s__law_in_pieces : Stmt := (topS 70)
theorem sc__law_in_pieces : FnScope ["_law_box", "_law_publisher", "_law_ticks_here", "_law_left", "_law_turn", "_law_part"] ["_law_box", "_law_publisher", "_law_ticks_here"] (defScope s__law_in_pieces) := ⟨rfl, rfl, rfl, by decide +kernel, rfl, by decide +kernel, by decide +kernel⟩
abbrev s__law_by_turns : Stmt := (topS 71)
theorem sc__law_by_turns : FnScope ["_law_publisher", "_law_ticks_here", "_law_last", "_law_turn", "_law_due"] ["_law_publisher", "_law_ticks_here"] (defScope s__law_by_turns) := ⟨rfl, rfl, rfl, by decide +kernel, rfl, by decide +kernel, by decide +kernel⟩
abbrev s_law : Stmt := (topS 72)
theorem sc_law : FnScope ["_law_script", "_law_box", "_law_options_here", "_law_one", "_law_two", "_law_turn", "_law_step", "_law_edit_here", "_law_ticks_here", "_law_last"] ["_law_script"] (defScope s_law) := ⟨rfl, rfl, rfl, by decide +kernel, rfl, by decide +kernel, by decide +kernel⟩
/-! ### facts -/
def fa0 : List He.Fa := [.glo "is_name", .glo "is_text", .glo "is_after", .glo "are_pages", .glo "failures", .glo "_segment", .glo "split", .glo "target", .glo "_first_failure", .glo "_join_segments", .glo "join_result", .glo "_open_link", .glo "_greatest", .glo "closed", .glo "check_options", .glo "duration", .glo "delay", .glo "check_edit", .glo "apply_edit", .glo "_law_cell", .glo "_law_digits", .glo "_law_draw", .glo "_law_name", .glo "_law_text", .glo "_law_pages", .glo "_law_alike", .glo "_law_edit", .glo "_law_options", .glo "_law_ticks", .glo "_law_told_by"]
def fa1 : List He.Fa := [.glo "_law_in_pieces", .glo "_law_by_turns", .glo "law", .glo "Cache", .cls "Cache", .mkr "Cache", .glo "Snapshot", .cls "Snapshot", .mkr "Snapshot", .glo "Timers", .cls "Timers", .mkr "Timers", .glo "Job", .cls "Job", .mkr "Job", .glo "Frozen", .cls "Frozen", .mkr "Frozen", .glo "Publisher", .cls "Publisher", .mkr "Publisher", .glo "NOTHING", .glo "LEAST", .glo "MOST", .glo "PAUSE", .glo "WAIT", .glo "OPENING", .free "len", .free "all", .free "sorted"]
def fa2 : List He.Fa := [.free "set", .free "list", .free "tuple", .free "dict", .free "range", .free "min", .free "ord", .free "int", .free "repr", .free "zip", .int "RENDERINGS_MOST" 4, .int "NAME_MOST" 6, .int "TEXT_MOST" 60, .int "SOURCES_MOST" 12, .int "PAGES_MOST" 6, .str "LETTERS" "abcdefghijklmnopqrstuvwxyz", .int "PERCENT" 37, .int "RESULT_MOST" 200, .int "TICKS_MOST" 10000, .int "CLOCK_MOST" 9999999, .str "RUNNING" "running", .str "BACKING_OFF" "backing off", .str "QUEUED" "queued", .noat "Cache" "_renderings", .noat "Snapshot" "_sources", .noat "Snapshot" "_pages", .noat "Snapshot" "_attempts", .noat "Snapshot" "_known", .noat "Timers" "_due", .noat "Job" "text"]
def fa3 : List He.Fa := [.noat "Job" "found", .noat "Job" "attempt", .noat "Job" "state", .noat "Frozen" "sources", .noat "Frozen" "pages", .noat "Frozen" "count", .noat "Frozen" "time", .noat "Publisher" "_options", .noat "Publisher" "_clock", .noat "Publisher" "_sources", .noat "Publisher" "_pages", .noat "Publisher" "_count", .noat "Publisher" "_last_edit", .noat "Publisher" "_cache", .noat "Publisher" "_timers", .noat "Publisher" "_jobs", .noat "Publisher" "_frozen", .noat "Publisher" "_dirty_since", .noat "Publisher" "_version", .noat "Publisher" "_published", .noat "Publisher" "_attempts_made", .meth "Cache" "add", .meth "Cache" "keep", .meth "Cache" "find", .meth "Snapshot" "known", .meth "Snapshot" "told", .meth "Snapshot" "required", .meth "Snapshot" "_is_renderable", .meth "Snapshot" "renderable", .meth "Snapshot" "is_ready"]
def fa4 : List He.Fa := [.meth "Timers" "put", .meth "Timers" "remove", .meth "Timers" "due", .meth "Timers" "first", .meth "Publisher" "would_edit", .meth "Publisher" "edit", .meth "Publisher" "_make", .meth "Publisher" "_touch", .meth "Publisher" "_snapshot", .meth "Publisher" "_text", .meth "Publisher" "_forget", .meth "Publisher" "_is_valid", .meth "Publisher" "_drop_jobs", .meth "Publisher" "_running", .meth "Publisher" "_start", .meth "Publisher" "_progress", .meth "Publisher" "_publish", .meth "Publisher" "_release", .meth "Publisher" "_freeze", .meth "Publisher" "_end", .meth "Publisher" "_fire", .meth "Publisher" "turn", .meth "Publisher" "check_ticks", .meth "Publisher" "advance", .meth "Publisher" "clock", .meth "Publisher" "count", .meth "Publisher" "sources", .meth "Publisher" "pages", .meth "Publisher" "version", .meth "Publisher" "published"]
def fa5 : List He.Fa := [.meth "Publisher" "state", .meth "Publisher" "dirty_since", .meth "Publisher" "next_due", .meth "Publisher" "_job_row", .meth "Publisher" "jobs", .meth "Publisher" "required", .meth "Publisher" "attempts_made"]
def fa : List He.Fa := fa0 ++ fa1 ++ fa2 ++ fa3 ++ fa4 ++ fa5
def d_Cache___init__ : He.DefD := ⟨("Cache", some "__init__"), "__init__", "Cache.__init__", defArgs s_Cache___init__, defBody s_Cache___init__, defScope s_Cache___init__, [], []⟩
def d_Cache_add : He.DefD := ⟨("Cache", some "add"), "add", "Cache.add", defArgs s_Cache_add, defBody s_Cache_add, defScope s_Cache_add, [], []⟩
def d_Cache_keep : He.DefD := ⟨("Cache", some "keep"), "keep", "Cache.keep", defArgs s_Cache_keep, defBody s_Cache_keep, defScope s_Cache_keep, [], []⟩
def d_Cache_find : He.DefD := ⟨("Cache", some "find"), "find", "Cache.find", defArgs s_Cache_find, defBody s_Cache_find, defScope s_Cache_find, [], []⟩
def d_is_name : He.DefD := ⟨("is_name", none), "is_name", "is_name", defArgs s_is_name, defBody s_is_name, defScope s_is_name, [], []⟩
def d_is_text : He.DefD := ⟨("is_text", none), "is_text", "is_text", defArgs s_is_text, defBody s_is_text, defScope s_is_text, [], []⟩
def d_is_after : He.DefD := ⟨("is_after", none), "is_after", "is_after", defArgs s_is_after, defBody s_is_after, defScope s_is_after, [], []⟩
def d_are_pages : He.DefD := ⟨("are_pages", none), "are_pages", "are_pages", defArgs s_are_pages, defBody s_are_pages, defScope s_are_pages, [], []⟩
def d_failures : He.DefD := ⟨("failures", none), "failures", "failures", defArgs s_failures, defBody s_failures, defScope s_failures, [], []⟩
def d__segment : He.DefD := ⟨("_segment", none), "_segment", "_segment", defArgs s__segment, defBody s__segment, defScope s__segment, [], []⟩
def d_split : He.DefD := ⟨("split", none), "split", "split", defArgs s_split, defBody s_split, defScope s_split, [], []⟩
def d_target : He.DefD := ⟨("target", none), "target", "target", defArgs s_target, defBody s_target, defScope s_target, [], []⟩
def d__first_failure : He.DefD := ⟨("_first_failure", none), "_first_failure", "_first_failure", defArgs s__first_failure, defBody s__first_failure, defScope s__first_failure, [], []⟩
def d__join_segments : He.DefD := ⟨("_join_segments", none), "_join_segments", "_join_segments", defArgs s__join_segments, defBody s__join_segments, defScope s__join_segments, [], []⟩
def d_join_result : He.DefD := ⟨("join_result", none), "join_result", "join_result", defArgs s_join_result, defBody s_join_result, defScope s_join_result, [], []⟩
def d__open_link : He.DefD := ⟨("_open_link", none), "_open_link", "_open_link", defArgs s__open_link, defBody s__open_link, defScope s__open_link, [], []⟩
def d__greatest : He.DefD := ⟨("_greatest", none), "_greatest", "_greatest", defArgs s__greatest, defBody s__greatest, defScope s__greatest, [], []⟩
def d_closed : He.DefD := ⟨("closed", none), "closed", "closed", defArgs s_closed, defBody s_closed, defScope s_closed, [], []⟩
def d_check_options : He.DefD := ⟨("check_options", none), "check_options", "check_options", defArgs s_check_options, defBody s_check_options, defScope s_check_options, [], []⟩
def d_duration : He.DefD := ⟨("duration", none), "duration", "duration", defArgs s_duration, defBody s_duration, defScope s_duration, [], []⟩
def d_delay : He.DefD := ⟨("delay", none), "delay", "delay", defArgs s_delay, defBody s_delay, defScope s_delay, [], []⟩
def d_Snapshot___init__ : He.DefD := ⟨("Snapshot", some "__init__"), "__init__", "Snapshot.__init__", defArgs s_Snapshot___init__, defBody s_Snapshot___init__, defScope s_Snapshot___init__, [], []⟩
def d_Snapshot_known : He.DefD := ⟨("Snapshot", some "known"), "known", "Snapshot.known", defArgs s_Snapshot_known, defBody s_Snapshot_known, defScope s_Snapshot_known, [], []⟩
def d_Snapshot_told : He.DefD := ⟨("Snapshot", some "told"), "told", "Snapshot.told", defArgs s_Snapshot_told, defBody s_Snapshot_told, defScope s_Snapshot_told, [], []⟩
def d_Snapshot_required : He.DefD := ⟨("Snapshot", some "required"), "required", "Snapshot.required", defArgs s_Snapshot_required, defBody s_Snapshot_required, defScope s_Snapshot_required, [], []⟩
def d_Snapshot__is_renderable : He.DefD := ⟨("Snapshot", some "_is_renderable"), "_is_renderable", "Snapshot._is_renderable", defArgs s_Snapshot__is_renderable, defBody s_Snapshot__is_renderable, defScope s_Snapshot__is_renderable, [], []⟩
def d_Snapshot_renderable : He.DefD := ⟨("Snapshot", some "renderable"), "renderable", "Snapshot.renderable", defArgs s_Snapshot_renderable, defBody s_Snapshot_renderable, defScope s_Snapshot_renderable, [], []⟩
def d_Snapshot_is_ready : He.DefD := ⟨("Snapshot", some "is_ready"), "is_ready", "Snapshot.is_ready", defArgs s_Snapshot_is_ready, defBody s_Snapshot_is_ready, defScope s_Snapshot_is_ready, [], []⟩
def d_Timers___init__ : He.DefD := ⟨("Timers", some "__init__"), "__init__", "Timers.__init__", defArgs s_Timers___init__, defBody s_Timers___init__, defScope s_Timers___init__, [], []⟩
def d_Timers_put : He.DefD := ⟨("Timers", some "put"), "put", "Timers.put", defArgs s_Timers_put, defBody s_Timers_put, defScope s_Timers_put, [], []⟩
def d_Timers_remove : He.DefD := ⟨("Timers", some "remove"), "remove", "Timers.remove", defArgs s_Timers_remove, defBody s_Timers_remove, defScope s_Timers_remove, [], []⟩
def d_Timers_due : He.DefD := ⟨("Timers", some "due"), "due", "Timers.due", defArgs s_Timers_due, defBody s_Timers_due, defScope s_Timers_due, [], []⟩
def d_Timers_first : He.DefD := ⟨("Timers", some "first"), "first", "Timers.first", defArgs s_Timers_first, defBody s_Timers_first, defScope s_Timers_first, [], []⟩
def d_check_edit : He.DefD := ⟨("check_edit", none), "check_edit", "check_edit", defArgs s_check_edit, defBody s_check_edit, defScope s_check_edit, [], []⟩
def d_apply_edit : He.DefD := ⟨("apply_edit", none), "apply_edit", "apply_edit", defArgs s_apply_edit, defBody s_apply_edit, defScope s_apply_edit, [], []⟩
def d_Job___init__ : He.DefD := ⟨("Job", some "__init__"), "__init__", "Job.__init__", defArgs s_Job___init__, defBody s_Job___init__, defScope s_Job___init__, [], []⟩
def d_Frozen___init__ : He.DefD := ⟨("Frozen", some "__init__"), "__init__", "Frozen.__init__", defArgs s_Frozen___init__, defBody s_Frozen___init__, defScope s_Frozen___init__, [], []⟩
def d_Publisher___init__ : He.DefD := ⟨("Publisher", some "__init__"), "__init__", "Publisher.__init__", defArgs s_Publisher___init__, defBody s_Publisher___init__, defScope s_Publisher___init__, [.int 0], []⟩
def d_Publisher_would_edit : He.DefD := ⟨("Publisher", some "would_edit"), "would_edit", "Publisher.would_edit", defArgs s_Publisher_would_edit, defBody s_Publisher_would_edit, defScope s_Publisher_would_edit, [], []⟩
def d_Publisher_edit : He.DefD := ⟨("Publisher", some "edit"), "edit", "Publisher.edit", defArgs s_Publisher_edit, defBody s_Publisher_edit, defScope s_Publisher_edit, [], []⟩
def d_Publisher__make : He.DefD := ⟨("Publisher", some "_make"), "_make", "Publisher._make", defArgs s_Publisher__make, defBody s_Publisher__make, defScope s_Publisher__make, [], []⟩
def d_Publisher__touch : He.DefD := ⟨("Publisher", some "_touch"), "_touch", "Publisher._touch", defArgs s_Publisher__touch, defBody s_Publisher__touch, defScope s_Publisher__touch, [], []⟩
def d_Publisher__snapshot : He.DefD := ⟨("Publisher", some "_snapshot"), "_snapshot", "Publisher._snapshot", defArgs s_Publisher__snapshot, defBody s_Publisher__snapshot, defScope s_Publisher__snapshot, [], []⟩
def d_Publisher__text : He.DefD := ⟨("Publisher", some "_text"), "_text", "Publisher._text", defArgs s_Publisher__text, defBody s_Publisher__text, defScope s_Publisher__text, [], []⟩
def d_Publisher__forget : He.DefD := ⟨("Publisher", some "_forget"), "_forget", "Publisher._forget", defArgs s_Publisher__forget, defBody s_Publisher__forget, defScope s_Publisher__forget, [], []⟩
def d_Publisher__is_valid : He.DefD := ⟨("Publisher", some "_is_valid"), "_is_valid", "Publisher._is_valid", defArgs s_Publisher__is_valid, defBody s_Publisher__is_valid, defScope s_Publisher__is_valid, [], []⟩
def d_Publisher__drop_jobs : He.DefD := ⟨("Publisher", some "_drop_jobs"), "_drop_jobs", "Publisher._drop_jobs", defArgs s_Publisher__drop_jobs, defBody s_Publisher__drop_jobs, defScope s_Publisher__drop_jobs, [], []⟩
def d_Publisher__running : He.DefD := ⟨("Publisher", some "_running"), "_running", "Publisher._running", defArgs s_Publisher__running, defBody s_Publisher__running, defScope s_Publisher__running, [], []⟩
def d_Publisher__start : He.DefD := ⟨("Publisher", some "_start"), "_start", "Publisher._start", defArgs s_Publisher__start, defBody s_Publisher__start, defScope s_Publisher__start, [], []⟩
def d_Publisher__progress : He.DefD := ⟨("Publisher", some "_progress"), "_progress", "Publisher._progress", defArgs s_Publisher__progress, defBody s_Publisher__progress, defScope s_Publisher__progress, [], []⟩
def d_Publisher__publish : He.DefD := ⟨("Publisher", some "_publish"), "_publish", "Publisher._publish", defArgs s_Publisher__publish, defBody s_Publisher__publish, defScope s_Publisher__publish, [], []⟩
def d_Publisher__release : He.DefD := ⟨("Publisher", some "_release"), "_release", "Publisher._release", defArgs s_Publisher__release, defBody s_Publisher__release, defScope s_Publisher__release, [], []⟩
def d_Publisher__freeze : He.DefD := ⟨("Publisher", some "_freeze"), "_freeze", "Publisher._freeze", defArgs s_Publisher__freeze, defBody s_Publisher__freeze, defScope s_Publisher__freeze, [], []⟩
def d_Publisher__end : He.DefD := ⟨("Publisher", some "_end"), "_end", "Publisher._end", defArgs s_Publisher__end, defBody s_Publisher__end, defScope s_Publisher__end, [], []⟩
def d_Publisher__fire : He.DefD := ⟨("Publisher", some "_fire"), "_fire", "Publisher._fire", defArgs s_Publisher__fire, defBody s_Publisher__fire, defScope s_Publisher__fire, [], []⟩
def d_Publisher_turn : He.DefD := ⟨("Publisher", some "turn"), "turn", "Publisher.turn", defArgs s_Publisher_turn, defBody s_Publisher_turn, defScope s_Publisher_turn, [], []⟩
def d_Publisher_check_ticks : He.DefD := ⟨("Publisher", some "check_ticks"), "check_ticks", "Publisher.check_ticks", defArgs s_Publisher_check_ticks, defBody s_Publisher_check_ticks, defScope s_Publisher_check_ticks, [], []⟩
def d_Publisher_advance : He.DefD := ⟨("Publisher", some "advance"), "advance", "Publisher.advance", defArgs s_Publisher_advance, defBody s_Publisher_advance, defScope s_Publisher_advance, [], []⟩
def d_Publisher_clock : He.DefD := ⟨("Publisher", some "clock"), "clock", "Publisher.clock", defArgs s_Publisher_clock, defBody s_Publisher_clock, defScope s_Publisher_clock, [], []⟩
def d_Publisher_count : He.DefD := ⟨("Publisher", some "count"), "count", "Publisher.count", defArgs s_Publisher_count, defBody s_Publisher_count, defScope s_Publisher_count, [], []⟩
def d_Publisher_sources : He.DefD := ⟨("Publisher", some "sources"), "sources", "Publisher.sources", defArgs s_Publisher_sources, defBody s_Publisher_sources, defScope s_Publisher_sources, [], []⟩
def d_Publisher_pages : He.DefD := ⟨("Publisher", some "pages"), "pages", "Publisher.pages", defArgs s_Publisher_pages, defBody s_Publisher_pages, defScope s_Publisher_pages, [], []⟩
def d_Publisher_version : He.DefD := ⟨("Publisher", some "version"), "version", "Publisher.version", defArgs s_Publisher_version, defBody s_Publisher_version, defScope s_Publisher_version, [], []⟩
def d_Publisher_published : He.DefD := ⟨("Publisher", some "published"), "published", "Publisher.published", defArgs s_Publisher_published, defBody s_Publisher_published, defScope s_Publisher_published, [], []⟩
def d_Publisher_state : He.DefD := ⟨("Publisher", some "state"), "state", "Publisher.state", defArgs s_Publisher_state, defBody s_Publisher_state, defScope s_Publisher_state, [], []⟩
def d_Publisher_dirty_since : He.DefD := ⟨("Publisher", some "dirty_since"), "dirty_since", "Publisher.dirty_since", defArgs s_Publisher_dirty_since, defBody s_Publisher_dirty_since, defScope s_Publisher_dirty_since, [], []⟩
def d_Publisher_next_due : He.DefD := ⟨("Publisher", some "next_due"), "next_due", "Publisher.next_due", defArgs s_Publisher_next_due, defBody s_Publisher_next_due, defScope s_Publisher_next_due, [], []⟩
def d_Publisher__job_row : He.DefD := ⟨("Publisher", some "_job_row"), "_job_row", "Publisher._job_row", defArgs s_Publisher__job_row, defBody s_Publisher__job_row, defScope s_Publisher__job_row, [], []⟩
def d_Publisher_jobs : He.DefD := ⟨("Publisher", some "jobs"), "jobs", "Publisher.jobs", defArgs s_Publisher_jobs, defBody s_Publisher_jobs, defScope s_Publisher_jobs, [], []⟩
def d_Publisher_required : He.DefD := ⟨("Publisher", some "required"), "required", "Publisher.required", defArgs s_Publisher_required, defBody s_Publisher_required, defScope s_Publisher_required, [], []⟩
def d_Publisher_attempts_made : He.DefD := ⟨("Publisher", some "attempts_made"), "attempts_made", "Publisher.attempts_made", defArgs s_Publisher_attempts_made, defBody s_Publisher_attempts_made, defScope s_Publisher_attempts_made, [], []⟩
def d__law_cell : He.DefD := ⟨("_law_cell", none), "_law_cell", "_law_cell", defArgs s__law_cell, defBody s__law_cell, defScope s__law_cell, [], []⟩
def d__law_digits : He.DefD := ⟨("_law_digits", none), "_law_digits", "_law_digits", defArgs s__law_digits, defBody s__law_digits, defScope s__law_digits, [], []⟩
def d__law_draw : He.DefD := ⟨("_law_draw", none), "_law_draw", "_law_draw", defArgs s__law_draw, defBody s__law_draw, defScope s__law_draw, [], []⟩
def d__law_name : He.DefD := ⟨("_law_name", none), "_law_name", "_law_name", defArgs s__law_name, defBody s__law_name, defScope s__law_name, [], []⟩
def d__law_text : He.DefD := ⟨("_law_text", none), "_law_text", "_law_text", defArgs s__law_text, defBody s__law_text, defScope s__law_text, [], []⟩
def d__law_pages : He.DefD := ⟨("_law_pages", none), "_law_pages", "_law_pages", defArgs s__law_pages, defBody s__law_pages, defScope s__law_pages, [], []⟩
def d__law_alike : He.DefD := ⟨("_law_alike", none), "_law_alike", "_law_alike", defArgs s__law_alike, defBody s__law_alike, defScope s__law_alike, [], []⟩
def d__law_edit : He.DefD := ⟨("_law_edit", none), "_law_edit", "_law_edit", defArgs s__law_edit, defBody s__law_edit, defScope s__law_edit, [], []⟩
def d__law_options : He.DefD := ⟨("_law_options", none), "_law_options", "_law_options", defArgs s__law_options, defBody s__law_options, defScope s__law_options, [], []⟩
def d__law_ticks : He.DefD := ⟨("_law_ticks", none), "_law_ticks", "_law_ticks", defArgs s__law_ticks, defBody s__law_ticks, defScope s__law_ticks, [], []⟩
def d__law_told_by : He.DefD := ⟨("_law_told_by", none), "_law_told_by", "_law_told_by", defArgs s__law_told_by, defBody s__law_told_by, defScope s__law_told_by, [], []⟩
def d__law_in_pieces : He.DefD := ⟨("_law_in_pieces", none), "_law_in_pieces", "_law_in_pieces", defArgs s__law_in_pieces, defBody s__law_in_pieces, defScope s__law_in_pieces, [], []⟩
def d__law_by_turns : He.DefD := ⟨("_law_by_turns", none), "_law_by_turns", "_law_by_turns", defArgs s__law_by_turns, defBody s__law_by_turns, defScope s__law_by_turns, [], []⟩
def d_law : He.DefD := ⟨("law", none), "law", "law", defArgs s_law, defBody s_law, defScope s_law, [], []⟩
def fn0 : List He.DefD := [d_Cache___init__, d_Cache_add, d_Cache_keep, d_Cache_find, d_is_name, d_is_text, d_is_after, d_are_pages, d_failures, d__segment, d_split, d_target, d__first_failure, d__join_segments, d_join_result, d__open_link, d__greatest, d_closed, d_check_options, d_duration, d_delay, d_Snapshot___init__, d_Snapshot_known, d_Snapshot_told, d_Snapshot_required, d_Snapshot__is_renderable, d_Snapshot_renderable, d_Snapshot_is_ready, d_Timers___init__, d_Timers_put]
def fn1 : List He.DefD := [d_Timers_remove, d_Timers_due, d_Timers_first, d_check_edit, d_apply_edit, d_Job___init__, d_Frozen___init__, d_Publisher___init__, d_Publisher_would_edit, d_Publisher_edit, d_Publisher__make, d_Publisher__touch, d_Publisher__snapshot, d_Publisher__text, d_Publisher__forget, d_Publisher__is_valid, d_Publisher__drop_jobs, d_Publisher__running, d_Publisher__start, d_Publisher__progress, d_Publisher__publish, d_Publisher__release, d_Publisher__freeze, d_Publisher__end, d_Publisher__fire, d_Publisher_turn, d_Publisher_check_ticks, d_Publisher_advance, d_Publisher_clock, d_Publisher_count]
def fn2 : List He.DefD := [d_Publisher_sources, d_Publisher_pages, d_Publisher_version, d_Publisher_published, d_Publisher_state, d_Publisher_dirty_since, d_Publisher_next_due, d_Publisher__job_row, d_Publisher_jobs, d_Publisher_required, d_Publisher_attempts_made, d__law_cell, d__law_digits, d__law_draw, d__law_name, d__law_text, d__law_pages, d__law_alike, d__law_edit, d__law_options, d__law_ticks, d__law_told_by, d__law_in_pieces, d__law_by_turns, d_law]
def fn : List He.DefD := fn0 ++ fn1 ++ fn2
/-- the def's object -/
def fdOf (K : PySem.W.Frag) (p : Str × Option Str) : FuncData := match K.lookup (He.fAd K p) with
  | some ⟨_, _, .func fd, _⟩ => fd
  | _ => default
theorem funD_of {K : PySem.W.Frag} {d : He.DefD} (h : ∃ fd, FunD K d.name d.qual d.params d.body d.scope (d.dvs K) (d.kws K) (He.fAd K d.at_) fd) : FunD K d.name d.qual d.params d.body d.scope (d.dvs K) (d.kws K) (He.fAd K d.at_) (fdOf K d.at_) := by
  obtain ⟨fd, h⟩ := h
  obtain ⟨_, _, _, _, _, _, _, _, _, _, _, l, _⟩ := id h.ex
  have e : fdOf K d.at_ = fd := by
    unfold fdOf
    rw [l]
  rw [e]
  exact h
/-- tuples and tables that the top has made: the Bool that the Hook looks at -/
def ntE (K : PySem.W.Frag) : Addr := match K.lookup (He.ga K "NOTHING") with
  | some ⟨_, _, .seq its _, _⟩ => (match its.toList[(2 : Nat)]? with
    | some (.ref a) => a
    | _ => 0)
  | _ => 0
def tupA (K : PySem.W.Frag) (a : Addr) : Bool := match K.lookup a with
  | some ⟨.type c, _, .seq its _, _⟩ => decide (c = "tuple") && (decide (its.size ≤ sizeLine) && its.toList.isEmpty)
  | _ => false
def ex (K : PySem.W.Frag) : Bool := He.tupB K "PAUSE" [.str "pause"] && (He.tupB K "WAIT" [.str "wait"] && (He.tupB K "NOTHING" [.str "text", .str "?", .adr ntE] && (tupA K (ntE K) && (He.tupB K "LEAST" [.int 1, .int 1, .int 1, .int 1, .int 1, .int 1, .int 1] &&
  (He.tupB K "MOST" [.int 3, .int 100, .int 4, .int 100, .int 400, .int 200, .int 2000] && He.valsB K (He.ga K "OPENING") [("<", .str ">"), ("[", .str "]")])))))
def ts : List He.Tab := [(fun K => He.ga K "OPENING", ["<", "["])]
theorem tupA_ok {K : PySem.W.Frag} {a : Addr} (h : tupA K a = true) (H : Hp) : SqT K H a [] := by
  unfold tupA at h
  cases q : K.lookup a with
  | none =>
    rw [q] at h
    cases h
  | some o =>
    obtain ⟨oc, od, dt, osl⟩ := o
    rw [q] at h
    cases oc with
    | type c =>
      cases dt with
      | seq its n =>
        obtain ⟨h1, h2⟩ := He.ba (show (decide (c = "tuple") && (decide (its.size ≤ sizeLine) && its.toList.isEmpty)) = true from h)
        obtain ⟨h3, h4⟩ := He.ba h2
        refine .inr ⟨_, its, n, q, congrArg Value.type (of_decide_eq_true h1), rfl, of_decide_eq_true h3, ?_⟩
        rw [List.isEmpty_iff.mp h4]
        exact .nil
      | _ => cases h
    | _ => cases dt <;> cases h
/-- what is known of the top: the written part K, the module's names mg -/
structure Txt (w : World) (K : PySem.W.Frag) (mg : Str → Option Value) : Prop where
  hp : ∃ h : Heap, K.In h ∧ h.Ns mainGlobals mg
  st : He.SaysT fa fn ts w K
  ex : ex K = true
section
variable {w : World} {K : PySem.W.Frag} {mg : Str → Option Value}
theorem Txt.fc (T : Txt w K mg) (i : Nat) {f : He.Fa} (h : fa[i]? = some f := by rfl) : f.ok K = true := T.st.d.fact i h
theorem Txt.g_is_name (T : Txt w K mg) : mg "is_name" = some (.ref (He.ga K "is_name")) := let ⟨_, X, G⟩ := T.hp; He.glo_ok X G (T.fc 0 (f := .glo "is_name"))
theorem Txt.g_is_text (T : Txt w K mg) : mg "is_text" = some (.ref (He.ga K "is_text")) := let ⟨_, X, G⟩ := T.hp; He.glo_ok X G (T.fc 1 (f := .glo "is_text"))
theorem Txt.g_is_after (T : Txt w K mg) : mg "is_after" = some (.ref (He.ga K "is_after")) := let ⟨_, X, G⟩ := T.hp; He.glo_ok X G (T.fc 2 (f := .glo "is_after"))
theorem Txt.g_are_pages (T : Txt w K mg) : mg "are_pages" = some (.ref (He.ga K "are_pages")) := let ⟨_, X, G⟩ := T.hp; He.glo_ok X G (T.fc 3 (f := .glo "are_pages"))
theorem Txt.g_failures (T : Txt w K mg) : mg "failures" = some (.ref (He.ga K "failures")) := let ⟨_, X, G⟩ := T.hp; He.glo_ok X G (T.fc 4 (f := .glo "failures"))
theorem Txt.g__segment (T : Txt w K mg) : mg "_segment" = some (.ref (He.ga K "_segment")) := let ⟨_, X, G⟩ := T.hp; He.glo_ok X G (T.fc 5 (f := .glo "_segment"))
theorem Txt.g_split (T : Txt w K mg) : mg "split" = some (.ref (He.ga K "split")) := let ⟨_, X, G⟩ := T.hp; He.glo_ok X G (T.fc 6 (f := .glo "split"))
theorem Txt.g_target (T : Txt w K mg) : mg "target" = some (.ref (He.ga K "target")) := let ⟨_, X, G⟩ := T.hp; He.glo_ok X G (T.fc 7 (f := .glo "target"))
theorem Txt.g__first_failure (T : Txt w K mg) : mg "_first_failure" = some (.ref (He.ga K "_first_failure")) := let ⟨_, X, G⟩ := T.hp; He.glo_ok X G (T.fc 8 (f := .glo "_first_failure"))
theorem Txt.g__join_segments (T : Txt w K mg) : mg "_join_segments" = some (.ref (He.ga K "_join_segments")) := let ⟨_, X, G⟩ := T.hp; He.glo_ok X G (T.fc 9 (f := .glo "_join_segments"))
theorem Txt.g_join_result (T : Txt w K mg) : mg "join_result" = some (.ref (He.ga K "join_result")) := let ⟨_, X, G⟩ := T.hp; He.glo_ok X G (T.fc 10 (f := .glo "join_result"))
theorem Txt.g__open_link (T : Txt w K mg) : mg "_open_link" = some (.ref (He.ga K "_open_link")) := let ⟨_, X, G⟩ := T.hp; He.glo_ok X G (T.fc 11 (f := .glo "_open_link"))
theorem Txt.g__greatest (T : Txt w K mg) : mg "_greatest" = some (.ref (He.ga K "_greatest")) := let ⟨_, X, G⟩ := T.hp; He.glo_ok X G (T.fc 12 (f := .glo "_greatest"))
theorem Txt.g_closed (T : Txt w K mg) : mg "closed" = some (.ref (He.ga K "closed")) := let ⟨_, X, G⟩ := T.hp; He.glo_ok X G (T.fc 13 (f := .glo "closed"))
theorem Txt.g_check_options (T : Txt w K mg) : mg "check_options" = some (.ref (He.ga K "check_options")) := let ⟨_, X, G⟩ := T.hp; He.glo_ok X G (T.fc 14 (f := .glo "check_options"))
theorem Txt.g_duration (T : Txt w K mg) : mg "duration" = some (.ref (He.ga K "duration")) := let ⟨_, X, G⟩ := T.hp; He.glo_ok X G (T.fc 15 (f := .glo "duration"))
theorem Txt.g_delay (T : Txt w K mg) : mg "delay" = some (.ref (He.ga K "delay")) := let ⟨_, X, G⟩ := T.hp; He.glo_ok X G (T.fc 16 (f := .glo "delay"))
theorem Txt.g_check_edit (T : Txt w K mg) : mg "check_edit" = some (.ref (He.ga K "check_edit")) := let ⟨_, X, G⟩ := T.hp; He.glo_ok X G (T.fc 17 (f := .glo "check_edit"))
theorem Txt.g_apply_edit (T : Txt w K mg) : mg "apply_edit" = some (.ref (He.ga K "apply_edit")) := let ⟨_, X, G⟩ := T.hp; He.glo_ok X G (T.fc 18 (f := .glo "apply_edit"))
theorem Txt.g__law_cell (T : Txt w K mg) : mg "_law_cell" = some (.ref (He.ga K "_law_cell")) := let ⟨_, X, G⟩ := T.hp; He.glo_ok X G (T.fc 19 (f := .glo "_law_cell"))
theorem Txt.g__law_digits (T : Txt w K mg) : mg "_law_digits" = some (.ref (He.ga K "_law_digits")) := let ⟨_, X, G⟩ := T.hp; He.glo_ok X G (T.fc 20 (f := .glo "_law_digits"))
theorem Txt.g__law_draw (T : Txt w K mg) : mg "_law_draw" = some (.ref (He.ga K "_law_draw")) := let ⟨_, X, G⟩ := T.hp; He.glo_ok X G (T.fc 21 (f := .glo "_law_draw"))
theorem Txt.g__law_name (T : Txt w K mg) : mg "_law_name" = some (.ref (He.ga K "_law_name")) := let ⟨_, X, G⟩ := T.hp; He.glo_ok X G (T.fc 22 (f := .glo "_law_name"))
theorem Txt.g__law_text (T : Txt w K mg) : mg "_law_text" = some (.ref (He.ga K "_law_text")) := let ⟨_, X, G⟩ := T.hp; He.glo_ok X G (T.fc 23 (f := .glo "_law_text"))
theorem Txt.g__law_pages (T : Txt w K mg) : mg "_law_pages" = some (.ref (He.ga K "_law_pages")) := let ⟨_, X, G⟩ := T.hp; He.glo_ok X G (T.fc 24 (f := .glo "_law_pages"))
theorem Txt.g__law_alike (T : Txt w K mg) : mg "_law_alike" = some (.ref (He.ga K "_law_alike")) := let ⟨_, X, G⟩ := T.hp; He.glo_ok X G (T.fc 25 (f := .glo "_law_alike"))
theorem Txt.g__law_edit (T : Txt w K mg) : mg "_law_edit" = some (.ref (He.ga K "_law_edit")) := let ⟨_, X, G⟩ := T.hp; He.glo_ok X G (T.fc 26 (f := .glo "_law_edit"))
theorem Txt.g__law_options (T : Txt w K mg) : mg "_law_options" = some (.ref (He.ga K "_law_options")) := let ⟨_, X, G⟩ := T.hp; He.glo_ok X G (T.fc 27 (f := .glo "_law_options"))
theorem Txt.g__law_ticks (T : Txt w K mg) : mg "_law_ticks" = some (.ref (He.ga K "_law_ticks")) := let ⟨_, X, G⟩ := T.hp; He.glo_ok X G (T.fc 28 (f := .glo "_law_ticks"))
theorem Txt.g__law_told_by (T : Txt w K mg) : mg "_law_told_by" = some (.ref (He.ga K "_law_told_by")) := let ⟨_, X, G⟩ := T.hp; He.glo_ok X G (T.fc 29 (f := .glo "_law_told_by"))
theorem Txt.g__law_in_pieces (T : Txt w K mg) : mg "_law_in_pieces" = some (.ref (He.ga K "_law_in_pieces")) := let ⟨_, X, G⟩ := T.hp; He.glo_ok X G (T.fc 30 (f := .glo "_law_in_pieces"))
theorem Txt.g__law_by_turns (T : Txt w K mg) : mg "_law_by_turns" = some (.ref (He.ga K "_law_by_turns")) := let ⟨_, X, G⟩ := T.hp; He.glo_ok X G (T.fc 31 (f := .glo "_law_by_turns"))
theorem Txt.g_law (T : Txt w K mg) : mg "law" = some (.ref (He.ga K "law")) := let ⟨_, X, G⟩ := T.hp; He.glo_ok X G (T.fc 32 (f := .glo "law"))
theorem Txt.g_Cache (T : Txt w K mg) : mg "Cache" = some (.ref (He.ga K "Cache")) := let ⟨_, X, G⟩ := T.hp; He.glo_ok X G (T.fc 33 (f := .glo "Cache"))
theorem Txt.cl_Cache (T : Txt w K mg) : Cls K (He.ga K "Cache") := He.cls_ok (T.fc 34 (f := .cls "Cache"))
theorem Txt.mk_Cache (T : Txt w K mg) : Mk K (He.ga K "Cache") (He.ma K (He.ga K "Cache") "__init__") := He.mkr_ok (T.fc 35 (f := .mkr "Cache"))
theorem Txt.g_Snapshot (T : Txt w K mg) : mg "Snapshot" = some (.ref (He.ga K "Snapshot")) := let ⟨_, X, G⟩ := T.hp; He.glo_ok X G (T.fc 36 (f := .glo "Snapshot"))
theorem Txt.cl_Snapshot (T : Txt w K mg) : Cls K (He.ga K "Snapshot") := He.cls_ok (T.fc 37 (f := .cls "Snapshot"))
theorem Txt.mk_Snapshot (T : Txt w K mg) : Mk K (He.ga K "Snapshot") (He.ma K (He.ga K "Snapshot") "__init__") := He.mkr_ok (T.fc 38 (f := .mkr "Snapshot"))
theorem Txt.g_Timers (T : Txt w K mg) : mg "Timers" = some (.ref (He.ga K "Timers")) := let ⟨_, X, G⟩ := T.hp; He.glo_ok X G (T.fc 39 (f := .glo "Timers"))
theorem Txt.cl_Timers (T : Txt w K mg) : Cls K (He.ga K "Timers") := He.cls_ok (T.fc 40 (f := .cls "Timers"))
theorem Txt.mk_Timers (T : Txt w K mg) : Mk K (He.ga K "Timers") (He.ma K (He.ga K "Timers") "__init__") := He.mkr_ok (T.fc 41 (f := .mkr "Timers"))
theorem Txt.g_Job (T : Txt w K mg) : mg "Job" = some (.ref (He.ga K "Job")) := let ⟨_, X, G⟩ := T.hp; He.glo_ok X G (T.fc 42 (f := .glo "Job"))
theorem Txt.cl_Job (T : Txt w K mg) : Cls K (He.ga K "Job") := He.cls_ok (T.fc 43 (f := .cls "Job"))
theorem Txt.mk_Job (T : Txt w K mg) : Mk K (He.ga K "Job") (He.ma K (He.ga K "Job") "__init__") := He.mkr_ok (T.fc 44 (f := .mkr "Job"))
theorem Txt.g_Frozen (T : Txt w K mg) : mg "Frozen" = some (.ref (He.ga K "Frozen")) := let ⟨_, X, G⟩ := T.hp; He.glo_ok X G (T.fc 45 (f := .glo "Frozen"))
theorem Txt.cl_Frozen (T : Txt w K mg) : Cls K (He.ga K "Frozen") := He.cls_ok (T.fc 46 (f := .cls "Frozen"))
theorem Txt.mk_Frozen (T : Txt w K mg) : Mk K (He.ga K "Frozen") (He.ma K (He.ga K "Frozen") "__init__") := He.mkr_ok (T.fc 47 (f := .mkr "Frozen"))
theorem Txt.g_Publisher (T : Txt w K mg) : mg "Publisher" = some (.ref (He.ga K "Publisher")) := let ⟨_, X, G⟩ := T.hp; He.glo_ok X G (T.fc 48 (f := .glo "Publisher"))
theorem Txt.cl_Publisher (T : Txt w K mg) : Cls K (He.ga K "Publisher") := He.cls_ok (T.fc 49 (f := .cls "Publisher"))
theorem Txt.mk_Publisher (T : Txt w K mg) : Mk K (He.ga K "Publisher") (He.ma K (He.ga K "Publisher") "__init__") := He.mkr_ok (T.fc 50 (f := .mkr "Publisher"))
theorem Txt.g_NOTHING (T : Txt w K mg) : mg "NOTHING" = some (.ref (He.ga K "NOTHING")) := let ⟨_, X, G⟩ := T.hp; He.glo_ok X G (T.fc 51 (f := .glo "NOTHING"))
theorem Txt.g_LEAST (T : Txt w K mg) : mg "LEAST" = some (.ref (He.ga K "LEAST")) := let ⟨_, X, G⟩ := T.hp; He.glo_ok X G (T.fc 52 (f := .glo "LEAST"))
theorem Txt.g_MOST (T : Txt w K mg) : mg "MOST" = some (.ref (He.ga K "MOST")) := let ⟨_, X, G⟩ := T.hp; He.glo_ok X G (T.fc 53 (f := .glo "MOST"))
theorem Txt.g_PAUSE (T : Txt w K mg) : mg "PAUSE" = some (.ref (He.ga K "PAUSE")) := let ⟨_, X, G⟩ := T.hp; He.glo_ok X G (T.fc 54 (f := .glo "PAUSE"))
theorem Txt.g_WAIT (T : Txt w K mg) : mg "WAIT" = some (.ref (He.ga K "WAIT")) := let ⟨_, X, G⟩ := T.hp; He.glo_ok X G (T.fc 55 (f := .glo "WAIT"))
theorem Txt.g_OPENING (T : Txt w K mg) : mg "OPENING" = some (.ref (He.ga K "OPENING")) := let ⟨_, X, G⟩ := T.hp; He.glo_ok X G (T.fc 56 (f := .glo "OPENING"))
theorem Txt.z_len (T : Txt w K mg) : mg "len" = none := let ⟨_, X, G⟩ := T.hp; He.free_ok X G (T.fc 57 (f := .free "len"))
theorem Txt.z_all (T : Txt w K mg) : mg "all" = none := let ⟨_, X, G⟩ := T.hp; He.free_ok X G (T.fc 58 (f := .free "all"))
theorem Txt.z_sorted (T : Txt w K mg) : mg "sorted" = none := let ⟨_, X, G⟩ := T.hp; He.free_ok X G (T.fc 59 (f := .free "sorted"))
theorem Txt.z_set (T : Txt w K mg) : mg "set" = none := let ⟨_, X, G⟩ := T.hp; He.free_ok X G (T.fc 60 (f := .free "set"))
theorem Txt.z_list (T : Txt w K mg) : mg "list" = none := let ⟨_, X, G⟩ := T.hp; He.free_ok X G (T.fc 61 (f := .free "list"))
theorem Txt.z_tuple (T : Txt w K mg) : mg "tuple" = none := let ⟨_, X, G⟩ := T.hp; He.free_ok X G (T.fc 62 (f := .free "tuple"))
theorem Txt.z_dict (T : Txt w K mg) : mg "dict" = none := let ⟨_, X, G⟩ := T.hp; He.free_ok X G (T.fc 63 (f := .free "dict"))
theorem Txt.z_range (T : Txt w K mg) : mg "range" = none := let ⟨_, X, G⟩ := T.hp; He.free_ok X G (T.fc 64 (f := .free "range"))
theorem Txt.z_min (T : Txt w K mg) : mg "min" = none := let ⟨_, X, G⟩ := T.hp; He.free_ok X G (T.fc 65 (f := .free "min"))
theorem Txt.z_ord (T : Txt w K mg) : mg "ord" = none := let ⟨_, X, G⟩ := T.hp; He.free_ok X G (T.fc 66 (f := .free "ord"))
theorem Txt.z_int (T : Txt w K mg) : mg "int" = none := let ⟨_, X, G⟩ := T.hp; He.free_ok X G (T.fc 67 (f := .free "int"))
theorem Txt.z_repr (T : Txt w K mg) : mg "repr" = none := let ⟨_, X, G⟩ := T.hp; He.free_ok X G (T.fc 68 (f := .free "repr"))
theorem Txt.z_zip (T : Txt w K mg) : mg "zip" = none := let ⟨_, X, G⟩ := T.hp; He.free_ok X G (T.fc 69 (f := .free "zip"))
theorem Txt.i_RENDERINGS_MOST (T : Txt w K mg) : ∃ t, mg "RENDERINGS_MOST" = some (.int 4 t) := let ⟨_, X, G⟩ := T.hp; He.int_ok X G (T.fc 70 (f := .int "RENDERINGS_MOST" 4))
theorem Txt.i_NAME_MOST (T : Txt w K mg) : ∃ t, mg "NAME_MOST" = some (.int 6 t) := let ⟨_, X, G⟩ := T.hp; He.int_ok X G (T.fc 71 (f := .int "NAME_MOST" 6))
theorem Txt.i_TEXT_MOST (T : Txt w K mg) : ∃ t, mg "TEXT_MOST" = some (.int 60 t) := let ⟨_, X, G⟩ := T.hp; He.int_ok X G (T.fc 72 (f := .int "TEXT_MOST" 60))
theorem Txt.i_SOURCES_MOST (T : Txt w K mg) : ∃ t, mg "SOURCES_MOST" = some (.int 12 t) := let ⟨_, X, G⟩ := T.hp; He.int_ok X G (T.fc 73 (f := .int "SOURCES_MOST" 12))
theorem Txt.i_PAGES_MOST (T : Txt w K mg) : ∃ t, mg "PAGES_MOST" = some (.int 6 t) := let ⟨_, X, G⟩ := T.hp; He.int_ok X G (T.fc 74 (f := .int "PAGES_MOST" 6))
theorem Txt.s_LETTERS (T : Txt w K mg) : ∃ t, mg "LETTERS" = some (.str "abcdefghijklmnopqrstuvwxyz" t) := let ⟨_, X, G⟩ := T.hp; He.str_ok X G (T.fc 75 (f := .str "LETTERS" "abcdefghijklmnopqrstuvwxyz"))
theorem Txt.i_PERCENT (T : Txt w K mg) : ∃ t, mg "PERCENT" = some (.int 37 t) := let ⟨_, X, G⟩ := T.hp; He.int_ok X G (T.fc 76 (f := .int "PERCENT" 37))
theorem Txt.i_RESULT_MOST (T : Txt w K mg) : ∃ t, mg "RESULT_MOST" = some (.int 200 t) := let ⟨_, X, G⟩ := T.hp; He.int_ok X G (T.fc 77 (f := .int "RESULT_MOST" 200))
theorem Txt.i_TICKS_MOST (T : Txt w K mg) : ∃ t, mg "TICKS_MOST" = some (.int 10000 t) := let ⟨_, X, G⟩ := T.hp; He.int_ok X G (T.fc 78 (f := .int "TICKS_MOST" 10000))
theorem Txt.i_CLOCK_MOST (T : Txt w K mg) : ∃ t, mg "CLOCK_MOST" = some (.int 9999999 t) := let ⟨_, X, G⟩ := T.hp; He.int_ok X G (T.fc 79 (f := .int "CLOCK_MOST" 9999999))
theorem Txt.s_RUNNING (T : Txt w K mg) : ∃ t, mg "RUNNING" = some (.str "running" t) := let ⟨_, X, G⟩ := T.hp; He.str_ok X G (T.fc 80 (f := .str "RUNNING" "running"))
theorem Txt.s_BACKING_OFF (T : Txt w K mg) : ∃ t, mg "BACKING_OFF" = some (.str "backing off" t) := let ⟨_, X, G⟩ := T.hp; He.str_ok X G (T.fc 81 (f := .str "BACKING_OFF" "backing off"))
theorem Txt.s_QUEUED (T : Txt w K mg) : ∃ t, mg "QUEUED" = some (.str "queued" t) := let ⟨_, X, G⟩ := T.hp; He.str_ok X G (T.fc 82 (f := .str "QUEUED" "queued"))
theorem Txt.na_Cache__renderings (T : Txt w K mg) : NoAttr K (He.ga K "Cache") "_renderings" := He.noat_ok (T.fc 83 (f := .noat "Cache" "_renderings"))
theorem Txt.na_Snapshot__sources (T : Txt w K mg) : NoAttr K (He.ga K "Snapshot") "_sources" := He.noat_ok (T.fc 84 (f := .noat "Snapshot" "_sources"))
theorem Txt.na_Snapshot__pages (T : Txt w K mg) : NoAttr K (He.ga K "Snapshot") "_pages" := He.noat_ok (T.fc 85 (f := .noat "Snapshot" "_pages"))
theorem Txt.na_Snapshot__attempts (T : Txt w K mg) : NoAttr K (He.ga K "Snapshot") "_attempts" := He.noat_ok (T.fc 86 (f := .noat "Snapshot" "_attempts"))
theorem Txt.na_Snapshot__known (T : Txt w K mg) : NoAttr K (He.ga K "Snapshot") "_known" := He.noat_ok (T.fc 87 (f := .noat "Snapshot" "_known"))
theorem Txt.na_Timers__due (T : Txt w K mg) : NoAttr K (He.ga K "Timers") "_due" := He.noat_ok (T.fc 88 (f := .noat "Timers" "_due"))
theorem Txt.na_Job_text (T : Txt w K mg) : NoAttr K (He.ga K "Job") "text" := He.noat_ok (T.fc 89 (f := .noat "Job" "text"))
theorem Txt.na_Job_found (T : Txt w K mg) : NoAttr K (He.ga K "Job") "found" := He.noat_ok (T.fc 90 (f := .noat "Job" "found"))
theorem Txt.na_Job_attempt (T : Txt w K mg) : NoAttr K (He.ga K "Job") "attempt" := He.noat_ok (T.fc 91 (f := .noat "Job" "attempt"))
theorem Txt.na_Job_state (T : Txt w K mg) : NoAttr K (He.ga K "Job") "state" := He.noat_ok (T.fc 92 (f := .noat "Job" "state"))
theorem Txt.na_Frozen_sources (T : Txt w K mg) : NoAttr K (He.ga K "Frozen") "sources" := He.noat_ok (T.fc 93 (f := .noat "Frozen" "sources"))
theorem Txt.na_Frozen_pages (T : Txt w K mg) : NoAttr K (He.ga K "Frozen") "pages" := He.noat_ok (T.fc 94 (f := .noat "Frozen" "pages"))
theorem Txt.na_Frozen_count (T : Txt w K mg) : NoAttr K (He.ga K "Frozen") "count" := He.noat_ok (T.fc 95 (f := .noat "Frozen" "count"))
theorem Txt.na_Frozen_time (T : Txt w K mg) : NoAttr K (He.ga K "Frozen") "time" := He.noat_ok (T.fc 96 (f := .noat "Frozen" "time"))
theorem Txt.na_Publisher__options (T : Txt w K mg) : NoAttr K (He.ga K "Publisher") "_options" := He.noat_ok (T.fc 97 (f := .noat "Publisher" "_options"))
theorem Txt.na_Publisher__clock (T : Txt w K mg) : NoAttr K (He.ga K "Publisher") "_clock" := He.noat_ok (T.fc 98 (f := .noat "Publisher" "_clock"))
theorem Txt.na_Publisher__sources (T : Txt w K mg) : NoAttr K (He.ga K "Publisher") "_sources" := He.noat_ok (T.fc 99 (f := .noat "Publisher" "_sources"))
theorem Txt.na_Publisher__pages (T : Txt w K mg) : NoAttr K (He.ga K "Publisher") "_pages" := He.noat_ok (T.fc 100 (f := .noat "Publisher" "_pages"))
theorem Txt.na_Publisher__count (T : Txt w K mg) : NoAttr K (He.ga K "Publisher") "_count" := He.noat_ok (T.fc 101 (f := .noat "Publisher" "_count"))
theorem Txt.na_Publisher__last_edit (T : Txt w K mg) : NoAttr K (He.ga K "Publisher") "_last_edit" := He.noat_ok (T.fc 102 (f := .noat "Publisher" "_last_edit"))
theorem Txt.na_Publisher__cache (T : Txt w K mg) : NoAttr K (He.ga K "Publisher") "_cache" := He.noat_ok (T.fc 103 (f := .noat "Publisher" "_cache"))
theorem Txt.na_Publisher__timers (T : Txt w K mg) : NoAttr K (He.ga K "Publisher") "_timers" := He.noat_ok (T.fc 104 (f := .noat "Publisher" "_timers"))
theorem Txt.na_Publisher__jobs (T : Txt w K mg) : NoAttr K (He.ga K "Publisher") "_jobs" := He.noat_ok (T.fc 105 (f := .noat "Publisher" "_jobs"))
theorem Txt.na_Publisher__frozen (T : Txt w K mg) : NoAttr K (He.ga K "Publisher") "_frozen" := He.noat_ok (T.fc 106 (f := .noat "Publisher" "_frozen"))
theorem Txt.na_Publisher__dirty_since (T : Txt w K mg) : NoAttr K (He.ga K "Publisher") "_dirty_since" := He.noat_ok (T.fc 107 (f := .noat "Publisher" "_dirty_since"))
theorem Txt.na_Publisher__version (T : Txt w K mg) : NoAttr K (He.ga K "Publisher") "_version" := He.noat_ok (T.fc 108 (f := .noat "Publisher" "_version"))
theorem Txt.na_Publisher__published (T : Txt w K mg) : NoAttr K (He.ga K "Publisher") "_published" := He.noat_ok (T.fc 109 (f := .noat "Publisher" "_published"))
theorem Txt.na_Publisher__attempts_made (T : Txt w K mg) : NoAttr K (He.ga K "Publisher") "_attempts_made" := He.noat_ok (T.fc 110 (f := .noat "Publisher" "_attempts_made"))
theorem Txt.mt_Cache_add (T : Txt w K mg) : Meth K (He.ga K "Cache") "add" (He.ma K (He.ga K "Cache") "add") := He.meth_ok (T.fc 111 (f := .meth "Cache" "add"))
theorem Txt.mt_Cache_keep (T : Txt w K mg) : Meth K (He.ga K "Cache") "keep" (He.ma K (He.ga K "Cache") "keep") := He.meth_ok (T.fc 112 (f := .meth "Cache" "keep"))
theorem Txt.mt_Cache_find (T : Txt w K mg) : Meth K (He.ga K "Cache") "find" (He.ma K (He.ga K "Cache") "find") := He.meth_ok (T.fc 113 (f := .meth "Cache" "find"))
theorem Txt.mt_Snapshot_known (T : Txt w K mg) : Meth K (He.ga K "Snapshot") "known" (He.ma K (He.ga K "Snapshot") "known") := He.meth_ok (T.fc 114 (f := .meth "Snapshot" "known"))
theorem Txt.mt_Snapshot_told (T : Txt w K mg) : Meth K (He.ga K "Snapshot") "told" (He.ma K (He.ga K "Snapshot") "told") := He.meth_ok (T.fc 115 (f := .meth "Snapshot" "told"))
theorem Txt.mt_Snapshot_required (T : Txt w K mg) : Meth K (He.ga K "Snapshot") "required" (He.ma K (He.ga K "Snapshot") "required") := He.meth_ok (T.fc 116 (f := .meth "Snapshot" "required"))
theorem Txt.mt_Snapshot__is_renderable (T : Txt w K mg) : Meth K (He.ga K "Snapshot") "_is_renderable" (He.ma K (He.ga K "Snapshot") "_is_renderable") := He.meth_ok (T.fc 117 (f := .meth "Snapshot" "_is_renderable"))
theorem Txt.mt_Snapshot_renderable (T : Txt w K mg) : Meth K (He.ga K "Snapshot") "renderable" (He.ma K (He.ga K "Snapshot") "renderable") := He.meth_ok (T.fc 118 (f := .meth "Snapshot" "renderable"))
theorem Txt.mt_Snapshot_is_ready (T : Txt w K mg) : Meth K (He.ga K "Snapshot") "is_ready" (He.ma K (He.ga K "Snapshot") "is_ready") := He.meth_ok (T.fc 119 (f := .meth "Snapshot" "is_ready"))
theorem Txt.mt_Timers_put (T : Txt w K mg) : Meth K (He.ga K "Timers") "put" (He.ma K (He.ga K "Timers") "put") := He.meth_ok (T.fc 120 (f := .meth "Timers" "put"))
theorem Txt.mt_Timers_remove (T : Txt w K mg) : Meth K (He.ga K "Timers") "remove" (He.ma K (He.ga K "Timers") "remove") := He.meth_ok (T.fc 121 (f := .meth "Timers" "remove"))
theorem Txt.mt_Timers_due (T : Txt w K mg) : Meth K (He.ga K "Timers") "due" (He.ma K (He.ga K "Timers") "due") := He.meth_ok (T.fc 122 (f := .meth "Timers" "due"))
theorem Txt.mt_Timers_first (T : Txt w K mg) : Meth K (He.ga K "Timers") "first" (He.ma K (He.ga K "Timers") "first") := He.meth_ok (T.fc 123 (f := .meth "Timers" "first"))
theorem Txt.mt_Publisher_would_edit (T : Txt w K mg) : Meth K (He.ga K "Publisher") "would_edit" (He.ma K (He.ga K "Publisher") "would_edit") := He.meth_ok (T.fc 124 (f := .meth "Publisher" "would_edit"))
theorem Txt.mt_Publisher_edit (T : Txt w K mg) : Meth K (He.ga K "Publisher") "edit" (He.ma K (He.ga K "Publisher") "edit") := He.meth_ok (T.fc 125 (f := .meth "Publisher" "edit"))
theorem Txt.mt_Publisher__make (T : Txt w K mg) : Meth K (He.ga K "Publisher") "_make" (He.ma K (He.ga K "Publisher") "_make") := He.meth_ok (T.fc 126 (f := .meth "Publisher" "_make"))
theorem Txt.mt_Publisher__touch (T : Txt w K mg) : Meth K (He.ga K "Publisher") "_touch" (He.ma K (He.ga K "Publisher") "_touch") := He.meth_ok (T.fc 127 (f := .meth "Publisher" "_touch"))
theorem Txt.mt_Publisher__snapshot (T : Txt w K mg) : Meth K (He.ga K "Publisher") "_snapshot" (He.ma K (He.ga K "Publisher") "_snapshot") := He.meth_ok (T.fc 128 (f := .meth "Publisher" "_snapshot"))
theorem Txt.mt_Publisher__text (T : Txt w K mg) : Meth K (He.ga K "Publisher") "_text" (He.ma K (He.ga K "Publisher") "_text") := He.meth_ok (T.fc 129 (f := .meth "Publisher" "_text"))
theorem Txt.mt_Publisher__forget (T : Txt w K mg) : Meth K (He.ga K "Publisher") "_forget" (He.ma K (He.ga K "Publisher") "_forget") := He.meth_ok (T.fc 130 (f := .meth "Publisher" "_forget"))
theorem Txt.mt_Publisher__is_valid (T : Txt w K mg) : Meth K (He.ga K "Publisher") "_is_valid" (He.ma K (He.ga K "Publisher") "_is_valid") := He.meth_ok (T.fc 131 (f := .meth "Publisher" "_is_valid"))
theorem Txt.mt_Publisher__drop_jobs (T : Txt w K mg) : Meth K (He.ga K "Publisher") "_drop_jobs" (He.ma K (He.ga K "Publisher") "_drop_jobs") := He.meth_ok (T.fc 132 (f := .meth "Publisher" "_drop_jobs"))
theorem Txt.mt_Publisher__running (T : Txt w K mg) : Meth K (He.ga K "Publisher") "_running" (He.ma K (He.ga K "Publisher") "_running") := He.meth_ok (T.fc 133 (f := .meth "Publisher" "_running"))
theorem Txt.mt_Publisher__start (T : Txt w K mg) : Meth K (He.ga K "Publisher") "_start" (He.ma K (He.ga K "Publisher") "_start") := He.meth_ok (T.fc 134 (f := .meth "Publisher" "_start"))
theorem Txt.mt_Publisher__progress (T : Txt w K mg) : Meth K (He.ga K "Publisher") "_progress" (He.ma K (He.ga K "Publisher") "_progress") := He.meth_ok (T.fc 135 (f := .meth "Publisher" "_progress"))
theorem Txt.mt_Publisher__publish (T : Txt w K mg) : Meth K (He.ga K "Publisher") "_publish" (He.ma K (He.ga K "Publisher") "_publish") := He.meth_ok (T.fc 136 (f := .meth "Publisher" "_publish"))
theorem Txt.mt_Publisher__release (T : Txt w K mg) : Meth K (He.ga K "Publisher") "_release" (He.ma K (He.ga K "Publisher") "_release") := He.meth_ok (T.fc 137 (f := .meth "Publisher" "_release"))
theorem Txt.mt_Publisher__freeze (T : Txt w K mg) : Meth K (He.ga K "Publisher") "_freeze" (He.ma K (He.ga K "Publisher") "_freeze") := He.meth_ok (T.fc 138 (f := .meth "Publisher" "_freeze"))
theorem Txt.mt_Publisher__end (T : Txt w K mg) : Meth K (He.ga K "Publisher") "_end" (He.ma K (He.ga K "Publisher") "_end") := He.meth_ok (T.fc 139 (f := .meth "Publisher" "_end"))
theorem Txt.mt_Publisher__fire (T : Txt w K mg) : Meth K (He.ga K "Publisher") "_fire" (He.ma K (He.ga K "Publisher") "_fire") := He.meth_ok (T.fc 140 (f := .meth "Publisher" "_fire"))
theorem Txt.mt_Publisher_turn (T : Txt w K mg) : Meth K (He.ga K "Publisher") "turn" (He.ma K (He.ga K "Publisher") "turn") := He.meth_ok (T.fc 141 (f := .meth "Publisher" "turn"))
theorem Txt.mt_Publisher_check_ticks (T : Txt w K mg) : Meth K (He.ga K "Publisher") "check_ticks" (He.ma K (He.ga K "Publisher") "check_ticks") := He.meth_ok (T.fc 142 (f := .meth "Publisher" "check_ticks"))
theorem Txt.mt_Publisher_advance (T : Txt w K mg) : Meth K (He.ga K "Publisher") "advance" (He.ma K (He.ga K "Publisher") "advance") := He.meth_ok (T.fc 143 (f := .meth "Publisher" "advance"))
theorem Txt.mt_Publisher_clock (T : Txt w K mg) : Meth K (He.ga K "Publisher") "clock" (He.ma K (He.ga K "Publisher") "clock") := He.meth_ok (T.fc 144 (f := .meth "Publisher" "clock"))
theorem Txt.mt_Publisher_count (T : Txt w K mg) : Meth K (He.ga K "Publisher") "count" (He.ma K (He.ga K "Publisher") "count") := He.meth_ok (T.fc 145 (f := .meth "Publisher" "count"))
theorem Txt.mt_Publisher_sources (T : Txt w K mg) : Meth K (He.ga K "Publisher") "sources" (He.ma K (He.ga K "Publisher") "sources") := He.meth_ok (T.fc 146 (f := .meth "Publisher" "sources"))
theorem Txt.mt_Publisher_pages (T : Txt w K mg) : Meth K (He.ga K "Publisher") "pages" (He.ma K (He.ga K "Publisher") "pages") := He.meth_ok (T.fc 147 (f := .meth "Publisher" "pages"))
theorem Txt.mt_Publisher_version (T : Txt w K mg) : Meth K (He.ga K "Publisher") "version" (He.ma K (He.ga K "Publisher") "version") := He.meth_ok (T.fc 148 (f := .meth "Publisher" "version"))
theorem Txt.mt_Publisher_published (T : Txt w K mg) : Meth K (He.ga K "Publisher") "published" (He.ma K (He.ga K "Publisher") "published") := He.meth_ok (T.fc 149 (f := .meth "Publisher" "published"))
theorem Txt.mt_Publisher_state (T : Txt w K mg) : Meth K (He.ga K "Publisher") "state" (He.ma K (He.ga K "Publisher") "state") := He.meth_ok (T.fc 150 (f := .meth "Publisher" "state"))
theorem Txt.mt_Publisher_dirty_since (T : Txt w K mg) : Meth K (He.ga K "Publisher") "dirty_since" (He.ma K (He.ga K "Publisher") "dirty_since") := He.meth_ok (T.fc 151 (f := .meth "Publisher" "dirty_since"))
theorem Txt.mt_Publisher_next_due (T : Txt w K mg) : Meth K (He.ga K "Publisher") "next_due" (He.ma K (He.ga K "Publisher") "next_due") := He.meth_ok (T.fc 152 (f := .meth "Publisher" "next_due"))
theorem Txt.mt_Publisher__job_row (T : Txt w K mg) : Meth K (He.ga K "Publisher") "_job_row" (He.ma K (He.ga K "Publisher") "_job_row") := He.meth_ok (T.fc 153 (f := .meth "Publisher" "_job_row"))
theorem Txt.mt_Publisher_jobs (T : Txt w K mg) : Meth K (He.ga K "Publisher") "jobs" (He.ma K (He.ga K "Publisher") "jobs") := He.meth_ok (T.fc 154 (f := .meth "Publisher" "jobs"))
theorem Txt.mt_Publisher_required (T : Txt w K mg) : Meth K (He.ga K "Publisher") "required" (He.ma K (He.ga K "Publisher") "required") := He.meth_ok (T.fc 155 (f := .meth "Publisher" "required"))
theorem Txt.mt_Publisher_attempts_made (T : Txt w K mg) : Meth K (He.ga K "Publisher") "attempts_made" (He.ma K (He.ga K "Publisher") "attempts_made") := He.meth_ok (T.fc 156 (f := .meth "Publisher" "attempts_made"))
abbrev fd_Cache___init__ (K : PySem.W.Frag) : FuncData := fdOf K ("Cache", some "__init__")
theorem Txt.f_Cache___init__ (T : Txt w K mg) : FunD K "__init__" "Cache.__init__" (defArgs s_Cache___init__) (defBody s_Cache___init__) (defScope s_Cache___init__) [] [] (He.ma K (He.ga K "Cache") "__init__") (fd_Cache___init__ K) := funD_of (d := d_Cache___init__) (T.st.d.def_ 0 (d := d_Cache___init__))
theorem Txt.b_Cache___init__ (T : Txt w K mg) : Binds K (fd_Cache___init__ K) ["self"] [] := T.f_Cache___init__.bindsN fun _ _ _ _ _ _ us hl => match us, hl with | [_], _ => rfl
abbrev fd_Cache_add (K : PySem.W.Frag) : FuncData := fdOf K ("Cache", some "add")
theorem Txt.f_Cache_add (T : Txt w K mg) : FunD K "add" "Cache.add" (defArgs s_Cache_add) (defBody s_Cache_add) (defScope s_Cache_add) [] [] (He.ma K (He.ga K "Cache") "add") (fd_Cache_add K) := funD_of (d := d_Cache_add) (T.st.d.def_ 1 (d := d_Cache_add))
theorem Txt.b_Cache_add (T : Txt w K mg) : Binds K (fd_Cache_add K) ["self", "rendering"] [] := T.f_Cache_add.bindsN fun _ _ _ _ _ _ us hl => match us, hl with | [_, _], _ => rfl
abbrev fd_Cache_keep (K : PySem.W.Frag) : FuncData := fdOf K ("Cache", some "keep")
theorem Txt.f_Cache_keep (T : Txt w K mg) : FunD K "keep" "Cache.keep" (defArgs s_Cache_keep) (defBody s_Cache_keep) (defScope s_Cache_keep) [] [] (He.ma K (He.ga K "Cache") "keep") (fd_Cache_keep K) := funD_of (d := d_Cache_keep) (T.st.d.def_ 2 (d := d_Cache_keep))
theorem Txt.b_Cache_keep (T : Txt w K mg) : Binds K (fd_Cache_keep K) ["self", "names"] [] := T.f_Cache_keep.bindsN fun _ _ _ _ _ _ us hl => match us, hl with | [_, _], _ => rfl
abbrev fd_Cache_find (K : PySem.W.Frag) : FuncData := fdOf K ("Cache", some "find")
theorem Txt.f_Cache_find (T : Txt w K mg) : FunD K "find" "Cache.find" (defArgs s_Cache_find) (defBody s_Cache_find) (defScope s_Cache_find) [] [] (He.ma K (He.ga K "Cache") "find") (fd_Cache_find K) := funD_of (d := d_Cache_find) (T.st.d.def_ 3 (d := d_Cache_find))
theorem Txt.b_Cache_find (T : Txt w K mg) : Binds K (fd_Cache_find K) ["self", "name", "text", "found"] [] := T.f_Cache_find.bindsN fun _ _ _ _ _ _ us hl => match us, hl with | [_, _, _, _], _ => rfl
abbrev fd_is_name (K : PySem.W.Frag) : FuncData := fdOf K ("is_name", none)
theorem Txt.f_is_name (T : Txt w K mg) : FunD K "is_name" "is_name" (defArgs s_is_name) (defBody s_is_name) (defScope s_is_name) [] [] (He.ga K "is_name") (fd_is_name K) := funD_of (d := d_is_name) (T.st.d.def_ 4 (d := d_is_name))
theorem Txt.b_is_name (T : Txt w K mg) : Binds K (fd_is_name K) ["text"] [] := T.f_is_name.bindsN fun _ _ _ _ _ _ us hl => match us, hl with | [_], _ => rfl
abbrev fd_is_text (K : PySem.W.Frag) : FuncData := fdOf K ("is_text", none)
theorem Txt.f_is_text (T : Txt w K mg) : FunD K "is_text" "is_text" (defArgs s_is_text) (defBody s_is_text) (defScope s_is_text) [] [] (He.ga K "is_text") (fd_is_text K) := funD_of (d := d_is_text) (T.st.d.def_ 5 (d := d_is_text))
theorem Txt.b_is_text (T : Txt w K mg) : Binds K (fd_is_text K) ["text"] [] := T.f_is_text.bindsN fun _ _ _ _ _ _ us hl => match us, hl with | [_], _ => rfl
abbrev fd_is_after (K : PySem.W.Frag) : FuncData := fdOf K ("is_after", none)
theorem Txt.f_is_after (T : Txt w K mg) : FunD K "is_after" "is_after" (defArgs s_is_after) (defBody s_is_after) (defScope s_is_after) [] [] (He.ga K "is_after") (fd_is_after K) := funD_of (d := d_is_after) (T.st.d.def_ 6 (d := d_is_after))
theorem Txt.b_is_after (T : Txt w K mg) : Binds K (fd_is_after K) ["one", "other"] [] := T.f_is_after.bindsN fun _ _ _ _ _ _ us hl => match us, hl with | [_, _], _ => rfl
abbrev fd_are_pages (K : PySem.W.Frag) : FuncData := fdOf K ("are_pages", none)
theorem Txt.f_are_pages (T : Txt w K mg) : FunD K "are_pages" "are_pages" (defArgs s_are_pages) (defBody s_are_pages) (defScope s_are_pages) [] [] (He.ga K "are_pages") (fd_are_pages K) := funD_of (d := d_are_pages) (T.st.d.def_ 7 (d := d_are_pages))
theorem Txt.b_are_pages (T : Txt w K mg) : Binds K (fd_are_pages K) ["names"] [] := T.f_are_pages.bindsN fun _ _ _ _ _ _ us hl => match us, hl with | [_], _ => rfl
abbrev fd_failures (K : PySem.W.Frag) : FuncData := fdOf K ("failures", none)
theorem Txt.f_failures (T : Txt w K mg) : FunD K "failures" "failures" (defArgs s_failures) (defBody s_failures) (defScope s_failures) [] [] (He.ga K "failures") (fd_failures K) := funD_of (d := d_failures) (T.st.d.def_ 8 (d := d_failures))
theorem Txt.b_failures (T : Txt w K mg) : Binds K (fd_failures K) ["text"] [] := T.f_failures.bindsN fun _ _ _ _ _ _ us hl => match us, hl with | [_], _ => rfl
abbrev fd__segment (K : PySem.W.Frag) : FuncData := fdOf K ("_segment", none)
theorem Txt.f__segment (T : Txt w K mg) : FunD K "_segment" "_segment" (defArgs s__segment) (defBody s__segment) (defScope s__segment) [] [] (He.ga K "_segment") (fd__segment K) := funD_of (d := d__segment) (T.st.d.def_ 9 (d := d__segment))
theorem Txt.b__segment (T : Txt w K mg) : Binds K (fd__segment K) ["name", "text", "at"] [] := T.f__segment.bindsN fun _ _ _ _ _ _ us hl => match us, hl with | [_, _, _], _ => rfl
abbrev fd_split (K : PySem.W.Frag) : FuncData := fdOf K ("split", none)
theorem Txt.f_split (T : Txt w K mg) : FunD K "split" "split" (defArgs s_split) (defBody s_split) (defScope s_split) [] [] (He.ga K "split") (fd_split K) := funD_of (d := d_split) (T.st.d.def_ 10 (d := d_split))
theorem Txt.b_split (T : Txt w K mg) : Binds K (fd_split K) ["name", "text"] [] := T.f_split.bindsN fun _ _ _ _ _ _ us hl => match us, hl with | [_, _], _ => rfl
abbrev fd_target (K : PySem.W.Frag) : FuncData := fdOf K ("target", none)
theorem Txt.f_target (T : Txt w K mg) : FunD K "target" "target" (defArgs s_target) (defBody s_target) (defScope s_target) [] [] (He.ga K "target") (fd_target K) := funD_of (d := d_target) (T.st.d.def_ 11 (d := d_target))
theorem Txt.b_target (T : Txt w K mg) : Binds K (fd_target K) ["name", "found"] [] := T.f_target.bindsN fun _ _ _ _ _ _ us hl => match us, hl with | [_, _], _ => rfl
abbrev fd__first_failure (K : PySem.W.Frag) : FuncData := fdOf K ("_first_failure", none)
theorem Txt.f__first_failure (T : Txt w K mg) : FunD K "_first_failure" "_first_failure" (defArgs s__first_failure) (defBody s__first_failure) (defScope s__first_failure) [] [] (He.ga K "_first_failure") (fd__first_failure K) := funD_of (d := d__first_failure) (T.st.d.def_ 12 (d := d__first_failure))
theorem Txt.b__first_failure (T : Txt w K mg) : Binds K (fd__first_failure K) ["name", "text", "attempts", "found"] [] := T.f__first_failure.bindsN fun _ _ _ _ _ _ us hl => match us, hl with | [_, _, _, _], _ => rfl
abbrev fd__join_segments (K : PySem.W.Frag) : FuncData := fdOf K ("_join_segments", none)
theorem Txt.f__join_segments (T : Txt w K mg) : FunD K "_join_segments" "_join_segments" (defArgs s__join_segments) (defBody s__join_segments) (defScope s__join_segments) [] [] (He.ga K "_join_segments") (fd__join_segments K) := funD_of (d := d__join_segments) (T.st.d.def_ 13 (d := d__join_segments))
theorem Txt.b__join_segments (T : Txt w K mg) : Binds K (fd__join_segments K) ["name", "text", "found"] [] := T.f__join_segments.bindsN fun _ _ _ _ _ _ us hl => match us, hl with | [_, _, _], _ => rfl
abbrev fd_join_result (K : PySem.W.Frag) : FuncData := fdOf K ("join_result", none)
theorem Txt.f_join_result (T : Txt w K mg) : FunD K "join_result" "join_result" (defArgs s_join_result) (defBody s_join_result) (defScope s_join_result) [] [] (He.ga K "join_result") (fd_join_result K) := funD_of (d := d_join_result) (T.st.d.def_ 14 (d := d_join_result))
theorem Txt.b_join_result (T : Txt w K mg) : Binds K (fd_join_result K) ["name", "text", "attempts", "found"] [] := T.f_join_result.bindsN fun _ _ _ _ _ _ us hl => match us, hl with | [_, _, _, _], _ => rfl
abbrev fd__open_link (K : PySem.W.Frag) : FuncData := fdOf K ("_open_link", none)
theorem Txt.f__open_link (T : Txt w K mg) : FunD K "_open_link" "_open_link" (defArgs s__open_link) (defBody s__open_link) (defScope s__open_link) [] [] (He.ga K "_open_link") (fd__open_link K) := funD_of (d := d__open_link) (T.st.d.def_ 15 (d := d__open_link))
theorem Txt.b__open_link (T : Txt w K mg) : Binds K (fd__open_link K) ["found", "kept"] [] := T.f__open_link.bindsN fun _ _ _ _ _ _ us hl => match us, hl with | [_, _], _ => rfl
abbrev fd__greatest (K : PySem.W.Frag) : FuncData := fdOf K ("_greatest", none)
theorem Txt.f__greatest (T : Txt w K mg) : FunD K "_greatest" "_greatest" (defArgs s__greatest) (defBody s__greatest) (defScope s__greatest) [] [] (He.ga K "_greatest") (fd__greatest K) := funD_of (d := d__greatest) (T.st.d.def_ 16 (d := d__greatest))
theorem Txt.b__greatest (T : Txt w K mg) : Binds K (fd__greatest K) ["pages", "results"] [] := T.f__greatest.bindsN fun _ _ _ _ _ _ us hl => match us, hl with | [_, _], _ => rfl
abbrev fd_closed (K : PySem.W.Frag) : FuncData := fdOf K ("closed", none)
theorem Txt.f_closed (T : Txt w K mg) : FunD K "closed" "closed" (defArgs s_closed) (defBody s_closed) (defScope s_closed) [] [] (He.ga K "closed") (fd_closed K) := funD_of (d := d_closed) (T.st.d.def_ 17 (d := d_closed))
theorem Txt.b_closed (T : Txt w K mg) : Binds K (fd_closed K) ["pages", "results"] [] := T.f_closed.bindsN fun _ _ _ _ _ _ us hl => match us, hl with | [_, _], _ => rfl
abbrev fd_check_options (K : PySem.W.Frag) : FuncData := fdOf K ("check_options", none)
theorem Txt.f_check_options (T : Txt w K mg) : FunD K "check_options" "check_options" (defArgs s_check_options) (defBody s_check_options) (defScope s_check_options) [] [] (He.ga K "check_options") (fd_check_options K) := funD_of (d := d_check_options) (T.st.d.def_ 18 (d := d_check_options))
theorem Txt.b_check_options (T : Txt w K mg) : Binds K (fd_check_options K) ["options"] [] := T.f_check_options.bindsN fun _ _ _ _ _ _ us hl => match us, hl with | [_], _ => rfl
abbrev fd_duration (K : PySem.W.Frag) : FuncData := fdOf K ("duration", none)
theorem Txt.f_duration (T : Txt w K mg) : FunD K "duration" "duration" (defArgs s_duration) (defBody s_duration) (defScope s_duration) [] [] (He.ga K "duration") (fd_duration K) := funD_of (d := d_duration) (T.st.d.def_ 19 (d := d_duration))
theorem Txt.b_duration (T : Txt w K mg) : Binds K (fd_duration K) ["options", "many"] [] := T.f_duration.bindsN fun _ _ _ _ _ _ us hl => match us, hl with | [_, _], _ => rfl
abbrev fd_delay (K : PySem.W.Frag) : FuncData := fdOf K ("delay", none)
theorem Txt.f_delay (T : Txt w K mg) : FunD K "delay" "delay" (defArgs s_delay) (defBody s_delay) (defScope s_delay) [] [] (He.ga K "delay") (fd_delay K) := funD_of (d := d_delay) (T.st.d.def_ 20 (d := d_delay))
theorem Txt.b_delay (T : Txt w K mg) : Binds K (fd_delay K) ["options", "attempt"] [] := T.f_delay.bindsN fun _ _ _ _ _ _ us hl => match us, hl with | [_, _], _ => rfl
abbrev fd_Snapshot___init__ (K : PySem.W.Frag) : FuncData := fdOf K ("Snapshot", some "__init__")
theorem Txt.f_Snapshot___init__ (T : Txt w K mg) : FunD K "__init__" "Snapshot.__init__" (defArgs s_Snapshot___init__) (defBody s_Snapshot___init__) (defScope s_Snapshot___init__) [] [] (He.ma K (He.ga K "Snapshot") "__init__") (fd_Snapshot___init__ K) := funD_of (d := d_Snapshot___init__) (T.st.d.def_ 21 (d := d_Snapshot___init__))
theorem Txt.b_Snapshot___init__ (T : Txt w K mg) : Binds K (fd_Snapshot___init__ K) ["self", "sources", "pages", "attempts", "cache"] [] := T.f_Snapshot___init__.bindsN fun _ _ _ _ _ _ us hl => match us, hl with | [_, _, _, _, _], _ => rfl
abbrev fd_Snapshot_known (K : PySem.W.Frag) : FuncData := fdOf K ("Snapshot", some "known")
theorem Txt.f_Snapshot_known (T : Txt w K mg) : FunD K "known" "Snapshot.known" (defArgs s_Snapshot_known) (defBody s_Snapshot_known) (defScope s_Snapshot_known) [] [] (He.ma K (He.ga K "Snapshot") "known") (fd_Snapshot_known K) := funD_of (d := d_Snapshot_known) (T.st.d.def_ 22 (d := d_Snapshot_known))
theorem Txt.b_Snapshot_known (T : Txt w K mg) : Binds K (fd_Snapshot_known K) ["self", "name"] [] := T.f_Snapshot_known.bindsN fun _ _ _ _ _ _ us hl => match us, hl with | [_, _], _ => rfl
abbrev fd_Snapshot_told (K : PySem.W.Frag) : FuncData := fdOf K ("Snapshot", some "told")
theorem Txt.f_Snapshot_told (T : Txt w K mg) : FunD K "told" "Snapshot.told" (defArgs s_Snapshot_told) (defBody s_Snapshot_told) (defScope s_Snapshot_told) [] [] (He.ma K (He.ga K "Snapshot") "told") (fd_Snapshot_told K) := funD_of (d := d_Snapshot_told) (T.st.d.def_ 23 (d := d_Snapshot_told))
theorem Txt.b_Snapshot_told (T : Txt w K mg) : Binds K (fd_Snapshot_told K) ["self", "name"] [] := T.f_Snapshot_told.bindsN fun _ _ _ _ _ _ us hl => match us, hl with | [_, _], _ => rfl
abbrev fd_Snapshot_required (K : PySem.W.Frag) : FuncData := fdOf K ("Snapshot", some "required")
theorem Txt.f_Snapshot_required (T : Txt w K mg) : FunD K "required" "Snapshot.required" (defArgs s_Snapshot_required) (defBody s_Snapshot_required) (defScope s_Snapshot_required) [] [] (He.ma K (He.ga K "Snapshot") "required") (fd_Snapshot_required K) := funD_of (d := d_Snapshot_required) (T.st.d.def_ 24 (d := d_Snapshot_required))
theorem Txt.b_Snapshot_required (T : Txt w K mg) : Binds K (fd_Snapshot_required K) ["self"] [] := T.f_Snapshot_required.bindsN fun _ _ _ _ _ _ us hl => match us, hl with | [_], _ => rfl
abbrev fd_Snapshot__is_renderable (K : PySem.W.Frag) : FuncData := fdOf K ("Snapshot", some "_is_renderable")
theorem Txt.f_Snapshot__is_renderable (T : Txt w K mg) : FunD K "_is_renderable" "Snapshot._is_renderable" (defArgs s_Snapshot__is_renderable) (defBody s_Snapshot__is_renderable) (defScope s_Snapshot__is_renderable) [] [] (He.ma K (He.ga K "Snapshot") "_is_renderable") (fd_Snapshot__is_renderable K) := funD_of (d := d_Snapshot__is_renderable) (T.st.d.def_ 25 (d := d_Snapshot__is_renderable))
theorem Txt.b_Snapshot__is_renderable (T : Txt w K mg) : Binds K (fd_Snapshot__is_renderable K) ["self", "name"] [] := T.f_Snapshot__is_renderable.bindsN fun _ _ _ _ _ _ us hl => match us, hl with | [_, _], _ => rfl
abbrev fd_Snapshot_renderable (K : PySem.W.Frag) : FuncData := fdOf K ("Snapshot", some "renderable")
theorem Txt.f_Snapshot_renderable (T : Txt w K mg) : FunD K "renderable" "Snapshot.renderable" (defArgs s_Snapshot_renderable) (defBody s_Snapshot_renderable) (defScope s_Snapshot_renderable) [] [] (He.ma K (He.ga K "Snapshot") "renderable") (fd_Snapshot_renderable K) := funD_of (d := d_Snapshot_renderable) (T.st.d.def_ 26 (d := d_Snapshot_renderable))
theorem Txt.b_Snapshot_renderable (T : Txt w K mg) : Binds K (fd_Snapshot_renderable K) ["self"] [] := T.f_Snapshot_renderable.bindsN fun _ _ _ _ _ _ us hl => match us, hl with | [_], _ => rfl
abbrev fd_Snapshot_is_ready (K : PySem.W.Frag) : FuncData := fdOf K ("Snapshot", some "is_ready")
theorem Txt.f_Snapshot_is_ready (T : Txt w K mg) : FunD K "is_ready" "Snapshot.is_ready" (defArgs s_Snapshot_is_ready) (defBody s_Snapshot_is_ready) (defScope s_Snapshot_is_ready) [] [] (He.ma K (He.ga K "Snapshot") "is_ready") (fd_Snapshot_is_ready K) := funD_of (d := d_Snapshot_is_ready) (T.st.d.def_ 27 (d := d_Snapshot_is_ready))
theorem Txt.b_Snapshot_is_ready (T : Txt w K mg) : Binds K (fd_Snapshot_is_ready K) ["self"] [] := T.f_Snapshot_is_ready.bindsN fun _ _ _ _ _ _ us hl => match us, hl with | [_], _ => rfl
abbrev fd_Timers___init__ (K : PySem.W.Frag) : FuncData := fdOf K ("Timers", some "__init__")
theorem Txt.f_Timers___init__ (T : Txt w K mg) : FunD K "__init__" "Timers.__init__" (defArgs s_Timers___init__) (defBody s_Timers___init__) (defScope s_Timers___init__) [] [] (He.ma K (He.ga K "Timers") "__init__") (fd_Timers___init__ K) := funD_of (d := d_Timers___init__) (T.st.d.def_ 28 (d := d_Timers___init__))
theorem Txt.b_Timers___init__ (T : Txt w K mg) : Binds K (fd_Timers___init__ K) ["self"] [] := T.f_Timers___init__.bindsN fun _ _ _ _ _ _ us hl => match us, hl with | [_], _ => rfl
abbrev fd_Timers_put (K : PySem.W.Frag) : FuncData := fdOf K ("Timers", some "put")
theorem Txt.f_Timers_put (T : Txt w K mg) : FunD K "put" "Timers.put" (defArgs s_Timers_put) (defBody s_Timers_put) (defScope s_Timers_put) [] [] (He.ma K (He.ga K "Timers") "put") (fd_Timers_put K) := funD_of (d := d_Timers_put) (T.st.d.def_ 29 (d := d_Timers_put))
theorem Txt.b_Timers_put (T : Txt w K mg) : Binds K (fd_Timers_put K) ["self", "key", "due"] [] := T.f_Timers_put.bindsN fun _ _ _ _ _ _ us hl => match us, hl with | [_, _, _], _ => rfl
abbrev fd_Timers_remove (K : PySem.W.Frag) : FuncData := fdOf K ("Timers", some "remove")
theorem Txt.f_Timers_remove (T : Txt w K mg) : FunD K "remove" "Timers.remove" (defArgs s_Timers_remove) (defBody s_Timers_remove) (defScope s_Timers_remove) [] [] (He.ma K (He.ga K "Timers") "remove") (fd_Timers_remove K) := funD_of (d := d_Timers_remove) (T.st.d.def_ 30 (d := d_Timers_remove))
theorem Txt.b_Timers_remove (T : Txt w K mg) : Binds K (fd_Timers_remove K) ["self", "key"] [] := T.f_Timers_remove.bindsN fun _ _ _ _ _ _ us hl => match us, hl with | [_, _], _ => rfl
abbrev fd_Timers_due (K : PySem.W.Frag) : FuncData := fdOf K ("Timers", some "due")
theorem Txt.f_Timers_due (T : Txt w K mg) : FunD K "due" "Timers.due" (defArgs s_Timers_due) (defBody s_Timers_due) (defScope s_Timers_due) [] [] (He.ma K (He.ga K "Timers") "due") (fd_Timers_due K) := funD_of (d := d_Timers_due) (T.st.d.def_ 31 (d := d_Timers_due))
theorem Txt.b_Timers_due (T : Txt w K mg) : Binds K (fd_Timers_due K) ["self", "key"] [] := T.f_Timers_due.bindsN fun _ _ _ _ _ _ us hl => match us, hl with | [_, _], _ => rfl
abbrev fd_Timers_first (K : PySem.W.Frag) : FuncData := fdOf K ("Timers", some "first")
theorem Txt.f_Timers_first (T : Txt w K mg) : FunD K "first" "Timers.first" (defArgs s_Timers_first) (defBody s_Timers_first) (defScope s_Timers_first) [] [] (He.ma K (He.ga K "Timers") "first") (fd_Timers_first K) := funD_of (d := d_Timers_first) (T.st.d.def_ 32 (d := d_Timers_first))
theorem Txt.b_Timers_first (T : Txt w K mg) : Binds K (fd_Timers_first K) ["self"] [] := T.f_Timers_first.bindsN fun _ _ _ _ _ _ us hl => match us, hl with | [_], _ => rfl
abbrev fd_check_edit (K : PySem.W.Frag) : FuncData := fdOf K ("check_edit", none)
theorem Txt.f_check_edit (T : Txt w K mg) : FunD K "check_edit" "check_edit" (defArgs s_check_edit) (defBody s_check_edit) (defScope s_check_edit) [] [] (He.ga K "check_edit") (fd_check_edit K) := funD_of (d := d_check_edit) (T.st.d.def_ 33 (d := d_check_edit))
theorem Txt.b_check_edit (T : Txt w K mg) : Binds K (fd_check_edit K) ["edit"] [] := T.f_check_edit.bindsN fun _ _ _ _ _ _ us hl => match us, hl with | [_], _ => rfl
abbrev fd_apply_edit (K : PySem.W.Frag) : FuncData := fdOf K ("apply_edit", none)
theorem Txt.f_apply_edit (T : Txt w K mg) : FunD K "apply_edit" "apply_edit" (defArgs s_apply_edit) (defBody s_apply_edit) (defScope s_apply_edit) [] [] (He.ga K "apply_edit") (fd_apply_edit K) := funD_of (d := d_apply_edit) (T.st.d.def_ 34 (d := d_apply_edit))
theorem Txt.b_apply_edit (T : Txt w K mg) : Binds K (fd_apply_edit K) ["sources", "pages", "edit"] [] := T.f_apply_edit.bindsN fun _ _ _ _ _ _ us hl => match us, hl with | [_, _, _], _ => rfl
abbrev fd_Job___init__ (K : PySem.W.Frag) : FuncData := fdOf K ("Job", some "__init__")
theorem Txt.f_Job___init__ (T : Txt w K mg) : FunD K "__init__" "Job.__init__" (defArgs s_Job___init__) (defBody s_Job___init__) (defScope s_Job___init__) [] [] (He.ma K (He.ga K "Job") "__init__") (fd_Job___init__ K) := funD_of (d := d_Job___init__) (T.st.d.def_ 35 (d := d_Job___init__))
theorem Txt.b_Job___init__ (T : Txt w K mg) : Binds K (fd_Job___init__ K) ["self", "text", "found"] [] := T.f_Job___init__.bindsN fun _ _ _ _ _ _ us hl => match us, hl with | [_, _, _], _ => rfl
abbrev fd_Frozen___init__ (K : PySem.W.Frag) : FuncData := fdOf K ("Frozen", some "__init__")
theorem Txt.f_Frozen___init__ (T : Txt w K mg) : FunD K "__init__" "Frozen.__init__" (defArgs s_Frozen___init__) (defBody s_Frozen___init__) (defScope s_Frozen___init__) [] [] (He.ma K (He.ga K "Frozen") "__init__") (fd_Frozen___init__ K) := funD_of (d := d_Frozen___init__) (T.st.d.def_ 36 (d := d_Frozen___init__))
theorem Txt.b_Frozen___init__ (T : Txt w K mg) : Binds K (fd_Frozen___init__ K) ["self", "sources", "pages", "count", "time"] [] := T.f_Frozen___init__.bindsN fun _ _ _ _ _ _ us hl => match us, hl with | [_, _, _, _, _], _ => rfl
abbrev fd_Publisher___init__ (K : PySem.W.Frag) : FuncData := fdOf K ("Publisher", some "__init__")
theorem Txt.f_Publisher___init__ (T : Txt w K mg) : FunD K "__init__" "Publisher.__init__" (defArgs s_Publisher___init__) (defBody s_Publisher___init__) (defScope s_Publisher___init__) [.int 0] [] (He.ma K (He.ga K "Publisher") "__init__") (fd_Publisher___init__ K) := funD_of (d := d_Publisher___init__) (T.st.d.def_ 37 (d := d_Publisher___init__))
abbrev fd_Publisher_would_edit (K : PySem.W.Frag) : FuncData := fdOf K ("Publisher", some "would_edit")
theorem Txt.f_Publisher_would_edit (T : Txt w K mg) : FunD K "would_edit" "Publisher.would_edit" (defArgs s_Publisher_would_edit) (defBody s_Publisher_would_edit) (defScope s_Publisher_would_edit) [] [] (He.ma K (He.ga K "Publisher") "would_edit") (fd_Publisher_would_edit K) := funD_of (d := d_Publisher_would_edit) (T.st.d.def_ 38 (d := d_Publisher_would_edit))
theorem Txt.b_Publisher_would_edit (T : Txt w K mg) : Binds K (fd_Publisher_would_edit K) ["self", "edit"] [] := T.f_Publisher_would_edit.bindsN fun _ _ _ _ _ _ us hl => match us, hl with | [_, _], _ => rfl
abbrev fd_Publisher_edit (K : PySem.W.Frag) : FuncData := fdOf K ("Publisher", some "edit")
theorem Txt.f_Publisher_edit (T : Txt w K mg) : FunD K "edit" "Publisher.edit" (defArgs s_Publisher_edit) (defBody s_Publisher_edit) (defScope s_Publisher_edit) [] [] (He.ma K (He.ga K "Publisher") "edit") (fd_Publisher_edit K) := funD_of (d := d_Publisher_edit) (T.st.d.def_ 39 (d := d_Publisher_edit))
theorem Txt.b_Publisher_edit (T : Txt w K mg) : Binds K (fd_Publisher_edit K) ["self", "edit"] [] := T.f_Publisher_edit.bindsN fun _ _ _ _ _ _ us hl => match us, hl with | [_, _], _ => rfl
abbrev fd_Publisher__make (K : PySem.W.Frag) : FuncData := fdOf K ("Publisher", some "_make")
theorem Txt.f_Publisher__make (T : Txt w K mg) : FunD K "_make" "Publisher._make" (defArgs s_Publisher__make) (defBody s_Publisher__make) (defScope s_Publisher__make) [] [] (He.ma K (He.ga K "Publisher") "_make") (fd_Publisher__make K) := funD_of (d := d_Publisher__make) (T.st.d.def_ 40 (d := d_Publisher__make))
theorem Txt.b_Publisher__make (T : Txt w K mg) : Binds K (fd_Publisher__make K) ["self", "edit"] [] := T.f_Publisher__make.bindsN fun _ _ _ _ _ _ us hl => match us, hl with | [_, _], _ => rfl
abbrev fd_Publisher__touch (K : PySem.W.Frag) : FuncData := fdOf K ("Publisher", some "_touch")
theorem Txt.f_Publisher__touch (T : Txt w K mg) : FunD K "_touch" "Publisher._touch" (defArgs s_Publisher__touch) (defBody s_Publisher__touch) (defScope s_Publisher__touch) [] [] (He.ma K (He.ga K "Publisher") "_touch") (fd_Publisher__touch K) := funD_of (d := d_Publisher__touch) (T.st.d.def_ 41 (d := d_Publisher__touch))
theorem Txt.b_Publisher__touch (T : Txt w K mg) : Binds K (fd_Publisher__touch K) ["self"] [] := T.f_Publisher__touch.bindsN fun _ _ _ _ _ _ us hl => match us, hl with | [_], _ => rfl
abbrev fd_Publisher__snapshot (K : PySem.W.Frag) : FuncData := fdOf K ("Publisher", some "_snapshot")
theorem Txt.f_Publisher__snapshot (T : Txt w K mg) : FunD K "_snapshot" "Publisher._snapshot" (defArgs s_Publisher__snapshot) (defBody s_Publisher__snapshot) (defScope s_Publisher__snapshot) [] [] (He.ma K (He.ga K "Publisher") "_snapshot") (fd_Publisher__snapshot K) := funD_of (d := d_Publisher__snapshot) (T.st.d.def_ 42 (d := d_Publisher__snapshot))
theorem Txt.b_Publisher__snapshot (T : Txt w K mg) : Binds K (fd_Publisher__snapshot K) ["self"] [] := T.f_Publisher__snapshot.bindsN fun _ _ _ _ _ _ us hl => match us, hl with | [_], _ => rfl
abbrev fd_Publisher__text (K : PySem.W.Frag) : FuncData := fdOf K ("Publisher", some "_text")
theorem Txt.f_Publisher__text (T : Txt w K mg) : FunD K "_text" "Publisher._text" (defArgs s_Publisher__text) (defBody s_Publisher__text) (defScope s_Publisher__text) [] [] (He.ma K (He.ga K "Publisher") "_text") (fd_Publisher__text K) := funD_of (d := d_Publisher__text) (T.st.d.def_ 43 (d := d_Publisher__text))
theorem Txt.b_Publisher__text (T : Txt w K mg) : Binds K (fd_Publisher__text K) ["self", "name"] [] := T.f_Publisher__text.bindsN fun _ _ _ _ _ _ us hl => match us, hl with | [_, _], _ => rfl
abbrev fd_Publisher__forget (K : PySem.W.Frag) : FuncData := fdOf K ("Publisher", some "_forget")
theorem Txt.f_Publisher__forget (T : Txt w K mg) : FunD K "_forget" "Publisher._forget" (defArgs s_Publisher__forget) (defBody s_Publisher__forget) (defScope s_Publisher__forget) [] [] (He.ma K (He.ga K "Publisher") "_forget") (fd_Publisher__forget K) := funD_of (d := d_Publisher__forget) (T.st.d.def_ 44 (d := d_Publisher__forget))
theorem Txt.b_Publisher__forget (T : Txt w K mg) : Binds K (fd_Publisher__forget K) ["self"] [] := T.f_Publisher__forget.bindsN fun _ _ _ _ _ _ us hl => match us, hl with | [_], _ => rfl
abbrev fd_Publisher__is_valid (K : PySem.W.Frag) : FuncData := fdOf K ("Publisher", some "_is_valid")
theorem Txt.f_Publisher__is_valid (T : Txt w K mg) : FunD K "_is_valid" "Publisher._is_valid" (defArgs s_Publisher__is_valid) (defBody s_Publisher__is_valid) (defScope s_Publisher__is_valid) [] [] (He.ma K (He.ga K "Publisher") "_is_valid") (fd_Publisher__is_valid K) := funD_of (d := d_Publisher__is_valid) (T.st.d.def_ 45 (d := d_Publisher__is_valid))
theorem Txt.b_Publisher__is_valid (T : Txt w K mg) : Binds K (fd_Publisher__is_valid K) ["self", "name", "job", "snapshot", "required"] [] := T.f_Publisher__is_valid.bindsN fun _ _ _ _ _ _ us hl => match us, hl with | [_, _, _, _, _], _ => rfl
abbrev fd_Publisher__drop_jobs (K : PySem.W.Frag) : FuncData := fdOf K ("Publisher", some "_drop_jobs")
theorem Txt.f_Publisher__drop_jobs (T : Txt w K mg) : FunD K "_drop_jobs" "Publisher._drop_jobs" (defArgs s_Publisher__drop_jobs) (defBody s_Publisher__drop_jobs) (defScope s_Publisher__drop_jobs) [] [] (He.ma K (He.ga K "Publisher") "_drop_jobs") (fd_Publisher__drop_jobs K) := funD_of (d := d_Publisher__drop_jobs) (T.st.d.def_ 46 (d := d_Publisher__drop_jobs))
theorem Txt.b_Publisher__drop_jobs (T : Txt w K mg) : Binds K (fd_Publisher__drop_jobs K) ["self", "snapshot"] [] := T.f_Publisher__drop_jobs.bindsN fun _ _ _ _ _ _ us hl => match us, hl with | [_, _], _ => rfl
abbrev fd_Publisher__running (K : PySem.W.Frag) : FuncData := fdOf K ("Publisher", some "_running")
theorem Txt.f_Publisher__running (T : Txt w K mg) : FunD K "_running" "Publisher._running" (defArgs s_Publisher__running) (defBody s_Publisher__running) (defScope s_Publisher__running) [] [] (He.ma K (He.ga K "Publisher") "_running") (fd_Publisher__running K) := funD_of (d := d_Publisher__running) (T.st.d.def_ 47 (d := d_Publisher__running))
theorem Txt.b_Publisher__running (T : Txt w K mg) : Binds K (fd_Publisher__running K) ["self"] [] := T.f_Publisher__running.bindsN fun _ _ _ _ _ _ us hl => match us, hl with | [_], _ => rfl
abbrev fd_Publisher__start (K : PySem.W.Frag) : FuncData := fdOf K ("Publisher", some "_start")
theorem Txt.f_Publisher__start (T : Txt w K mg) : FunD K "_start" "Publisher._start" (defArgs s_Publisher__start) (defBody s_Publisher__start) (defScope s_Publisher__start) [] [] (He.ma K (He.ga K "Publisher") "_start") (fd_Publisher__start K) := funD_of (d := d_Publisher__start) (T.st.d.def_ 48 (d := d_Publisher__start))
theorem Txt.b_Publisher__start (T : Txt w K mg) : Binds K (fd_Publisher__start K) ["self", "snapshot"] [] := T.f_Publisher__start.bindsN fun _ _ _ _ _ _ us hl => match us, hl with | [_, _], _ => rfl
abbrev fd_Publisher__progress (K : PySem.W.Frag) : FuncData := fdOf K ("Publisher", some "_progress")
theorem Txt.f_Publisher__progress (T : Txt w K mg) : FunD K "_progress" "Publisher._progress" (defArgs s_Publisher__progress) (defBody s_Publisher__progress) (defScope s_Publisher__progress) [] [] (He.ma K (He.ga K "Publisher") "_progress") (fd_Publisher__progress K) := funD_of (d := d_Publisher__progress) (T.st.d.def_ 49 (d := d_Publisher__progress))
theorem Txt.b_Publisher__progress (T : Txt w K mg) : Binds K (fd_Publisher__progress K) ["self"] [] := T.f_Publisher__progress.bindsN fun _ _ _ _ _ _ us hl => match us, hl with | [_], _ => rfl
abbrev fd_Publisher__publish (K : PySem.W.Frag) : FuncData := fdOf K ("Publisher", some "_publish")
theorem Txt.f_Publisher__publish (T : Txt w K mg) : FunD K "_publish" "Publisher._publish" (defArgs s_Publisher__publish) (defBody s_Publisher__publish) (defScope s_Publisher__publish) [] [] (He.ma K (He.ga K "Publisher") "_publish") (fd_Publisher__publish K) := funD_of (d := d_Publisher__publish) (T.st.d.def_ 50 (d := d_Publisher__publish))
theorem Txt.b_Publisher__publish (T : Txt w K mg) : Binds K (fd_Publisher__publish K) ["self", "snapshot"] [] := T.f_Publisher__publish.bindsN fun _ _ _ _ _ _ us hl => match us, hl with | [_, _], _ => rfl
abbrev fd_Publisher__release (K : PySem.W.Frag) : FuncData := fdOf K ("Publisher", some "_release")
theorem Txt.f_Publisher__release (T : Txt w K mg) : FunD K "_release" "Publisher._release" (defArgs s_Publisher__release) (defBody s_Publisher__release) (defScope s_Publisher__release) [] [] (He.ma K (He.ga K "Publisher") "_release") (fd_Publisher__release K) := funD_of (d := d_Publisher__release) (T.st.d.def_ 51 (d := d_Publisher__release))
theorem Txt.b_Publisher__release (T : Txt w K mg) : Binds K (fd_Publisher__release K) ["self"] [] := T.f_Publisher__release.bindsN fun _ _ _ _ _ _ us hl => match us, hl with | [_], _ => rfl
abbrev fd_Publisher__freeze (K : PySem.W.Frag) : FuncData := fdOf K ("Publisher", some "_freeze")
theorem Txt.f_Publisher__freeze (T : Txt w K mg) : FunD K "_freeze" "Publisher._freeze" (defArgs s_Publisher__freeze) (defBody s_Publisher__freeze) (defScope s_Publisher__freeze) [] [] (He.ma K (He.ga K "Publisher") "_freeze") (fd_Publisher__freeze K) := funD_of (d := d_Publisher__freeze) (T.st.d.def_ 52 (d := d_Publisher__freeze))
theorem Txt.b_Publisher__freeze (T : Txt w K mg) : Binds K (fd_Publisher__freeze K) ["self"] [] := T.f_Publisher__freeze.bindsN fun _ _ _ _ _ _ us hl => match us, hl with | [_], _ => rfl
abbrev fd_Publisher__end (K : PySem.W.Frag) : FuncData := fdOf K ("Publisher", some "_end")
theorem Txt.f_Publisher__end (T : Txt w K mg) : FunD K "_end" "Publisher._end" (defArgs s_Publisher__end) (defBody s_Publisher__end) (defScope s_Publisher__end) [] [] (He.ma K (He.ga K "Publisher") "_end") (fd_Publisher__end K) := funD_of (d := d_Publisher__end) (T.st.d.def_ 53 (d := d_Publisher__end))
theorem Txt.b_Publisher__end (T : Txt w K mg) : Binds K (fd_Publisher__end K) ["self", "name"] [] := T.f_Publisher__end.bindsN fun _ _ _ _ _ _ us hl => match us, hl with | [_, _], _ => rfl
abbrev fd_Publisher__fire (K : PySem.W.Frag) : FuncData := fdOf K ("Publisher", some "_fire")
theorem Txt.f_Publisher__fire (T : Txt w K mg) : FunD K "_fire" "Publisher._fire" (defArgs s_Publisher__fire) (defBody s_Publisher__fire) (defScope s_Publisher__fire) [] [] (He.ma K (He.ga K "Publisher") "_fire") (fd_Publisher__fire K) := funD_of (d := d_Publisher__fire) (T.st.d.def_ 54 (d := d_Publisher__fire))
theorem Txt.b_Publisher__fire (T : Txt w K mg) : Binds K (fd_Publisher__fire K) ["self", "key"] [] := T.f_Publisher__fire.bindsN fun _ _ _ _ _ _ us hl => match us, hl with | [_, _], _ => rfl
abbrev fd_Publisher_turn (K : PySem.W.Frag) : FuncData := fdOf K ("Publisher", some "turn")
theorem Txt.f_Publisher_turn (T : Txt w K mg) : FunD K "turn" "Publisher.turn" (defArgs s_Publisher_turn) (defBody s_Publisher_turn) (defScope s_Publisher_turn) [] [] (He.ma K (He.ga K "Publisher") "turn") (fd_Publisher_turn K) := funD_of (d := d_Publisher_turn) (T.st.d.def_ 55 (d := d_Publisher_turn))
theorem Txt.b_Publisher_turn (T : Txt w K mg) : Binds K (fd_Publisher_turn K) ["self", "last"] [] := T.f_Publisher_turn.bindsN fun _ _ _ _ _ _ us hl => match us, hl with | [_, _], _ => rfl
abbrev fd_Publisher_check_ticks (K : PySem.W.Frag) : FuncData := fdOf K ("Publisher", some "check_ticks")
theorem Txt.f_Publisher_check_ticks (T : Txt w K mg) : FunD K "check_ticks" "Publisher.check_ticks" (defArgs s_Publisher_check_ticks) (defBody s_Publisher_check_ticks) (defScope s_Publisher_check_ticks) [] [] (He.ma K (He.ga K "Publisher") "check_ticks") (fd_Publisher_check_ticks K) := funD_of (d := d_Publisher_check_ticks) (T.st.d.def_ 56 (d := d_Publisher_check_ticks))
theorem Txt.b_Publisher_check_ticks (T : Txt w K mg) : Binds K (fd_Publisher_check_ticks K) ["self", "ticks"] [] := T.f_Publisher_check_ticks.bindsN fun _ _ _ _ _ _ us hl => match us, hl with | [_, _], _ => rfl
abbrev fd_Publisher_advance (K : PySem.W.Frag) : FuncData := fdOf K ("Publisher", some "advance")
theorem Txt.f_Publisher_advance (T : Txt w K mg) : FunD K "advance" "Publisher.advance" (defArgs s_Publisher_advance) (defBody s_Publisher_advance) (defScope s_Publisher_advance) [] [] (He.ma K (He.ga K "Publisher") "advance") (fd_Publisher_advance K) := funD_of (d := d_Publisher_advance) (T.st.d.def_ 57 (d := d_Publisher_advance))
theorem Txt.b_Publisher_advance (T : Txt w K mg) : Binds K (fd_Publisher_advance K) ["self", "ticks"] [] := T.f_Publisher_advance.bindsN fun _ _ _ _ _ _ us hl => match us, hl with | [_, _], _ => rfl
abbrev fd_Publisher_clock (K : PySem.W.Frag) : FuncData := fdOf K ("Publisher", some "clock")
theorem Txt.f_Publisher_clock (T : Txt w K mg) : FunD K "clock" "Publisher.clock" (defArgs s_Publisher_clock) (defBody s_Publisher_clock) (defScope s_Publisher_clock) [] [] (He.ma K (He.ga K "Publisher") "clock") (fd_Publisher_clock K) := funD_of (d := d_Publisher_clock) (T.st.d.def_ 58 (d := d_Publisher_clock))
theorem Txt.b_Publisher_clock (T : Txt w K mg) : Binds K (fd_Publisher_clock K) ["self"] [] := T.f_Publisher_clock.bindsN fun _ _ _ _ _ _ us hl => match us, hl with | [_], _ => rfl
abbrev fd_Publisher_count (K : PySem.W.Frag) : FuncData := fdOf K ("Publisher", some "count")
theorem Txt.f_Publisher_count (T : Txt w K mg) : FunD K "count" "Publisher.count" (defArgs s_Publisher_count) (defBody s_Publisher_count) (defScope s_Publisher_count) [] [] (He.ma K (He.ga K "Publisher") "count") (fd_Publisher_count K) := funD_of (d := d_Publisher_count) (T.st.d.def_ 59 (d := d_Publisher_count))
theorem Txt.b_Publisher_count (T : Txt w K mg) : Binds K (fd_Publisher_count K) ["self"] [] := T.f_Publisher_count.bindsN fun _ _ _ _ _ _ us hl => match us, hl with | [_], _ => rfl
abbrev fd_Publisher_sources (K : PySem.W.Frag) : FuncData := fdOf K ("Publisher", some "sources")
theorem Txt.f_Publisher_sources (T : Txt w K mg) : FunD K "sources" "Publisher.sources" (defArgs s_Publisher_sources) (defBody s_Publisher_sources) (defScope s_Publisher_sources) [] [] (He.ma K (He.ga K "Publisher") "sources") (fd_Publisher_sources K) := funD_of (d := d_Publisher_sources) (T.st.d.def_ 60 (d := d_Publisher_sources))
theorem Txt.b_Publisher_sources (T : Txt w K mg) : Binds K (fd_Publisher_sources K) ["self"] [] := T.f_Publisher_sources.bindsN fun _ _ _ _ _ _ us hl => match us, hl with | [_], _ => rfl
abbrev fd_Publisher_pages (K : PySem.W.Frag) : FuncData := fdOf K ("Publisher", some "pages")
theorem Txt.f_Publisher_pages (T : Txt w K mg) : FunD K "pages" "Publisher.pages" (defArgs s_Publisher_pages) (defBody s_Publisher_pages) (defScope s_Publisher_pages) [] [] (He.ma K (He.ga K "Publisher") "pages") (fd_Publisher_pages K) := funD_of (d := d_Publisher_pages) (T.st.d.def_ 61 (d := d_Publisher_pages))
theorem Txt.b_Publisher_pages (T : Txt w K mg) : Binds K (fd_Publisher_pages K) ["self"] [] := T.f_Publisher_pages.bindsN fun _ _ _ _ _ _ us hl => match us, hl with | [_], _ => rfl
abbrev fd_Publisher_version (K : PySem.W.Frag) : FuncData := fdOf K ("Publisher", some "version")
theorem Txt.f_Publisher_version (T : Txt w K mg) : FunD K "version" "Publisher.version" (defArgs s_Publisher_version) (defBody s_Publisher_version) (defScope s_Publisher_version) [] [] (He.ma K (He.ga K "Publisher") "version") (fd_Publisher_version K) := funD_of (d := d_Publisher_version) (T.st.d.def_ 62 (d := d_Publisher_version))
theorem Txt.b_Publisher_version (T : Txt w K mg) : Binds K (fd_Publisher_version K) ["self"] [] := T.f_Publisher_version.bindsN fun _ _ _ _ _ _ us hl => match us, hl with | [_], _ => rfl
abbrev fd_Publisher_published (K : PySem.W.Frag) : FuncData := fdOf K ("Publisher", some "published")
theorem Txt.f_Publisher_published (T : Txt w K mg) : FunD K "published" "Publisher.published" (defArgs s_Publisher_published) (defBody s_Publisher_published) (defScope s_Publisher_published) [] [] (He.ma K (He.ga K "Publisher") "published") (fd_Publisher_published K) := funD_of (d := d_Publisher_published) (T.st.d.def_ 63 (d := d_Publisher_published))
theorem Txt.b_Publisher_published (T : Txt w K mg) : Binds K (fd_Publisher_published K) ["self"] [] := T.f_Publisher_published.bindsN fun _ _ _ _ _ _ us hl => match us, hl with | [_], _ => rfl
abbrev fd_Publisher_state (K : PySem.W.Frag) : FuncData := fdOf K ("Publisher", some "state")
theorem Txt.f_Publisher_state (T : Txt w K mg) : FunD K "state" "Publisher.state" (defArgs s_Publisher_state) (defBody s_Publisher_state) (defScope s_Publisher_state) [] [] (He.ma K (He.ga K "Publisher") "state") (fd_Publisher_state K) := funD_of (d := d_Publisher_state) (T.st.d.def_ 64 (d := d_Publisher_state))
theorem Txt.b_Publisher_state (T : Txt w K mg) : Binds K (fd_Publisher_state K) ["self"] [] := T.f_Publisher_state.bindsN fun _ _ _ _ _ _ us hl => match us, hl with | [_], _ => rfl
abbrev fd_Publisher_dirty_since (K : PySem.W.Frag) : FuncData := fdOf K ("Publisher", some "dirty_since")
theorem Txt.f_Publisher_dirty_since (T : Txt w K mg) : FunD K "dirty_since" "Publisher.dirty_since" (defArgs s_Publisher_dirty_since) (defBody s_Publisher_dirty_since) (defScope s_Publisher_dirty_since) [] [] (He.ma K (He.ga K "Publisher") "dirty_since") (fd_Publisher_dirty_since K) := funD_of (d := d_Publisher_dirty_since) (T.st.d.def_ 65 (d := d_Publisher_dirty_since))
theorem Txt.b_Publisher_dirty_since (T : Txt w K mg) : Binds K (fd_Publisher_dirty_since K) ["self"] [] := T.f_Publisher_dirty_since.bindsN fun _ _ _ _ _ _ us hl => match us, hl with | [_], _ => rfl
abbrev fd_Publisher_next_due (K : PySem.W.Frag) : FuncData := fdOf K ("Publisher", some "next_due")
theorem Txt.f_Publisher_next_due (T : Txt w K mg) : FunD K "next_due" "Publisher.next_due" (defArgs s_Publisher_next_due) (defBody s_Publisher_next_due) (defScope s_Publisher_next_due) [] [] (He.ma K (He.ga K "Publisher") "next_due") (fd_Publisher_next_due K) := funD_of (d := d_Publisher_next_due) (T.st.d.def_ 66 (d := d_Publisher_next_due))
theorem Txt.b_Publisher_next_due (T : Txt w K mg) : Binds K (fd_Publisher_next_due K) ["self"] [] := T.f_Publisher_next_due.bindsN fun _ _ _ _ _ _ us hl => match us, hl with | [_], _ => rfl
abbrev fd_Publisher__job_row (K : PySem.W.Frag) : FuncData := fdOf K ("Publisher", some "_job_row")
theorem Txt.f_Publisher__job_row (T : Txt w K mg) : FunD K "_job_row" "Publisher._job_row" (defArgs s_Publisher__job_row) (defBody s_Publisher__job_row) (defScope s_Publisher__job_row) [] [] (He.ma K (He.ga K "Publisher") "_job_row") (fd_Publisher__job_row K) := funD_of (d := d_Publisher__job_row) (T.st.d.def_ 67 (d := d_Publisher__job_row))
theorem Txt.b_Publisher__job_row (T : Txt w K mg) : Binds K (fd_Publisher__job_row K) ["self", "name"] [] := T.f_Publisher__job_row.bindsN fun _ _ _ _ _ _ us hl => match us, hl with | [_, _], _ => rfl
abbrev fd_Publisher_jobs (K : PySem.W.Frag) : FuncData := fdOf K ("Publisher", some "jobs")
theorem Txt.f_Publisher_jobs (T : Txt w K mg) : FunD K "jobs" "Publisher.jobs" (defArgs s_Publisher_jobs) (defBody s_Publisher_jobs) (defScope s_Publisher_jobs) [] [] (He.ma K (He.ga K "Publisher") "jobs") (fd_Publisher_jobs K) := funD_of (d := d_Publisher_jobs) (T.st.d.def_ 68 (d := d_Publisher_jobs))
theorem Txt.b_Publisher_jobs (T : Txt w K mg) : Binds K (fd_Publisher_jobs K) ["self"] [] := T.f_Publisher_jobs.bindsN fun _ _ _ _ _ _ us hl => match us, hl with | [_], _ => rfl
abbrev fd_Publisher_required (K : PySem.W.Frag) : FuncData := fdOf K ("Publisher", some "required")
theorem Txt.f_Publisher_required (T : Txt w K mg) : FunD K "required" "Publisher.required" (defArgs s_Publisher_required) (defBody s_Publisher_required) (defScope s_Publisher_required) [] [] (He.ma K (He.ga K "Publisher") "required") (fd_Publisher_required K) := funD_of (d := d_Publisher_required) (T.st.d.def_ 69 (d := d_Publisher_required))
theorem Txt.b_Publisher_required (T : Txt w K mg) : Binds K (fd_Publisher_required K) ["self"] [] := T.f_Publisher_required.bindsN fun _ _ _ _ _ _ us hl => match us, hl with | [_], _ => rfl
abbrev fd_Publisher_attempts_made (K : PySem.W.Frag) : FuncData := fdOf K ("Publisher", some "attempts_made")
theorem Txt.f_Publisher_attempts_made (T : Txt w K mg) : FunD K "attempts_made" "Publisher.attempts_made" (defArgs s_Publisher_attempts_made) (defBody s_Publisher_attempts_made) (defScope s_Publisher_attempts_made) [] [] (He.ma K (He.ga K "Publisher") "attempts_made") (fd_Publisher_attempts_made K) := funD_of (d := d_Publisher_attempts_made) (T.st.d.def_ 70 (d := d_Publisher_attempts_made))
theorem Txt.b_Publisher_attempts_made (T : Txt w K mg) : Binds K (fd_Publisher_attempts_made K) ["self"] [] := T.f_Publisher_attempts_made.bindsN fun _ _ _ _ _ _ us hl => match us, hl with | [_], _ => rfl
abbrev fd__law_cell (K : PySem.W.Frag) : FuncData := fdOf K ("_law_cell", none)
theorem Txt.f__law_cell (T : Txt w K mg) : FunD K "_law_cell" "_law_cell" (defArgs s__law_cell) (defBody s__law_cell) (defScope s__law_cell) [] [] (He.ga K "_law_cell") (fd__law_cell K) := funD_of (d := d__law_cell) (T.st.d.def_ 71 (d := d__law_cell))
theorem Txt.b__law_cell (T : Txt w K mg) : Binds K (fd__law_cell K) ["_law_script", "_law_k"] [] := T.f__law_cell.bindsN fun _ _ _ _ _ _ us hl => match us, hl with | [_, _], _ => rfl
abbrev fd__law_digits (K : PySem.W.Frag) : FuncData := fdOf K ("_law_digits", none)
theorem Txt.f__law_digits (T : Txt w K mg) : FunD K "_law_digits" "_law_digits" (defArgs s__law_digits) (defBody s__law_digits) (defScope s__law_digits) [] [] (He.ga K "_law_digits") (fd__law_digits K) := funD_of (d := d__law_digits) (T.st.d.def_ 72 (d := d__law_digits))
theorem Txt.b__law_digits (T : Txt w K mg) : Binds K (fd__law_digits K) ["_law_script", "_law_first", "_law_last"] [] := T.f__law_digits.bindsN fun _ _ _ _ _ _ us hl => match us, hl with | [_, _, _], _ => rfl
abbrev fd__law_draw (K : PySem.W.Frag) : FuncData := fdOf K ("_law_draw", none)
theorem Txt.f__law_draw (T : Txt w K mg) : FunD K "_law_draw" "_law_draw" (defArgs s__law_draw) (defBody s__law_draw) (defScope s__law_draw) [] [] (He.ga K "_law_draw") (fd__law_draw K) := funD_of (d := d__law_draw) (T.st.d.def_ 73 (d := d__law_draw))
theorem Txt.b__law_draw (T : Txt w K mg) : Binds K (fd__law_draw K) ["_law_box", "_law_many"] [] := T.f__law_draw.bindsN fun _ _ _ _ _ _ us hl => match us, hl with | [_, _], _ => rfl
abbrev fd__law_name (K : PySem.W.Frag) : FuncData := fdOf K ("_law_name", none)
theorem Txt.f__law_name (T : Txt w K mg) : FunD K "_law_name" "_law_name" (defArgs s__law_name) (defBody s__law_name) (defScope s__law_name) [] [] (He.ga K "_law_name") (fd__law_name K) := funD_of (d := d__law_name) (T.st.d.def_ 74 (d := d__law_name))
theorem Txt.b__law_name (T : Txt w K mg) : Binds K (fd__law_name K) ["_law_box"] [] := T.f__law_name.bindsN fun _ _ _ _ _ _ us hl => match us, hl with | [_], _ => rfl
abbrev fd__law_text (K : PySem.W.Frag) : FuncData := fdOf K ("_law_text", none)
theorem Txt.f__law_text (T : Txt w K mg) : FunD K "_law_text" "_law_text" (defArgs s__law_text) (defBody s__law_text) (defScope s__law_text) [] [] (He.ga K "_law_text") (fd__law_text K) := funD_of (d := d__law_text) (T.st.d.def_ 75 (d := d__law_text))
theorem Txt.b__law_text (T : Txt w K mg) : Binds K (fd__law_text K) ["_law_box", "_law_most"] [] := T.f__law_text.bindsN fun _ _ _ _ _ _ us hl => match us, hl with | [_, _], _ => rfl
abbrev fd__law_pages (K : PySem.W.Frag) : FuncData := fdOf K ("_law_pages", none)
theorem Txt.f__law_pages (T : Txt w K mg) : FunD K "_law_pages" "_law_pages" (defArgs s__law_pages) (defBody s__law_pages) (defScope s__law_pages) [] [] (He.ga K "_law_pages") (fd__law_pages K) := funD_of (d := d__law_pages) (T.st.d.def_ 76 (d := d__law_pages))
theorem Txt.b__law_pages (T : Txt w K mg) : Binds K (fd__law_pages K) ["_law_box"] [] := T.f__law_pages.bindsN fun _ _ _ _ _ _ us hl => match us, hl with | [_], _ => rfl
abbrev fd__law_alike (K : PySem.W.Frag) : FuncData := fdOf K ("_law_alike", none)
theorem Txt.f__law_alike (T : Txt w K mg) : FunD K "_law_alike" "_law_alike" (defArgs s__law_alike) (defBody s__law_alike) (defScope s__law_alike) [] [] (He.ga K "_law_alike") (fd__law_alike K) := funD_of (d := d__law_alike) (T.st.d.def_ 77 (d := d__law_alike))
theorem Txt.b__law_alike (T : Txt w K mg) : Binds K (fd__law_alike K) ["_law_one", "_law_two"] [] := T.f__law_alike.bindsN fun _ _ _ _ _ _ us hl => match us, hl with | [_, _], _ => rfl
abbrev fd__law_edit (K : PySem.W.Frag) : FuncData := fdOf K ("_law_edit", none)
theorem Txt.f__law_edit (T : Txt w K mg) : FunD K "_law_edit" "_law_edit" (defArgs s__law_edit) (defBody s__law_edit) (defScope s__law_edit) [] [] (He.ga K "_law_edit") (fd__law_edit K) := funD_of (d := d__law_edit) (T.st.d.def_ 78 (d := d__law_edit))
theorem Txt.b__law_edit (T : Txt w K mg) : Binds K (fd__law_edit K) ["_law_box", "_law_pages_here"] [] := T.f__law_edit.bindsN fun _ _ _ _ _ _ us hl => match us, hl with | [_, _], _ => rfl
abbrev fd__law_options (K : PySem.W.Frag) : FuncData := fdOf K ("_law_options", none)
theorem Txt.f__law_options (T : Txt w K mg) : FunD K "_law_options" "_law_options" (defArgs s__law_options) (defBody s__law_options) (defScope s__law_options) [] [] (He.ga K "_law_options") (fd__law_options K) := funD_of (d := d__law_options) (T.st.d.def_ 79 (d := d__law_options))
theorem Txt.b__law_options (T : Txt w K mg) : Binds K (fd__law_options K) ["_law_box"] [] := T.f__law_options.bindsN fun _ _ _ _ _ _ us hl => match us, hl with | [_], _ => rfl
abbrev fd__law_ticks (K : PySem.W.Frag) : FuncData := fdOf K ("_law_ticks", none)
theorem Txt.f__law_ticks (T : Txt w K mg) : FunD K "_law_ticks" "_law_ticks" (defArgs s__law_ticks) (defBody s__law_ticks) (defScope s__law_ticks) [] [] (He.ga K "_law_ticks") (fd__law_ticks K) := funD_of (d := d__law_ticks) (T.st.d.def_ 80 (d := d__law_ticks))
theorem Txt.b__law_ticks (T : Txt w K mg) : Binds K (fd__law_ticks K) ["_law_box"] [] := T.f__law_ticks.bindsN fun _ _ _ _ _ _ us hl => match us, hl with | [_], _ => rfl
abbrev fd__law_told_by (K : PySem.W.Frag) : FuncData := fdOf K ("_law_told_by", none)
theorem Txt.f__law_told_by (T : Txt w K mg) : FunD K "_law_told_by" "_law_told_by" (defArgs s__law_told_by) (defBody s__law_told_by) (defScope s__law_told_by) [] [] (He.ga K "_law_told_by") (fd__law_told_by K) := funD_of (d := d__law_told_by) (T.st.d.def_ 81 (d := d__law_told_by))
theorem Txt.b__law_told_by (T : Txt w K mg) : Binds K (fd__law_told_by K) ["_law_publisher"] [] := T.f__law_told_by.bindsN fun _ _ _ _ _ _ us hl => match us, hl with | [_], _ => rfl
abbrev fd__law_in_pieces (K : PySem.W.Frag) : FuncData := fdOf K ("_law_in_pieces", none)
theorem Txt.f__law_in_pieces (T : Txt w K mg) : FunD K "_law_in_pieces" "_law_in_pieces" (defArgs s__law_in_pieces) (defBody s__law_in_pieces) (defScope s__law_in_pieces) [] [] (He.ga K "_law_in_pieces") (fd__law_in_pieces K) := funD_of (d := d__law_in_pieces) (T.st.d.def_ 82 (d := d__law_in_pieces))
theorem Txt.b__law_in_pieces (T : Txt w K mg) : Binds K (fd__law_in_pieces K) ["_law_box", "_law_publisher", "_law_ticks_here"] [] := T.f__law_in_pieces.bindsN fun _ _ _ _ _ _ us hl => match us, hl with | [_, _, _], _ => rfl
abbrev fd__law_by_turns (K : PySem.W.Frag) : FuncData := fdOf K ("_law_by_turns", none)
theorem Txt.f__law_by_turns (T : Txt w K mg) : FunD K "_law_by_turns" "_law_by_turns" (defArgs s__law_by_turns) (defBody s__law_by_turns) (defScope s__law_by_turns) [] [] (He.ga K "_law_by_turns") (fd__law_by_turns K) := funD_of (d := d__law_by_turns) (T.st.d.def_ 83 (d := d__law_by_turns))
theorem Txt.b__law_by_turns (T : Txt w K mg) : Binds K (fd__law_by_turns K) ["_law_publisher", "_law_ticks_here"] [] := T.f__law_by_turns.bindsN fun _ _ _ _ _ _ us hl => match us, hl with | [_, _], _ => rfl
abbrev fd_law (K : PySem.W.Frag) : FuncData := fdOf K ("law", none)
theorem Txt.f_law (T : Txt w K mg) : FunD K "law" "law" (defArgs s_law) (defBody s_law) (defScope s_law) [] [] (He.ga K "law") (fd_law K) := funD_of (d := d_law) (T.st.d.def_ 84 (d := d_law))
theorem Txt.b_law (T : Txt w K mg) : Binds K (fd_law K) ["_law_script"] [] := T.f_law.bindsN fun _ _ _ _ _ _ us hl => match us, hl with | [_], _ => rfl
end
end L2.TP
set_option maxHeartbeats 0
/-! The head: the top's run, and the facts that a Hook of its own reads off it (the objects by their places). -/
namespace L2.TP
open PySem PySem.Spec PyProof.Rows L2 PySem.Calls
def loose0 : List Str := ["_wall", "RENDERINGS_MOST", "Cache", "NAME_MOST", "TEXT_MOST", "SOURCES_MOST", "PAGES_MOST", "LETTERS", "PERCENT", "is_name", "is_text", "is_after", "are_pages", "failures", "OPENING", "_segment", "split", "RESULT_MOST", "NOTHING", "target", "_first_failure", "_join_segments", "join_result", "_open_link", "_greatest", "closed", "PageError", "OutOfRange", "TooManySources", "LEAST"]
def loose1 : List Str := ["MOST", "check_options", "duration", "delay", "Snapshot", "Timers", "TICKS_MOST", "CLOCK_MOST", "PAUSE", "WAIT", "RUNNING", "BACKING_OFF", "QUEUED", "check_edit", "apply_edit", "Job", "Frozen", "Publisher", "_law_cell", "_law_digits", "_law_draw", "_law_name", "_law_text", "_law_pages", "_law_alike", "_law_edit", "_law_options", "_law_ticks", "_law_told_by", "_law_in_pieces"]
def loose2 : List Str := ["_law_by_turns"]
def loose : List Str := loose0 ++ loose1 ++ loose2
abbrev Rw : PySem.W.OpenRow := PySem.W.OpenLaw.row PySem.Challenge.rw_pagesatonce_k36_time_in_pieces
def places : List Addr := mainGlobals :: List.range' 4 751
abbrev AlR : Type := He.AlT × Bool
def obsR (g : Addr → Option Obj) : AlR := (He.obsT fa fn ts (He.frG g places), ex (He.frG g places))
/-- the Hook: what the objects at these places tell -/
def hk : PySem.W.Hook where
  α := AlR
  obs := fun s => obsR s.heap.get?
  val := fun w => (He.valT fn ts w, true)
  says := fun w h => ∃ K : PySem.W.Frag, K.In h ∧ He.SaysT fa fn ts w K ∧ ex K = true
  of := fun _ _ e => ⟨_, He.frG_in, congrArg (fun z : AlR => z.1) e, congrArg (fun z : AlR => z.2) e⟩
  keeps := fun _ _ _ ⟨K, hK, c⟩ k => ⟨K, PySem.W.Frag.In.keeps hK k, c⟩
def ob (s : PySem.W.SharedT) : AlR := obsR (HandSHeadRun.getT s)
theorem ob_eq (s : PySem.W.SharedT) : ob s = hk.obs s.abs := by
  have e : HandSHeadRun.getT s = s.abs.heap.get? := funext (HandSHeadRun.getT_eq s)
  unfold ob
  rw [e]
  rfl
open PySem.W in
abbrev Kt (s : PySem.W.SharedT) : PySem.W.Frag := He.frG (HandSHeadRun.getT s) places
abbrev qv : Program := PySem.W.view Rw.prog [72]
noncomputable abbrev endT (w : World) (os : OsState) : Option PySem.W.SharedT := HandSHeadRun.endF (HandSHeadRun.stepQ (HandSHeadRun.denQ HandSHeadRun.tabQ) Rw.prog w) 5200 Rw.prog w os
open PySem.W in
def eqA (w : World) : Prop := ∀ os : OsState, (endT w os).map (fun s => (HandSHeadRun.looksF Rw.prog (boot_heap w.params) s.abs, HandSHeadRun.seenQ qv loose (importedModules Rw.prog.main.body) (fun s => PySem.W.xlAt qv [] s && PySem.W.recOk Rw.toRowW.records s) s.abs, fa.all fun f => f.ok (Kt s), ts.map fun t => He.dicW (Kt s) (t.1 (Kt s)), ex (Kt s))) =
  some (true, PySem.W.openGood qv loose, true, ts.map fun t => some (He.keysIn w.params t.2), true)
def eqB (w : World) : Prop := ∀ os : OsState, (endT w os).map (fun s => (fn.all fun d => d.ok (Kt s), fn.map fun d => He.fnW (Kt s) d.at_)) = some (true, fn.map He.DefD.val)
theorem runAf (w : World) : eqA (w.withFollow "special-get-raises" false) := by
  intro os
  kernel_rfl
theorem runAt (w : World) : eqA (w.withFollow "special-get-raises" true) := by
  intro os
  kernel_rfl
theorem runA (w : World) : eqA w := PySem.W.byRow2 "special-get-raises" (P := eqA) runAf runAt w
theorem runBf (w : World) : eqB (w.withFollow "special-get-raises" false) := by
  intro os
  kernel_rfl
theorem runBt (w : World) : eqB (w.withFollow "special-get-raises" true) := by
  intro os
  kernel_rfl
theorem runB (w : World) : eqB w := PySem.W.byRow2 "special-get-raises" (P := eqB) runBf runBt w
theorem run (w : World) : HandSHeadRun.RunEq Rw qv hk ob 5200 loose w := by
  intro os
  obtain ⟨s, e1, e2⟩ := Option.map_eq_some_iff.mp (runA w os)
  obtain ⟨s', e3, e4⟩ := Option.map_eq_some_iff.mp (runB w os)
  have es : s' = s := Option.some.inj (e3.symm.trans e1)
  subst es
  have a1 := congrArg (fun z => z.1) e2
  have a2 := congrArg (fun z => z.2.1) e2
  have a3 := congrArg (fun z => z.2.2.1) e2
  have a4 := congrArg (fun z => z.2.2.2.1) e2
  have a5 := congrArg (fun z => z.2.2.2.2) e2
  have b1 := congrArg (fun z => z.1) e4
  have b2 := congrArg (fun z => z.2) e4
  refine (congrArg (Option.map _) e1).trans ?_
  refine congrArg some (Prod.ext a1 (Prod.ext a2 (Prod.ext (Prod.ext (Prod.ext ?_ b2) a4) a5)))
  show ((fa.all fun f => f.ok (Kt s')) && fn.all fun d => d.ok (Kt s')) = true
  exact Bool.and_eq_true_iff.mpr ⟨a3, b1⟩
theorem says_txt {w : World} {h : Heap} {mg : Str → Option Value} (c : hk.says w h) (G : h.Ns mainGlobals mg) : ∃ K : PySem.W.Frag, K.In h ∧ Txt w K mg := by
  obtain ⟨K, hK, c1, c2⟩ := c
  exact ⟨K, hK, ⟨h, hK, G⟩, c1, c2⟩
end L2.TP
set_option maxHeartbeats 4000000
/-! The program as plain functions over plain data. -/
namespace L2.TP
open PySem PySem.Spec PyProof.Rows L2
/-! ### texts, names -/
def ltS (a b : Str) : Bool := decide (a.cps.toList < b.cps.toList)
def leS (a b : Str) : Bool := !ltS b a
/-- the texts of a list, rising -/
def srt (l : List Str) : List Str := l.mergeSort leS
def isName (t : Str) : Bool := decide (1 ≤ t.length) && decide (t.length ≤ 6) && t.cps.toList.all fun c => decide (c ∈ ("abcdefghijklmnopqrstuvwxyz" : Str).cps.toList)
def okSign (c : Nat) : Bool := decide (32 ≤ c) && decide (c ≤ 126) && !decide (c = 34) && !decide (c = 37)
def isText (t : Str) : Bool := decide (t.length ≤ 60) && t.cps.toList.all okSign
def after (one other : Str) : Bool := ltS other one
def nfail (t : Str) : Int := Txt.count t "!"
/-! ### results -/
inductive Res where
  | text (c : Str) (ls : List Str)
  | failed (n : Str)
  | long (n : Str)
  deriving DecidableEq
def Res.enc : Res → PyData
  | .text c ls => .tuple [.str "text", .str c, .tuple (ls.map .str)]
  | .failed n => .tuple [.str "failed", .str n]
  | .long n => .tuple [.str "long", .str n]
def encO : Option Res → PyData
  | none => .none
  | some r => r.enc
def Res.isText : Res → Bool
  | .text _ _ => true
  | _ => false
def Res.chars : Res → Str
  | .text c _ => c
  | _ => ""
def Res.links : Res → List Str
  | .text _ l => l
  | _ => []
def nothing : Res := .text "?" []
/-- dependencies with what is known of them -/
abbrev Told : Type := List (Str × Option Res)
def encP (p : Str × Option Res) : PyData := .tuple [.str p.1, encO p.2]
def encT (f : Told) : PyData := .tuple (f.map encP)
def encL (f : Told) : PyData := .list (f.map encP)
def allKnown (f : Told) : Bool := f.all fun p => p.2.isSome
/-! ### segments -/
inductive Seg where
  | txt (s : Str)
  | link (s : Str)
  | incl (s : Str)
  | indr (s : Str)
  deriving DecidableEq
def Seg.kind : Seg → Str
  | .txt _ => "text"
  | .link _ => "link"
  | .incl _ => "include"
  | .indr _ => "indirect"
def Seg.inner : Seg → Str
  | .txt s => s
  | .link s => s
  | .incl s => s
  | .indr s => s
def sign (t : Str) (i : Nat) : Str := ⟨#[t.cps.getD i 0]⟩
/-- the segment that begins at a place, and where it ends -/
def segAt (name text : Str) (at_ : Nat) : Option (Seg × Nat) :=
  let c := sign text at_
  if c = "<" then
    let e := Txt.find3 text ">" at_
    if e < 0 then none else
    let inner := cutS text (some (at_ + 1)) (some e)
    let ind := Txt.startswith inner "@"
    let tg := if ind then cutS inner (some 1) none else inner
    if !isName tg || !after tg name then none else some (if ind then .indr tg else .incl tg, e.toNat + 1)
  else if c = "[" then
    let e := Txt.find3 text "]" at_
    if e < 0 then none else
    let inner := cutS text (some (at_ + 1)) (some e)
    if isName inner then some (.link inner, e.toNat + 1) else none
  else none
def splitGo (name text : Str) : Nat → List Seg → Str → Nat → List Seg
  | 0, segs, _, _ => segs
  | f + 1, segs, plain, at_ =>
    if at_ < text.length then
      match segAt name text at_ with
      | none => splitGo name text f segs (plain ++ sign text at_) (at_ + 1)
      | some (g, e) => splitGo name text f ((if plain.length != 0 then segs ++ [.txt plain] else segs) ++ [g]) "" e
    else if plain.length != 0 then segs ++ [.txt plain] else segs
def split (name text : Str) : List Seg := splitGo name text (text.length + 1) [] "" 0
/-! ### rendering -/
def target (name : Str) : Res → Option Str
  | .text c _ => if isName c && after c name then some c else none
  | _ => none
def toldSeg (kn : Str → Option Res) (name : Str) : Seg → Told
  | .incl s => [(s, kn s)]
  | .indr s => (s, kn s) :: (match kn s with
    | some r => (match target name r with
      | some led => [(led, kn led)]
      | none => [])
    | none => [])
  | _ => []
def toldOf (kn : Str → Option Res) (name text : Str) : Told := (split name text).flatMap (toldSeg kn name)
/-- the keys of a dict, in their order -/
def ladd (l : List Str) (s : Str) : List Str := if s ∈ l then l else l ++ [s]
def resOf (p : Str × Option Res) : Res := p.2.getD nothing
def joinGo (name : Str) : List Seg → Told → Str → List Str → Str × List Str
  | [], _, c, l => (c, l)
  | .txt s :: r, f, c, l => joinGo name r f (c ++ s) l
  | .link s :: r, f, c, l => joinGo name r f (c ++ ("[" : Str) ++ s ++ ("]" : Str)) (ladd l s)
  | .incl _ :: r, p :: f, c, l => joinGo name r f (c ++ (resOf p).chars) ((resOf p).links.foldl ladd l)
  | .indr _ :: r, p :: f, c, l => (match target name (resOf p) with
    | none => joinGo name r f (c ++ "?") l
    | some _ => (match f with
      | q :: f2 => joinGo name r f2 (c ++ (resOf q).chars) ((resOf q).links.foldl ladd l)
      | [] => (c, l)))
  | _ :: _, [], c, l => (c, l)
def firstBad (f : Told) : Option Res := (f.find? fun p => !(resOf p).isText).map resOf
def joinResult (name text : Str) (attempts : Int) (found : Told) : Res :=
  if nfail text ≥ attempts then .failed name else
  match firstBad found with
  | some r => r
  | none =>
    let p := joinGo name (split name text) found "" []
    if p.1.length > 200 then .long name else .text p.1 (srt p.2)
/-! ### closing -/
inductive Rsn where
  | res (r : Res)
  | link (n : Option Str)
  deriving DecidableEq
def Rsn.enc : Rsn → PyData
  | .res r => r.enc
  | .link n => .tuple [.str "link", match n with
    | some n => .str n
    | none => .none]
def openLink (links kept : List Str) : Option Str := links.find? fun n => !decide (n ∈ kept)
def greatGo (rs : Str → Res) : Nat → List Str → List Str
  | 0, kept => kept
  | k + 1, kept => greatGo rs k (kept.filter fun n => (openLink (rs n).links kept).isNone)
def greatest (rs : Str → Res) (pages : List Str) : List Str := greatGo rs pages.length (pages.filter fun n => (rs n).isText)
def behindOf (rs : Str → Res) (kept : List Str) (n : Str) : List (Str × Rsn) :=
  if !(rs n).isText then [(n, .res (rs n))] else if n ∈ kept then [] else [(n, .link (openLink (rs n).links kept))]
def closedB (rs : Str → Res) (pages : List Str) : List (Str × Rsn) := pages.flatMap (behindOf rs (greatest rs pages))
/-! ### dicts as lists -/
section
variable {κ α : Type} [DecidableEq κ]
def aget (l : List (κ × α)) (k : κ) : Option α := (l.find? fun p => decide (p.1 = k)).map (·.2)
def adrop (l : List (κ × α)) (k : κ) : List (κ × α) := l.filter fun p => decide (p.1 ≠ k)
def ahas (l : List (κ × α)) (k : κ) : Bool := l.any fun p => decide (p.1 = k)
def aput (l : List (κ × α)) (k : κ) (v : α) : List (κ × α) := if ahas l k then l.map fun p => if p.1 = k then (p.1, v) else p else l ++ [(k, v)]
end
/-! ### the cache -/
structure Rend where
  name : Str
  text : Str
  found : Told
  res : Res
def Rend.enc (r : Rend) : PyData := .tuple [.str r.name, .str r.text, encT r.found, r.res.enc]
abbrev Cch : Type := List (Str × List Rend)
def cadd (c : Cch) (r : Rend) : Cch := aput c r.name ((r :: ((aget c r.name).getD []).filter fun o => !PyData.eqv o.enc r.enc).take 4)
def ckeep (c : Cch) (names : List Str) : Cch := c.filter fun p => decide (p.1 ∈ names)
def cfind (c : Cch) (name text : Str) (found : Told) : Option Res :=
  (((aget c name).getD []).find? fun r => decide (r.text = text) && PyData.eqv (encT r.found) (encT found)).map (·.res)
/-! ### snapshots -/
abbrev Src : Type := List (Str × Str)
structure Snap where
  src : Src
  pages : List Str
  kn : List (Str × Option Res)
def Snap.known (s : Snap) (n : Str) : Option Res := if ahas s.src n then (aget s.kn n).getD none else some nothing
def Snap.told (s : Snap) (n : Str) : Told := toldOf s.known n ((aget s.src n).getD "")
def snapStep (c : Cch) (s : Snap) (n : Str) : Snap :=
  if allKnown (s.told n) then { s with kn := aput s.kn n (cfind c n ((aget s.src n).getD "") (s.told n)) } else s
def mkSnap (src : Src) (pages : List Str) (c : Cch) : Snap := (srt (src.map (·.1))).reverse.foldl (snapStep c) ⟨src, pages, []⟩
def reqGo (s : Snap) : Nat → List Str → List Str → List Str
  | 0, names, _ => names
  | f + 1, names, waiting => match waiting.getLast? with
    | none => names
    | some n => if n ∈ names then reqGo s f names waiting.dropLast else reqGo s f (names ++ [n]) (waiting.dropLast ++ (s.told n).map (·.1))
def reqFuel (s : Snap) : Nat := s.pages.length + (s.src.map fun p => (s.told p.1).length).sum + 1
def Snap.required (s : Snap) : List Str := srt (reqGo s (reqFuel s) [] s.pages)
def Snap.isRend (s : Snap) (n : Str) : Bool := if !ahas s.src n || (s.known n).isSome then false else allKnown (s.told n)
def Snap.renderable (s : Snap) : List Str := s.required.filter s.isRend
def Snap.ready (s : Snap) : Bool := s.required.all fun n => (s.known n).isSome
/-! ### timers -/
inductive TK where
  | pause
  | wait
  | att (n : Str)
  | del (n : Str)
  deriving DecidableEq
def TK.enc : TK → List L2.Key
  | .pause => [.inr "pause"]
  | .wait => [.inr "wait"]
  | .att n => [.inr "attempt", .inr n]
  | .del n => [.inr "delay", .inr n]
abbrev Tms : Type := List (TK × Int)
def tput (t : Tms) (k : TK) (d : Int) : Tms := adrop t k ++ [(k, d)]
def tfirst (t : Tms) : Option (Int × TK) := t.foldl (fun f p => match f with
  | none => some (p.2, p.1)
  | some q => if p.2 < q.1 then some (p.2, p.1) else some q) none
/-! ### the publisher -/
structure Opt where
  together : Int
  unit : Int
  attempts : Int
  delay : Int
  delayMost : Int
  pause : Int
  wait : Int
inductive JS where
  | run
  | back
  | queued
  deriving DecidableEq
def JS.enc : JS → Str
  | .run => "running"
  | .back => "backing off"
  | .queued => "queued"
structure Job where
  text : Str
  found : Told
  attempt : Int
  state : JS
structure Frz where
  src : Src
  pages : List Str
  count : Int
  time : Int
structure Ver where
  number : Int
  count : Int
  time : Int
  pages : List (Str × Str)
  behind : List (Str × Rsn)
structure S where
  o : Opt
  clock : Int
  src : Src
  pages : List Str
  count : Int
  last : Int
  cache : Cch
  tms : Tms
  jobs : List (Str × Job)
  frz : Option Frz
  dirty : Option Int
  ver : Ver
  published : Int
  made : Int
def duration (o : Opt) (many : Nat) : Int := o.unit * (1 + (many : Int))
def delayGo : Nat → Int → Int
  | 0, t => t
  | k + 1, t => delayGo k (2 * t)
def delay (o : Opt) (attempt : Int) : Int := min o.delayMost (delayGo (attempt - 1).toNat o.delay)
def S.snap (s : S) : Snap := match s.frz with
  | some f => mkSnap f.src f.pages s.cache
  | none => mkSnap s.src s.pages s.cache
def S.text (s : S) (n : Str) : Option Str := match s.frz with
  | some f => aget f.src n
  | none => aget s.src n
def S.names (s : S) : List Str := s.src.map (·.1) ++ (match s.frz with
  | some f => f.src.map (·.1)
  | none => [])
def S.forget (s : S) : S := { s with cache := ckeep s.cache s.names }
def S.valid (s : S) (sn : Snap) (req : List Str) (n : Str) (j : Job) : Bool :=
  if !decide (n ∈ req) || (sn.known n).isSome || !decide (s.text n = some j.text) then false else PyData.eqv (encL (sn.told n)) (encL j.found)
def S.dropJob (s : S) (n : Str) : S := { s with jobs := adrop s.jobs n, tms := adrop (adrop s.tms (.att n)) (.del n) }
def dropGo (sn : Snap) (req : List Str) : List (Str × Job) → S → S
  | [], s => s
  | (n, j) :: r, s => dropGo sn req r (if s.valid sn req n j then s else s.dropJob n)
def S.dropJobs (s : S) (sn : Snap) : S := dropGo sn sn.required s.jobs s
def S.running (s : S) : Nat := (s.jobs.filter fun p => decide (p.2.state = .run)).length
def S.newJob (s : S) (sn : Snap) (n : Str) : S := if ahas s.jobs n then s else { s with jobs := s.jobs ++ [(n, ⟨(s.text n).getD "", sn.told n, 0, .queued⟩)] }
def S.startJob (s : S) (n : Str) : S := match aget s.jobs n with
  | some j => if j.state = .queued then { s with jobs := aput s.jobs n { j with state := .run, attempt := j.attempt + 1 }, made := s.made + 1, tms := tput s.tms (.att n) (s.clock + duration s.o j.found.length) } else s
  | none => s
def startGo (sn : Snap) : List Str → S → S
  | [], s => s
  | n :: r, s => if (s.running : Int) = s.o.together then s else startGo sn r ((s.newJob sn n).startJob n)
def S.start (s : S) (sn : Snap) : S := startGo sn sn.renderable s
def S.wanted (s : S) : List Str := match s.frz with
  | some f => f.pages
  | none => s.pages
def encV (v : Ver) : PyData := .tuple [.int v.number, .int v.count, .int v.time, .tuple (v.pages.map fun p => .tuple [.str p.1, .str p.2]), .tuple (v.behind.map fun p => .tuple [.str p.1, p.2.enc])]
def encPB (pages : List (Str × Str)) (behind : List (Str × Rsn)) : PyData := .tuple [.tuple (pages.map fun p => .tuple [.str p.1, .str p.2]), .tuple (behind.map fun p => .tuple [.str p.1, p.2.enc])]
def S.freeze (k : S → S) (s : S) : S := k { s with frz := some ⟨s.src, s.pages, s.count, s.clock⟩, dirty := none, tms := adrop s.tms .pause }
def S.release (k : S → S) (s : S) : S :=
  match s.dirty with
  | none => { s with frz := none }
  | some d =>
    if s.clock - d ≥ s.o.wait then S.freeze k { s with frz := none }
    else
      let t := tput s.tms .wait (d + s.o.wait)
      k { s with frz := none, tms := if s.clock - s.last < s.o.pause then tput t .pause (s.last + s.o.pause) else t }
def S.publish (k : S → S) (s : S) (sn : Snap) : S :=
  let rs := fun n => (sn.known n).getD nothing
  let pages := (greatest rs s.wanted).map fun n => (n, (rs n).chars)
  let behind := closedB rs s.wanted
  let number := if PyData.eqv (encPB pages behind) (encPB s.ver.pages s.ver.behind) then s.ver.number else s.ver.number + 1
  match s.frz with
  | none => { s with published := s.published + 1, ver := ⟨number, s.count, s.clock, pages, behind⟩, dirty := none, tms := adrop s.tms .wait }
  | some f => S.release k { s with published := s.published + 1, ver := ⟨number, f.count, f.time, pages, behind⟩ }
def S.progressK (k : S → S) (s : S) : S :=
  let s1 := s.forget
  let sn := s1.snap
  let s2 := s1.dropJobs sn
  if (aget s2.tms .pause).isSome then s2 else
  let s3 := s2.start sn
  if sn.ready && (s3.frz.isSome || s3.dirty.isSome) then s3.publish k sn else s3
def S.prog0 (s : S) : S := s.progressK id
def S.prog (s : S) : S := s.progressK S.prog0
def S.ended (s : S) (n : Str) : S := match aget s.jobs n with
  | none => s
  | some j =>
    if j.attempt ≤ nfail j.text ∧ j.attempt < s.o.attempts then { s with jobs := aput s.jobs n { j with state := .back }, tms := tput s.tms (.del n) (s.clock + delay s.o j.attempt) }
    else { s with jobs := adrop s.jobs n, cache := cadd s.cache ⟨n, j.text, j.found, joinResult n j.text s.o.attempts j.found⟩ }
def S.queue (s : S) (n : Str) : S := match aget s.jobs n with
  | none => s
  | some j => { s with jobs := aput s.jobs n { j with state := .queued } }
def S.fire (s : S) : TK → S
  | .wait => S.freeze S.prog s
  | .pause => s.prog
  | .att n => (s.ended n).prog
  | .del n => (s.queue n).prog
/-- the first timer fires -/
def S.turn (s : S) : S := match tfirst s.tms with
  | none => s
  | some (d, k) => S.fire { s with clock := d, tms := adrop s.tms k } k
def S.dueBy (s : S) (last : Int) : Bool := match tfirst s.tms with
  | none => false
  | some (d, _) => decide (d ≤ last)
def turns : Nat → Int → S → S
  | 0, _, s => s
  | f + 1, last, s => if s.dueBy last then turns f last s.turn else s
end L2.TP
/-! The dict of the timers: its keys are tuples, two of which stand in the written part. -/
namespace L2.TP
open PySem PySem.Spec PyProof.Rows L2
abbrev TX : Type := List (List L2.Key × Addr × V)
abbrev TY : Type := List (List L2.Key × Addr × Value)
abbrev KTX (xs : TX) (ys : TY) : Prop := Paired (fun (p : List L2.Key × Addr × V) (q : List L2.Key × Addr × Value) => p.1 = q.1 ∧ p.2.1 = q.2.1 ∧ RelV p.2.2 q.2.2) xs ys
def tdP (P : Program) (w : World) (a : Addr) (xs : TX) (h : Heap) : Prop := xs.length ≤ sizeLine ∧ (a == sysModules) = false ∧ ∃ ys : TY, KTX xs ys ∧
  ∃ o es ep, h.get? a = some o ∧ o.ExactDict ∧ o.data = .dict es ep ∧ es.toList = ys.map (entryOfKey (tupleKind (mixKind P w))) ∧ (ys.map (·.1)).Nodup
def tdO (P : Program) (w : World) (a : Addr) (xs : TX) : HO := .ext (tdP P w a xs)
theorem tdO_ok {P : Program} {w : World} {H : Hp} {h : Heap} {a : Addr} {xs : TX} (p : tdP P w a xs h) : ObjOk P w H h a (tdO P w a xs) := by
  obtain ⟨z, hd, ys, r, o, es, ep, ho, q⟩ := id p
  refine ⟨p, ⟨o, ho⟩, fun h1 h2 p1 k => ?_⟩
  obtain ⟨z, hd, ys, r, o, es, ep, ho, q⟩ := p1
  exact ⟨z, hd, ys, r, o, es, ep, k o ho, q⟩
/-- one entry: its key, where the key's tuple stands, its time -/
def EntAt (K : PySem.W.Frag) (H : Hp) (x : List L2.Key × Addr × V) (p : TK × Int) : Prop := x.1 = p.1.enc ∧ SqT K H x.2.1 (p.1.enc.map kV) ∧ x.2.2 = .int p.2
def TmX (P : Program) (w : World) (K : PySem.W.Frag) (H : Hp) (a : Addr) (t : Tms) (xs : TX) : Prop := H a = some (tdO P w a xs) ∧ Paired (EntAt K H) xs t
/-- at a stands the dict of the timers t -/
def TmAt (P : Program) (w : World) (K : PySem.W.Frag) (H : Hp) (a : Addr) (t : Tms) : Prop := ∃ xs, TmX P w K H a t xs
def KeyAt (K : PySem.W.Frag) (H : Hp) (b : Addr) (k : TK) : Prop := SqT K H b (k.enc.map kV)
theorem enc_inj : ∀ {a b : TK}, a.enc = b.enc → a = b
  | .pause, .pause, _ => rfl
  | .pause, .wait, h => by simp only [TK.enc, List.cons.injEq, Sum.inr.injEq] at h; exact absurd h.1 (by decide +kernel)
  | .pause, .att _, h => by simp only [TK.enc, List.cons.injEq] at h; simp at h
  | .pause, .del _, h => by simp only [TK.enc, List.cons.injEq] at h; simp at h
  | .wait, .pause, h => by simp only [TK.enc, List.cons.injEq, Sum.inr.injEq] at h; exact absurd h.1 (by decide +kernel)
  | .wait, .wait, _ => rfl
  | .wait, .att _, h => by simp only [TK.enc, List.cons.injEq] at h; simp at h
  | .wait, .del _, h => by simp only [TK.enc, List.cons.injEq] at h; simp at h
  | .att _, .pause, h => by simp only [TK.enc, List.cons.injEq] at h; simp at h
  | .att _, .wait, h => by simp only [TK.enc, List.cons.injEq] at h; simp at h
  | .att n, .att m, h => by simp only [TK.enc, List.cons.injEq, Sum.inr.injEq] at h; rw [h.2.1]
  | .att _, .del _, h => by simp only [TK.enc, List.cons.injEq, Sum.inr.injEq] at h; exact absurd h.1 (by decide +kernel)
  | .del _, .pause, h => by simp only [TK.enc, List.cons.injEq] at h; simp at h
  | .del _, .wait, h => by simp only [TK.enc, List.cons.injEq] at h; simp at h
  | .del _, .att _, h => by simp only [TK.enc, List.cons.injEq, Sum.inr.injEq] at h; exact absurd h.1 (by decide +kernel)
  | .del n, .del m, h => by simp only [TK.enc, List.cons.injEq, Sum.inr.injEq] at h; rw [h.2.1]
section
variable {X : Cx} {pins : List (Addr × Obj)} {σ : St} {H : Hp} {s : Shared} {a b : Addr} {t : Tms} {k : TK}
theorem key_is (I : Inv X pins σ H s) {b : Addr} {ks : List L2.Key} (h : SqT X.K H b (ks.map kV)) : (tupleKind (mixKind X.prog X.w)).is s.heap ks b := by
  obtain ⟨its, r, ⟨o, h1, h2, n, h3⟩, _⟩ := I.tuple h
  exact ⟨o, its.toArray, n, h1, h2, h3, by simpa using items_are r⟩
/-- the dict behind it, the entries one beside the other -/
structure TmR (X : Cx) (H : Hp) (s : Shared) (a : Addr) (t : Tms) (xs : TX) (ys : TY) : Prop where
  sz : xs.length ≤ sizeLine
  sm : (a == sysModules) = false
  ty : KTX xs ys
  tt : Paired (EntAt X.K H) xs t
  at_ : H a = some (tdO X.prog X.w a xs)
  d : s.heap.DictOfH (tupleKind (mixKind X.prog X.w)) a ys
theorem tm_ofX {xs : TX} (I : Inv X pins σ H s) (h : TmX X.prog X.w X.K H a t xs) : ∃ ys, TmR X H s a t xs ys := by
  obtain ⟨h1, h2⟩ := h
  obtain ⟨z, hd, ys, r, o, es, ep, ho, hx, hdat, he, hn⟩ := (show tdP X.prog X.w a xs s.heap from (I.hok a _ h1).1)
  refine ⟨ys, z, hd, r, h2, h1, o, es, ep, ho, hx, hdat, he, ?_, hn⟩
  intro y hy
  have all : ∀ {xs : TX} {ys : TY} {t : Tms}, KTX xs ys → Paired (EntAt X.K H) xs t → ∀ y ∈ ys, (tupleKind (mixKind X.prog X.w)).is s.heap y.1 y.2.1 := by
    intro xs ys t r
    induction r generalizing t with
    | nil => intro _ y hy; exact nomatch hy
    | @cons p q ps qs hq tl ih =>
      intro e y hy
      cases e with
      | cons e1 e2 =>
        rcases List.mem_cons.mp hy with rfl | hy
        · rw [← hq.1, ← hq.2.1, e1.1]
          exact key_is I e1.2.1
        · exact ih e2 y hy
  exact all r h2 y hy
theorem tm_of (I : Inv X pins σ H s) (h : TmAt X.prog X.w X.K H a t) : ∃ xs ys, TmR X H s a t xs ys := by
  obtain ⟨xs, h⟩ := h
  exact ⟨xs, tm_ofX I h⟩
theorem at_rel {H : Hp} {K : PySem.W.Frag} (k : TK) : ∀ {xs : TX} {ys : TY} {t : Tms}, KTX xs ys → Paired (EntAt K H) xs t →
    (aget t k = none → atKey ys k.enc = none) ∧ ∀ d, aget t k = some d → ∃ p, atKey ys k.enc = some p ∧ RelV (.int d) p.2
  | [], [], [], .nil, .nil => ⟨fun _ => rfl, (fun d e => nomatch e)⟩
  | x :: xs, y :: ys, p :: t, .cons r rs, .cons e es => by
    have ih := at_rel (H := H) (K := K) k rs es
    by_cases h : p.1 = k
    · have hy : y.1 = k.enc := by rw [← r.1, e.1, h]
      have a1 : atKey (y :: ys) k.enc = some y.2 := by simp [atKey, List.find?_cons, hy]
      have a2 : aget (p :: t) k = some p.2 := by simp [aget, List.find?_cons, h]
      rw [a1, a2]
      refine ⟨(fun z => nomatch z), fun d z => ⟨y.2, rfl, ?_⟩⟩
      rw [← Option.some.inj z, ← e.2.2]
      exact r.2.2
    · have hy : ¬ y.1 = k.enc := fun z => h (enc_inj (by rw [← e.1, r.1, z]))
      have a1 : atKey (y :: ys) k.enc = atKey ys k.enc := by simp [atKey, List.find?_cons, hy]
      have a2 : aget (p :: t) k = aget t k := by simp [aget, List.find?_cons, h]
      rw [a1, a2]
      exact ih
def dropX (xs : TX) (k : List L2.Key) : TX := xs.filter fun x => decide (x.1 ≠ k)
theorem drop_ty (k : List L2.Key) : ∀ {xs : TX} {ys : TY}, KTX xs ys → KTX (dropX xs k) (DT.dropH ys k)
  | [], [], .nil => .nil
  | x :: xs, y :: ys, .cons r rs => by
    have ih := drop_ty k rs
    by_cases h : x.1 = k
    · have hy : y.1 = k := r.1.symm.trans h
      have z1 : dropX (x :: xs) k = dropX xs k := List.filter_cons_of_neg (by simp [h])
      have z2 : DT.dropH (y :: ys) k = DT.dropH ys k := List.filter_cons_of_neg (by simp [hy])
      rw [z1, z2]
      exact ih
    · have hy : ¬ y.1 = k := fun z => h (r.1.trans z)
      have z1 : dropX (x :: xs) k = x :: dropX xs k := List.filter_cons_of_pos (by simp [h])
      have z2 : DT.dropH (y :: ys) k = y :: DT.dropH ys k := List.filter_cons_of_pos (by simp [hy])
      rw [z1, z2]
      exact .cons r ih
theorem drop_tt {K : PySem.W.Frag} {H : Hp} (k : TK) : ∀ {xs : TX} {t : Tms}, Paired (EntAt K H) xs t → Paired (EntAt K H) (dropX xs k.enc) (adrop t k)
  | [], [], .nil => .nil
  | x :: xs, p :: t, .cons r rs => by
    have ih := drop_tt k rs
    by_cases h : p.1 = k
    · have hx : x.1 = k.enc := by rw [r.1, h]
      have z1 : dropX (x :: xs) k.enc = dropX xs k.enc := List.filter_cons_of_neg (by simp [hx])
      have z2 : adrop (p :: t) k = adrop t k := List.filter_cons_of_neg (by simp [h])
      rw [z1, z2]
      exact ih
    · have hx : ¬ x.1 = k.enc := fun z => h (enc_inj (r.1.symm.trans z))
      have z1 : dropX (x :: xs) k.enc = x :: dropX xs k.enc := List.filter_cons_of_pos (by simp [hx])
      have z2 : adrop (p :: t) k = p :: adrop t k := List.filter_cons_of_pos (by simp [h])
      rw [z1, z2]
      exact .cons r ih
theorem dropX_le (xs : TX) (k : List L2.Key) : (dropX xs k).length ≤ xs.length := List.length_filter_le _ _
/-- a tuple stays behind a change of the dict -/
theorem sqt_upd {K : PySem.W.Frag} {H : Hp} {a b : Addr} {xs : TX} {P : Program} {w : World} {o : HO} {vs : List V} (h : H a = some (tdO P w a xs)) (q : SqT K H b vs) : SqT K (upd H a o) b vs := by
  rcases q with (q | ⟨ob, q⟩) | q
  · exact .inl (.inl (by rw [upd_ne (ne_of q h (fun z => nomatch z))]; exact q))
  · exact .inl (.inr ⟨ob, by rw [upd_ne (ne_of q h (fun z => nomatch z))]; exact q⟩)
  · exact .inr q
theorem ent_upd {K : PySem.W.Frag} {H : Hp} {a : Addr} {xs : TX} {P : Program} {w : World} {o : HO} (h : H a = some (tdO P w a xs)) {zs : TX} {t : Tms} (r : Paired (EntAt K H) zs t) : Paired (EntAt K (upd H a o)) zs t :=
  Paired.mapP r fun _ _ z => ⟨z.1, sqt_upd h z.2.1, z.2.2⟩
theorem td_write {h' : Heap} {t' : Nat} {xs zs : TX} {t2 : Tms} (I : Inv X pins σ H s) (ha : H a = some (tdO X.prog X.w a xs)) (hs : Heap.SameBut a s.heap h') (new : tdP X.prog X.w a zs h') (r : Paired (EntAt X.K H) zs t2) :
    Inv X pins σ (upd H a (tdO X.prog X.w a zs)) { s with heap := h', toks := t' } ∧ TmAt X.prog X.w X.K (upd H a (tdO X.prog X.w a zs)) a t2 := by
  refine ⟨?_, zs, upd_same, ent_upd ha r⟩
  obtain ⟨o, ho⟩ : ∃ q, h'.get? a = some q := let ⟨_, _, _, _, o, _, _, ho, _⟩ := new; ⟨o, ho⟩
  exact d_write I (by rw [ha]; exact True.intro) hs ⟨o, ho⟩ (tdO_ok new)
theorem tm_isD (R : ∃ xs ys, TmR X H s a t xs ys) : s.TypeIs (.ref a) "dict" ∧ ∀ b, Value.ref a = .ref b → ∃ ob, s.heap.get? b = some ob ∧ ob.dict = none := by
  obtain ⟨xs, ys, R⟩ := R
  obtain ⟨o, es, ep, ho, hx, _⟩ := id R.d
  exact ⟨⟨o, ho, hx.1⟩, fun b q => by cases q; exact ⟨o, ho, hx.2.1⟩⟩
end
/-! ### the rules -/
def tTNew (P : Program) (w : World) (K : PySem.W.Frag) : TE := fun _ H Q => ∀ p, H p = none → Q (.ref p) (upd H p (tdO P w p []))
def tTGet (P : Program) (w : World) (K : PySem.W.Frag) (td ty : TE) : TE := fun σ H Q => td σ H fun x H1 => ∃ a t, x = .ref a ∧ TmAt P w K H1 a t ∧ ty σ H1 fun y H2 => ∃ b k, y = .ref b ∧ KeyAt K H2 b k ∧ TmAt P w K H2 a t ∧
  Q (match aget t k with
    | some d => .int d
    | none => .non) H2
def tTPop (P : Program) (w : World) (K : PySem.W.Frag) (td ty tx : TE) : TE := fun σ H Q => td σ H fun x H1 => ∃ a t, x = .ref a ∧ TmAt P w K H1 a t ∧ ty σ H1 fun y H2 => tx σ H2 fun z H3 => ∃ b k xs, y = .ref b ∧ KeyAt K H3 b k ∧ TmX P w K H3 a t xs ∧
  (∀ d, aget t k = some d → Q (.int d) (upd H3 a (tdO P w a (dropX xs k.enc)))) ∧ (aget t k = none → Q z H3)
def sTPut (P : Program) (w : World) (K : PySem.W.Frag) (td ty tv : TE) : TS := fun D σ H => tv σ H fun v H1 => td σ H1 fun x H2 => ty σ H2 fun y H3 => ∃ a b k t d xs, x = .ref a ∧ y = .ref b ∧ v = .int d ∧ KeyAt K H3 b k ∧ TmX P w K H3 a t xs ∧ aget t k = none ∧ t.length < sizeLine ∧
  D.nx σ (upd H3 a (tdO P w a (xs ++ [(k.enc, b, .int d)])))
section
variable {X : Cx} {o e f i value : Expr} {apos cpos pos pos' : Pos} {td ty tx tv : TE}
theorem pe_tnew : PE X (.Dict [] [] pos) (tTNew X.prog X.w X.K) := ⟨fun pins s σ H Q I h => by
  have p : tdP X.prog X.w s.heap.objs.size [] (s.heap.push { cls := .type "dict", data := .dict #[] }) :=
    ⟨Nat.zero_le _, beq_eq_false_iff_ne.mpr (Ne.symm (Nat.ne_of_lt I.big)), [], .nil, _, #[], 0, Heap.get?_push_size _ rfl, ⟨rfl, rfl, rfl⟩, rfl, rfl, List.nodup_nil⟩
  have fr := I.hok.fresh (Nat.le_refl s.heap.objs.size)
  exact wpAny_Dict_empty ⟨.ref s.heap.objs.size, _, I.laid (a := s.heap.objs.size) (o := tdO X.prog X.w s.heap.objs.size []) (t' := s.toks) (fun _ _ q => Heap.get?_push_of_some _ q) (Nat.le_refl _) (tdO_ok p), rfl, h _ fr⟩⟩
theorem pe_tget (hu : X.A.units + 1 < cLine) (ho : PE X o td) (he : PE X e ty) (m : M1 X o "get" apos e cpos) : PE X (.Call (.Attribute o "get" apos) [e] [] cpos) (tTGet X.prog X.w X.K td ty) := by
  refine ⟨fun pins s σ H Q I h => ?_⟩
  refine wpAny_Call_method m.base m.few m.line PySem.F.plainAttrs_dict PySem.F.slot_dict_get PySem.F.type_dict_get (thn (ho.run pins s σ H _ I h) fun u s1 ⟨x, H1, I1, rx, a, t, ex, d, q1⟩ => ?_)
  subst ex
  obtain rfl : u = Value.ref a := rx
  obtain ⟨t1, t2⟩ := tm_isD (tm_of I1 d)
  refine ⟨t1, t2, ?_⟩
  rw [m.trees]
  refine Calls.callWith_builtin rfl (Calls.evalArgs_plain (Calls.spliced_cons (thn (he.run pins s1 σ H1 _ I1 q1) fun iv s2 ⟨y, H2, I2, ry, b, k, ey, hk, d2, q2⟩ => Calls.spliced_nil ?_)))
  subst ey
  obtain rfl : iv = Value.ref b := ry
  obtain ⟨xs, ys, R⟩ := tm_of I2 d2
  refine call_meetsIn PySem.F.slot_dict_get R.d.typeIs PySem.F.entry_dict_get (PySem.F.args_dict_get_2 _ _) (meetsH_dict_get (tupleKind (mixKind X.prog X.w)) a b R.sm) ⟨tupleKind_room_in1 hu, k.enc, ys, key_is I2 hk, R.d, ?_⟩
  refine ⟨_, H2, I2.tok _, ?_, q2⟩
  obtain ⟨z1, z2⟩ := at_rel k R.ty R.tt
  cases e : aget t k with
  | none =>
    rw [z1 e]
    rfl
  | some dd =>
    obtain ⟨p, hp, hr⟩ := z2 dd e
    rw [hp]
    exact hr
theorem pe_tpop (hu : X.A.units + 1 < cLine) (ho : PE X o td) (he : PE X e ty) (hf : PE X f tx) (m : M2 X o "pop" apos e f cpos) : PE X (.Call (.Attribute o "pop" apos) [e, f] [] cpos) (tTPop X.prog X.w X.K td ty tx) := by
  refine ⟨fun pins s σ H Q I h => ?_⟩
  refine wpAny_Call_method m.base m.few m.line PySem.F.plainAttrs_dict PySem.F.slot_dict_pop PySem.F.type_dict_pop (thn (ho.run pins s σ H _ I h) fun u s1 ⟨x, H1, I1, rx, a, t, ex, d, q1⟩ => ?_)
  subst ex
  obtain rfl : u = Value.ref a := rx
  obtain ⟨t1, t2⟩ := tm_isD (tm_of I1 d)
  refine ⟨t1, t2, ?_⟩
  rw [m.trees]
  refine Calls.callWith_builtin rfl (Calls.evalArgs_plain (Calls.spliced_cons (thn (he.run pins s1 σ H1 _ I1 q1) fun iv s2 ⟨y, H2, I2, ry, q2⟩ =>
    Calls.spliced_cons (thn (hf.run pins s2 σ H2 _ I2 q2) fun fv s3 ⟨z, H3, I3, rz, b, k, xs, ey, hk, d2, q3, q4⟩ => Calls.spliced_nil ?_))))
  subst ey
  obtain rfl : iv = Value.ref b := ry
  obtain ⟨ys, R⟩ := tm_ofX I3 d2
  have hz : ys.length ≤ sizeLine := by rw [← Paired.length R.ty]; exact R.sz
  obtain ⟨z1, z2⟩ := at_rel k R.ty R.tt
  refine call_meetsIn PySem.F.slot_dict_pop R.d.typeIs PySem.F.entry_dict_pop (PySem.F.args_dict_pop_3 _ _ _) (DT.meetsPop (knd := tupleKind (mixKind X.prog X.w)) (k := k.enc) fv R.sm)
    ⟨ys, tupleKind_room_in1 hu, key_is I3 hk, R.d, hz, fun hn tk => ?_, fun p hp h' tk dd' hs => ?_⟩
  · cases e : aget t k with
    | none => exact ⟨z, H3, I3.tok tk, rz, q4 e⟩
    | some dd =>
      obtain ⟨p, hp, _⟩ := z2 dd e
      rw [hp] at hn
      cases hn
  · cases e : aget t k with
    | none =>
      rw [z1 e] at hp
      cases hp
    | some dd =>
      obtain ⟨p', hp', hr⟩ := z2 dd e
      rw [hp] at hp'
      cases hp'
      obtain ⟨oo, es, ep, g1, g2, g3, g4, _, g5⟩ := dd'
      obtain ⟨I4, T4⟩ := td_write (t' := tk) (zs := dropX xs k.enc) (t2 := adrop t k) I3 R.at_ hs ⟨Nat.le_trans (dropX_le _ _) R.sz, R.sm, _, drop_ty _ R.ty, oo, es, ep, g1, g2, g3, g4, g5⟩ (drop_tt k R.tt)
      exact ⟨.int dd, _, I4, hr, q3 dd e⟩
theorem ps_tput (hu : X.A.units + 1 < cLine) (ho : PE X o td) (hi : PE X i ty) (hv : PE X value tv) (hs : swapsWith value (some (.Subscript o i pos')) pos.line X.env = pure false) :
    PS X (.Assign [.Subscript o i pos'] value pos) (sTPut X.prog X.w X.K td ty tv) := by
  refine ⟨fun pins s σ H D I h => ?_⟩
  refine wpAny_Assign_Subscript (thn (hv.run pins s σ H _ I h) fun r s1 ⟨v, H1, I1, rv, q1⟩ => thn (ho.run pins s1 σ H1 _ I1 q1) fun u s2 ⟨x, H2, I2, rx, q2⟩ => thn (hi.run pins s2 σ H2 _ I2 q2) fun iv s3 ⟨y, H3, I3, ry, a, b, k, t, d, xs, ex, ey, ev, hk, d2, hn, hl, q3⟩ => ?_) hs
  subst ex ey ev
  obtain rfl : u = Value.ref a := rx
  obtain rfl : iv = Value.ref b := ry
  obtain ⟨ys, R⟩ := tm_ofX I3 d2
  have l1 : xs.length = t.length := Paired.length R.tt
  have hz : ys.length ≤ sizeLine := by rw [← Paired.length R.ty]; exact R.sz
  obtain ⟨z1, z2⟩ := at_rel k R.ty R.tt
  have hno := z1 hn
  refine wpAny_setItem_heap (hsz := hz) (tupleKind_room_in1 hu) (key_is I3 hk) R.d fun h' dd' hs' => ?_
  rw [storedH_new hno] at dd'
  obtain ⟨oo, es, ep, g1, g2, g3, g4, _, g5⟩ := dd'
  obtain ⟨I4, T4⟩ := td_write (t' := s3.toks + (tupleKind (mixKind X.prog X.w)).draws k.enc) (zs := xs ++ [(k.enc, b, .int d)]) (t2 := t ++ [(k, d)]) I3 R.at_ hs'
    ⟨by rw [List.length_append]; show xs.length + 1 ≤ _; omega, R.sm, _, Paired.snoc R.ty ⟨rfl, rfl, rv⟩, oo, es, ep, g1, g2, g3, g4, g5⟩ (Paired.snoc R.tt ⟨rfl, hk, rfl⟩)
  exact ⟨σ, _, I4, q3⟩
end
/-! ### walking the dict by its items -/
def ItT (P : Program) (w : World) (a : Addr) (o : Obj) (xs : TX) : It :=
  ⟨fun i H => H a = some (.frz o (tdO P w a xs)) ∧ i < xs.length, fun i H x H' => ∃ T k b v, xs[i]? = some (k, b, v) ∧ x = .ref T ∧ H T = none ∧ H' = upd H T (.tup [.ref b, v]), fun i H => H a = some (.frz o (tdO P w a xs)) ∧ xs.length ≤ i⟩
theorem tdP_read {P : Program} {w : World} {a : Addr} {xs : TX} {h : Heap} {o : Obj} {es : Array DictEntry} {ep : Nat} (p : tdP P w a xs h) (ho : h.get? a = some o) (hod : o.data = .dict es ep) :
    (a == sysModules) = false ∧ h.DictRaw a es ep ∧ o.ExactDict ∧ es.size = xs.length ∧ ∀ (i : Nat) (hi : i < es.size) (k : List L2.Key) (b : Addr) (v : V), xs[i]? = some (k, b, v) → es[i].key = .ref b ∧ RelV v es[i].val := by
  obtain ⟨z, hd, ys, r, o', es', ep', ho', hx, hdat, he, hn⟩ := p
  rw [ho] at ho'
  cases ho'
  rw [hod] at hdat
  cases hdat
  have l1 : es.size = ys.length := size_of_entries he
  have l2 : xs.length = ys.length := Paired.length r
  refine ⟨hd, ⟨o, ho, hx, hod⟩, hx, by omega, fun i hi k b v hxi => ?_⟩
  obtain ⟨y, hy, e1, e2, e3⟩ := paired_get r hxi
  have q := entry_at he i
  rw [hy] at q
  have q2 : es[i]? = some es[i] := Array.getElem?_eq_getElem hi
  rw [q2] at q
  have q3 : es[i] = entryOfKey (tupleKind (mixKind P w)) y := Option.some.inj q
  rw [q3]
  exact ⟨by show Value.ref y.2.1 = _; rw [← e2], e3⟩
theorem turn_t {P : Program} {w : World} {K : PySem.W.Frag} {a : Addr} {o : Obj} {xs : TX} {es : Array DictEntry} {ep : Nat} {elts : List Expr} {kk : Nat} {tpos : Pos} (it : Addr) (hod : o.data = .dict es ep) :
    Turn P w K (.Tuple elts kk tpos) (ItT P w a o xs) [it] it (fun i h => ∃ ok ov, IsItemIter h it a i xs.length ep ok ov) where
  mem := by simp
  obj := fun i h st b hb => by
    have e : b = it := by simpa using hb
    subst e
    obtain ⟨ok, ov, e⟩ := st
    exact ⟨_, e, fun v z => nomatch z⟩
  keep := fun i h h' st k => let ⟨ok, ov, e⟩ := st; ⟨ok, ov, k it (by simp) _ e⟩
  item := by
    intro X hP hw hK hc i pins s σ H E I hf st hg
    subst hP hw hK
    obtain ⟨hd, hi⟩ := hg
    have hr := I.hok a _ hd
    obtain ⟨_, hm, _, hsz, hent⟩ := tdP_read (show tdP X.prog X.w a xs s.heap from hr.2.1) hr.1 hod
    obtain ⟨⟨k, b, v⟩, hkv⟩ : ∃ p, xs[i]? = some p := ⟨xs[i], List.getElem?_eq_getElem hi⟩
    obtain ⟨ok, ov, he⟩ := st
    rw [← hsz] at he
    have hlt' : i < es.size := by omega
    obtain ⟨ek, ev⟩ := hent i hlt' k b v hkv
    have hlt : it < s.heap.objs.size := Heap.lt_size he
    refine wpAny_pyNext_items_item_raw he hm hlt' fun h' ho hT hz hk => ?_
    refine ⟨_, rfl, wpAny_letOwnedTupleGo_items (s := { s with heap := h' }) ho fun h2 he2 sb => ?_⟩
    have hT2 : h2.get? s.heap.objs.size = some { cls := .type "tuple", data := .seq #[es[i].key, es[i].val] } := (sb.2 _ (Nat.ne_of_gt hlt)).trans hT
    have new : ObjOk X.prog X.w (upd H s.heap.objs.size (.tup [.ref b, v])) h2 s.heap.objs.size (.tup [.ref b, v]) :=
      ⟨by show 2 ≤ sizeLine; decide, [es[i].key, es[i].val], .cons ek (.cons ev .nil), ⟨_, hT2, rfl, _, rfl⟩⟩
    have I1 : Inv X pins σ (upd H s.heap.objs.size (.tup [.ref b, v])) { s with heap := h2 } :=
      I.turnedNew (t' := s.toks) (ch := [it]) (fun c ob hc e => (sb.2 c (by simpa using hc)).trans (hk c ob (by simpa using hc) e)) hf (Nat.le_refl _) new
    refine ⟨.ref s.heap.objs.size, _, I1, rfl, ⟨_, k, b, v, hkv, rfl, I.hok.fresh (Nat.le_refl _), rfl⟩, ⟨es[i].key, es[i].val, ?_⟩, fun c hc => ?_⟩
    · rw [← hsz]
      exact he2
    · have e : c = it := by simpa using hc
      rw [e, upd_ne (Nat.ne_of_lt hlt)]
      exact (hf it (by simp)).1
  done := by
    intro X hP hw hK hc i pins s σ H E I hf st hg
    subst hP hw hK
    obtain ⟨hd, hi⟩ := hg
    obtain ⟨f0, f1, f2, f3, f4, f5⟩ := hf it (by simp)
    have hr := I.hok a _ hd
    obtain ⟨_, hm, _, hsz, _⟩ := tdP_read (show tdP X.prog X.w a xs s.heap from hr.2.1) hr.1 hod
    obtain ⟨ok, ov, he⟩ := st
    rw [← hsz] at he
    exact wpAny_pyNext_items_end_raw (I.ok.hd hc) he hm (by omega) fun h' eb => ⟨rfl, I.turned (t' := s.toks) (fun b ob hb e => eb b ob hb e) f0 f1 f3 f4 f5⟩
  self := fun A i s Q E st h => let ⟨_, _, e⟩ := st; PySem.W.kcp_self e h
def iTItems (P : Program) (w : World) (td : TE) : TI := fun σ H R => td σ H fun x H1 => ∃ a o xs, x = .ref a ∧ H1 a = some (.frz o (tdO P w a xs)) ∧ R (ItT P w a o xs) H1
theorem pi_titems {X : Cx} {e : Expr} {td : TE} {apos cpos : Pos} {elts : List Expr} {kk : Nat} {tpos : Pos} (he : PE X e td) (hbase : attributeBase e "items" X.env (eval e X.env) = eval e X.env := by rfl) (hline : (apos.endLine == cpos.line) = true := by rfl) :
    PI X (.Tuple elts kk tpos) (.Call (.Attribute e "items" apos) [] [] cpos) (iTItems X.prog X.w td) := by
  refine ⟨fun pins s σ H R I h => ?_⟩
  refine wpAny_Call_method (T := "dict") (id := "dict.items") hbase rfl hline F.plainAttrs_dict F.slot_dict_items F.type_dict_items (thn (he.run pins s σ H _ I h) fun u s1 ⟨x, H1, I1, rx, a, o, xs, ex, hd, q⟩ => ?_)
  subst ex
  obtain rfl : u = Value.ref a := rx
  have hr := I1.hok a _ hd
  obtain ⟨es, ep, hod⟩ : ∃ es ep, o.data = .dict es ep := by
    obtain ⟨_, _, ys, _, o', es, ep, ho', _, hdat, _⟩ := (show tdP X.prog X.w a xs s1.heap from hr.2.1)
    rw [hr.1] at ho'
    cases ho'
    exact ⟨es, ep, hdat⟩
  obtain ⟨hs, hm, hx, hsz, _⟩ := tdP_read (show tdP X.prog X.w a xs s1.heap from hr.2.1) hr.1 hod
  refine ⟨hm.typeIs, fun b q => by cases q; exact ⟨o, hr.1, hx.2.1⟩, ?_⟩
  have I2 : Inv X pins σ H1 { s1 with heap := s1.heap.push { cls := .type "dict_items", data := .fields #[.ref a] } } := I1.kept (t' := s1.toks) fun b ob q => Heap.get?_push_of_some _ q
  have fin : wpAny (model X.prog X.w) X.A (pyIter (.ref s1.heap.objs.size)) (PIE X pins σ (.Tuple elts kk tpos) R) X.xe { s1 with heap := s1.heap.push { cls := .type "dict_items", data := .fields #[.ref a] } } := by
    refine wpAny_pyIter_items_raw (d := a) ⟨_, Heap.get?_push_size _ rfl, rfl, rfl⟩ (hm.at fun _ e => Heap.get?_push_of_some _ e) (pi_one (tk := s1.toks) I2 _ (turn_t _ hod) ⟨.none, .none, ?_⟩ q)
    rw [← hsz]
    exact Heap.get?_push_size _ rfl
  show wpAny _ _ (callWith cpos (.builtin "dict.items") [.ref a] [] []) _ X.xe s1
  exact method_meetsIn F.slot_dict_items F.entry_dict_items rfl (PySem.evalArgs_none ⟨rfl, hm.typeIs, F.args_dict_items_1 _, _, meets_dict_items_raw a hs, ⟨es, ep, hm⟩, fin⟩)
/-! ### loops over anything that is walked n turns -/
theorem for_any {J : It} {n : Nat} {g : TG} {tb : TS} {D : Ends} {σ : St} {H : Hp} (Pv : Nat → St → Hp → Prop) (h0 : Pv 0 σ H)
    (hs : ∀ i σ H, i < n → Pv i σ H → J.go i H ∧ ∀ x H', J.yld i H x H' → g x σ H' fun σ2 H2 => tb { D with nx := Pv (i + 1), ct := Pv (i + 1), bk := D.nx } σ2 H2) (hd : ∀ σ H, Pv n σ H → J.stop n H ∧ D.nx σ H) :
    ∃ W : Nat → Nat → St → Hp → Prop, (∃ m, W 0 m σ H) ∧ ∀ i m σ H, W i m σ H →
      (J.stop i H ∧ D.nx σ H) ∨ (J.go i H ∧ ∃ N : St → Hp → Prop, (∀ σ' H', N σ' H' → ∃ m', m' < m ∧ W (i + 1) m' σ' H') ∧ ∀ x H', J.yld i H x H' → g x σ H' fun σ2 H2 => tb { D with nx := N, ct := N, bk := D.nx } σ2 H2) := by
  refine ⟨fun i m σ H => m = n - i ∧ i ≤ n ∧ Pv i σ H, ⟨n, by simp, Nat.zero_le _, h0⟩, ?_⟩
  rintro i m σ H ⟨rfl, hi, p⟩
  by_cases hlt : i < n
  · obtain ⟨q1, q2⟩ := hs i σ H hlt p
    exact .inr ⟨q1, Pv (i + 1), fun σ' H' p' => ⟨n - (i + 1), by omega, rfl, hlt, p'⟩, q2⟩
  · have e : i = n := by omega
    subst e
    exact .inl (hd σ H p)
theorem lc_any {J : It} {n : Nat} {g : TG} {tt : TT} {te : TE} {vs : List Nat} {σ : St} {H1 : Hp} {D : Addr} {Qd : Hp → Prop} (Pv : Nat → Hp → Prop) (h0 : Pv 0 (upd H1 D (.lst [])))
    (hs : ∀ i H, i < n → Pv i H → J.go i H ∧ ∀ x H', J.yld i H x H' → g x (wipe σ vs) H' fun σ2 H2 => wipe σ2 vs = wipe σ vs ∧ tt σ2 H2 fun b H3 =>
      if b = true then te σ2 H3 fun y H4 => ∃ acc, H4 D = some (.lst acc) ∧ acc.length < sizeLine ∧ Pv (i + 1) (upd H4 D (.lst (acc ++ [y]))) else Pv (i + 1) H3) (hd : ∀ H, Pv n H → J.stop n H ∧ Qd H) :
    ∃ W : Nat → Nat → Hp → Prop, (∃ m, W 0 m (upd H1 D (.lst []))) ∧ ∀ i m H, W i m H →
      (J.stop i H ∧ Qd H) ∨ (J.go i H ∧ ∃ Nx : Hp → Prop, (∀ H', Nx H' → ∃ m', m' < m ∧ W (i + 1) m' H') ∧ ∀ x H', J.yld i H x H' → g x (wipe σ vs) H' fun σ2 H2 => wipe σ2 vs = wipe σ vs ∧ tt σ2 H2 fun b H3 =>
        if b = true then te σ2 H3 fun y H4 => ∃ acc, H4 D = some (.lst acc) ∧ acc.length < sizeLine ∧ Nx (upd H4 D (.lst (acc ++ [y]))) else Nx H3) := by
  refine ⟨fun i m H => m = n - i ∧ i ≤ n ∧ Pv i H, ⟨n, by simp, Nat.zero_le _, h0⟩, ?_⟩
  rintro i m H ⟨rfl, hi, p⟩
  by_cases hlt : i < n
  · obtain ⟨q1, q2⟩ := hs i H hlt p
    exact .inr ⟨q1, Pv (i + 1), fun H' p' => ⟨n - (i + 1), by omega, rfl, hlt, p'⟩, q2⟩
  · have e : i = n := by omega
    subst e
    exact .inl (hd H p)
end L2.TP
/-! sorted(d) and sorted(d, reverse=True) of a dict whose keys are texts, of any length. -/
namespace L2.TP
open PySem PySem.Spec PyProof.Rows L2
/-! ### texts in order -/
theorem ltS_iff {a b : Str} : ltS a b = true ↔ a.cps.toList < b.cps.toList := by unfold ltS; exact decide_eq_true_iff
theorem ltS_no {a b : Str} : ltS a b = false ↔ b.cps.toList ≤ a.cps.toList := by
  unfold ltS
  rw [decide_eq_false_iff_not]
  exact List.not_lt
theorem leS_iff {a b : Str} : leS a b = true ↔ a.cps.toList ≤ b.cps.toList := by
  unfold leS
  rw [Bool.not_eq_true', ltS_no]
theorem str_ext {a b : Str} (h : a.cps.toList = b.cps.toList) : a = b := by
  obtain ⟨a⟩ := a
  obtain ⟨b⟩ := b
  have e : a = b := Array.toList_inj.mp h
  rw [e]
theorem leS_anti {a b : Str} (h1 : leS a b = true) (h2 : leS b a = true) : a = b := str_ext (List.le_antisymm (leS_iff.mp h1) (leS_iff.mp h2))
theorem leS_trans {a b c : Str} (h1 : leS a b = true) (h2 : leS b c = true) : leS a c = true := leS_iff.mpr (List.le_trans (leS_iff.mp h1) (leS_iff.mp h2))
theorem leS_total (a b : Str) : (leS a b || leS b a) = true := by
  rcases List.le_total a.cps.toList b.cps.toList with h | h
  · rw [leS_iff.mpr h]; rfl
  · rw [leS_iff.mpr h, Bool.or_true]
theorem srt_perm (l : List Str) : (srt l).Perm l := List.mergeSort_perm l leS
theorem srt_pair (l : List Str) : (srt l).Pairwise fun a b => leS a b = true := List.pairwise_mergeSort (le := leS) (fun _ _ _ => leS_trans) leS_total l
theorem pair_unique : ∀ {l m : List Str}, l.Perm m → (l.Pairwise fun a b => leS a b = true) → (m.Pairwise fun a b => leS a b = true) → l = m := by
  intro l m hp hl hm
  exact hp.eq_of_pairwise (fun a b _ _ h1 h2 => leS_anti h1 h2) hl hm
theorem srt_of {l ys : List Str} (hp : ys.Perm l) (hs : ys.Pairwise fun a b => leS a b = true) : ys = srt l := pair_unique (hp.trans (srt_perm l).symm) hs (srt_pair l)
theorem srt_congr {l m : List Str} (h : l.Perm m) : srt l = srt m := srt_of ((srt_perm l).trans h) (srt_pair l)
theorem risingS_pair : ∀ {l : List Str} {p : Str}, risingS p l = true → ∀ x ∈ l, leS p x = true
  | [], _, _, x, hx => nomatch hx
  | y :: r, p, h, x, hx => by
    have h2 : (!ltCps y.cps.toList p.cps.toList && risingS y r) = true := h
    obtain ⟨h3, h4⟩ := Bool.and_eq_true_iff.mp h2
    have h5 : leS p y = true := by
      unfold leS ltS
      have e : ltCps y.cps.toList p.cps.toList = decide (y.cps.toList < p.cps.toList) := by
        exact ltCps_eq _ _
      rw [← e]
      exact h3
    rcases List.mem_cons.mp hx with rfl | hx
    · exact h5
    · exact leS_trans h5 (risingS_pair h4 x hx)
theorem risingS_all : ∀ {l : List Str} {p : Str}, risingS p l = true → l.Pairwise fun a b => leS a b = true
  | [], _, _ => .nil
  | y :: r, p, h => by
    have h2 : (!ltCps y.cps.toList p.cps.toList && risingS y r) = true := h
    obtain ⟨h3, h4⟩ := Bool.and_eq_true_iff.mp h2
    exact List.pairwise_cons.mpr ⟨fun x hx => risingS_pair h4 x hx, risingS_all h4⟩
theorem sortedS_pair {l : List Str} (h : sortedS l = true) : l.Pairwise fun a b => leS a b = true := by
  cases l with
  | nil => exact .nil
  | cons x r =>
    have h2 : risingS x r = true := h
    exact List.pairwise_cons.mpr ⟨risingS_pair h2, risingS_all h2⟩
theorem srt_len (l : List Str) : (srt l).length = l.length := (srt_perm l).length_eq
/-! ### the keys of a dict, gathered -/
section
variable {X : Cx}
def rSortD : List V → Hp → VK → Prop := fun xs H Q => ∃ (a : Addr) (kvs : List (L2.Key × V)) (ks : List Str), xs = [.ref a] ∧ Rd H a (.dK kvs) ∧ kvs.map (·.1) = ks.map Sum.inr ∧ ∀ p, H p = none → Q (.ref p) (upd H p (.lst ((srt ks).map V.str)))
theorem keys_are {vs : List (L2.Key × Value)} {ks : List Str} {acc : List Value} (hkeys : vs.map (·.1) = ks.map Sum.inr) (hl : acc.length = vs.length)
    (h : ∀ (j : Nat) (v : Value), acc[j]? = some v → ∃ (k : L2.Key) (x : Value), vs[j]? = some (k, x) ∧ keyIs k v = true) : StrsAre acc ks := by
  have e0 : vs.length = ks.length := by
    have e := congrArg List.length hkeys
    simpa using e
  refine strs_at (by rw [hl, e0]) fun j v e => ?_
  obtain ⟨k, x, e1, e2⟩ := h j v e
  have e3 : (ks.map Sum.inr)[j]? = some k := by rw [← hkeys, List.getElem?_map, e1] <;> rfl
  rw [List.getElem?_map] at e3
  obtain ⟨y, hy, rfl⟩ := Option.map_eq_some_iff.mp e3
  obtain ⟨t, ev⟩ := Value.isStrOf_shape (x := y) (v := v) e2
  exact ⟨y, t, hy, ev⟩
/-- sorted(d) -/
theorem cr_sortD (hcalm : X.calm = true) : CallR X (.builtin "sorted") rSortD := by
  intro pins s σ H xs us Q I r q
  obtain ⟨a, kvs, ks, rfl, hd, hks, q⟩ := q
  obtain ⟨u, rfl, rx⟩ := vals1 r
  cases rx
  obtain ⟨z, lo, vs, rel, dd⟩ := dk_rd I.hok hd
  obtain ⟨ep, hat⟩ := dd.dictAt
  have hkeys : vs.map (·.1) = ks.map Sum.inr := rel.keys.symm.trans hks
  have hz : vs.length ≤ sizeLine := by rw [← rel.length]; exact z
  refine Calls.call_function_entry PyProof.Rows.kind_sorted PyProof.Rows.plain_sorted PyProof.Rows.entry_sorted (PyProof.Rows.args_sorted1 _) ?_
  unfold Builtin.«sorted»
  refine wpAny_bind (m := checkCount "sorted" 1 1 _) (wpAny_pure ?_)
  refine wpAny_bind (PySem.W.kdu_collect (A := X.A.in1) (PySem.W.kdl_dict (knd := mixKind X.prog X.w) (kvs := vs) (ep := ep) lo) (I.ok.hd hcalm) hat hz fun h' tk acc hk hacc => ?_)
  have hal : acc.toList.length = vs.length := by rw [Array.length_toList, hacc.1]
  have hS : StrsAre acc.toList ks := keys_are hkeys hal fun j v e => hacc.2 j v (by rw [← Array.getElem?_toList]; exact e)
  have I1 : Inv X pins σ H { s with heap := h', toks := tk } := I.kept hk
  refine wpAny_bind (wpAny_newList ?_ (by rw [hal]; exact hz))
  have hoL : (h'.push (seqObj "list" acc.toList.toArray 0)).get? h'.objs.size = some (seqObj "list" acc.toList.toArray 0) := Heap.get?_push_size _ rfl
  show wpAny _ _ _ _ _ { s with heap := h'.push (seqObj "list" acc.toList.toArray 0), toks := tk }
  refine wpAny_bind (wpAny_holding (wpAny_call_entry PyProof.Rows.slot_list_sort ⟨_, hoL, rfl⟩ PyProof.Rows.entry_list_sort
    (list_sort_treeKAny strKind_oneLt (s := { s with heap := h'.push (seqObj "list" acc.toList.toArray 0), toks := tk }) hoL hS.keysOf (fun v₁ v₂ rest e => keyKind_strs (by rw [← e]; exact hS)) (by rw [hal]; exact hz) fun st' hp hs => ⟨_, rfl, ?_⟩)
    (PyProof.Rows.args_list_sort _)))
  obtain ⟨ys, g1, g2, g3⟩ := sorted_out_str hS hp hs
  obtain ⟨e', he'⟩ := PyProof.Rows.sortedHeap_at (vs := acc.toList) (out := (arrOf st').map (·.2)) hoL
  have hks2 : ks.length = vs.length := by
    have e := congrArg List.length hkeys
    simpa using e.symm
  have ey : ys = srt ks := srt_of g2 (sortedS_pair g3)
  subst ey
  have hlen : ((srt ks).map V.str).length ≤ sizeLine := by
    rw [List.length_map, srt_len, hks2]
    exact hz
  refine wpAny_pure ⟨_, rfl, .ref h'.objs.size, upd H h'.objs.size (.lst ((srt ks).map V.str)), I1.laid (t' := tk) (fun b u e => ?_) (Nat.le_refl _)
    (show ObjOk X.prog X.w _ _ _ (.lst ((srt ks).map V.str)) from ⟨hlen, ((arrOf st').map (·.2)).toList, e', vals_of_strs g1, by rw [Array.toArray_toList]; exact he'⟩), rfl, q _ (I1.hok.fresh (Nat.le_refl _))⟩
  have hb : b < h'.objs.size := Heap.lt_size e
  rw [PyProof.Rows.sortedHeap_old (Nat.ne_of_lt hb) (by rw [size_push']; exact Nat.lt_succ_of_lt hb)]
  exact Heap.get?_push_of_some _ e
end
/-! ### .. backwards -/
open SrtO SrtR in
section
variable {prog : Program} {w : World} {A : Around} {E : Value → Shared → Prop} {s : Shared}
def sv : Value → List Nat
  | .str x _ => x.cps.toList
  | _ => []
def ltSv (v u : Value) : Bool := decide (sv v < sv u)
theorem swo_sv : Swo ltSv := by
  refine ⟨fun x y h => ?_, fun x y z h1 h2 => ?_⟩
  · have a := of_decide_eq_true (p := sv x < sv y) h
    exact decide_eq_false (p := sv y < sv x) (List.lt_asymm a)
  · have a := List.not_lt.mp (of_decide_eq_false (p := sv y < sv x) h1)
    have b := List.not_lt.mp (of_decide_eq_false (p := sv z < sv y) h2)
    exact decide_eq_false (p := sv z < sv x) (List.not_lt.mpr (List.le_trans a b))
theorem strs_mem {vs : List Value} {ss : List Str} (h : StrsAre vs ss) : ∀ v ∈ vs, ∃ i t, v = Value.str i t := by
  induction h with
  | nil => intro v hv; exact absurd hv (by simp)
  | cons x t r ih =>
    intro v hv
    rcases List.mem_cons.mp hv with e | hv
    · exact ⟨x, t, e⟩
    · exact ih v hv
def tv : Value → Str
  | .str x _ => x
  | _ => ""
theorem strs_tv {vs : List Value} {ss : List Str} (h : StrsAre vs ss) : vs.map tv = ss := by
  induction h with
  | nil => rfl
  | cons x t r ih => exact congrArg (x :: ·) ih
theorem tv_strs : ∀ {vs : List Value}, (∀ v ∈ vs, ∃ i t, v = Value.str i t) → StrsAre vs (vs.map tv)
  | [], _ => .nil
  | v :: vs, h => by
    obtain ⟨i, t, e⟩ := h v List.mem_cons_self
    subst e
    exact .cons i t (tv_strs fun u hu => h u (List.mem_cons_of_mem _ hu))
theorem sv_cmp {vs : List Value} {ss : List Str} (hS : StrsAre vs ss) : Cmp prog w A s oneType' (fun p => p.1 ∈ vs) (lt2 ltSv) := by
  intro p q hm hm'
  obtain ⟨a, t, e⟩ := strs_mem hS _ hm
  obtain ⟨b, u, e'⟩ := strs_mem hS _ hm'
  show wpAny (model prog w) A (keyLt' oneType' p.1 q.1) (fun r s' => s' = s ∧ r = ltSv p.1 q.1) (fun _ _ => False) s
  rw [e, e', keyLt'_oneType]
  exact oneLt_str ⟨rfl, rfl⟩
theorem sv_sortable {a : Addr} {vs : List Value} {ss : List Str} (hS : StrsAre vs ss) (h2 : 2 ≤ vs.length) : SortableO prog w A s a vs ltSv := by
  intro h' _
  refine ⟨oneType', fun Q E hq => ?_, sv_cmp hS⟩
  match vs, hS, h2 with
  | v1 :: v2 :: rest, hS, _ =>
    rw [keyKind_strs hS]
    exact wpAny_pure hq
  | [], _, h => exact absurd h (by decide)
  | [v], _, h => exact absurd h (by simp)
theorem sv_out {vs out : List Value} {ss : List Str} (hS : StrsAre vs ss) (hs : Srtd ltSv out) (hb : Stb ltSv out vs.reverse) : StrsAre out.reverse (srt ss).reverse := by
  have hm : ∀ v ∈ out, ∃ i t, v = Value.str i t := fun v hv => strs_mem hS v (List.mem_reverse.mp (hb.perm.mem_iff.mp hv))
  have hp : (out.map tv).Perm ss := by
    have q := (hb.perm.map tv).trans ((List.reverse_perm vs).map tv)
    rw [strs_tv hS] at q
    exact q
  have hw : (out.map tv).Pairwise fun a b => leS a b = true := by
    refine List.pairwise_map.mpr (hs.imp_of_mem fun {x y} hx hy h => ?_)
    obtain ⟨a, t, rfl⟩ := hm x hx
    obtain ⟨b, u, rfl⟩ := hm y hy
    exact leS_iff.mpr (List.not_lt.mp (of_decide_eq_false h))
  have e : out.map tv = srt ss := srt_of hp hw
  rw [← e, ← List.map_reverse]
  exact tv_strs fun v hv => hm v (List.mem_reverse.mp hv)
end
def rSortDR : List V → List V → Hp → VK → Prop := fun xs zs H Q => ∃ (a : Addr) (kvs : List (L2.Key × V)) (ks : List Str), xs = [.ref a] ∧ zs = [.bl true] ∧ Rd H a (.dK kvs) ∧ kvs.map (·.1) = ks.map Sum.inr ∧ ∀ p, H p = none → Q (.ref p) (upd H p (.lst ((srt ks).reverse.map V.str)))
section
variable {X : Cx}
open SrtO SrtR in
/-- sorted(d, reverse=True) -/
theorem cr_sortDR (hcalm : X.calm = true) : CallRK X (.builtin "sorted") [Str.ofString "reverse"] rSortDR := by
  intro pins s σ H xs zs us ws Q I r rz q
  obtain ⟨a, kvs, ks, rfl, rfl, hd, hks, q⟩ := q
  obtain ⟨u, rfl, rx⟩ := vals1 r
  cases rx
  obtain ⟨v, rfl, rv⟩ := vals1 rz
  cases rv
  obtain ⟨z, lo, vs, rel, dd⟩ := dk_rd I.hok hd
  obtain ⟨ep, hat⟩ := dd.dictAt
  have hkeys : vs.map (·.1) = ks.map Sum.inr := rel.keys.symm.trans hks
  have hz : vs.length ≤ sizeLine := by rw [← rel.length]; exact z
  show wpAny _ _ (call (.builtin "sorted") [.ref a] [(Str.ofString "reverse", .bool true)]) _ _ s
  refine call_function_entry_kw kind_sorted plain_sorted entry_sorted (args_sorted_rev _ _) ?_
  unfold Builtin.«sorted»
  refine wpAny_bind (m := checkCount "sorted" 1 1 _) (wpAny_pure ?_)
  refine wpAny_bind (PySem.W.kdu_collect (A := X.A.in1) (PySem.W.kdl_dict (knd := mixKind X.prog X.w) (kvs := vs) (ep := ep) lo) (I.ok.hd hcalm) hat hz fun h' tk acc hk hacc => ?_)
  have hal : acc.toList.length = vs.length := by rw [Array.length_toList, hacc.1]
  have hS : StrsAre acc.toList ks := keys_are hkeys hal fun j v e => hacc.2 j v (by rw [← Array.getElem?_toList]; exact e)
  have I1 : Inv X pins σ H { s with heap := h', toks := tk } := I.kept hk
  refine wpAny_bind (wpAny_newList ?_ (by rw [hal]; exact hz))
  have hoL : (h'.push (seqObj "list" acc.toList.toArray 0)).get? h'.objs.size = some (seqObj "list" acc.toList.toArray 0) := Heap.get?_push_size _ rfl
  show wpAny _ _ _ _ _ { s with heap := h'.push (seqObj "list" acc.toList.toArray 0), toks := tk }
  refine wpAny_bind (wpAny_holding (wpAny_call_entry_kw slot_list_sort ⟨_, hoL, rfl⟩ entry_list_sort
    (list_sort_ordR (b := true) (s := { s with heap := h'.push (seqObj "list" acc.toList.toArray 0), toks := tk }) swo_sv hoL (by rw [hal]; exact hz) (fun h2 => sv_sortable hS h2) fun out hs hb => ⟨_, rfl, ?_⟩)
    (args_list_sort_rev _ _)))
  have hb2 : Stb ltSv out acc.toList.reverse := hb
  have g1 := sv_out hS hs hb2
  obtain ⟨e', he'⟩ := PyProof.Rows.sortedHeap_at (vs := acc.toList) (out := out.toArray.reverse) hoL
  have hks2 : ks.length = vs.length := by
    have e := congrArg List.length hkeys
    simpa using e.symm
  have hlen : ((srt ks).reverse.map V.str).length ≤ sizeLine := by
    rw [List.length_map, List.length_reverse, srt_len, hks2]
    exact hz
  refine wpAny_pure ⟨_, rfl, .ref h'.objs.size, upd H h'.objs.size (.lst ((srt ks).reverse.map V.str)), I1.laid (t' := tk) (fun b u e => ?_) (Nat.le_refl _)
    (show ObjOk X.prog X.w _ _ _ (.lst ((srt ks).reverse.map V.str)) from ⟨hlen, out.reverse, e', vals_of_strs g1, by simpa using he'⟩), rfl, q _ (I1.hok.fresh (Nat.le_refl _))⟩
  have hb : b < h'.objs.size := Heap.lt_size e
  rw [if_pos rfl, PyProof.Rows.sortedHeap_old (Nat.ne_of_lt hb) (by rw [size_push']; exact Nat.lt_succ_of_lt hb)]
  exact Heap.get?_push_of_some _ e
end
end L2.TP
/-! list.extend by a dict; a, b stored into attributes; repr of data. -/
namespace L2.TP
open PySem PySem.Spec PyProof.Rows L2
/-! ### xs.extend(d) -/
theorem walks_shift {prog : Program} {w : World} {A : Around} {I : Addr} {fp wr : List Addr} {n : Nat} {P : Nat → Value → Prop} {St : Nat → Heap → Prop} (W : Walks prog w A I fp wr n P St) (m : Nat) (P0 : Nat → Value → Prop) :
    Walks prog w A I fp wr (m + n) (fun i v => if i < m then P0 i v else P (i - m) v) (fun i h => m ≤ i ∧ St (i - m) h) where
  sub := W.sub
  frame := fun i h h' st k => ⟨st.1, W.frame _ h h' st.2 k⟩
  item := fun i s Q E hi st hQ => W.item (i - m) s Q E (by have := st.1; omega) st.2 fun v h' tk hP hst hk => hQ v h' tk (by
    rw [if_neg (by have := st.1; omega)]
    exact hP) ⟨by have := st.1; omega, by
      have e : i + 1 - m = i - m + 1 := by have := st.1; omega
      rw [e]
      exact hst⟩ hk
  done := fun s Q E st hQ => W.done s Q E (by
    have e : m + n - m = n := by omega
    have q := st.2
    rw [e] at q
    exact q) hQ
  self := fun i s Q E st h => W.self _ s Q E st.2 h
theorem extend_run {prog : Program} {w : World} {A : Around} {s : Shared} {T : String} {r d : Addr} {n : Nat} {P : Nat → Value → Prop} {OK : Heap → Prop} {R : Result → Shared → Prop} (K : PySem.W.KdlSrc prog w T r d n P OK) (hh : A.handled = none) (hok : OK s.heap) (S : Addr) (hSr : S ≠ r) (hSd : S ≠ d) (xs : Array Value) (c0 : Nat)
    (hS : s.heap.get? S = some { cls := .type "list", data := .seq xs c0 }) (hn : xs.size + n < sizeLine)
    (hR : ∀ h' tk acc c', (∀ b o, b ≠ S → s.heap.get? b = some o → h'.get? b = some o) → h'.get? S = some { cls := .type "list", dict := none, data := .seq acc c', slots := #[] } →
      ItemsOf (fun i v => if i < xs.size then xs[i]? = some v else P (i - xs.size) v) acc (xs.size + n) → R (.ok (.ret .none)) { s with heap := h', toks := tk }) :
    wpAny (model prog w) A.in1 (Builtin.List.listExtendWith (.ref S) (.ref r) .none)
      (fun fin s' => match fin with | .done f => R (.ok f) s' | .again c' => c'.quiet = true ∧ codeAny (model prog w) A c' R s') (fun e s' => R (.error e) s') s := by
  have hSI : S ≠ s.heap.objs.size := Nat.ne_of_lt (Heap.lt_size hS)
  have hSf : S ∉ [s.heap.objs.size, d] := by
    intro h
    rcases List.mem_cons.mp h with h | h
    · exact hSI h
    · exact hSd (List.mem_singleton.mp h)
  obtain ⟨oI, St, hit, W, st⟩ := K.iter A.in1 s hh hok
  have W2 := walks_shift W xs.size (fun i v => xs[i]? = some v)
  have i0 : ItemsOf (fun i v => if i < xs.size then xs[i]? = some v else P (i - xs.size) v) xs xs.size := ⟨rfl, fun j v hj => by
    obtain ⟨hlt, _⟩ := Array.getElem?_eq_some_iff.mp hj
    show if j < xs.size then _ else _
    rw [if_pos hlt]
    exact hj⟩
  have key : ∀ (h : Heap) (c1 tk : Nat), St 0 h → (∀ b o, b ≠ S → s.heap.get? b = some o → h.get? b = some o) → h.get? S = some { cls := .type "list", data := .seq xs c1 } →
      codeAny (model prog w) A (.builtin "list.extend.loop" ⟨[.ref S, .ref s.heap.objs.size, .none], []⟩) R { s with heap := h, toks := tk } := by
    intro h c1 tk hst hk hS1
    have st2 : xs.size ≤ xs.size ∧ St (xs.size - xs.size) h := ⟨Nat.le_refl _, by rw [Nat.sub_self]; exact hst⟩
    refine codeAny_extend_loopS W2.toS (Nat.le_of_lt hn) S hSf .none n xs.size _ xs c1 (by omega) (Nat.le_add_right _ _) st2 hS1 i0 fun s' acc' c' hm hS' hacc => ?_
    rw [Moved.eq_with hm]
    refine hR s'.heap s'.toks acc' c' (fun b o hb e => hm.heap b o (fun hmem => ?_) (hk b o hb e)) hS' hacc
    rcases List.mem_cons.mp hmem with e' | hmem
    · exact hb e'
    · exact absurd (Heap.lt_size e) (by rw [List.mem_singleton.mp hmem]; exact Nat.lt_irrefl _)
  unfold Builtin.List.listExtendWith
  refine wpAny_bind (wpAny_typeOf (T := T) (K.type s hok) ?_)
  have h1 : Builtin.List.listSameRef (.ref S) (.ref r) = false := by simp [Builtin.List.listSameRef, hSr]
  simp only [h1, K.notList, K.notTuple, Bool.or_false, Bool.false_eq_true, if_false]
  refine wpAny_bind (hit _ _ ?_)
  have hS1 := Heap.get?_push_of_some oI hS
  refine wpAny_bind (wpAny_holding (K.hint _ _ _ _ (K.keep _ _ hok fun b _ o e => Heap.get?_push_of_some _ e) ?_))
  refine wpAny_ite_split (fun _ => ?_) (fun _ => wpAny_pure ⟨plainId_quiet PySem.F.plain_extend_loop _, key _ c0 _ st (fun b o _ e => Heap.get?_push_of_some _ e) hS1⟩)
  refine wpAny_bind (wpAny_rule ?_)
  refine wpAny_bind ?_
  show wpAny _ _ (updateSeq S (·.push .none) >>= fun _ => updateSeq S (·.pop)) _ _ _
  refine wpAny_bind (wpAny_updateSeq hS1 rfl ?_ (by omega) (by rw [Array.size_push]; omega))
  have hS2 := Heap.get?_update_self (Obj.mapSeq (·.push Value.none)) hS1 rfl
  refine wpAny_updateSeq hS2 rfl ?_ (by show (xs.push Value.none).size ≤ _; rw [Array.size_push]; omega) (by show (xs.push Value.none).pop.size ≤ _; rw [Array.size_pop, Array.size_push]; omega)
  have hS3 := Heap.get?_update_self (Obj.mapSeq (·.pop)) hS2 rfl
  have hS4 : (xs.push Value.none).pop = xs := Array.pop_push
  refine wpAny_pure ⟨plainId_quiet PySem.F.plain_extend_loop _, key _ _ _ ?_ (fun b o hb e => ?_) (hS3.trans (by
    show some ({ cls := .type "list", data := .seq ((xs.push Value.none).pop) _ } : Obj) = _
    rw [hS4]))⟩
  · refine W.frame 0 _ _ st fun b hb o e => ?_
    have hbS : b ≠ S := fun h => hSf (h ▸ hb)
    exact (Heap.get?_update_other _ _ (Ne.symm hbS)).trans ((Heap.get?_update_other _ _ (Ne.symm hbS)).trans e)
  · exact (Heap.get?_update_other _ _ (Ne.symm hb)).trans ((Heap.get?_update_other _ _ (Ne.symm hb)).trans (Heap.get?_push_of_some _ e))
theorem vals_items {its acc : List Value} {xs : List V} {kvs : List (L2.Key × V)} {vs : List (L2.Key × Value)} (r : Vals xs its) (rel : KV kvs vs) (hl : acc.length = its.length + vs.length)
    (h : ∀ (j : Nat) (v : Value), acc[j]? = some v → if j < its.length then its[j]? = some v else ∃ (k : L2.Key) (x : Value), vs[j - its.length]? = some (k, x) ∧ keyIs k v = true) : Vals (xs ++ kvs.map fun p => kV p.1) acc := by
  have l1 := r.length
  have l2 := rel.length
  refine vals_of_at ?_ ?_
  · rw [List.length_append, List.length_map]; omega
  · intro j x v hx hv
    have q := h j v hv
    by_cases hj : j < its.length
    · rw [if_pos hj] at q
      rw [List.getElem?_append_left (by omega)] at hx
      obtain ⟨u, hu, ru⟩ := r.get hx
      rw [q] at hu
      cases hu
      exact ru
    · rw [if_neg hj] at q
      obtain ⟨k, y, hk, hi⟩ := q
      rw [List.getElem?_append_right (by omega), List.getElem?_map] at hx
      obtain ⟨⟨k2, w2⟩, hp, rfl⟩ := Option.map_eq_some_iff.mp hx
      rw [l1] at hp
      obtain ⟨u, hu, _⟩ := kv_get rel hp
      rw [hk] at hu
      cases hu
      exact relV_key hi
section
variable {X : Cx}
def rExtD : V → List V → Hp → VK → Prop := fun x vs H Q => ∃ l d xs kvs, x = .ref l ∧ vs = [.ref d] ∧ H l = some (.lst xs) ∧ Rd H d (.dK kvs) ∧ xs.length + kvs.length < sizeLine ∧ Q .non (upd H l (.lst (xs ++ kvs.map fun p => kV p.1)))
theorem mt_extD (hc : X.calm = true) : MtR X "list.extend" rExtD := by
  intro pins s σ H x vs v us Q I rx rv h
  obtain ⟨l, d, xs, kvs, rfl, rfl, hH, hD, hz, q⟩ := h
  cases rx
  obtain ⟨u, rfl, ru⟩ := rv.one
  cases ru
  obtain ⟨z, its, n, r, hl, e⟩ := I.lstM hH
  obtain ⟨zd, lo, ws, rel, dd⟩ := dk_rd I.hok hD
  obtain ⟨ep, hat⟩ := dd.dictAt
  have ne : l ≠ d := by
    rcases hD with hD | ⟨o, hD⟩
    · exact ne_of hH hD (fun z => nomatch z)
    · exact ne_of hH hD (fun z => nomatch z)
  have l1 := r.length
  have l2 := rel.length
  have es : its.toArray.size = its.length := List.size_toArray
  refine wpAny_call (codeAny_call_builtin F.slot_list_extend.plain F.entry_list_extend (F.slot_list_extend.check _ _ _ _ _ _ _ _ ⟨_, e, rfl⟩ (F.args_list_extend_2 _ _) ?_))
  show wpAny _ X.A.in1 (Builtin.List.listExtendWith (.ref l) (.ref d) .none) _ _ s
  refine wpAny_mono (extend_run (R := fun r s' => match r with
    | .ok (.ret v) => EP X pins σ Q v s'
    | _ => False) (PySem.W.kdl_dict (knd := mixKind X.prog X.w) (kvs := ws) (ep := ep) lo) (I.ok.hd hc) hat l ne ne its.toArray n e (by omega) fun h' tk acc c' hk hS hacc => ?_) (fun fin s' h => ?_) fun _ _ h => h.elim
  · have l3 : acc.toList.length = its.length + ws.length := by
      rw [Array.length_toList, hacc.1, es]
    have rv : Vals (xs ++ kvs.map fun p => kV p.1) acc.toList := vals_items r rel l3 fun j v hj => by
      have q2 := hacc.2 j v (by rw [← Array.getElem?_toList]; exact hj)
      rw [es] at q2
      have e4 : its.toArray[j]? = its[j]? := by simp
      rw [e4] at q2
      exact q2
    have hlen : (xs ++ kvs.map fun p => kV p.1).length ≤ sizeLine := by
      rw [List.length_append, List.length_map]
      omega
    refine ⟨.non, _, I.write (x := l) (e := l) (t' := tk) (by rw [hH]; exact True.intro) (.inl rfl) (fun b o hb e => hk b o hb e) ⟨_, hS⟩ ?_, rfl, q⟩
    exact ⟨hlen, acc.toList, c', rv, by rw [Array.toArray_toList]; exact hS⟩
  · cases fin with
    | done f =>
      cases f with
      | ret v => exact h
      | _ => exact h.elim
    | again c =>
      refine ⟨h.1, codeAny_mono h.2 fun r s2 h2 => ?_⟩
      cases r with
      | ok f =>
        cases f with
        | ret v => exact h2
        | _ => exact h2.elim
      | error e => exact h2.elim
end
/-! ### o.f as a target within a tuple -/
def gFld (K : PySem.W.Frag) (ta : TE) (f : Str) : TG := fun y σ H Q => ta σ H fun x H2 => ∃ a C dx fs, x = .ref a ∧ H2 a = some (.ins C dx fs) ∧ Cls K C ∧ NoAttr K C f ∧ fs.length < 1000 ∧ Q σ (upd H2 a (.ins C dx (putF f y fs)))
theorem pg_fld {X : Cx} {o : Expr} {ta : TE} {f : Str} {pos : Pos} (ho : PE X o ta) : PG X (.Attribute o f pos) (gFld X.K ta f) := by
  refine ⟨fun pins s σ H v u Q I r h => ?_⟩
  rw [PySem.assign_Attribute]
  refine wpAny_bind (wpAny_holding (thn (ho.run pins s σ H _ I h) fun ov s1 ⟨x, H1, I1, r1, a, C, dx, fs, ex, ea, c, n, l, q1⟩ => ?_))
  subst ex
  obtain rfl : ov = Value.ref a := r1
  refine wpAny_bind (wpAny_standAt (wpAny_bind (wpAny_holding ?_)))
  exact setattr_ok I1 ea c n l r fun s2 I2 => wpAny_release ⟨σ, _, I2, q1⟩
/-! ### repr of data -/
def rReprD (K : PySem.W.Frag) : List V → Hp → VK → Prop := fun vs H Q => ∃ a d, vs = [.ref a] ∧ Dp K H (.ref a) d ∧ d.showable = true ∧ d.hasDict = false ∧ d.shown.length ≤ sizeLine ∧ d.depth ≤ 60 ∧ Q (.str d.shown) H
theorem cr_reprD {X : Cx} (hg : X.A.guards = some []) (hu : X.A.units + 64 < cLine) : CallR X (.builtin "repr") (rReprD X.K) := by
  intro pins s σ H vs us Q I r h
  obtain ⟨a, d, rfl, hd, hs, hn, hz, hp, q⟩ := h
  obtain ⟨u, rfl, ru⟩ := vals1 r
  obtain ⟨as, rd⟩ := Dp.reads I d (.ref a) u hd ru
  obtain rfl : u = Value.ref a := ru
  refine repr_of_reads' rd hs (fun z => by rw [hn] at z; cases z) hg (by omega) (fun _ _ e => e) (fun h' w tk hk => ?_) hz
  exact ⟨.str d.shown, H, I.kept hk, ⟨w, rfl⟩, q⟩
/-! ### a def that is run only where nothing is being shown (guards) -/
structure FnG (P : Program) (w : World) (K : PySem.W.Frag) (mg : Str → Option Value) (base : Heap) (k : Nat) (f : Addr) (fd : FuncData) (ps : List Str) (sp : Sp) : Prop where
  len : ∀ vs H Q E, sp vs H Q E → vs.length = ps.length
  run : ∀ (A : Around) (outer : List Env) (s : Shared) (H : Hp) (args : Args) (us : List Value) (vs : List V) (Q : VK) (E : XK), A.guards = some [] → Room k A → Env0 P w K mg base A outer s H → BindsTo s fd args (ps.zip us) → Vals vs us → sp vs H Q E →
    codeAny (model P w) A (.call (.ref f) args) (CR CX0 outer P w H s Q E) s
theorem guards_deeper (A : Around) (env : Env) : (A.deeper env).guards = A.guards := by
  first
    | rfl
    | simp [Around.deeper]
section
variable {P : Program} {w : World} {K : PySem.W.Frag} {mg : Str → Option Value} {base : Heap} {x qual : Str} {params : Arguments} {body : List Stmt} {scope : Scope} {dvs : List V} {kws : List (Str × V)} {f : Addr} {fd : FuncData}
theorem FunD.okG {N ps : List Str} {k : Nat} {sp : Sp} (F : FunD K x qual params body scope dvs kws f fd) (S : FnScope N ps scope) (len : ∀ vs H Q E, sp vs H Q E → vs.length = ps.length)
    (hbody : ∀ (cdv : Value) (A : Around) (outer : List Env) (s : Shared) (H : Hp) (vs : List V) (Q : VK) (E : XK), A.guards = some [] → Room k (A.deeper (envOfC qual scope s.heap.objs.size f cdv)) → sp vs H Q E →
      ∃ t, PSs (cxOf CX0 P w K mg base N qual scope f cdv A outer s H E).nox body t ∧ t { nx := fun _ H' => Q .non H', rt := Q } (start N vs) H) : FnG P w K mg base (k + 1) f fd ps sp := by
  obtain ⟨oc, od, dV, kV, doc, pm, an, cdv, ct, osl, rfl, lk, hcd, _, _⟩ := F.ex
  refine ⟨len, fun A outer s H args us vs Q E hgd hr e0 hb r hsp => ?_⟩
  have hl := len _ _ _ _ hsp
  have KX : K.In s.heap := e0.mod.kin.keeps fun b o e => (e0.bs b o e).1
  have lim : s.heap.NoLimit := e0.mod.nolimit.keeps fun b o e => (e0.bs b o e).1
  have kinds : ∀ y ∈ ps.zip us, scope.names.lookup y.1 = some .local ∨ (scope.names.lookup y.1 = some .cell ∧ ((cellsFrom (s.heap.objs.size + 1) scope.names []).lookup y.1).isSome = true) := by
    intro y hy
    rcases S.par y.1 (List.of_mem_zip (show (y.1, y.2) ∈ ps.zip us from hy)).1 with q | q
    · exact .inl q
    · exact .inr ⟨q, PySem.W.cellsFrom_some _ _ _ (.inl q)⟩
  refine codeAny_call_function hr.depth (KX _ _ lk) rfl S.co S.gen rfl (PySem.W.codeRec_of KX hcd) (hb _ _ _ _ ?_)
  refine wpAny_newFunctionEnv_cells S.kind kinds fun env he s1 x1 => ?_
  subst he
  refine ⟨lim.keeps x1.toInCall.keep, codeAny_func ?_⟩
  obtain ⟨t, ht0, hq⟩ := hbody cdv A outer s H vs Q E hgd (hr.deeper _) hsp
  have ht := ht0.nox
  have I : Inv (cxOf CX0 P w K mg base N qual scope f cdv A outer s H E) [] (start N vs) H s1 := inv_start S hr.hd e0 hl r x1
  refine wpAny_mono (ht.run [] s1 (start N vs) H _ I hq) (fun fl s' hs => ?_) fun e s' hs => hs
  have fin : ∀ {σ' : St} {H' : Hp} {v : V} {u : Value}, Inv (cxOf CX0 P w K mg base N qual scope f cdv A outer s H E) [] σ' H' s' → RelV v u → Q v H' → CE outer P w H s Q u s' :=
    fun {σ' H' v u} J rv q => ⟨v, H', J.os, J.bare, J.base, J.hok, rv, q⟩
  match fl, hs with
  | .ret u, hs =>
    obtain ⟨v, σ', H', J, rv, q⟩ := hs
    exact fin J rv q
  | .next, hs =>
    obtain ⟨σ', H', J, q⟩ := hs
    exact fin (v := V.non) (u := Value.none) J rfl q
  | .brk, hs =>
    obtain ⟨_, _, _, q⟩ := hs
    exact q.elim
  | .cont, hs =>
    obtain ⟨_, _, _, q⟩ := hs
    exact q.elim
end
section
variable {X : Cx} {k : Nat} {f : Addr} {fd : FuncData} {ps : List Str} {sp : Sp} {x : Str} {p pos : Pos} {e : Expr} {es : List Expr} {t : TA}
/-- f(..) of such a def -/
theorem pe_callG (hgd : X.A.guards = some []) (F : FnG X.prog X.w X.K X.mg X.base k f fd ps sp) (hr : Room k X.A) (hg : Gl X x) (hm : X.mg x = some (.ref f)) (hk : PySem.W.keepIn X.K (.ref f) = true) (hb : Binds X.K fd ps [])
    (ha : PA X (e :: es) t) (hdb : (x == ("__debug__" : Str)) = false := by decide) (he : starEach (e :: es) X.env = (false, eval e X.env) :: starEach es X.env := by rfl) (hpl : (backTo pos (starEach es X.env)).any (·.1) = false := by rfl) :
    PE X (.Call (.Name x p) (e :: es) [] pos) (tCall sp [] E0 t) := by
  have F2 : ∀ {pins : List (Addr × Obj)} {σ : St} {H : Hp} {s : Shared} {Q : VK} {us : List Value} {vs : List V}, Inv X pins σ H s → Vals vs us → sp vs H Q E0 → wpAny (model X.prog X.w) X.A (call (.ref f) us) (EP X pins σ Q) X.xe s := by
    intro pins σ H s Q us vs I r h
    have hl : us.length = ps.length := by rw [← r.length]; exact F.len _ _ _ _ h
    have hbb := hb s us I.kIn (by rw [List.append_nil]; exact hl)
    rw [List.append_nil] at hbb
    refine wpAny_call (codeAny_mono (F.run X.A X.stack s H ⟨us, []⟩ us vs Q E0 hgd hr I.env0 hbb r h) fun rr s' hq => ?_)
    cases rr with
    | error e => exact hq.elim
    | ok fl =>
      cases fl with
      | ret u => exact I.after hq
      | next => exact hq.elim
      | brk => exact hq.elim
      | cont => exact hq.elim
  refine ⟨fun pins s σ H Q I h => ?_⟩
  refine wpAny_Call_Name_kw (ld_glob I hg hm ?_ hdb)
  refine PySem.W.callWith_K (h₀ := X.base) I.ok.mod.kin hk (thn (ha.run pos pins s σ H _ I h) fun us s1 ⟨vs, H1, I1, r1, q1⟩ => ⟨I1.kIn, ?_⟩) he hpl
  have q2 : sp (vs ++ []) H1 Q E0 := q1
  rw [List.append_nil] at q2
  exact F2 I1 r1 q2
end
end L2.TP
/-! Heaps: what stays, data, dicts with text keys, attributes by place. -/
namespace L2.TP
open PySem PySem.Spec PyProof.Rows L2
/-! ### what stays -/
theorem same_new {H : Hp} {p : Addr} {o : HO} (h : H p = none) : Same H (upd H p o) := fun b u e => by
  rw [upd_ne (ne_of_none e h)]
  exact e
/-- the tuples that stand are as they were -/
def TK' (H H' : Hp) : Prop := ∀ a xs, H a = some (.tup xs) → H' a = some (.tup xs)
theorem Same.tk {H H' : Hp} (e : Same H H') : TK' H H' := fun a xs h => e a _ h
theorem TK'.trans {H H1 H2 : Hp} (a : TK' H H1) (b : TK' H1 H2) : TK' H H2 := fun c xs h => b c xs (a c xs h)
theorem TK'.refl (H : Hp) : TK' H H := fun _ _ h => h
theorem tk_upd {H : Hp} {a : Addr} {u o : HO} (h : H a = some u) (hn : ∀ xs, u ≠ .tup xs) : TK' H (upd H a o) := fun b xs e => by
  rw [upd_ne (ne_of e h fun z => hn xs z.symm)]
  exact e
/-- the tuples alone -/
def tupH (H : Hp) : Hp := fun a => match H a with
  | some (.tup xs) => some (.tup xs)
  | _ => none
theorem tupH_of {H : Hp} {a : Addr} {xs : List V} (h : H a = some (.tup xs)) : tupH H a = some (.tup xs) := by
  unfold tupH
  rw [h]
theorem tupH_inv {H : Hp} {a : Addr} {o : HO} (h : tupH H a = some o) : ∃ xs, o = .tup xs ∧ H a = some (.tup xs) := by
  unfold tupH at h
  split at h
  · rename_i xs e
    exact ⟨xs, (Option.some.inj h).symm, e⟩
  · cases h
theorem tupH_same {H H' : Hp} (k : TK' H H') : Same (tupH H) (tupH H') := fun a o h => by
  obtain ⟨xs, rfl, e⟩ := tupH_inv h
  exact tupH_of (k a xs e)
theorem tupH_in (H : Hp) : Same (tupH H) H := fun a o h => by
  obtain ⟨xs, rfl, e⟩ := tupH_inv h
  exact e
theorem sqt_same {K : PySem.W.Frag} {H H' : Hp} (e : Same H H') {a : Addr} {xs : List V} (h : SqT K H a xs) : SqT K H' a xs := by
  rcases h with (h | ⟨o, h⟩) | h
  · exact .inl (.inl (e _ _ h))
  · exact .inl (.inr ⟨o, e _ _ h⟩)
  · exact .inr h
mutual
theorem Dp.same {K : PySem.W.Frag} {H H' : Hp} (e : Same H H') : ∀ {v : V} {d : PyData}, Dp K H v d → Dp K H' v d
  | _, _, .non => .non
  | _, _, .bl b => .bl b
  | _, _, .int i => .int i
  | _, _, .str x => .str x
  | _, _, .lst h q => .lst (e.seq h) (Dp.sameAll e q)
  | _, _, .tup h q => .tup (sqt_same e h) (Dp.sameAll e q)
theorem Dp.sameAll {K : PySem.W.Frag} {H H' : Hp} (e : Same H H') : ∀ {vs : List V} {ds : List PyData}, DpAll K H vs ds → DpAll K H' vs ds
  | _, _, .nil => .nil
  | _, _, .cons a b => .cons (Dp.same e a) (Dp.sameAll e b)
end
/-- data made of tuples, texts, numbers, None alone -/
def Dt (K : PySem.W.Frag) (H : Hp) (v : V) (d : PyData) : Prop := Dp K (tupH H) v d
def DtAll (K : PySem.W.Frag) (H : Hp) (vs : List V) (ds : List PyData) : Prop := DpAll K (tupH H) vs ds
section
variable {K : PySem.W.Frag} {H H' : Hp} {v : V} {d : PyData} {vs : List V} {ds : List PyData} {a : Addr}
theorem Dt.keep (h : Dt K H v d) (k : TK' H H') : Dt K H' v d := Dp.same (tupH_same k) h
theorem DtAll.keep (h : DtAll K H vs ds) (k : TK' H H') : DtAll K H' vs ds := Dp.sameAll (tupH_same k) h
theorem Dt.dp (h : Dt K H v d) : Dp K H v d := Dp.same (tupH_in H) h
theorem DtAll.dp (h : DtAll K H vs ds) : DpAll K H vs ds := Dp.sameAll (tupH_in H) h
theorem Dt.str {x : Str} : Dt K H (.str x) (.str x) := Dp.str x
theorem Dt.int {i : Int} : Dt K H (.int i) (.int i) := Dp.int i
theorem Dt.non : Dt K H .non .none := Dp.non
theorem DtAll.nil : DtAll K H [] [] := DpAll.nil
theorem DtAll.cons (h : Dt K H v d) (t : DtAll K H vs ds) : DtAll K H (v :: vs) (d :: ds) := DpAll.cons h t
theorem Dt.tup (h : H a = some (.tup vs)) (q : DtAll K H vs ds) : Dt K H (.ref a) (.tuple ds) := Dp.tup (.inl (.inl (tupH_of h))) q
theorem Dt.wtup (h : ∀ H, SqT K H a vs) (q : DtAll K H vs ds) : Dt K H (.ref a) (.tuple ds) := Dp.tup (h _) q
/-- a tuple's items -/
theorem Dt.items (h : Dt K H v (.tuple ds)) : ∃ a xs, v = .ref a ∧ SqT K H a xs ∧ DtAll K H xs ds := by
  cases h with
  | tup h q => exact ⟨_, _, rfl, sqt_same (tupH_in H) h, q⟩
theorem Dt.str_inv {x : Str} (h : Dt K H v (.str x)) : v = .str x := by
  cases h
  rfl
theorem Dt.int_inv {i : Int} (h : Dt K H v (.int i)) : v = .int i := by
  cases h
  rfl
theorem Dt.none_inv (h : Dt K H v .none) : v = .non := by
  cases h
  rfl
theorem DtAll.nil_inv (h : DtAll K H vs []) : vs = [] := by
  cases h
  rfl
theorem DtAll.cons_inv {ds : List PyData} (h : DtAll K H vs (d :: ds)) : ∃ v r, vs = v :: r ∧ Dt K H v d ∧ DtAll K H r ds := by
  cases h with
  | cons a b => exact ⟨_, _, rfl, a, b⟩
theorem DtAll.one_inv (h : DtAll K H vs [d]) : ∃ v, vs = [v] ∧ Dt K H v d := by
  obtain ⟨v, r, rfl, h1, h2⟩ := h.cons_inv
  rw [h2.nil_inv]
  exact ⟨v, rfl, h1⟩
theorem DtAll.two_inv {e : PyData} (h : DtAll K H vs [d, e]) : ∃ v u, vs = [v, u] ∧ Dt K H v d ∧ Dt K H u e := by
  obtain ⟨v, r, rfl, h1, h2⟩ := h.cons_inv
  obtain ⟨u, rfl, h3⟩ := h2.one_inv
  exact ⟨v, u, rfl, h1, h3⟩
theorem DtAll.three_inv {e f : PyData} (h : DtAll K H vs [d, e, f]) : ∃ v u z, vs = [v, u, z] ∧ Dt K H v d ∧ Dt K H u e ∧ Dt K H z f := by
  obtain ⟨v, r, rfl, h1, h2⟩ := h.cons_inv
  obtain ⟨u, z, rfl, h3, h4⟩ := h2.two_inv
  exact ⟨v, u, z, rfl, h1, h3, h4⟩
theorem DtAll.len (h : DtAll K H vs ds) : vs.length = ds.length := by
  have all : ∀ {H : Hp} {vs : List V} {ds : List PyData}, DpAll K H vs ds → vs.length = ds.length := by
    intro H vs
    induction vs with
    | nil => intro ds h; cases h; rfl
    | cons v r ih => intro ds h; cases h with | cons a b => exact congrArg Nat.succ (ih b)
  exact all h
theorem DtAll.get : ∀ {vs : List V} {ds : List PyData} {i : Nat} {d : PyData}, DtAll K H vs ds → ds[i]? = some d → ∃ v, vs[i]? = some v ∧ Dt K H v d
  | _, _, _, _, DpAll.nil, e => by simp at e
  | _, _, 0, _, DpAll.cons a b, e => by
    simp at e
    subst e
    exact ⟨_, rfl, a⟩
  | _, _, i + 1, d, DpAll.cons a b, e => by
    obtain ⟨v, h1, h2⟩ := DtAll.get (i := i) (d := d) b (by simpa using e)
    exact ⟨v, by simpa using h1, h2⟩
theorem DtAll.getV : ∀ {vs : List V} {ds : List PyData} {i : Nat} {v : V}, DtAll K H vs ds → vs[i]? = some v → ∃ d, ds[i]? = some d ∧ Dt K H v d
  | _, _, _, _, DpAll.nil, e => by simp at e
  | _, _, 0, _, DpAll.cons a b, e => by
    simp at e
    subst e
    exact ⟨_, rfl, a⟩
  | _, _, i + 1, v, DpAll.cons a b, e => by
    obtain ⟨d, h1, h2⟩ := DtAll.getV (i := i) (v := v) b (by simpa using e)
    exact ⟨d, by simpa using h1, h2⟩
theorem DtAll.append : ∀ {vs us : List V} {ds es : List PyData}, DtAll K H vs ds → DtAll K H us es → DtAll K H (vs ++ us) (ds ++ es)
  | _, _, _, _, DpAll.nil, q => q
  | _, _, _, _, DpAll.cons a b, q => DpAll.cons a (DtAll.append b q)
theorem DtAll.strs : ∀ {vs : List V} {xs : List Str}, DtAll K H vs (xs.map .str) → vs = xs.map V.str
  | _, [], h => by rw [DtAll.nil_inv h] <;> rfl
  | _, x :: xs, h => by
    obtain ⟨v, r, rfl, h1, h2⟩ := DtAll.cons_inv (show DtAll K H _ (.str x :: xs.map .str) from h)
    rw [Dt.str_inv h1, DtAll.strs h2] <;> rfl
theorem DtAll.of_strs : ∀ (xs : List Str), DtAll K H (xs.map V.str) (xs.map .str)
  | [] => DpAll.nil
  | x :: xs => DpAll.cons (Dp.str x) (DtAll.of_strs xs)
end
/-! ### dicts whose keys are texts -/
def DR {α : Type} (R : V → α → Prop) (kvs : List (L2.Key × V)) (m : List (Str × α)) : Prop := Paired (fun (p : L2.Key × V) (q : Str × α) => p.1 = Sum.inr q.1 ∧ R p.2 q.2) kvs m
section
variable {α : Type} {R R' : V → α → Prop} {kvs : List (L2.Key × V)} {m : List (Str × α)}
theorem DR.mono (h : DR R kvs m) (f : ∀ v a, R v a → R' v a) : DR R' kvs m := Paired.mapP h fun _ _ z => ⟨z.1, f _ _ z.2⟩
theorem DR.len (h : DR R kvs m) : kvs.length = m.length := Paired.length h
theorem DR.keys : ∀ {kvs : List (L2.Key × V)} {m : List (Str × α)}, DR R kvs m → kvs.map (·.1) = (m.map (·.1)).map Sum.inr
  | _, _, .nil => rfl
  | _, _, .cons a b => by
    rw [List.map_cons, List.map_cons, List.map_cons, a.1, DR.keys b]
theorem DR.get (k : Str) : ∀ {kvs : List (L2.Key × V)} {m : List (Str × α)}, DR R kvs m → (aget m k = none → valV kvs (Sum.inr k) = none) ∧ ∀ a, aget m k = some a → ∃ v, valV kvs (Sum.inr k) = some v ∧ R v a
  | _, _, .nil => ⟨fun _ => rfl, (fun a e => nomatch e)⟩
  | p :: kvs, q :: m, .cons a b => by
    by_cases h : q.1 = k
    · have hp : p.1 = Sum.inr k := by rw [a.1, h]
      have e2 : aget (q :: m) k = some q.2 := by simp [aget, List.find?_cons, h]
      rw [valV_pos hp, e2]
      exact ⟨(fun z => nomatch z), fun x z => ⟨p.2, rfl, by rw [← Option.some.inj z]; exact a.2⟩⟩
    · have hp : ¬ p.1 = Sum.inr k := fun z => h (Sum.inr.inj (a.1.symm.trans z))
      have e2 : aget (q :: m) k = aget m k := by simp [aget, List.find?_cons, h]
      rw [valV_neg hp, e2]
      exact DR.get k b
theorem ahas_get {m : List (Str × α)} {k : Str} : ahas m k = (aget m k).isSome := by
  unfold ahas aget
  rw [Option.isSome_map]
  induction m with
  | nil => rfl
  | cons p m ih =>
    by_cases h : p.1 = k
    · simp [h]
    · simp [h, ih]
theorem DR.has (h : DR R kvs m) (k : Str) : (valV kvs (Sum.inr k)).isSome = ahas m k := by
  rw [ahas_get]
  obtain ⟨h1, h2⟩ := h.get k
  cases e : aget m k with
  | none => rw [h1 e]; rfl
  | some a =>
    obtain ⟨v, hv, _⟩ := h2 a e
    rw [hv]
    rfl
theorem DR.drop (k : Str) : ∀ {kvs : List (L2.Key × V)} {m : List (Str × α)}, DR R kvs m → DR R (dropK kvs (Sum.inr k)) (adrop m k)
  | _, _, .nil => .nil
  | p :: kvs, q :: m, .cons a b => by
    have ih := DR.drop k b
    by_cases h : q.1 = k
    · have hp : p.1 = Sum.inr k := by rw [a.1, h]
      have z1 : dropK (p :: kvs) (Sum.inr k) = dropK kvs (Sum.inr k) := List.filter_cons_of_neg (by simp [hp])
      have z2 : adrop (q :: m) k = adrop m k := List.filter_cons_of_neg (by simp [h])
      rw [z1, z2]
      exact ih
    · have hp : ¬ p.1 = Sum.inr k := fun z => h (Sum.inr.inj (a.1.symm.trans z))
      have z1 : dropK (p :: kvs) (Sum.inr k) = p :: dropK kvs (Sum.inr k) := List.filter_cons_of_pos (by simp [hp])
      have z2 : adrop (q :: m) k = q :: adrop m k := List.filter_cons_of_pos (by simp [h])
      rw [z1, z2]
      exact .cons a ih
theorem DR.repl (k : Str) {v : V} {x : α} (hv : R v x) : ∀ {kvs : List (L2.Key × V)} {m : List (Str × α)}, DR R kvs m → DR R (kvs.map fun kv => if kv.1 = Sum.inr k then (kv.1, v) else kv) (m.map fun p => if p.1 = k then (p.1, x) else p)
  | _, _, .nil => .nil
  | p :: kvs, q :: m, .cons a b => by
    rw [List.map_cons, List.map_cons]
    refine .cons ?_ (DR.repl k hv b)
    by_cases h : q.1 = k
    · have hp : p.1 = Sum.inr k := by rw [a.1, h]
      rw [if_pos h, if_pos hp]
      exact ⟨a.1, hv⟩
    · have hp : ¬ p.1 = Sum.inr k := fun z => h (Sum.inr.inj (a.1.symm.trans z))
      rw [if_neg h, if_neg hp]
      exact a
theorem DR.put (h : DR R kvs m) (k : Str) {v : V} {x : α} (hv : R v x) : DR R (putK kvs (Sum.inr k) v) (aput m k x) := by
  unfold putK aput
  have e : (kvs.any fun kv => decide (kv.1 = Sum.inr k)) = ahas m k := by rw [valV_any, h.has k]
  rw [e]
  by_cases q : ahas m k = true
  · rw [if_pos q, if_pos q]
    exact h.repl k hv
  · rw [if_neg q, if_neg q]
    exact Paired.snoc h ⟨rfl, hv⟩
theorem DR.get_at {i : Nat} {p : L2.Key × V} (h : DR R kvs m) (e : kvs[i]? = some p) : ∃ q, m[i]? = some q ∧ p.1 = Sum.inr q.1 ∧ R p.2 q.2 := paired_get h e
end
theorem aput_len {α : Type} {m : List (Str × α)} {k : Str} {x : α} : (aput m k x).length ≤ m.length + 1 := by
  unfold aput
  split
  · rw [List.length_map]; omega
  · rw [List.length_append]; exact Nat.le_refl _
theorem adrop_len {α κ : Type} [DecidableEq κ] {m : List (κ × α)} {k : κ} : (adrop m k).length ≤ m.length := List.length_filter_le _ _
/-! ### attributes by their places -/
theorem zip_look : ∀ {ks : List Str} {vs : List V} {i : Nat} {f : Str} {v : V}, ks.Nodup → ks[i]? = some f → vs[i]? = some v → (ks.zip vs).lookup f = some v
  | [], _, _, _, _, _, h, _ => by simp at h
  | _ :: _, [], _, _, _, _, _, h => by simp at h
  | k :: ks, w :: vs, 0, f, v, nd, h1, h2 => by
    simp at h1 h2
    subst h1 h2
    show List.lookup k ((k, w) :: ks.zip vs) = some w
    simp [List.lookup]
  | k :: ks, w :: vs, i + 1, f, v, nd, h1, h2 => by
    have h1' : ks[i]? = some f := by simpa using h1
    have hne : f ≠ k := fun z => (List.nodup_cons.mp nd).1 (by rw [← z]; exact List.mem_of_getElem? h1')
    have hb : (f == k) = false := beq_eq_false_iff_ne.mpr hne
    show List.lookup f ((k, w) :: ks.zip vs) = some v
    simp only [List.lookup, hb]
    exact zip_look (List.nodup_cons.mp nd).2 h1' (by simpa using h2)
theorem zip_none : ∀ {ks : List Str} {vs : List V} {f : Str}, f ∉ ks → (ks.zip vs).lookup f = none
  | [], _, _, _ => rfl
  | _ :: _, [], _, _ => rfl
  | k :: ks, w :: vs, f, h => by
    have hb : (f == k) = false := beq_eq_false_iff_ne.mpr fun z => h (by rw [z]; exact List.mem_cons_self)
    show List.lookup f ((k, w) :: ks.zip vs) = none
    simp only [List.lookup, hb]
    exact zip_none fun z => h (List.mem_cons_of_mem _ z)
theorem zip_put : ∀ {ks : List Str} {vs : List V} {i : Nat} {f : Str} {v : V}, ks.Nodup → ks[i]? = some f → i < vs.length → putF f v (ks.zip vs) = ks.zip (vs.set i v)
  | [], _, _, _, _, _, h, _ => by simp at h
  | _ :: _, [], _, _, _, _, _, h => by simp at h
  | k :: ks, w :: vs, 0, f, v, nd, h1, _ => by
    simp at h1
    subst h1
    show (if k = k then (k, v) :: ks.zip vs else _) = _
    rw [if_pos rfl] <;> rfl
  | k :: ks, w :: vs, i + 1, f, v, nd, h1, h2 => by
    have h1' : ks[i]? = some f := by simpa using h1
    have hne : ¬ k = f := fun z => (List.nodup_cons.mp nd).1 (by rw [z]; exact List.mem_of_getElem? h1')
    show (if k = f then _ else (k, w) :: putF f v (ks.zip vs)) = _
    rw [if_neg hne, zip_put (List.nodup_cons.mp nd).2 h1' (by simpa using h2)] <;> rfl
/-- __init__ stores one attribute after another -/
theorem zip_new : ∀ {ks : List Str} {vs : List V} {f : Str} {v : V}, f ∉ ks.take vs.length → ks[vs.length]? = some f → putF f v (ks.zip vs) = ks.zip (vs ++ [v])
  | [], vs, _, _, _, h => by simp at h
  | k :: ks, [], f, v, _, h => by
    simp at h
    subst h
    cases ks <;> rfl
  | k :: ks, w :: vs, f, v, hn, h => by
    have hn' : f ∉ k :: ks.take vs.length := hn
    have hne : ¬ k = f := fun z => hn' (by rw [z]; exact List.mem_cons_self)
    show (if k = f then _ else (k, w) :: putF f v (ks.zip vs)) = _
    rw [if_neg hne, zip_new (fun z => hn' (List.mem_cons_of_mem _ z)) (by simpa using h)] <;> rfl
theorem zip_len {ks : List Str} {vs : List V} : (ks.zip vs).length ≤ ks.length := by
  rw [List.length_zip]
  omega
/-- an instance at a: its class, its attributes' values in order -/
def InsAt (H : Hp) (a C : Addr) (ks : List Str) (vs : List V) : Prop := ∃ dx, H a = some (.ins C dx (ks.zip vs))
theorem InsAt.same {H H' : Hp} {a C : Addr} {ks : List Str} {vs : List V} (h : InsAt H a C ks vs) (e : Same H H') : InsAt H' a C ks vs := let ⟨dx, q⟩ := h; ⟨dx, e _ _ q⟩
end L2.TP
/-! Loops over anything that yields the items of a list; a module's constants. -/
namespace L2.TP
open PySem PySem.Spec PyProof.Rows L2
theorem pe_gi {X : Cx} {x : Str} {i : Int} {pos : Pos} (h : ∃ t, X.mg x = some (.int i t)) (hg : Gl X x := by rfl) (hd : (x == ("__debug__" : Str)) = false := by decide) : PE X (.Name x pos) (tC (.int i)) := let ⟨_, m⟩ := h; pe_glob hg m ⟨_, rfl⟩ hd
theorem pe_gs {X : Cx} {x z : Str} {pos : Pos} (h : ∃ t, X.mg x = some (.str z t)) (hg : Gl X x := by rfl) (hd : (x == ("__debug__" : Str)) = false := by decide) : PE X (.Name x pos) (tC (.str z)) := let ⟨_, m⟩ := h; pe_glob hg m ⟨_, rfl⟩ hd
theorem pe_gr {X : Cx} {x : Str} {a : Addr} {pos : Pos} (h : X.mg x = some (.ref a)) (hg : Gl X x := by rfl) (hd : (x == ("__debug__" : Str)) = false := by decide) : PE X (.Name x pos) (tC (.ref a)) := pe_glob hg h rfl hd
theorem small5 {n : Nat} (h : n ≤ 100000) : n ≤ sizeLine := Nat.le_trans h (by decide)
theorem small5' {n : Nat} (h : n ≤ 100000) : n < sizeLine := Nat.lt_of_le_of_lt h (by decide)
theorem ifY {b : Bool} {A B : Prop} (h : b = true) (a : A) : if b = true then A else B := by
  rw [if_pos h]
  exact a
theorem ifN {b : Bool} {A B : Prop} (h : b = false) (a : B) : if b = true then A else B := by
  rw [h]
  exact iteF a
theorem dT {p : Prop} [Decidable p] (h : p) : decide p = true := decide_eq_true h
theorem dF {p : Prop} [Decidable p] (h : ¬ p) : decide p = false := decide_eq_false h
theorem nT {p : Prop} [Decidable p] (h : p) : (!decide p) = false := by rw [decide_eq_true h] <;> rfl
theorem nF {p : Prop} [Decidable p] (h : ¬ p) : (!decide p) = true := by rw [decide_eq_false h] <;> rfl
theorem same_mut {H H' : Hp} {p : Addr} {o : HO} (e : Same H H') (h : H p = none) : Same H (upd H' p o) := fun a u ha => by
  rw [upd_ne (ne_of_none ha h)]
  exact e a u ha
theorem take_next {α : Type} {l : List α} {i : Nat} {a : α} (h : l[i]? = some a) : l.take (i + 1) = l.take i ++ [a] := by
  rw [List.take_add_one, h] <;> rfl
/-- a comprehension over the items of l: what it makes of each -/
theorem lc_items {α : Type} {J : It} {g : TG} {tt : TT} {te : TE} {vs : List Nat} {σ : St} {H1 : Hp} {D : Addr} {Qd : Hp → Prop} (l : List α) (f : α → Option V) (hn : l.length ≤ 100000) (hD : H1 D = none)
    (hs : ∀ i a H, l[i]? = some a → Same H1 H → J.go i H ∧ ∀ x H', J.yld i H x H' → ∀ (Kt : V → Hp → Prop) (Kf : Hp → Prop), (∀ y H4, f a = some y → Same H H4 → Kt y H4) → (∀ H3, f a = none → Same H H3 → Kf H3) →
      g x (wipe σ vs) H' fun σ2 H2 => wipe σ2 vs = wipe σ vs ∧ tt σ2 H2 fun b H3 => if b = true then te σ2 H3 Kt else Kf H3)
    (hd : ∀ H, Same H1 H → H D = some (.lst (l.filterMap f)) → J.stop l.length H ∧ Qd H) :
    ∃ W : Nat → Nat → Hp → Prop, (∃ m, W 0 m (upd H1 D (.lst []))) ∧ ∀ i m H, W i m H →
      (J.stop i H ∧ Qd H) ∨ (J.go i H ∧ ∃ Nx : Hp → Prop, (∀ H', Nx H' → ∃ m', m' < m ∧ W (i + 1) m' H') ∧ ∀ x H', J.yld i H x H' → g x (wipe σ vs) H' fun σ2 H2 => wipe σ2 vs = wipe σ vs ∧ tt σ2 H2 fun b H3 =>
        if b = true then te σ2 H3 fun y H4 => ∃ acc, H4 D = some (.lst acc) ∧ acc.length < sizeLine ∧ Nx (upd H4 D (.lst (acc ++ [y]))) else Nx H3) := by
  refine lc_any (n := l.length) (fun i H => Same H1 H ∧ H D = some (.lst ((l.take i).filterMap f))) ⟨same_mut (Same.refl H1) hD, by rw [upd_same] <;> rfl⟩ (fun i H hi ⟨s1, s2⟩ => ?_) fun H ⟨s1, s2⟩ => ?_
  · obtain ⟨a, ha⟩ : ∃ a, l[i]? = some a := ⟨l[i], List.getElem?_eq_getElem hi⟩
    obtain ⟨q1, q2⟩ := hs i a H ha s1
    refine ⟨q1, fun x H' hy => q2 x H' hy _ _ (fun y H4 hf s3 => ?_) fun H3 hf s3 => ?_⟩
    · refine ⟨_, s3 _ _ s2, ?_, same_mut (s1.trans s3) hD, ?_⟩
      · have h1 := List.length_filterMap_le f (l.take i)
        have h2 : (l.take i).length ≤ l.length := by rw [List.length_take]; omega
        exact small5' (by omega)
      · rw [upd_same, take_next ha, List.filterMap_append]
        simp [hf]
    · refine ⟨s1.trans s3, ?_⟩
      rw [take_next ha, List.filterMap_append]
      simp [hf]
      exact s3 _ _ s2
  · rw [List.take_length] at s2
    exact hd H s1 s2
/-- the same without a test -/
theorem lc_map {α : Type} {J : It} {g : TG} {te : TE} {vs : List Nat} {σ : St} {H1 : Hp} {D : Addr} {Qd : Hp → Prop} (l : List α) (f : α → V) (hn : l.length ≤ 100000) (hD : H1 D = none)
    (hs : ∀ i a H, l[i]? = some a → Same H1 H → J.go i H ∧ ∀ x H', J.yld i H x H' → ∀ (Kt : V → Hp → Prop), (∀ H4, Same H H4 → Kt (f a) H4) → g x (wipe σ vs) H' fun σ2 H2 => wipe σ2 vs = wipe σ vs ∧ te σ2 H2 Kt)
    (hd : ∀ H, Same H1 H → H D = some (.lst (l.map f)) → J.stop l.length H ∧ Qd H) :
    ∃ W : Nat → Nat → Hp → Prop, (∃ m, W 0 m (upd H1 D (.lst []))) ∧ ∀ i m H, W i m H →
      (J.stop i H ∧ Qd H) ∨ (J.go i H ∧ ∃ Nx : Hp → Prop, (∀ H', Nx H' → ∃ m', m' < m ∧ W (i + 1) m' H') ∧ ∀ x H', J.yld i H x H' → g x (wipe σ vs) H' fun σ2 H2 => wipe σ2 vs = wipe σ vs ∧ tYes σ2 H2 fun b H3 =>
        if b = true then te σ2 H3 fun y H4 => ∃ acc, H4 D = some (.lst acc) ∧ acc.length < sizeLine ∧ Nx (upd H4 D (.lst (acc ++ [y]))) else Nx H3) := by
  refine lc_any (n := l.length) (fun i H => Same H1 H ∧ H D = some (.lst ((l.take i).map f))) ⟨same_mut (Same.refl H1) hD, by rw [upd_same] <;> rfl⟩ (fun i H hi ⟨s1, s2⟩ => ?_) fun H ⟨s1, s2⟩ => ?_
  · obtain ⟨a, ha⟩ : ∃ a, l[i]? = some a := ⟨l[i], List.getElem?_eq_getElem hi⟩
    obtain ⟨q1, q2⟩ := hs i a H ha s1
    refine ⟨q1, fun x H' hy => q2 x H' hy _ fun H4 s3 => ?_⟩
    refine ⟨_, s3 _ _ s2, ?_, same_mut (s1.trans s3) hD, ?_⟩
    · have h2 : ((l.take i).map f).length ≤ l.length := by rw [List.length_map, List.length_take]; omega
      exact small5' (by omega)
    · rw [upd_same, take_next ha, List.map_append] <;> rfl
  · rw [List.take_length] at s2
    exact hd H s1 s2
/-- a loop over the items of l -/
theorem for_items {α : Type} {J : It} {g : TG} {tb : TS} {D : Ends} {σ : St} {H : Hp} (l : List α) (Pv : Nat → St → Hp → Prop) (h0 : Pv 0 σ H)
    (hs : ∀ i a σ H, l[i]? = some a → Pv i σ H → J.go i H ∧ ∀ x H', J.yld i H x H' → g x σ H' fun σ2 H2 => tb { D with nx := Pv (i + 1), ct := Pv (i + 1), bk := D.nx } σ2 H2) (hd : ∀ σ H, Pv l.length σ H → J.stop l.length H ∧ D.nx σ H) :
    ∃ W : Nat → Nat → St → Hp → Prop, (∃ m, W 0 m σ H) ∧ ∀ i m σ H, W i m σ H →
      (J.stop i H ∧ D.nx σ H) ∨ (J.go i H ∧ ∃ N : St → Hp → Prop, (∀ σ' H', N σ' H' → ∃ m', m' < m ∧ W (i + 1) m' σ' H') ∧ ∀ x H', J.yld i H x H' → g x σ H' fun σ2 H2 => tb { D with nx := N, ct := N, bk := D.nx } σ2 H2) :=
  for_any (n := l.length) Pv h0 (fun i σ H hi p => hs i l[i] σ H (List.getElem?_eq_getElem hi) p) hd
/-- what the iterators give, by the list that stands there -/
theorem itl_go {K : PySem.W.Frag} {H : Hp} {a : Addr} {xs : List V} {i : Nat} {x : V} (h : SqL K H a xs) (e : xs[i]? = some x) : (Itl K a).go i H := by
  refine ⟨xs, x, h, ?_⟩
  exact e
theorem itl_yld {K : PySem.W.Frag} {H H' : Hp} {a : Addr} {xs : List V} {i : Nat} {x y : V} (h : SqL K H a xs) (e : xs[i]? = some x) (q : (Itl K a).yld i H y H') : H' = H ∧ y = x := by
  obtain ⟨q1, q2⟩ := q
  have z := q2 xs h
  rw [e] at z
  exact ⟨q1, (Option.some.inj z).symm⟩
theorem itl_stop {K : PySem.W.Frag} {H : Hp} {a : Addr} {xs : List V} {i : Nat} (h : SqL K H a xs) (e : xs.length ≤ i) : (Itl K a).stop i H := ⟨xs, h, e⟩
theorem itt_go {K : PySem.W.Frag} {H : Hp} {a : Addr} {xs : List V} {i : Nat} {x : V} (h : SqT K H a xs) (e : xs[i]? = some x) : (Itt K a).go i H := by
  refine ⟨xs, x, h, ?_⟩
  exact e
theorem itt_yld {K : PySem.W.Frag} {H H' : Hp} {a : Addr} {xs : List V} {i : Nat} {x y : V} (h : SqT K H a xs) (e : xs[i]? = some x) (q : (Itt K a).yld i H y H') : H' = H ∧ y = x := by
  obtain ⟨q1, q2⟩ := q
  have z := q2 xs h
  rw [e] at z
  exact ⟨q1, (Option.some.inj z).symm⟩
theorem itt_stop {K : PySem.W.Frag} {H : Hp} {a : Addr} {xs : List V} {i : Nat} (h : SqT K H a xs) (e : xs.length ≤ i) : (Itt K a).stop i H := ⟨xs, h, e⟩
/-! ### in a comprehension's block the fragment must be named -/
section
variable {X : Cx} {K : PySem.W.Frag}
theorem ix_tupK (h : X.K = K) : IxR X (rIxT K) := h ▸ ix_tup
theorem ix_listK (h : X.K = K) : IxR X (rIxL K) := h ▸ ix_list
theorem op_in_seqK (h : X.K = K) : OpR X (compareOp .In) (rIn K false) := h ▸ op_in_seq
theorem op_notIn_seqK (h : X.K = K) : OpR X (compareOp .NotIn) (rIn K true) := h ▸ op_notIn_seq
theorem op_eqDK (h : X.K = K) (hu : X.A.units + 64 < cLine) : OpR X (compareOp .Eq) (rEqD K) := h ▸ op_eqD hu
theorem op_neDK (h : X.K = K) (hu : X.A.units + 64 < cLine) : OpR X (compareOp .NotEq) (rNeD K) := h ▸ op_neD hu
theorem pe_fldK {e : Expr} {f : Str} {pos : Pos} {ta : TE} (h : X.K = K) (he : PE X e ta) (hb : attributeBase e f X.env (eval e X.env) = eval e X.env) : PE X (.Attribute e f pos) (tFld K ta f) := h ▸ pe_fld he hb
theorem pg_tupK {es : List Expr} {k : Nat} {t : TGs} {n : Nat} {pos : Pos} (hK : X.K = K) (hc : X.calm = true) (h : PGs X es t)
    (hn : (assignEach es X.env).length = n := by rfl) (hst : (assignEach es X.env).findIdx? (·.1) = none := by rfl) : PG X (.Tuple es k pos) (gTup K n t) := hK ▸ pg_tup hc h hn hst
end
end L2.TP
/-! The module's tuples and its table. -/
namespace L2.TP
open PySem PySem.Spec PyProof.Rows L2
section
variable {w : World} {K : PySem.W.Frag} {mg : Str → Option Value}
theorem Txt.ex7 (T : Txt w K mg) : He.tupB K "PAUSE" [.str "pause"] = true ∧ He.tupB K "WAIT" [.str "wait"] = true ∧ He.tupB K "NOTHING" [.str "text", .str "?", .adr ntE] = true ∧ tupA K (ntE K) = true ∧ He.tupB K "LEAST" [.int 1, .int 1, .int 1, .int 1, .int 1, .int 1, .int 1] = true ∧
    He.tupB K "MOST" [.int 3, .int 100, .int 4, .int 100, .int 400, .int 200, .int 2000] = true ∧ He.valsB K (He.ga K "OPENING") [("<", .str ">"), ("[", .str "]")] = true := by
  obtain ⟨h1, h⟩ := He.ba T.ex
  obtain ⟨h2, h⟩ := He.ba h
  obtain ⟨h3, h⟩ := He.ba h
  obtain ⟨h4, h⟩ := He.ba h
  obtain ⟨h5, h⟩ := He.ba h
  obtain ⟨h6, h⟩ := He.ba h
  exact ⟨h1, h2, h3, h4, h5, h6, h⟩
theorem Txt.t_PAUSE (T : Txt w K mg) (H : Hp) : SqT K H (He.ga K "PAUSE") [.str "pause"] := He.tupB_ok T.ex7.1 H
theorem Txt.t_WAIT (T : Txt w K mg) (H : Hp) : SqT K H (He.ga K "WAIT") [.str "wait"] := He.tupB_ok T.ex7.2.1 H
theorem Txt.t_LEAST (T : Txt w K mg) (H : Hp) : SqT K H (He.ga K "LEAST") [.int 1, .int 1, .int 1, .int 1, .int 1, .int 1, .int 1] := He.tupB_ok T.ex7.2.2.2.2.1 H
theorem Txt.t_MOST (T : Txt w K mg) (H : Hp) : SqT K H (He.ga K "MOST") [.int 3, .int 100, .int 4, .int 100, .int 400, .int 200, .int 2000] := He.tupB_ok T.ex7.2.2.2.2.2.1 H
theorem Txt.t_NOTHING (T : Txt w K mg) (H : Hp) : Dt K H (.ref (He.ga K "NOTHING")) nothing.enc :=
  Dp.tup (He.tupB_ok T.ex7.2.2.1 _) (.cons (.str _) (.cons (.str _) (.cons (.tup (tupA_ok T.ex7.2.2.2.1 _) .nil) .nil)))
theorem Txt.opening (T : Txt w K mg) : ∃ es n, KDict K w (He.ga K "OPENING") es n := T.st.tab 0 (t := (fun K => He.ga K "OPENING", ["<", "["]))
theorem Txt.open_at (T : Txt w K mg) {k v : Str} (h : (k, He.Dv.str v) ∈ ([("<", .str ">"), ("[", .str "]")] : List (Str × He.Dv))) : KDct K w (He.ga K "OPENING") k (.str v) ∧ ∃ u, PySem.W.nsIn K (He.ga K "OPENING") k = some (some u) := by
  obtain ⟨es, n, D⟩ := T.opening
  obtain ⟨u, h1, h2⟩ := He.valsB_ok T.ex7.2.2.2.2.2.2 h
  exact ⟨⟨es, n, u, D.at_, D.lit, h1, h2⟩, u, h1⟩
theorem keyOf_str {e : DictEntry} {x : Str} {i : Int} (h : He.keyOf e = some (x, i)) : ∃ t, e.key = .str x t := by
  unfold He.keyOf at h
  split at h
  · rename_i y t q
    have h2 := Option.some.inj h
    rw [(Prod.mk.inj h2).1] at q
    exact ⟨t, q⟩
  · cases h
theorem Txt.open_no (T : Txt w K mg) {z : Str} (h1 : z ≠ "<") (h2 : z ≠ "[") : PySem.W.nsIn K (He.ga K "OPENING") z = some none := by
  have e : He.dicW K (He.ga K "OPENING") = some (He.keysIn w.params ["<", "["]) := by
    have q : ts.map (fun t => He.dicW K (t.1 K)) = ts.map fun t => some (He.keysIn w.params t.2) := congrArg (fun z : He.AlT => z.2) T.st
    exact (List.cons.inj q).1
  obtain ⟨es, n, D⟩ := T.opening
  unfold He.dicW at e
  rw [D.at_] at e
  have e2 : es.toList.map He.keyOf = [some (Str.ofString "<", PyData.keyHash w.params "<"), some (Str.ofString "[", PyData.keyHash w.params "[")] := by
    have low : (He.ga K "OPENING" == sysModules) = false := D.low
    simp only [low] at e
    exact Option.some.inj e
  unfold PySem.W.nsIn
  rw [D.at_]
  show (match es.toList.find? (fun e => e.key.isStr z) with
    | some e => some (some e.val)
    | none => if es.toList.any (fun e => e.refKey) then none else some none) = some none
  generalize es.toList = l at e2
  obtain ⟨a, b, rfl⟩ : ∃ a b, l = [a, b] := by
    have hl := congrArg List.length e2
    rw [List.length_map] at hl
    match l, hl with
    | [a, b], _ => exact ⟨a, b, rfl⟩
  have e3 : [He.keyOf a, He.keyOf b] = [some (Str.ofString "<", PyData.keyHash w.params "<"), some (Str.ofString "[", PyData.keyHash w.params "[")] := e2
  injection e3 with e4 e5
  injection e5 with e5 _
  obtain ⟨ta, ha⟩ := keyOf_str e4
  obtain ⟨tb, hb⟩ := keyOf_str e5
  have ea : a.key.isStr z = false := by
    rw [ha]
    show (Str.ofString "<" == z) = false
    exact beq_eq_false_iff_ne.mpr fun q => h1 q.symm
  have eb : b.key.isStr z = false := by
    rw [hb]
    show (Str.ofString "[" == z) = false
    exact beq_eq_false_iff_ne.mpr fun q => h2 q.symm
  have ra : a.refKey = false := by
    unfold DictEntry.refKey
    rw [ha]
  have rb : b.refKey = false := by
    unfold DictEntry.refKey
    rw [hb]
  simp [List.find?_cons, ea, eb, ra, rb]
end
end L2.TP
/-! names.py -/
namespace L2.TP
open PySem PySem.Spec PyProof.Rows L2
section
variable {P : Program} {w : World} {K : PySem.W.Frag} {mg : Str → Option Value} {base : Heap}
/-- a call that only makes new objects, and whose answer is v -/
def spIsName : Sp := fun vs H Q _ => ∃ t : Str, vs = [.str t] ∧ t.length ≤ 100000 ∧ ∀ H', Same H H' → Q (.bl (isName t)) H'
theorem len_toList (t : Str) : t.cps.toList.length = t.length := Array.length_toList
theorem ok_is_name (T : Txt w K mg) : FnOk P w K mg base CX0 1 (He.ga K "is_name") (fd_is_name K) ["text"] spIsName := by
  refine T.f_is_name.ok sc_is_name (fun vs H Q E h => ?_) (fun cdv A outer s H vs Q E hr h => ?_)
  · obtain ⟨t, rfl, _⟩ := h
    rfl
  · obtain ⟨t, rfl, hl, k⟩ := h
    refine ⟨_, PSs.nox (pss_one (ps_ret (pe_and (pe_chain op_le op_le pe_int (pe_callB call_len_str (by rfl) T.z_len PySem.boot_len (pa_cons (pv 0) pa_nil)) (pe_gi T.i_NAME_MOST))
      (pe_one (pe_callB (cr_all rfl) (by rfl) T.z_all (by decide +kernel) (pa_cons (pe_lc (own := [("sign", 1)]) (g := gName 1) (tt := tYes) rfl sc_is_name.nd (pi_str (pv 0)) (blkOk_by (own := [("sign", 1)]) (N := ["text", "sign"]) (sc := defScope s_is_name) (by decide +kernel))
        (fun _ _ _ _ _ => pg_name (i := 1) sc_is_name.nd rfl (Or.inl rfl)) (fun _ _ _ _ _ => pts_nil) (fun _ _ _ _ _ => pe_cmpR op_in_sign (pv 1) (pe_gs T.s_LETTERS) rfl)) pa_nil)))))), ?_⟩
    refine ⟨_, rfl, _, rfl, small5 hl, _, _, rfl, rfl, _, rfl, ?_⟩
    have e : isName t = (decide (1 ≤ t.length) && decide (t.length ≤ 6) && t.cps.toList.all fun c => decide (c ∈ ("abcdefghijklmnopqrstuvwxyz" : Str).cps.toList)) := rfl
    by_cases h1 : 1 ≤ t.length
    · refine ifY (dT (by omega)) ?_
      refine ⟨_, _, rfl, rfl, _, rfl, ?_⟩
      by_cases h2 : t.length ≤ 6
      · refine ifY (dT (by omega)) ?_
        refine ⟨_, rfl, _, rfl, fun D hD => lc_map t.cps.toList (fun c => V.bl (decide (c ∈ ("abcdefghijklmnopqrstuvwxyz" : Str).cps.toList))) (by rw [len_toList]; exact hl) hD (fun i c H2 hi s1 => ⟨?_, ?_⟩) fun H2 s1 hd => ⟨?_, ?_⟩⟩
        · exact (List.getElem?_eq_some_iff.mp hi).1
        · rintro x H3 ⟨rfl, c', hc, rfl⟩ Kt kt
          rw [← Array.getElem?_toList, hi] at hc
          cases hc
          exact ⟨rfl, _, rfl, c, _, rfl, rfl, kt _ (Same.refl _)⟩
        · exact Nat.le_of_eq (len_toList t).symm
        · refine ⟨D, t.cps.toList.map fun c => decide (c ∈ ("abcdefghijklmnopqrstuvwxyz" : Str).cps.toList), rfl, .inl (.inl (hd.trans ?_)), ?_⟩
          · rw [List.map_map] <;> rfl
          · rw [List.all_map]
            have q := k H2 s1
            rw [e, decide_eq_true h1, decide_eq_true h2] at q
            exact q
      · refine ifN (dF (by omega)) ?_
        have q := k H (Same.refl H)
        rw [e, decide_eq_true h1, decide_eq_false h2] at q
        exact q
    · refine ifN (dF (by omega)) ?_
      refine ⟨_, rfl, iteF ?_⟩
      have q := k H (Same.refl H)
      rw [e, decide_eq_false h1] at q
      exact q
def spIsAfter : Sp := fun vs H Q _ => ∃ a b : Str, vs = [.str a, .str b] ∧ Q (.bl (after a b)) H
theorem ok_is_after (T : Txt w K mg) : FnOk P w K mg base CX0 1 (He.ga K "is_after") (fd_is_after K) ["one", "other"] spIsAfter := by
  refine T.f_is_after.ok sc_is_after (fun vs H Q E h => ?_) (fun cdv A outer s H vs Q E hr h => ?_)
  · obtain ⟨a, b, rfl, _⟩ := h
    rfl
  · obtain ⟨a, b, rfl, k⟩ := h
    refine ⟨_, PSs.nox (pss_one (ps_ret (pe_cmpR op_gt_str (pv 0) (pv 1) (nomark _)))), ?_⟩
    exact ⟨_, rfl, _, rfl, _, _, rfl, rfl, k⟩
def spFailures : Sp := fun vs H Q _ => ∃ t : Str, vs = [.str t] ∧ Q (.int (nfail t)) H
theorem ok_failures (T : Txt w K mg) : FnOk P w K mg base CX0 1 (He.ga K "failures") (fd_failures K) ["text"] spFailures := by
  refine T.f_failures.ok sc_failures (fun vs H Q E h => ?_) (fun cdv A outer s H vs Q E hr h => ?_)
  · obtain ⟨t, rfl, _⟩ := h
    rfl
  · obtain ⟨t, rfl, k⟩ := h
    refine ⟨_, PSs.nox (pss_one (ps_ret (pe_bm PySem.F.plainAttrs_str PySem.F.slot_str_count PySem.F.type_str_count mt_count (pv 0) (pa_cons pe_str pa_nil)))), ?_⟩
    exact ⟨_, rfl, rfl, _, _, rfl, rfl, k⟩
/-! ### is_text -/
def spIsText : Sp := fun vs H Q _ => ∃ t : Str, vs = [.str t] ∧ t.length ≤ 100000 ∧ Q (.bl (isText t)) H
theorem sign_le (c : Nat) : (!decide (("~" : Str).cps.toList < (Str.mk #[c]).cps.toList)) = decide (c ≤ 126) := by
  have e : ("~" : Str).cps.toList = [126] := by decide +kernel
  rw [e]
  show (!decide ([126] < [c])) = _
  rw [Bool.eq_iff_iff]
  simp [List.cons_lt_cons_iff]
theorem le_sign (c : Nat) : (!decide ((Str.mk #[c]).cps.toList < (" " : Str).cps.toList)) = decide (32 ≤ c) := by
  have e : (" " : Str).cps.toList = [32] := by decide +kernel
  rw [e]
  show (!decide ([c] < [32])) = _
  rw [Bool.eq_iff_iff]
  simp [List.cons_lt_cons_iff]
theorem sign_eq (c : Nat) : decide (V.str ⟨#[c]⟩ = V.str ("\"" : Str)) = decide (c = 34) := by
  have e : ("\"" : Str) = ⟨#[34]⟩ := by decide +kernel
  rw [e]
  congr 1
  simp
theorem ok_is_text (T : Txt w K mg) : FnOk P w K mg base CX0 1 (He.ga K "is_text") (fd_is_text K) ["text"] spIsText := by
  refine T.f_is_text.ok sc_is_text (fun vs H Q E h => ?_) (fun cdv A outer s H vs Q E hr h => ?_)
  · obtain ⟨t, rfl, _⟩ := h
    rfl
  · obtain ⟨t, rfl, hl, k⟩ := h
    refine ⟨_, PSs.nox (pss_cons (ps_if (pt_cmpR op_gt (pe_callB call_len_str (by rfl) T.z_len PySem.boot_len (pa_cons (pv 0) pa_nil)) (pe_gi T.i_TEXT_MOST) (nomark _)) (pss_one (ps_ret pe_bl)) pss_nil)
      (pss_cons (ps_for PassesOwn.never rfl (pi_str (pv 0)) (pg_name (i := 1) sc_is_text.nd rfl (Or.inl rfl))
        (pss_one (ps_if (PW.pt (pw_or (pt_not (pt_chain op_le_str op_le_str pe_str (pv 1) pe_str)) (pw_or (pt_cmpR op_eq (pv 1) pe_str (nomark _)) (pw_or1 (pt_cmpR op_eq (pe_callB call_ord (by rfl) T.z_ord (by decide +kernel) (pa_cons (pv 1) pa_nil)) (pe_gi T.i_PERCENT) (nomark _))))))
          (pss_one (ps_ret pe_bl)) pss_nil)))
      (pss_one (ps_ret pe_bl)))), ?_⟩
    refine ⟨_, rfl, _, rfl, small5 hl, _, _, rfl, rfl, _, rfl, ?_⟩
    have e : isText t = (decide (t.length ≤ 60) && t.cps.toList.all okSign) := rfl
    by_cases h1 : t.length ≤ 60
    · refine ifN (dF (by omega)) ?_
      refine ⟨_, rfl, t, rfl, for_items t.cps.toList (fun i σ H2 => H2 = H ∧ (∃ v, σ = [some (.str t), v]) ∧ (t.cps.toList.take i).all okSign = true) ⟨rfl, ⟨_, rfl⟩, rfl⟩ (fun i c σ H2 hi p => ⟨(List.getElem?_eq_some_iff.mp hi).1, ?_⟩) fun σ H2 p => ⟨Nat.le_of_eq (len_toList t).symm, ?_⟩⟩
      · rintro x H3 ⟨rfl, c', hc, rfl⟩
        obtain ⟨rfl, ⟨v, rfl⟩, ha⟩ := p
        rw [← Array.getElem?_toList, hi] at hc
        cases hc
        have bad : okSign c = false → Q (.bl false) H3 := fun hb => by
          have z : t.cps.toList.all okSign = false := by
            rw [List.all_eq_false]
            exact ⟨c, List.mem_of_getElem? hi, by rw [hb]; exact Bool.false_ne_true⟩
          rw [e, z, Bool.and_false] at k
          exact k
        refine ⟨_, rfl, _, _, rfl, rfl, _, rfl, ?_⟩
        by_cases c1 : 32 ≤ c
        · refine ifY ((le_sign c).trans (dT c1)) ?_
          refine ⟨_, _, rfl, rfl, _, rfl, ?_⟩
          by_cases c2 : c ≤ 126
          · refine ifN (by rw [sign_le, dT c2] <;> rfl) ?_
            refine ⟨_, rfl, rfl, _, rfl, ?_⟩
            by_cases c3 : c = 34
            · refine ifY ((sign_eq c).trans (dT c3)) (iteT (bad ?_))
              simp [okSign, c3]
            · refine ifN ((sign_eq c).trans (dF c3)) ?_
              refine ⟨_, rfl, _, rfl, rfl, rfl, _, rfl, ?_⟩
              have e37 : decide (V.int (((Str.mk #[c]).cps.getD 0 0 : Nat) : Int) = V.int 37) = decide (c = 37) := by
                rw [Bool.eq_iff_iff]
                show decide (V.int (c : Int) = V.int 37) = true ↔ _
                simp
                omega
              by_cases c4 : c = 37
              · refine ifY (e37.trans (dT c4)) (bad ?_)
                simp [okSign, c4]
              · refine ifN (e37.trans (dF c4)) ⟨rfl, ⟨_, rfl⟩, ?_⟩
                rw [take_next hi, List.all_append, ha]
                simp [okSign, c1, c2, c3, c4]
          · refine ifY (by rw [sign_le, dF c2] <;> rfl) (bad ?_)
            simp [okSign, c2]
        · refine ifN ((le_sign c).trans (dF c1)) ?_
          exact ⟨_, rfl, iteT (bad (by simp [okSign, c1]))⟩
      · obtain ⟨rfl, ⟨v, rfl⟩, ha⟩ := p
        rw [List.take_length] at ha
        rw [e, decide_eq_true h1, ha] at k
        exact k
    · refine ifY (dT (by omega)) ?_
      rw [e, decide_eq_false h1] at k
      exact k
end
end L2.TP
/-! segments.py -/
namespace L2.TP
open PySem PySem.Spec PyProof.Rows L2
section
variable {P : Program} {w : World} {K : PySem.W.Frag} {mg : Str → Option Value} {base : Heap}
theorem find1 (x y : Str) (i c : Nat) (hy : y = ⟨#[c]⟩) (hi : i ≤ x.length) : Txt.find3 x y (i : Int) < 0 ∨ ∃ k : Nat, Txt.find3 x y (i : Int) = (k : Int) ∧ i ≤ k ∧ k < x.length := by
  subst hy
  rcases StrLaws.find3_spec x c (i : Int) with ⟨h, _⟩ | ⟨k, h, h1, h2, _⟩
  · left
    rw [h]
    decide
  · refine .inr ⟨k, h, Nat.le_trans ?_ h1, h2⟩
    show i ≤ PySem.fromIndex x.length (i : Int)
    unfold PySem.fromIndex
    omega
theorem le1 : (1 : Nat) ≤ sizeLine := by decide
theorem le2 : (2 : Nat) ≤ sizeLine := by decide
theorem le3 : (3 : Nat) ≤ sizeLine := by decide
theorem le4 : (4 : Nat) ≤ sizeLine := by decide
theorem le5 : (5 : Nat) ≤ sizeLine := by decide
theorem two_tups {H : Hp} {q p : Addr} {xs ys : List V} (hq : H q = none) (hp : upd H q (.tup xs) p = none) : Same H (upd (upd H q (.tup xs)) p (.tup ys)) ∧ upd (upd H q (.tup xs)) p (.tup ys) q = some (.tup xs) := by
  refine ⟨(same_new hq).trans (same_new hp), ?_⟩
  exact same_new hp _ _ upd_same
def spSegment : Sp := fun vs H Q _ => ∃ (name text : Str) (at_ : Nat), vs = [.str name, .str text, .int at_] ∧ text.length ≤ 100000 ∧ at_ < text.length ∧
  (segAt name text at_ = none → ∀ H', Same H H' → Q .non H') ∧
  ∀ g e, segAt name text at_ = some (g, e) → ∀ H' p q, Same H H' → H' p = some (.tup [.ref q, .int (e : Nat)]) → H' q = some (.tup [.str g.kind, .str g.inner]) → Q (.ref p) H'
theorem ok_segment (T : Txt w K mg) : FnOk P w K mg base CX0 2 (He.ga K "_segment") (fd__segment K) ["name", "text", "at"] spSegment := by
  have G_is_name : FnOk P w K mg base CX0 1 (He.ga K "is_name") (fd_is_name K) ["text"] spIsName := ok_is_name T
  have G_is_after : FnOk P w K mg base CX0 1 (He.ga K "is_after") (fd_is_after K) ["one", "other"] spIsAfter := ok_is_after T
  refine T.f__segment.ok sc__segment (fun vs H Q E h => ?_) (fun cdv A outer s H vs Q E hr h => ?_)
  · obtain ⟨a, b, c, rfl, _⟩ := h
    rfl
  · obtain ⟨name, text, at_, rfl, hl, hat, k1, k2⟩ := h
    have hu := hu_of hr
    obtain ⟨es, n, D⟩ := T.opening
    refine ⟨_, PSs.nox ((pss_cons (ps_if (pt_cmpR (op_notIn_kd D) (pe_ix ix_str (pv 1) (pv 2) (fun _ _ => rfl)) (pe_gr T.g_OPENING) rfl) (pss_one (ps_ret pe_non)) pss_nil)
      (pss_cons (ps_set (i := 3) sc__segment.nd rfl (.inl rfl) (pe_bm PySem.F.plainAttrs_str PySem.F.slot_str_find PySem.F.type_str_find mt_find3 (pv 1) (pa_cons (pe_ix ix_kdict (pe_gr T.g_OPENING) (pe_ix ix_str (pv 1) (pv 2) (fun _ _ => rfl)) (fun _ _ => rfl)) (pa_cons (pv 2) pa_nil))))
      (pss_cons (ps_if (pt_cmpR op_lt (pv 3) pe_int (nomark _)) (pss_one (ps_ret pe_non)) pss_nil)
      (pss_cons (ps_set (i := 4) sc__segment.nd rfl (.inl rfl) (pe_slice sl_str (pv 1) (po_some (pe_op op_add (pv 2) pe_int)) (po_some (pv 3))))
      (pss_cons (ps_if (pt_cmpR op_eq (pe_ix ix_str (pv 1) (pv 2) (fun _ _ => rfl)) pe_str (nomark _)) (pss_one (ps_ret (pe_ifExp (pt_val (pe_call G_is_name (hr.mono (by omega)) (by rfl) T.g_is_name T.f_is_name.kp T.b_is_name .nil pass0 (pa_cons (pv 4) pa_nil))) (pe_tup (pa_cons (pe_tup (pa_cons pe_str (pa_cons (pv 4) pa_nil))) (pa_cons (pe_op op_add (pv 3) pe_int) pa_nil))) pe_non))) pss_nil)
      (pss_cons (ps_set (i := 5) sc__segment.nd rfl (.inl rfl) (pe_ifExp (pt_val (pe_bm PySem.F.plainAttrs_str PySem.F.slot_str_startswith PySem.F.type_str_startswith mt_startswith (pv 4) (pa_cons pe_str pa_nil))) pe_str pe_str))
      (pss_cons (ps_set (i := 6) sc__segment.nd rfl (.inl rfl) (pe_ifExp (pt_val (pe_bm PySem.F.plainAttrs_str PySem.F.slot_str_startswith PySem.F.type_str_startswith mt_startswith (pv 4) (pa_cons pe_str pa_nil))) (pe_slice sl_str (pv 4) (po_some pe_int) po_none) (pv 4)))
      (pss_cons (ps_if (PW.pt (pw_or (pt_not (pt_val (pe_call G_is_name (hr.mono (by omega)) (by rfl) T.g_is_name T.f_is_name.kp T.b_is_name .nil pass0 (pa_cons (pv 6) pa_nil)))) (pw_or1 (pt_not (pt_val (pe_call G_is_after (hr.mono (by omega)) (by rfl) T.g_is_after T.f_is_after.kp T.b_is_after .nil pass0 (pa_cons (pv 6) (pa_cons (pv 0) pa_nil)))))))) (pss_one (ps_ret pe_non)) pss_nil)
      (pss_one (ps_ret (pe_tup (pa_cons (pe_tup (pa_cons (pv 5) (pa_cons (pv 6) pa_nil))) (pa_cons (pe_op op_add (pv 3) pe_int) pa_nil)))))))))))))), ?_⟩
    obtain ⟨c, hc⟩ : ∃ c, text.cps.toList[at_]? = some c := ⟨text.cps.toList[at_]'(by rw [len_toList]; exact hat), List.getElem?_eq_getElem _⟩
    have hs : sign text at_ = ⟨#[c]⟩ := by
      unfold sign
      have e : text.cps[at_]? = some c := by rw [← Array.getElem?_toList]; exact hc
      rw [Array.getD_eq_getD_getElem?, e] <;> rfl
    have hix : atI text.cps.toList (at_ : Int) = some c := atI_nat hc
    by_cases h12 : sign text at_ = "<" ∨ sign text at_ = "["
    · obtain ⟨y, d, hyd, hK, ⟨u, hN⟩, hy⟩ : ∃ (y : Str) (d : Nat), y = ⟨#[d]⟩ ∧ KDct K w (He.ga K "OPENING") (sign text at_) (.str y) ∧ (∃ u, PySem.W.nsIn K (He.ga K "OPENING") (sign text at_) = some (some u)) ∧ ((sign text at_ = "<" ∧ y = ">") ∨ (sign text at_ = "[" ∧ y = "]")) := by
        rcases h12 with q | q
        · obtain ⟨a, b⟩ := T.open_at (k := "<") (v := ">") (by simp)
          rw [q]
          exact ⟨">", 62, by decide +kernel, a, b, .inl ⟨rfl, rfl⟩⟩
        · obtain ⟨a, b⟩ := T.open_at (k := "[") (v := "]") (by simp)
          rw [q]
          exact ⟨"]", 93, by decide +kernel, a, b, .inr ⟨rfl, rfl⟩⟩
      rw [hs] at hK hN
      refine ⟨_, rfl, _, rfl, _, _, _, rfl, rfl, small5 hl, hix, _, _, rfl, rfl, hN, _, rfl, ifN rfl ?_⟩
      refine ⟨_, rfl, rfl, _, rfl, _, rfl, _, _, _, rfl, rfl, small5 hl, hix, _, _, _, rfl, rfl, hK, _, rfl, _, _, _, rfl, rfl, ?_⟩
      refine ⟨_, rfl, _, _, rfl, rfl, _, rfl, ?_⟩
      rcases find1 text y at_ d hyd (by omega) with hf | ⟨e, hf, he1, he2⟩
      · refine ifY (dT hf) (k1 ?_ _ (Same.refl _))
        unfold segAt
        rcases hy with ⟨q1, q2⟩ | ⟨q1, q2⟩
        · rw [if_pos q1]
          rw [q2] at hf
          simp only [hf, if_true]
        · rw [if_neg (by rw [q1]; decide +kernel), if_pos q1]
          rw [q2] at hf
          simp only [hf, if_true]
      · refine ifN (dF (by rw [hf]; omega)) ?_
        rw [hf]
        refine ⟨_, rfl, _, rfl, _, _, rfl, rfl, _, rfl, _, rfl, _, rfl, _, rfl, small5 hl, ?_⟩
        refine ⟨_, rfl, _, rfl, _, _, _, rfl, rfl, small5 hl, hix, rfl, _, rfl, ?_⟩
        rcases hy with ⟨q1, q2⟩ | ⟨q1, q2⟩
        · refine ifN (dF ?_) ?_
          · rw [← hs, q1]
            decide +kernel
          have hl4 : (cutS text (some ((at_ : Int) + 1)) (some (e : Int))).length ≤ 100000 := Nat.le_trans (cutS_length _ _ _) hl
          have hsg : segAt name text at_ = (let inner := cutS text (some ((at_ : Int) + 1)) (some (e : Int))
              let ind := Txt.startswith inner "@"
              let tg := if ind then cutS inner (some 1) none else inner
              if !isName tg || !after tg name then none else some (if ind then .indr tg else .incl tg, e + 1)) := by
            unfold segAt
            rw [if_pos q1]
            rw [q2] at hf
            simp only [hf]
            rw [if_neg (by omega)] <;> rfl
          generalize cutS text (some ((at_ : Int) + 1)) (some (e : Int)) = inner at hl4 hsg
          refine ⟨_, rfl, rfl, _, _, rfl, rfl, _, rfl, ?_⟩
          rcases Bool.eq_false_or_eq_true (Txt.startswith inner "@") with hi | hi
          · refine ifY hi ⟨_, rfl, rfl, _, _, rfl, rfl, _, rfl, ifY hi ⟨_, rfl, _, rfl, _, rfl, small5 hl4, ?_⟩⟩
            simp only [hi] at hsg
            have hlt : (cutS inner (some 1) none).length ≤ 100000 := Nat.le_trans (cutS_length _ _ _) hl4
            replace hsg : segAt name text at_ = if (!isName (cutS inner (some 1) none) || !after (cutS inner (some 1) none) name) = true then none else some (.indr (cutS inner (some 1) none), e + 1) := hsg
            generalize cutS inner (some 1) none = tg at hlt hsg
            refine ⟨_, rfl, tg, rfl, hlt, fun H2 s2 => ⟨_, rfl, ?_⟩⟩
            by_cases hn : isName tg = true
            · refine ifN (by rw [hn] <;> rfl) ⟨_, rfl, _, rfl, _, _, rfl, _, rfl, ?_⟩
              by_cases ha : after tg name = true
              · refine ifN (by rw [ha] <;> rfl) ⟨_, rfl, _, rfl, le2, fun q hq => ⟨_, rfl, _, _, rfl, rfl, le2, fun p hp => ?_⟩⟩
                refine k2 (.indr tg) (e + 1) (hsg.trans ?_) _ p q ?_ upd_same ?_
                · simp only [hn, ha, Bool.not_true, Bool.or_false]
                  rfl
                · exact s2.trans (two_tups hq hp).1
                · exact (two_tups hq hp).2
              · refine ifY (by simpa using ha) (k1 (hsg.trans ?_) _ s2)
                simp only [ha, Bool.not_false, Bool.or_true]
                rfl
            · refine ifY (by simpa using hn) (k1 (hsg.trans ?_) _ s2)
              simp only [hn, Bool.not_false, Bool.true_or]
              rfl
          · refine ifN hi ⟨_, rfl, rfl, _, _, rfl, rfl, _, rfl, ifN hi ⟨_, rfl, ?_⟩⟩
            simp only [hi] at hsg
            have hlt : inner.length ≤ 100000 := hl4
            replace hsg : segAt name text at_ = if (!isName inner || !after inner name) = true then none else some (.incl inner, e + 1) := hsg
            generalize ht : inner = tg at hlt hsg
            refine ⟨_, rfl, tg, rfl, hlt, fun H2 s2 => ⟨_, rfl, ?_⟩⟩
            by_cases hn : isName tg = true
            · refine ifN (by rw [hn] <;> rfl) ⟨_, rfl, _, rfl, _, _, rfl, _, rfl, ?_⟩
              by_cases ha : after tg name = true
              · refine ifN (by rw [ha] <;> rfl) ⟨_, rfl, _, rfl, le2, fun q hq => ⟨_, rfl, _, _, rfl, rfl, le2, fun p hp => ?_⟩⟩
                refine k2 (.incl tg) (e + 1) (hsg.trans ?_) _ p q ?_ upd_same ?_
                · simp only [hn, ha, Bool.not_true, Bool.or_false]
                  rfl
                · exact s2.trans (two_tups hq hp).1
                · exact (two_tups hq hp).2
              · refine ifY (by simpa using ha) (k1 (hsg.trans ?_) _ s2)
                simp only [ha, Bool.not_false, Bool.or_true]
                rfl
            · refine ifY (by simpa using hn) (k1 (hsg.trans ?_) _ s2)
              simp only [hn, Bool.not_false, Bool.true_or]
              rfl
        · refine ifY (dT ?_) ?_
          · rw [← hs, q1]
          have hl4 : (cutS text (some ((at_ : Int) + 1)) (some (e : Int))).length ≤ 100000 := Nat.le_trans (cutS_length _ _ _) hl
          have hsg : segAt name text at_ = (let inner := cutS text (some ((at_ : Int) + 1)) (some (e : Int))
              if isName inner then some (.link inner, e + 1) else none) := by
            unfold segAt
            rw [if_neg (by rw [q1]; decide +kernel), if_pos q1]
            rw [q2] at hf
            simp only [hf]
            rw [if_neg (by omega)] <;> rfl
          generalize cutS text (some ((at_ : Int) + 1)) (some (e : Int)) = inner at hl4 hsg
          refine ⟨_, rfl, inner, rfl, hl4, fun H2 s2 => ⟨_, rfl, ?_⟩⟩
          by_cases hn : isName inner = true
          · refine ifY hn ⟨_, rfl, le2, fun q hq => ⟨_, rfl, _, _, rfl, rfl, le2, fun p hp => ?_⟩⟩
            refine k2 (.link inner) (e + 1) (hsg.trans ?_) _ p q ?_ (upd_same) ?_
            · simp only [hn, if_true]
            · exact s2.trans (two_tups hq hp).1
            · exact (two_tups hq hp).2
          · refine ifN (by simpa using hn) (k1 (hsg.trans ?_) _ s2)
            simp only [hn]
            rfl
    · have h1 : sign text at_ ≠ "<" := fun z => h12 (.inl z)
      have h2 : sign text at_ ≠ "[" := fun z => h12 (.inr z)
      refine ⟨_, rfl, _, rfl, _, _, _, rfl, rfl, small5 hl, hix, _, _, rfl, rfl, T.open_no (by rw [← hs]; exact h1) (by rw [← hs]; exact h2), _, rfl, ifY rfl ?_⟩
      refine k1 ?_ _ (Same.refl _)
      unfold segAt
      rw [if_neg h1, if_neg h2]
end
end L2.TP
/-! split -/
namespace L2.TP
open PySem PySem.Spec PyProof.Rows L2
section
variable {P : Program} {w : World} {K : PySem.W.Frag} {mg : Str → Option Value} {base : Heap}
def Seg.enc (g : Seg) : PyData := .tuple [.str g.kind, .str g.inner]
theorem sqL_of {H : Hp} {a : Addr} {xs : List V} (h : H a = some (.lst xs)) : SqL K H a xs := .inl (.inl h)
theorem sqT_of {H : Hp} {a : Addr} {xs : List V} (h : H a = some (.tup xs)) : SqT K H a xs := .inl (.inl h)
theorem tyL {H : Hp} {a : Addr} {xs : List V} (h : H a = some (.lst xs)) : tyV K "list" (.ref a) H := .inl ⟨rfl, xs, .inl (.inl h)⟩
theorem tkL {H : Hp} {a : Addr} {xs ys : List V} (h : H a = some (.lst xs)) : TK' H (upd H a (.lst ys)) := tk_upd h fun _ e => nomatch e
theorem tkD {H : Hp} {a : Addr} {xs ys : List (L2.Key × V)} (h : H a = some (.dK xs)) : TK' H (upd H a (.dK ys)) := tk_upd h fun _ e => nomatch e
theorem iteNS {α : Type} {b : Bool} {x y : α} (h : (if b = true then none else some x) = some y) : b = false ∧ x = y := by
  cases b with
  | true => cases h
  | false => exact ⟨rfl, Option.some.inj h⟩
theorem iteSN {α : Type} {b : Bool} {x y : α} (h : (if b = true then some x else none) = some y) : b = true ∧ x = y := by
  cases b with
  | false => cases h
  | true => exact ⟨rfl, Option.some.inj h⟩
theorem len_truth {t : Str} {b : Bool} (h : (t.length != 0) = b) : ((t.length : Int) != 0) = b := by
  rw [← h]
  cases e : (t.length != 0) <;> simp_all
theorem segAt_bound {name text : Str} {i e : Nat} {g : Seg} (h : segAt name text i = some (g, e)) (hi : i ≤ text.length) : i < e ∧ e ≤ text.length := by
  unfold segAt at h
  by_cases h1 : sign text i = "<"
  · rw [if_pos h1] at h
    rcases find1 text ">" i 62 (by decide +kernel) hi with hf | ⟨k, hf, h2, h3⟩
    · simp only [hf, if_true] at h
      cases h
    · simp only [hf] at h
      rw [if_neg (by omega)] at h
      have z := (Prod.mk.inj (iteNS h).2).2
      have z2 : ((k : Int)).toNat = k := rfl
      omega
  · rw [if_neg h1] at h
    by_cases h4 : sign text i = "["
    · rw [if_pos h4] at h
      rcases find1 text "]" i 93 (by decide +kernel) hi with hf | ⟨k, hf, h2, h3⟩
      · simp only [hf, if_true] at h
        cases h
      · simp only [hf] at h
        rw [if_neg (by omega)] at h
        have z := (Prod.mk.inj (iteSN h).2).2
        have z2 : ((k : Int)).toNat = k := rfl
        omega
    · rw [if_neg h4] at h
      cases h
def spSplit (K : PySem.W.Frag) : Sp := fun vs H Q _ => ∃ (name text : Str), vs = [.str name, .str text] ∧ text.length ≤ 10000 ∧
  ∀ H' l us, Same H H' → H l = none → H' l = some (.lst us) → DtAll K H' us ((split name text).map Seg.enc) → Q (.ref l) H'
theorem str_app_len (a b : Str) : (a ++ b).length = a.length + b.length := Array.size_append
theorem ok_split (T : Txt w K mg) : FnOk P w K mg base CX0 3 (He.ga K "split") (fd_split K) ["name", "text"] (spSplit K) := by
  have G__segment := ok_segment (P := P) (base := base) T
  refine T.f_split.ok sc_split (fun vs H Q E h => ?_) (fun cdv A outer s H vs Q E hr h => ?_)
  · obtain ⟨a, b, rfl, _⟩ := h
    rfl
  · obtain ⟨name, text, rfl, hl, k⟩ := h
    have hu := hu_of hr
    refine ⟨_, PSs.nox ((pss_cons (ps_set (i := 2) sc_split.nd rfl (.inl rfl) (pe_lst pa_nil))
      (pss_cons (ps_set (i := 3) sc_split.nd rfl (.inl rfl) pe_str)
      (pss_cons (ps_set (i := 4) sc_split.nd rfl (.inl rfl) pe_int)
      (pss_cons (ps_while PassesOwn.never (pt_cmpR op_lt (pv 4) (pe_callB call_len_str (by rfl) T.z_len PySem.boot_len (pa_cons (pv 1) pa_nil)) (nomark _)) (pss_cons (ps_set (i := 5) sc_split.nd rfl (.inl rfl) (pe_call G__segment (hr.mono (by omega)) (by rfl) T.g__segment T.f__segment.kp T.b__segment .nil pass0 (pa_cons (pv 0) (pa_cons (pv 1) (pa_cons (pv 4) pa_nil)))))
      (pss_one (ps_if (pt_cmpR op_isN (pv 5) pe_non (nomark _)) (pss_cons (ps_set (i := 3) sc_split.nd rfl (.inl rfl) (pe_op op_add_str (pv 3) (pe_ix ix_str (pv 1) (pv 4) (fun _ _ => rfl))))
      (pss_one (ps_set (i := 4) sc_split.nd rfl (.inl rfl) (pe_op op_add (pv 4) pe_int)))) (pss_cons (ps_if (pt_truth (pv 3) (by intro _; rfl)) (pss_one (ps_expr (pe_bm PySem.F.plainAttrs_list PySem.F.slot_list_append PySem.F.type_list_append mt_append (pv 2) (pa_cons (pe_tup (pa_cons pe_str (pa_cons (pv 3) pa_nil))) pa_nil)))) pss_nil)
      (pss_cons (ps_set (i := 3) sc_split.nd rfl (.inl rfl) pe_str)
      (pss_cons (ps_expr (pe_bm PySem.F.plainAttrs_list PySem.F.slot_list_append PySem.F.type_list_append mt_append (pv 2) (pa_cons (pe_ix ix_tup (pv 5) pe_int (fun _ _ => rfl)) pa_nil)))
      (pss_one (ps_set (i := 4) sc_split.nd rfl (.inl rfl) (pe_ix ix_tup (pv 5) pe_int (fun _ _ => rfl)))))))))))
      (pss_cons (ps_if (pt_truth (pv 3) (by intro _; rfl)) (pss_one (ps_expr (pe_bm PySem.F.plainAttrs_list PySem.F.slot_list_append PySem.F.type_list_append mt_append (pv 2) (pa_cons (pe_tup (pa_cons pe_str (pa_cons (pv 3) pa_nil))) pa_nil)))) pss_nil)
      (pss_one (ps_ret (pv 2))))))))), ?_⟩
    refine ⟨Nat.zero_le _, fun l hln => ?_⟩
    refine ⟨fun m σ H1 => ∃ (plain : Str) (at_ : Nat) (segs : List Seg) (us : List V) (fv : Option V) (f : Nat), σ = [some (.str name), some (.str text), some (.ref l), some (.str plain), some (.int at_), fv] ∧ Same H H1 ∧ H1 l = some (.lst us) ∧
      DtAll K H1 us (segs.map Seg.enc) ∧ at_ ≤ text.length ∧ m = text.length - at_ ∧ m + 1 ≤ f ∧ splitGo name text f segs plain at_ = split name text ∧ us.length ≤ 2 * at_ ∧ plain.length ≤ at_,
      ⟨text.length, "", 0, [], [], none, text.length + 1, rfl, same_new hln, upd_same, DtAll.nil, Nat.zero_le _, rfl, Nat.le_refl _, rfl, Nat.le_refl _, Nat.le_refl _⟩, ?_⟩
    rintro m σ H1 ⟨plain, at_, segs, us, fv, f, rfl, s1, h1, d1, hat, rfl, hf, hsp, hus, hpl⟩
    obtain ⟨f, rfl⟩ : ∃ g, f = g + 1 := ⟨f - 1, by omega⟩
    refine ⟨_, rfl, _, rfl, _, rfl, small5 (by omega), _, _, rfl, rfl, _, rfl, ?_⟩
    by_cases hlt : at_ < text.length
    · refine ifY (dT (by omega)) ⟨_, fun _ _ h => h, ?_⟩
      rw [splitGo, if_pos hlt] at hsp
      refine ⟨_, rfl, _, rfl, _, rfl, name, text, at_, rfl, by omega, hlt, fun hseg H2 s2 => ?_, fun g e hseg H2 p q s2 hp hq => ?_⟩
      · refine ⟨_, rfl, rfl, _, rfl, ifY rfl ?_⟩
        obtain ⟨c, hc⟩ : ∃ c, text.cps.toList[at_]? = some c := ⟨text.cps.toList[at_]'(by rw [len_toList]; exact hlt), List.getElem?_eq_getElem _⟩
        have hs : sign text at_ = ⟨#[c]⟩ := by
          unfold sign
          have e : text.cps[at_]? = some c := by rw [← Array.getElem?_toList]; exact hc
          rw [Array.getD_eq_getD_getElem?, e] <;> rfl
        rw [hseg] at hsp
        replace hsp : splitGo name text f segs (plain ++ sign text at_) (at_ + 1) = split name text := hsp
        rw [hs] at hsp
        refine ⟨_, rfl, _, rfl, _, rfl, _, _, _, rfl, rfl, small5 (by omega), atI_nat hc, _, _, rfl, rfl, small5 (by show plain.length + 1 ≤ _; omega), ?_⟩
        refine ⟨_, rfl, _, _, rfl, rfl, ?_⟩
        refine ⟨_, by omega, plain ++ ⟨#[c]⟩, at_ + 1, segs, us, some .non, f, rfl, s1.trans s2, s2 _ _ h1, d1.keep (Same.tk s2), hlt, rfl, by omega, hsp, by omega, ?_⟩
        rw [str_app_len]
        show plain.length + 1 ≤ _
        omega
      · obtain ⟨b1, b2⟩ := segAt_bound hseg hat
        refine ⟨_, rfl, rfl, _, rfl, ifN rfl ?_⟩
        rw [hseg] at hsp
        replace hsp : splitGo name text f ((if plain.length != 0 then segs ++ [.txt plain] else segs) ++ [g]) "" e = split name text := hsp
        have h2 := s2 _ _ h1
        have d2 := d1.keep (Same.tk s2)
        have s12 := s1.trans s2
        refine ⟨_, rfl, _, ⟨small5 (by omega), rfl⟩, ?_⟩
        cases hz : (plain.length != 0) with
        | true =>
          simp only [hz, if_true] at hsp
          refine ifY (len_truth hz) ⟨_, rfl, tyL h2, _, rfl, le2, fun r hr2 => ?_⟩
          have ne : l ≠ r := ne_of_none h2 hr2
          have sN := same_new (o := .tup [.str "text", .str plain]) hr2
          have h2b := sN _ _ h2
          refine ⟨_, _, _, rfl, rfl, h2b, small5' (by omega), ?_⟩
          have hpl1 : 1 ≤ at_ := by
            have : plain.length ≠ 0 := by simpa using hz
            omega
          have h3 := upd_same (H := upd H2 r (.tup [.str "text", .str plain])) (a := l) (o := .lst (us ++ [.ref r]))
          have d3 : DtAll K (upd (upd H2 r (.tup [.str "text", .str plain])) l (.lst (us ++ [.ref r]))) (us ++ [.ref r]) ((segs ++ [Seg.txt plain]).map Seg.enc) := by
            rw [List.map_append]
            exact DtAll.append ((d2.keep (Same.tk sN)).keep (tkL h2b)) (.cons (.tup (tkL h2b _ _ upd_same) (.cons .str (.cons .str .nil))) .nil)
          have s3 := same_mut (s12.trans sN) hln (o := .lst (us ++ [.ref r]))
          have p3 := tkL h2b _ _ (sN _ _ hp) (ys := us ++ [.ref r])
          have q3 := tkL h2b _ _ (sN _ _ hq) (ys := us ++ [.ref r])
          refine ⟨_, rfl, tyL h3, _, rfl, _, _, _, _, rfl, rfl, sqT_of p3, rfl, _, _, _, rfl, rfl, h3, small5' (by simp; omega), ?_⟩
          refine ⟨_, rfl, _, _, _, _, rfl, rfl, sqT_of (tkL h3 _ _ p3), rfl, ?_⟩
          exact ⟨text.length - e, by omega, "", e, _, _, _, f, rfl, same_mut s3 hln, upd_same, by
            rw [List.map_append]
            exact DtAll.append (d3.keep (tkL h3)) (.cons (.tup (tkL h3 _ _ q3) (.cons .str (.cons .str .nil))) .nil), b2, rfl, by omega, hsp, by simp; omega, Nat.zero_le _⟩
        | false =>
          simp only [hz] at hsp
          have h3 := h2
          have d3 := d2
          have s3 := s12
          have p3 := hp
          have q3 := hq
          refine ifN (len_truth hz) ?_
          refine ⟨_, rfl, tyL h3, _, rfl, _, _, _, _, rfl, rfl, sqT_of p3, rfl, _, _, _, rfl, rfl, h3, small5' (by omega), ?_⟩
          refine ⟨_, rfl, _, _, _, _, rfl, rfl, sqT_of (tkL h3 _ _ p3), rfl, ?_⟩
          exact ⟨text.length - e, by omega, "", e, _, _, _, f, rfl, same_mut s3 hln, upd_same, by
            rw [List.map_append]
            exact DtAll.append (d3.keep (tkL h3)) (.cons (.tup (tkL h3 _ _ q3) (.cons .str (.cons .str .nil))) .nil), b2, rfl, by omega, hsp, by simp; omega, Nat.zero_le _⟩
    · refine ifN (dF (by omega)) ?_
      rw [splitGo, if_neg hlt] at hsp
      refine ⟨_, rfl, _, ⟨small5 (by omega), rfl⟩, ?_⟩
      cases hz : (plain.length != 0) with
      | true =>
        simp only [hz, if_true] at hsp
        refine ifY (len_truth hz) ⟨_, rfl, tyL h1, _, rfl, le2, fun q hq => ?_⟩
        have ne : l ≠ q := ne_of_none h1 hq
        have h2 := same_new (o := .tup [.str "text", .str plain]) hq _ _ h1
        have d2 := d1.keep (Same.tk (same_new (o := .tup [.str "text", .str plain]) hq))
        refine ⟨_, _, _, rfl, rfl, h2, small5' (by omega), _, rfl, ?_⟩
        refine k _ l _ (same_mut (s1.trans (same_new hq)) hln) hln upd_same ?_
        rw [← hsp, List.map_append]
        refine DtAll.append (d2.keep (tkL h2)) (.cons (.tup ?_ (.cons .str (.cons .str .nil))) .nil)
        rw [upd_ne ne.symm]
        exact upd_same
      | false =>
        simp only [hz] at hsp
        refine ifN (len_truth hz) ⟨_, rfl, ?_⟩
        refine k _ l _ s1 hln h1 ?_
        rw [← hsp]
        exact d1
end
end L2.TP
/-! rendering.py: target, the first failure -/
namespace L2.TP
open PySem PySem.Spec PyProof.Rows L2
section
variable {P : Program} {w : World} {K : PySem.W.Frag} {mg : Str → Option Value} {base : Heap} {H H' : Hp}
theorem at0 {a : V} {r : List V} : atI (a :: r) (0 : Int) = some a := atI_nat (j := 0) rfl
theorem at1 {a b : V} {r : List V} : atI (a :: b :: r) (1 : Int) = some b := atI_nat (j := 1) rfl
theorem at2 {a b c : V} {r : List V} : atI (a :: b :: c :: r) (2 : Int) = some c := atI_nat (j := 2) rfl
def SqU (K : PySem.W.Frag) (H : Hp) (a : Addr) (xs : List V) : Prop := SqT K (tupH H) a xs
theorem SqU.keep {a : Addr} {xs : List V} (h : SqU K H a xs) (k : TK' H H') : SqU K H' a xs := sqt_same (tupH_same k) h
theorem SqU.sq {a : Addr} {xs : List V} (h : SqU K H a xs) : SqT K H a xs := sqt_same (tupH_in H) h
theorem squ_of {a : Addr} {xs : List V} (h : H a = some (.tup xs)) : SqU K H a xs := .inl (.inl (tupH_of h))
theorem Dt.itemsU {v : V} {ds : List PyData} (h : Dt K H v (.tuple ds)) : ∃ a xs, v = .ref a ∧ SqU K H a xs ∧ DtAll K H xs ds := by
  cases h with
  | tup h q => exact ⟨_, _, rfl, h, q⟩
theorem Dt.ofU {a : Addr} {xs : List V} {ds : List PyData} (h : SqU K H a xs) (q : DtAll K H xs ds) : Dt K H (.ref a) (.tuple ds) := Dp.tup h q
theorem dt_text {v : V} {c : Str} {ls : List Str} (h : Dt K H v (Res.text c ls).enc) : ∃ p q, v = .ref p ∧ SqU K H p [.str "text", .str c, .ref q] ∧ SqU K H q (ls.map V.str) := by
  obtain ⟨p, xs, rfl, hp, hx⟩ := h.itemsU
  obtain ⟨a, b, d, rfl, ha, hb, hd⟩ := hx.three_inv
  obtain ⟨q, ys, rfl, hq, hy⟩ := hd.itemsU
  rw [ha.str_inv, hb.str_inv] at hp
  rw [hy.strs] at hq
  exact ⟨p, q, rfl, hp, hq⟩
theorem dt_pair {v : V} {n : Str} {o : Option Res} (h : Dt K H v (encP (n, o))) : ∃ p u, v = .ref p ∧ SqU K H p [.str n, u] ∧ Dt K H u (encO o) := by
  obtain ⟨p, xs, rfl, hp, hx⟩ := h.itemsU
  obtain ⟨a, b, rfl, ha, hb⟩ := hx.two_inv
  rw [ha.str_inv] at hp
  exact ⟨p, b, rfl, hp, hb⟩
def Res.kd : Res → Str
  | .text _ _ => "text"
  | .failed _ => "failed"
  | .long _ => "long"
/-- the first two items of a result -/
theorem dt_res {v : V} {r : Res} (h : Dt K H v r.enc) : ∃ p c tl, v = .ref p ∧ SqU K H p (.str r.kd :: .str c :: tl) ∧ (r.isText = true → c = r.chars) := by
  cases r with
  | text c ls =>
    obtain ⟨p, q, rfl, hp, _⟩ := dt_text h
    exact ⟨p, c, _, rfl, hp, fun _ => rfl⟩
  | failed n =>
    obtain ⟨p, xs, rfl, hp, hx⟩ := h.itemsU
    obtain ⟨a, b, rfl, ha, hb⟩ := hx.two_inv
    rw [ha.str_inv, hb.str_inv] at hp
    exact ⟨p, n, _, rfl, hp, (fun z => nomatch z)⟩
  | long n =>
    obtain ⟨p, xs, rfl, hp, hx⟩ := h.itemsU
    obtain ⟨a, b, rfl, ha, hb⟩ := hx.two_inv
    rw [ha.str_inv, hb.str_inv] at hp
    exact ⟨p, n, _, rfl, hp, (fun z => nomatch z)⟩
theorem kd_text (r : Res) : decide (V.str r.kd = V.str ("text" : Str)) = r.isText := by
  cases r with
  | text c ls => exact dT rfl
  | failed n => exact dF (by show ¬ V.str ("failed" : Str) = _; decide +kernel)
  | long n => exact dF (by show ¬ V.str ("long" : Str) = _; decide +kernel)
def ov : Option Str → V
  | none => .non
  | some s => .str s
def spTarget (K : PySem.W.Frag) : Sp := fun vs H Q _ => ∃ (name : Str) (f : V) (r : Res), vs = [.str name, f] ∧ Dt K H f r.enc ∧ r.chars.length ≤ 100000 ∧ ∀ H', Same H H' → Q (ov (target name r)) H'
theorem ok_target (T : Txt w K mg) : FnOk P w K mg base CX0 2 (He.ga K "target") (fd_target K) ["name", "found"] (spTarget K) := by
  have G_is_name := ok_is_name (P := P) (base := base) T
  have G_is_after := ok_is_after (P := P) (base := base) T
  refine T.f_target.ok sc_target (fun vs H Q E h => ?_) (fun cdv A outer s H vs Q E hr h => ?_)
  · obtain ⟨a, b, c, rfl, _⟩ := h
    rfl
  · obtain ⟨name, f, r, rfl, hd, hl, k⟩ := h
    have hu := hu_of hr
    refine ⟨_, PSs.nox ((pss_cons (ps_if (PW.pt (pw_and (pt_cmpR op_eq (pe_ix ix_tup (pv 1) pe_int (fun _ _ => rfl)) pe_str (nomark _)) (pw_and (pt_val (pe_call G_is_name (hr.mono (by omega)) (by rfl) T.g_is_name T.f_is_name.kp T.b_is_name .nil pass0 (pa_cons (pe_ix ix_tup (pv 1) pe_int (fun _ _ => rfl)) pa_nil))) (pw_and1 (pt_val (pe_call G_is_after (hr.mono (by omega)) (by rfl) T.g_is_after T.f_is_after.kp T.b_is_after .nil pass0 (pa_cons (pe_ix ix_tup (pv 1) pe_int (fun _ _ => rfl)) (pa_cons (pv 0) pa_nil)))))))) (pss_one (ps_ret (pe_ix ix_tup (pv 1) pe_int (fun _ _ => rfl)))) pss_nil)
      (pss_one (ps_ret pe_non)))), ?_⟩
    obtain ⟨p, c, tl, rfl, hp, hc⟩ := dt_res hd
    refine ⟨_, rfl, _, _, _, _, rfl, rfl, hp.sq, at0, rfl, _, rfl, ?_⟩
    cases r with
    | text c' ls =>
      have hcc : c = c' := hc rfl
      subst hcc
      refine ifY (kd_text _) ⟨_, rfl, _, _, _, _, rfl, rfl, hp.sq, at1, _, rfl, hl, fun H2 s2 => ⟨_, rfl, ?_⟩⟩
      have hp2 := hp.keep (Same.tk s2)
      replace hp2 := hp2.sq
      replace k := k H2 s2
      by_cases h1 : isName c = true
      · refine ifY h1 ⟨_, rfl, _, _, _, _, rfl, rfl, hp2, at1, _, rfl, _, _, rfl, _, rfl, ?_⟩
        by_cases h2 : after c name = true
        · refine ifY h2 ⟨_, rfl, _, _, _, _, rfl, rfl, hp2, at1, ?_⟩
          have e : target name (.text c ls) = some c := by simp [target, h1, h2]
          rw [e] at k
          exact k
        · refine ifN (by simpa using h2) ?_
          have e : target name (.text c ls) = none := by simp [target, h2]
          rw [e] at k
          exact k
      · refine ifN (by simpa using h1) (iteF ?_)
        have e : target name (.text c ls) = none := by simp [target, h1]
        rw [e] at k
        exact k
    | failed n => exact ifN (kd_text (.failed n)) (iteF (k _ (Same.refl _)))
    | long n => exact ifN (kd_text (.long n)) (iteF (k _ (Same.refl _)))
/-! ### the first failure -/
def ffail (name text : Str) (attempts : Int) (found : Told) : Option Res := if nfail text ≥ attempts then some (.failed name) else firstBad found
def spFirst (K : PySem.W.Frag) : Sp := fun vs H Q _ => ∃ (name text : Str) (n : Int) (l : Addr) (us : List V) (found : Told), vs = [.str name, .str text, .int n, .ref l] ∧ H l = some (.lst us) ∧ DtAll K H us (found.map encP) ∧ allKnown found = true ∧ us.length ≤ 100000 ∧
  ∀ H' v, Same H H' → Dt K H' v (encO (ffail name text n found)) → Q v H'
theorem ok_first_failure (T : Txt w K mg) : FnOk P w K mg base CX0 2 (He.ga K "_first_failure") (fd__first_failure K) ["name", "text", "attempts", "found"] (spFirst K) := by
  have G_failures := ok_failures (P := P) (base := base) T
  refine T.f__first_failure.ok sc__first_failure (fun vs H Q E h => ?_) (fun cdv A outer s H vs Q E hr h => ?_)
  · obtain ⟨a, b, c, d, e, f, rfl, _⟩ := h
    rfl
  · obtain ⟨name, text, n, l, us, found, rfl, hl, hd, hk, hn, k⟩ := h
    have hu := hu_of hr
    refine ⟨_, PSs.nox ((pss_cons (ps_if (pt_cmpR op_ge (pe_call G_failures (hr.mono (by omega)) (by rfl) T.g_failures T.f_failures.kp T.b_failures .nil pass0 (pa_cons (pv 1) pa_nil)) (pv 2) (nomark _)) (pss_one (ps_ret (pe_tup (pa_cons pe_str (pa_cons (pv 0) pa_nil))))) pss_nil)
      (pss_cons (ps_for PassesOwn.never rfl (pi_list (pv 3)) (pg_tup (by rfl) (pgs_cons (pg_name (i := 4) sc__first_failure.nd rfl (.inl rfl)) (pgs_cons (pg_name (i := 5) sc__first_failure.nd rfl (.inl rfl)) pgs_nil))) (pss_one (ps_if (pt_cmpR op_ne (pe_ix ix_tup (pv 5) pe_int (fun _ _ => rfl)) pe_str (nomark _)) (pss_one (ps_ret (pv 5))) pss_nil)))
      (pss_one (ps_ret pe_non))))), ?_⟩
    refine ⟨_, rfl, _, rfl, _, rfl, _, _, rfl, rfl, _, rfl, ?_⟩
    by_cases h1 : nfail text ≥ n
    · refine ifY (dT h1) ⟨_, rfl, le2, fun p hp => k _ _ (same_new hp) ?_⟩
      have e : ffail name text n found = some (.failed name) := if_pos h1
      rw [e]
      exact Dt.tup upd_same (.cons .str (.cons .str .nil))
    · have e : ffail name text n found = firstBad found := if_neg h1
      rw [e] at k
      have hlen : us.length = found.length := by rw [hd.len, List.length_map]
      refine ifN (dF h1) ⟨_, rfl, l, rfl, ⟨us, sqL_of hl⟩, for_items found (fun i σ H2 => H2 = H ∧ (∃ a b, σ = [some (.str name), some (.str text), some (.int n), some (.ref l), a, b]) ∧ ∀ q ∈ found.take i, (resOf q).isText = true) ⟨rfl, ⟨_, _, rfl⟩, by simp⟩ (fun i q σ H2 hi pv => ?_) fun σ H2 pv => ?_⟩
      · obtain ⟨rfl, ⟨a, b, rfl⟩, hall⟩ := pv
        obtain ⟨v, hv, hdv⟩ := hd.get (d := encP q) (i := i) (by rw [List.getElem?_map, hi] <;> rfl)
        refine ⟨itl_go (sqL_of hl) hv, fun x H3 hy => ?_⟩
        obtain ⟨rfl, rfl⟩ := itl_yld (sqL_of hl) hv hy
        obtain ⟨nm, o⟩ := q
        obtain ⟨p, u, rfl, hp, hu⟩ := dt_pair hdv
        obtain ⟨r, rfl⟩ : ∃ r, o = some r := Option.isSome_iff_exists.mp (List.all_eq_true.mp hk _ (List.mem_of_getElem? hi))
        obtain ⟨p2, c, tl, rfl, hp2, hc⟩ := dt_res hu
        refine ⟨_, _, rfl, hp.sq, rfl, _, _, rfl, _, _, rfl, rfl, ?_⟩
        refine ⟨_, rfl, _, _, _, _, rfl, rfl, hp2.sq, at0, rfl, _, rfl, ?_⟩
        cases hr2 : r.isText with
        | true =>
          refine ifN (by rw [kd_text, hr2] <;> rfl) ⟨rfl, ⟨_, _, rfl⟩, ?_⟩
          intro q hq
          rw [take_next hi] at hq
          rcases List.mem_append.mp hq with hq | hq
          · exact hall q hq
          · rw [List.mem_singleton.mp hq]
            exact hr2
        | false =>
          refine ifY (by rw [kd_text, hr2] <;> rfl) ⟨_, rfl, k _ _ (Same.refl _) ?_⟩
          have e2 : firstBad found = some r := by
            have z : found = found.take i ++ (nm, some r) :: found.drop (i + 1) := by
              have := List.take_append_drop i found
              rw [List.drop_eq_getElem?_toList_append, hi] at this
              exact this.symm
            unfold firstBad
            rw [z, List.find?_append, List.find?_eq_none.mpr (by intro q hq; simp [hall q hq])]
            simp [resOf, hr2]
          rw [e2]
          exact hu
      · obtain ⟨rfl, ⟨a, b, rfl⟩, hall⟩ := pv
        refine ⟨itl_stop (sqL_of hl) (Nat.le_of_eq hlen), k _ _ (Same.refl _) ?_⟩
        have e2 : firstBad found = none := by
          unfold firstBad
          rw [List.take_length] at hall
          rw [List.find?_eq_none.mpr (by intro q hq; simp [hall q hq])] <;> rfl
        rw [e2]
        exact .non
end
end L2.TP
/-! rendering.py: the result -/
namespace L2.TP
open PySem PySem.Spec PyProof.Rows L2
section
variable {P : Program} {w : World} {K : PySem.W.Frag} {mg : Str → Option Value} {base : Heap} {H H' : Hp}
theorem upd_self {H : Hp} {a : Addr} {o : HO} (h : H a = some o) : upd H a o = H := by
  funext b
  by_cases e : b = a
  · rw [e, upd_same, h]
  · rw [upd_ne e]
theorem keys_put {kvs : List (L2.Key × V)} {ls : List Str} (h : kvs.map (·.1) = ls.map Sum.inr) (s : Str) (v : V) : (putK kvs (Sum.inr s) v).map (·.1) = (ladd ls s).map Sum.inr := by
  have e1 : (kvs.any fun kv => decide (kv.1 = Sum.inr s)) = decide (s ∈ ls) := by
    rw [Bool.eq_iff_iff, List.any_eq_true, decide_eq_true_iff]
    constructor
    · rintro ⟨q, hq, h2⟩
      have z : (Sum.inr s : L2.Key) ∈ kvs.map (·.1) := by
        rw [← of_decide_eq_true h2]
        exact List.mem_map_of_mem hq
      rw [h] at z
      obtain ⟨t, ht, e⟩ := List.mem_map.mp z
      rw [← Sum.inr.inj e]
      exact ht
    · intro hs
      have z : (Sum.inr s : L2.Key) ∈ ls.map Sum.inr := List.mem_map_of_mem hs
      rw [← h] at z
      obtain ⟨t, ht, e⟩ := List.mem_map.mp z
      exact ⟨t, ht, decide_eq_true e⟩
  unfold putK ladd
  rw [e1]
  by_cases hs : s ∈ ls
  · rw [if_pos (dT hs), if_pos hs, ← h, List.map_map]
    refine List.map_congr_left fun q _ => ?_
    show (if q.1 = Sum.inr s then (q.1, v) else q).1 = q.1
    split <;> rfl
  · rw [if_neg (by rw [dF hs]; exact Bool.false_ne_true), if_neg hs, List.map_append, List.map_append, h] <;> rfl
theorem ladd_len (l : List Str) (s : Str) : (ladd l s).length ≤ l.length + 1 := by
  unfold ladd
  split
  · omega
  · rw [List.length_append]; exact Nat.le_refl _
theorem ladds_len : ∀ (rl l : List Str), (rl.foldl ladd l).length ≤ l.length + rl.length
  | [], l => Nat.le_refl _
  | s :: rl, l => by
    have h1 := ladds_len rl (ladd l s)
    have h2 := ladd_len l s
    rw [List.foldl_cons, List.length_cons]
    omega
theorem keys_len {kvs : List (L2.Key × V)} {ls : List Str} (h : kvs.map (·.1) = ls.map Sum.inr) : kvs.length = ls.length := by
  have e := congrArg List.length h
  rw [List.length_map, List.length_map] at e
  exact e
theorem join_tail {E : Ends} {a0 a1 a2 a6 a7 a9 a10 : Option V} {c rc : Str} {Dd : Addr} {a : Int} {v : V} {rl ls : List Str} {kvs : List (L2.Key × V)} {H2 : Hp} (hv : Dt K H2 v (Res.text rc rl).enc) (hD : H2 Dd = some (.dK kvs)) (hk : kvs.map (·.1) = ls.map Sum.inr)
    (hlen : c.length + rc.length ≤ 100000) (hls : ls.length + rl.length ≤ 90000)
    (nx : ∀ kvs3 b, kvs3.map (·.1) = (rl.foldl ladd ls).map Sum.inr → E.nx [a0, a1, a2, some (.str (c ++ rc)), some (.ref Dd), some (.int a), a6, a7, some v, a9, b] (upd H2 Dd (.dK kvs3))) :
    tSeq (tAsg (tOp (fun x y H Q => ∃ i j, x = .str i ∧ y = .str j ∧ i.length + j.length ≤ sizeLine ∧ Q (.str (i ++ j)) H) (tVar 3) (tOp (rIxT K) (tVar 8) (tC (.int 1)))) (gName 3)) (tFor (iTup K (tOp (rIxT K) (tVar 8) (tC (.int 2)))) (gName 10) (sDPut (tVar 4) (tVar 10) (tC (.bl true))))
      E [a0, a1, a2, some (.str c), some (.ref Dd), some (.int a), a6, a7, some v, a9, a10] H2 := by
  obtain ⟨p, q, rfl, hp, hq⟩ := dt_text hv
  have tk : ∀ kvs3, TK' H2 (upd H2 Dd (.dK kvs3)) := fun _ => tkD hD
  refine ⟨_, rfl, _, rfl, _, _, _, _, rfl, rfl, hp.sq, at1, _, _, rfl, rfl, small5 hlen, ?_⟩
  refine ⟨_, rfl, _, _, _, _, rfl, rfl, hp.sq, at2, q, rfl, ⟨_, hq.sq⟩, for_items rl (fun i σ H3 => ∃ kvs3 b, H3 = upd H2 Dd (.dK kvs3) ∧ σ = [a0, a1, a2, some (.str (c ++ rc)), some (.ref Dd), some (.int a), a6, a7, some (.ref p), a9, b] ∧ kvs3.map (·.1) = ((rl.take i).foldl ladd ls).map Sum.inr)
    ⟨kvs, a10, (upd_self hD).symm, rfl, hk⟩ (fun i s σ H3 hi pv => ?_) fun σ H3 pv => ?_⟩
  · obtain ⟨kvs3, b, rfl, rfl, hk3⟩ := pv
    have hqq := (hq.keep (tk kvs3)).sq
    have hxi : (rl.map V.str)[i]? = some (.str s) := by rw [List.getElem?_map, hi] <;> rfl
    refine ⟨itt_go hqq hxi, fun x H4 hy => ?_⟩
    obtain ⟨rfl, rfl⟩ := itt_yld hqq hxi hy
    refine ⟨_, rfl, _, rfl, Dd, _, rfl, .inl ⟨kvs3, .inr s, upd_same, rfl, ?_, rfl⟩, ?_⟩
    · rw [keys_len hk3]
      have h1 := ladds_len (rl.take i) ls
      have h2 : (rl.take i).length ≤ rl.length := by rw [List.length_take]; omega
      exact small5' (by omega)
    · refine ⟨putK kvs3 (.inr s) (.bl true), _, upd_upd, rfl, ?_⟩
      rw [keys_put hk3, take_next hi, List.foldl_append] <;> rfl
  · obtain ⟨kvs3, b, rfl, rfl, hk3⟩ := pv
    have hqq := (hq.keep (tk kvs3)).sq
    rw [List.take_length] at hk3
    exact ⟨itt_stop hqq (by rw [List.length_map]; exact Nat.le_refl _), nx kvs3 b hk3⟩
theorem dt_seg {v : V} {g : Seg} (h : Dt K H v g.enc) : ∃ p, v = .ref p ∧ SqU K H p [.str g.kind, .str g.inner] := by
  obtain ⟨p, xs, rfl, hp, hx⟩ := h.itemsU
  obtain ⟨a, b, rfl, ha, hb⟩ := hx.two_inv
  rw [ha.str_inv, hb.str_inv] at hp
  exact ⟨p, rfl, hp⟩
/-- what a split gives: not too many, not too long -/
theorem splitGo_len {name text : Str} {L : Nat} (hL : text.length ≤ L) : ∀ (f : Nat) (segs : List Seg) (plain : Str) (at_ : Nat), at_ ≤ text.length → plain.length ≤ at_ → (∀ g ∈ segs, g.inner.length ≤ L) → segs.length ≤ 2 * at_ →
    (∀ g ∈ splitGo name text f segs plain at_, g.inner.length ≤ L) ∧ (splitGo name text f segs plain at_).length ≤ 2 * text.length + 1
  | 0, segs, plain, at_, h1, h2, h3, h4 => ⟨h3, by show segs.length ≤ _; omega⟩
  | f + 1, segs, plain, at_, h1, h2, h3, h4 => by
    have put : ∀ (l : List Seg) (g : Seg), (∀ g ∈ l, g.inner.length ≤ L) → g.inner.length ≤ L → ∀ x ∈ l ++ [g], x.inner.length ≤ L := by
      intro l g a b x hx
      rcases List.mem_append.mp hx with q | q
      · exact a x q
      · rw [List.mem_singleton.mp q]; exact b
    rw [splitGo]
    by_cases hlt : at_ < text.length
    · rw [if_pos hlt]
      cases hs : segAt name text at_ with
      | none =>
        have z := splitGo_len (name := name) hL f segs (plain ++ sign text at_) (at_ + 1) hlt (by rw [str_app_len]; show plain.length + 1 ≤ _; omega) h3 (by omega)
        exact z
      | some ge =>
        obtain ⟨g, e⟩ := ge
        obtain ⟨b1, b2⟩ := segAt_bound hs h1
        have hg : g.inner.length ≤ L := by
          have hcut : ∀ lo hi, (cutS text lo hi).length ≤ L := fun lo hi => Nat.le_trans (cutS_length _ _ _) hL
          unfold segAt at hs
          by_cases q1 : sign text at_ = "<"
          · rw [if_pos q1] at hs
            by_cases q2 : Txt.find3 text ">" at_ < 0
            · simp only [q2, if_true] at hs
              cases hs
            · simp only [q2] at hs
              rw [← (Prod.mk.inj (iteNS hs).2).1]
              cases Txt.startswith (cutS text (some ((at_ : Int) + 1)) (some (Txt.find3 text ">" at_))) "@" with
              | true => exact Nat.le_trans (cutS_length _ _ _) (hcut _ _)
              | false => exact hcut _ _
          · rw [if_neg q1] at hs
            by_cases q3 : sign text at_ = "["
            · rw [if_pos q3] at hs
              by_cases q2 : Txt.find3 text "]" at_ < 0
              · simp only [q2, if_true] at hs
                cases hs
              · simp only [q2] at hs
                rw [← (Prod.mk.inj (iteSN hs).2).1]
                exact hcut _ _
            · rw [if_neg q3] at hs
              cases hs
        show (∀ x ∈ splitGo name text f ((if plain.length != 0 then segs ++ [.txt plain] else segs) ++ [g]) "" e, _) ∧ (splitGo name text f ((if plain.length != 0 then segs ++ [.txt plain] else segs) ++ [g]) "" e).length ≤ _
        cases hz : (plain.length != 0) with
        | true =>
          have hz2 : plain.length ≠ 0 := by simpa using hz
          exact splitGo_len (name := name) hL f _ "" e b2 (Nat.zero_le _) (put _ _ (put _ _ h3 (by show plain.length ≤ L; omega)) hg) (by simp; omega)
        | false => exact splitGo_len (name := name) hL f _ "" e b2 (Nat.zero_le _) (put _ _ h3 hg) (by simp; omega)
    · rw [if_neg hlt]
      cases hz : (plain.length != 0) with
      | true => exact ⟨put _ _ h3 (by show plain.length ≤ L; omega), by simp; omega⟩
      | false => exact ⟨h3, by show segs.length ≤ _; omega⟩
theorem split_len {name text : Str} {L : Nat} (hL : text.length ≤ L) : (∀ g ∈ split name text, g.inner.length ≤ L) ∧ (split name text).length ≤ 2 * text.length + 1 := splitGo_len hL _ _ _ _ (Nat.zero_le _) (Nat.le_refl _) (by simp) (Nat.le_refl _)
end
end L2.TP
/-! rendering.py: the result, walked -/
namespace L2.TP
open PySem PySem.Spec PyProof.Rows L2
section
variable {P : Program} {w : World} {K : PySem.W.Frag} {mg : Str → Option Value} {base : Heap} {H H' : Hp}
/-- every item is a text result, and small -/
def Texts (found : Told) : Prop := ∀ p ∈ found, ∃ c ls, p.2 = some (.text c ls) ∧ c.length ≤ 200 ∧ ls.length ≤ 200
def spJoin (K : PySem.W.Frag) : Sp := fun vs H Q _ => ∃ (name text : Str) (l : Addr) (us : List V) (found : Told) (kn : Str → Option Res), vs = [.str name, .str text, .ref l] ∧ H l = some (.lst us) ∧ DtAll K H us (found.map encP) ∧ found = toldOf kn name text ∧ Texts found ∧ text.length ≤ 60 ∧
  ∀ H' p q, Same H H' → SqU K H' p [.str (joinGo name (split name text) found "" []).1, .ref q] → SqU K H' q ((srt (joinGo name (split name text) found "" []).2).map V.str) → (joinGo name (split name text) found "" []).1.length ≤ 100000 → Q (.ref p) H'
/-- the loop's heap: what stood, the tuples, the list of segments, the dict -/
structure JH (H H1 : Hp) (lS : Addr) (usS : List V) (Dd : Addr) (H2 : Hp) (kvs : List (L2.Key × V)) : Prop where
  same : Same H H2
  tk : TK' H1 H2
  lst : H2 lS = some (.lst usS)
  dct : H2 Dd = some (.dK kvs)
theorem JH.put {H H1 H2 : Hp} {lS Dd : Addr} {usS : List V} {kvs : List (L2.Key × V)} (j : JH H H1 lS usS Dd H2 kvs) (hn : H Dd = none) (hne : lS ≠ Dd) (kvs' : List (L2.Key × V)) : JH H H1 lS usS Dd (upd H2 Dd (.dK kvs')) kvs' :=
  ⟨same_mut j.same hn, j.tk.trans (tkD j.dct), by rw [upd_ne hne]; exact j.lst, upd_same⟩
theorem JH.next {H H1 H2 H3 : Hp} {lS Dd : Addr} {usS : List V} {kvs : List (L2.Key × V)} (j : JH H H1 lS usS Dd H2 kvs) (s : Same H2 H3) : JH H H1 lS usS Dd H3 kvs :=
  ⟨j.same.trans s, j.tk.trans (Same.tk s), s _ _ j.lst, s _ _ j.dct⟩
theorem joinGo_no {name s : Str} {r : List Seg} {p : Str × Option Res} {f : Told} {c : Str} {l : List Str} (ht : target name (resOf p) = none) : joinGo name (.indr s :: r) (p :: f) c l = joinGo name r f (c ++ "?") l := by
  simp only [joinGo, ht]
theorem joinGo_led {name s led : Str} {r : List Seg} {p q : Str × Option Res} {f : Told} {c : Str} {l : List Str} (ht : target name (resOf p) = some led) : joinGo name (.indr s :: r) (p :: q :: f) c l = joinGo name r f (c ++ (resOf q).chars) ((resOf q).links.foldl ladd l) := by
  simp only [joinGo, ht]
theorem ok_join_segments (T : Txt w K mg) : FnOk P w K mg base CX0 4 (He.ga K "_join_segments") (fd__join_segments K) ["name", "text", "found"] (spJoin K) := by
  have G_split := ok_split (P := P) (base := base) T
  have G_target := ok_target (P := P) (base := base) T
  refine T.f__join_segments.ok sc__join_segments (fun vs H Q E h => ?_) (fun cdv A outer s H vs Q E hr h => ?_)
  · obtain ⟨a, b, c, d, e, f, rfl, _⟩ := h
    rfl
  · obtain ⟨name, text, l, us, found, kn, rfl, hl, hd, hfd, htx, htl, k⟩ := h
    have hu := hu_of hr
    refine ⟨_, PSs.nox ((pss_cons (ps_set (i := 3) sc__join_segments.nd rfl (.inl rfl) pe_str)
      (pss_cons (ps_set (i := 4) sc__join_segments.nd rfl (.inl rfl) pe_dnewK)
      (pss_cons (ps_set (i := 5) sc__join_segments.nd rfl (.inl rfl) pe_int)
      (pss_cons (ps_for PassesOwn.never rfl (pi_list (pe_call G_split (hr.mono (by omega)) (by rfl) T.g_split T.f_split.kp T.b_split .nil pass0 (pa_cons (pv 0) (pa_cons (pv 1) pa_nil)))) (pg_tup (by rfl) (pgs_cons (pg_name (i := 6) sc__join_segments.nd rfl (.inl rfl)) (pgs_cons (pg_name (i := 7) sc__join_segments.nd rfl (.inl rfl)) pgs_nil))) (pss_one (ps_if (pt_cmpR op_eq (pv 6) pe_str (nomark _)) (pss_one (ps_set (i := 3) sc__join_segments.nd rfl (.inl rfl) (pe_op op_add_str (pv 3) (pv 7)))) (pss_one (ps_if (pt_cmpR op_eq (pv 6) pe_str (nomark _)) (pss_cons (ps_set (i := 3) sc__join_segments.nd rfl (.inl rfl) (pe_op op_add_str (pe_op op_add_str (pe_op op_add_str (pv 3) pe_str) (pv 7)) pe_str))
      (pss_one (ps_dput hu (pv 4) (pv 7) pe_bl rfl))) (pss_cons (ps_set (i := 8) sc__join_segments.nd rfl (.inl rfl) (pe_ix ix_tup (pe_ix ix_list (pv 2) (pv 5) (fun _ _ => rfl)) pe_int (fun _ _ => rfl)))
      (pss_cons (ps_set (i := 5) sc__join_segments.nd rfl (.inl rfl) (pe_op op_add (pv 5) pe_int))
      (pss_cons (ps_if (pt_cmpR op_eq (pv 6) pe_str (nomark _)) (pss_cons (ps_set (i := 9) sc__join_segments.nd rfl (.inl rfl) (pe_call G_target (hr.mono (by omega)) (by rfl) T.g_target T.f_target.kp T.b_target .nil pass0 (pa_cons (pv 0) (pa_cons (pv 8) pa_nil))))
      (pss_cons (ps_set (i := 8) sc__join_segments.nd rfl (.inl rfl) (pe_ifExp (pt_cmpR op_isN (pv 9) pe_non (nomark _)) (pe_gr T.g_NOTHING) (pe_ix ix_tup (pe_ix ix_list (pv 2) (pv 5) (fun _ _ => rfl)) pe_int (fun _ _ => rfl))))
      (pss_one (ps_set (i := 5) sc__join_segments.nd rfl (.inl rfl) (pe_op op_add (pv 5) (pe_ifExp (pt_cmpR op_isN (pv 9) pe_non (nomark _)) pe_int pe_int)))))) pss_nil)
      (pss_cons (ps_set (i := 3) sc__join_segments.nd rfl (.inl rfl) (pe_op op_add_str (pv 3) (pe_ix ix_tup (pv 8) pe_int (fun _ _ => rfl))))
      (pss_one (ps_for PassesOwn.never rfl (pi_tup (pe_ix ix_tup (pv 8) pe_int (fun _ _ => rfl))) (pg_name (i := 10) sc__join_segments.nd rfl (.inl rfl)) (pss_one (ps_dput hu (pv 4) (pv 10) pe_bl rfl)))))))))))))
      (pss_one (ps_ret (pe_tup (pa_cons (pv 3) (pa_cons (pe_callTy call_tuple_of (by rfl) T.z_tuple (by decide +kernel) (pa_cons (pe_callB (cr_sortD rfl) (by rfl) T.z_sorted (by decide +kernel) (pa_cons (pv 4) pa_nil)) pa_nil)) pa_nil)))))))))), ?_⟩
    intro Dd hDn
    refine ⟨_, rfl, _, rfl, name, text, rfl, by omega, fun H1 lS usS s1 hlSn hlS hdS => ?_⟩
    obtain ⟨hsl, hsn⟩ := split_len (name := name) (Nat.le_refl text.length)
    have hD1 : H1 Dd = some (.dK []) := s1 _ _ upd_same
    have sH1 : Same H H1 := (same_new hDn).trans s1
    have hlD : l ≠ Dd := ne_of_none hl hDn
    have hlSD : lS ≠ Dd := fun z => by rw [z, upd_same] at hlSn; cases hlSn
    have hlenS : usS.length = (split name text).length := by rw [hdS.len, List.length_map]
    generalize hsg : split name text = segs at *
    refine ⟨lS, rfl, ⟨usS, sqL_of hlS⟩, for_items segs (fun i σ H2 => ∃ (c : Str) (ls : List Str) (a : Nat) (kvs : List (L2.Key × V)) (f6 f7 f8 f9 f10 : Option V), JH H H1 lS usS Dd H2 kvs ∧ σ = [some (.str name), some (.str text), some (.ref l), some (.str c), some (.ref Dd), some (.int a), f6, f7, f8, f9, f10] ∧ kvs.map (·.1) = ls.map Sum.inr ∧
      joinGo name (segs.drop i) (found.drop a) c ls = joinGo name segs found "" [] ∧ found.drop a = (segs.drop i).flatMap (toldSeg kn name) ∧ c.length ≤ 300 * i ∧ ls.length ≤ 200 * i)
      ⟨"", [], 0, [], none, none, none, none, none, ⟨sH1, TK'.refl _, hlS, hD1⟩, rfl, rfl, rfl, by rw [hfd, toldOf, hsg]; rfl, Nat.le_refl _, Nat.le_refl _⟩ (fun i g σ H2 hi pv => ?_) fun σ H2 pv => ?_⟩
    · obtain ⟨c, ls, a, kvs, f6, f7, f8, f9, f10, J, rfl, hk, hj, hf, hc, hls⟩ := pv
      have hil : i < segs.length := (List.getElem?_eq_some_iff.mp hi).1
      have hl2 : ∀ {H3 kvs}, JH H H1 lS usS Dd H3 kvs → SqL K H3 l us := fun j => sqL_of (j.same _ _ hl)
      obtain ⟨v, hv, hdv⟩ := hdS.get (d := g.enc) (i := i) (by rw [List.getElem?_map, hi] <;> rfl)
      refine ⟨itl_go (sqL_of J.lst) hv, fun x H3 hy => ?_⟩
      obtain ⟨rfl, rfl⟩ := itl_yld (sqL_of J.lst) hv hy
      obtain ⟨p, rfl, hp⟩ := dt_seg (hdv.keep J.tk)
      have hdrop : segs.drop i = g :: segs.drop (i + 1) := by
        rw [List.drop_eq_getElem?_toList_append, hi] <;> rfl
      rw [hdrop] at hj hf
      have hgl : g.inner.length ≤ 60 := Nat.le_trans (hsl g (List.mem_of_getElem? hi)) htl
      have item : ∀ (b : Nat) (nm : Str) (o : Option Res) (rest : Told) (H3 : Hp) (kvs : List (L2.Key × V)), JH H H1 lS usS Dd H3 kvs → found.drop b = (nm, o) :: rest → ∃ (p2 : Addr) (u : V) (rc : Str) (rl : List Str), us[b]? = some (.ref p2) ∧ SqU K H3 p2 [.str nm, u] ∧ o = some (.text rc rl) ∧ Dt K H3 u (Res.text rc rl).enc ∧ rc.length ≤ 200 ∧ rl.length ≤ 200 ∧ found.drop (b + 1) = rest := by
        intro b nm o rest H3 kvs J hb
        have hg : found[b]? = some (nm, o) := by rw [← List.head?_drop, hb] <;> rfl
        obtain ⟨rc, rl, ho, h1, h2⟩ := htx _ (List.mem_of_getElem? hg)
        replace ho : o = some (.text rc rl) := ho
        subst ho
        obtain ⟨v, hv, hdv⟩ := hd.get (d := encP (nm, some (.text rc rl))) (i := b) (by rw [List.getElem?_map, hg] <;> rfl)
        obtain ⟨p2, u, rfl, hp2, hu2⟩ := dt_pair (hdv.keep (Same.tk J.same))
        refine ⟨p2, u, rc, rl, hv, hp2, rfl, hu2, h1, h2, ?_⟩
        rw [← List.tail_drop, hb] <;> rfl
      refine ⟨_, _, rfl, hp.sq, rfl, _, _, rfl, _, _, rfl, rfl, ?_⟩
      refine ⟨_, rfl, rfl, _, rfl, ?_⟩
      cases g with
      | txt s =>
        replace hgl : s.length ≤ 60 := hgl
        refine ifY rfl ⟨_, rfl, _, rfl, _, _, rfl, rfl, small5 (by show c.length + s.length ≤ _; omega), ?_⟩
        refine ⟨c ++ s, ls, a, kvs, _, _, _, _, _, J, rfl, hk, hj, hf, ?_, by omega⟩
        rw [str_app_len]
        omega
      | link s =>
        replace hgl : s.length ≤ 60 := hgl
        refine ifN rfl ⟨_, rfl, rfl, _, rfl, ifY rfl ?_⟩
        have h1 : ("[" : Str).length = 1 := by decide +kernel
        have h2 : ("]" : Str).length = 1 := by decide +kernel
        refine ⟨_, rfl, _, _, rfl, rfl, small5 (by rw [h1]; omega), _, rfl, _, _, rfl, rfl, small5 (by rw [str_app_len, h1]; show c.length + 1 + s.length ≤ _; omega), _, _, rfl, rfl, small5 (by rw [str_app_len, str_app_len, h1, h2]; show c.length + 1 + s.length + 1 ≤ _; omega), ?_⟩
        refine ⟨_, rfl, _, rfl, Dd, _, rfl, .inl ⟨kvs, .inr s, J.dct, rfl, ?_, rfl⟩, ?_⟩
        · rw [keys_len hk]
          exact small5' (by omega)
        · refine ⟨c ++ ("[" : Str) ++ s ++ ("]" : Str), ladd ls s, a, putK kvs (.inr s) (.bl true), _, _, _, _, _, J.put hDn hlSD _, rfl, keys_put hk s _, hj, hf, ?_, ?_⟩
          · rw [str_app_len, str_app_len, str_app_len, h1, h2]
            omega
          · have := ladd_len ls s
            omega
      | incl s =>
        refine ifN rfl ⟨_, rfl, rfl, _, rfl, ifN rfl ?_⟩
        replace hf : found.drop a = (s, kn s) :: (segs.drop (i + 1)).flatMap (toldSeg kn name) := hf
        obtain ⟨p2, u, rc, rl, hus, hp2, hkn, hu2, hrc, hrl, hd2⟩ := item a s (kn s) _ _ kvs J hf
        rw [hf, hkn] at hj
        replace hj : joinGo name (segs.drop (i + 1)) ((segs.drop (i + 1)).flatMap (toldSeg kn name)) (c ++ rc) (rl.foldl ladd ls) = joinGo name segs found "" [] := hj
        refine ⟨_, rfl, _, rfl, _, _, _, _, rfl, rfl, hl2 J, atI_nat hus, _, _, _, _, rfl, rfl, hp2.sq, at1, ?_⟩
        refine ⟨_, rfl, _, _, rfl, rfl, ?_⟩
        refine ⟨_, rfl, rfl, _, rfl, ifN rfl ?_⟩
        refine join_tail hu2 J.dct hk (by omega) (by omega) fun kvs3 b hk3 => ?_
        refine ⟨c ++ rc, rl.foldl ladd ls, a + 1, kvs3, _, _, _, _, _, J.put hDn hlSD _, rfl, hk3, by rw [hd2]; exact hj, hd2, ?_, ?_⟩
        · rw [str_app_len]
          omega
        · have := ladds_len rl ls
          omega
      | indr s =>
        refine ifN rfl ⟨_, rfl, rfl, _, rfl, ifN rfl ?_⟩
        replace hf : found.drop a = (s, kn s) :: ((match kn s with
          | some r => (match target name r with
            | some led => [(led, kn led)]
            | none => [])
          | none => []) ++ (segs.drop (i + 1)).flatMap (toldSeg kn name)) := hf
        obtain ⟨p2, u, rc, rl, hus, hp2, hkn, hu2, hrc, hrl, hd2⟩ := item a s (kn s) _ _ kvs J hf
        rw [hkn] at hf hd2
        rw [hf] at hj
        refine ⟨_, rfl, _, rfl, _, _, _, _, rfl, rfl, hl2 J, atI_nat hus, _, _, _, _, rfl, rfl, hp2.sq, at1, ?_⟩
        refine ⟨_, rfl, _, _, rfl, rfl, ?_⟩
        refine ⟨_, rfl, rfl, _, rfl, ifY rfl ?_⟩
        refine ⟨_, rfl, _, rfl, name, u, .text rc rl, rfl, hu2, by show rc.length ≤ _; omega, fun H4 s4 => ?_⟩
        have J4 := J.next s4
        have hu4 := hu2.keep (Same.tk s4)
        cases ht : target name (.text rc rl) with
        | none =>
          have hf2 : found.drop (a + 1) = (segs.drop (i + 1)).flatMap (toldSeg kn name) := by
            rw [hd2]
            simp only [ht]
            rfl
          have hj2 : joinGo name (segs.drop (i + 1)) ((segs.drop (i + 1)).flatMap (toldSeg kn name)) (c ++ ("?" : Str)) ls = joinGo name segs found "" [] := by
            rw [← hj]
            simp only [ht]
            exact (joinGo_no (p := (s, some (.text rc rl))) ht).symm
          refine ⟨_, rfl, rfl, _, rfl, ifY rfl ?_⟩
          refine ⟨_, rfl, _, rfl, rfl, _, rfl, ifY rfl ⟨_, _, rfl, rfl, ?_⟩⟩
          have hq1 : ("?" : Str).length = 1 := by decide +kernel
          refine join_tail (rc := "?") (rl := []) (T.t_NOTHING _) J4.dct hk (by omega) (by show ls.length + 0 ≤ _; omega) fun kvs3 b hk3 => ?_
          refine ⟨c ++ ("?" : Str), ls, a + 1, kvs3, _, _, _, _, _, J4.put hDn hlSD _, rfl, hk3, by rw [hf2]; exact hj2, hf2, ?_, by omega⟩
          rw [str_app_len]
          omega
        | some led =>
          simp only [ht] at hd2 hj
          replace hd2 : found.drop (a + 1) = (led, kn led) :: (segs.drop (i + 1)).flatMap (toldSeg kn name) := hd2
          obtain ⟨p5, u5, rc5, rl5, hus5, hp5, hkn5, hu5, hrc5, hrl5, hd5⟩ := item (a + 1) led (kn led) _ _ kvs J4 hd2
          have hj2 : joinGo name (segs.drop (i + 1)) ((segs.drop (i + 1)).flatMap (toldSeg kn name)) (c ++ rc5) (rl5.foldl ladd ls) = joinGo name segs found "" [] := by
            rw [← hj, hkn5]
            exact (joinGo_led (p := (s, some (.text rc rl))) (q := (led, some (.text rc5 rl5))) ht).symm
          refine ⟨_, rfl, rfl, _, rfl, ifN rfl ?_⟩
          refine ⟨_, rfl, _, rfl, _, _, _, _, rfl, rfl, hl2 J4, atI_nat (j := a + 1) hus5, _, _, _, _, rfl, rfl, hp5.sq, at1, ?_⟩
          refine ⟨_, rfl, _, rfl, rfl, _, rfl, ifN rfl ⟨_, _, rfl, rfl, ?_⟩⟩
          refine join_tail hu5 J4.dct hk (by omega) (by omega) fun kvs3 b hk3 => ?_
          refine ⟨c ++ rc5, rl5.foldl ladd ls, a + 2, kvs3, _, _, _, _, _, J4.put hDn hlSD _, rfl, hk3, by rw [hd5]; exact hj2, hd5, ?_, ?_⟩
          · rw [str_app_len]
            omega
          · have := ladds_len rl5 ls
            omega
    · obtain ⟨c, ls, a, kvs, f6, f7, f8, f9, f10, J, rfl, hk, hj, hf, hc, hls⟩ := pv
      rw [List.drop_length] at hj hf
      replace hj : (c, ls) = joinGo name segs found "" [] := by
        rw [← hj, hf]
        rfl
      rw [hlenS.symm] at hc
      refine ⟨itl_stop (sqL_of J.lst) (Nat.le_of_eq hlenS), ?_⟩
      rw [← hj] at k
      refine ⟨_, rfl, _, rfl, Dd, kvs, ls, rfl, .of J.dct, hk, fun q1 hq1 => ⟨q1, _, rfl, .inl ⟨sqL_of upd_same, fun q2 hq2 => ⟨le2, fun p hp => ?_⟩⟩⟩⟩
      have s1 := same_new hq1 (o := .lst ((srt ls).map V.str))
      have s2 := same_new hq2 (o := .tup ((srt ls).map V.str))
      have s3 := same_new hp (o := .tup [.str c, .ref q2])
      exact k _ p q2 (((J.same.trans s1).trans s2).trans s3) (squ_of upd_same) (squ_of (s3 _ _ upd_same)) (by rw [hlenS] at hc; show c.length ≤ _; omega)
end
end L2.TP
/-! rendering.py: join_result; closing.py; options.py -/
namespace L2.TP
open PySem PySem.Spec PyProof.Rows L2
section
variable {P : Program} {w : World} {K : PySem.W.Frag} {mg : Str → Option Value} {base : Heap} {H H' : Hp}
def SOk (x : Str) : Prop := PyData.strOk x = true
/-- a short name -/
def SN (x : Str) : Prop := SOk x ∧ x.length ≤ 60
def Res.Sk : Res → Prop
  | .text c ls => SOk c ∧ ∀ l ∈ ls, SN l
  | .failed n => SN n
  | .long n => SN n
def Res.Ok (r : Res) : Prop := r.chars.length ≤ 200 ∧ r.links.length ≤ r.chars.length ∧ r.Sk
/-- of dependencies that need not be known -/
def TOk (f : Told) : Prop := ∀ p ∈ f, SOk p.1 ∧ ∀ r, p.2 = some r → r.Ok
structure Rend.Ok (r : Rend) : Prop where
  name : SOk r.name
  text : SOk r.text
  found : TOk r.found
  res : r.res.Ok
def CchOk (c : Cch) : Prop := ∀ p ∈ c, p.2.length ≤ 4 ∧ ∀ r ∈ p.2, r.Ok
def FOk (found : Told) : Prop := ∀ p ∈ found, ∃ r, p.2 = some r ∧ r.Ok
theorem FOk.known {found : Told} (h : FOk found) : allKnown found = true := List.all_eq_true.mpr fun p hp => by
  obtain ⟨r, e, _⟩ := h p hp
  rw [e] <;> rfl
theorem FOk.texts {found : Told} (h : FOk found) (hb : firstBad found = none) : Texts found := fun p hp => by
  obtain ⟨r, e, h1, h2, _⟩ := h p hp
  have z : (resOf p).isText = true := by
    unfold firstBad at hb
    have q := List.find?_eq_none.mp (Option.map_eq_none_iff.mp hb) p hp
    simpa using q
  unfold resOf at z
  rw [e] at z
  cases r with
  | text c ls => exact ⟨c, ls, e, h1, Nat.le_trans h2 h1⟩
  | failed n => cases z
  | long n => cases z
def spJoinResult (K : PySem.W.Frag) : Sp := fun vs H Q _ => ∃ (name text : Str) (n : Int) (l : Addr) (us : List V) (found : Told) (kn : Str → Option Res), vs = [.str name, .str text, .int n, .ref l] ∧ H l = some (.lst us) ∧ DtAll K H us (found.map encP) ∧ found = toldOf kn name text ∧ FOk found ∧ text.length ≤ 60 ∧ us.length ≤ 100000 ∧
  ∀ H' v, Same H H' → Dt K H' v (joinResult name text n found).enc → Q v H'
theorem enc_not_none (r : Res) : r.enc ≠ .none := by cases r <;> exact fun z => nomatch z
theorem dt_not_none {v : V} {r : Res} (h : Dt K H v r.enc) : v ≠ .non := by
  obtain ⟨p, c, tl, rfl, _⟩ := dt_res h
  exact fun z => nomatch z
theorem ok_join_result (T : Txt w K mg) : FnOk P w K mg base CX0 5 (He.ga K "join_result") (fd_join_result K) ["name", "text", "attempts", "found"] (spJoinResult K) := by
  have G__first_failure := ok_first_failure (P := P) (base := base) T
  have G__join_segments := ok_join_segments (P := P) (base := base) T
  refine T.f_join_result.ok sc_join_result (fun vs H Q E h => ?_) (fun cdv A outer s H vs Q E hr h => ?_)
  · obtain ⟨a, b, c, d, e, f, g, rfl, _⟩ := h
    rfl
  · obtain ⟨name, text, n, l, us, found, kn, rfl, hl, hd, hfd, hok, htl, hus, k⟩ := h
    have hu := hu_of hr
    refine ⟨_, PSs.nox ((pss_cons (ps_set (i := 4) sc_join_result.nd rfl (.inl rfl) (pe_call G__first_failure (hr.mono (by omega)) (by rfl) T.g__first_failure T.f__first_failure.kp T.b__first_failure .nil pass0 (pa_cons (pv 0) (pa_cons (pv 1) (pa_cons (pv 2) (pa_cons (pv 3) pa_nil))))))
      (pss_cons (ps_if (pt_cmpR op_notN (pv 4) pe_non (nomark _)) (pss_one (ps_ret (pv 4))) pss_nil)
      (pss_cons (ps_asg (pe_call G__join_segments (hr.mono (by omega)) (by rfl) T.g__join_segments T.f__join_segments.kp T.b__join_segments .nil pass0 (pa_cons (pv 0) (pa_cons (pv 1) (pa_cons (pv 3) pa_nil)))) (pg_tup (by rfl) (pgs_cons (pg_name (i := 5) sc_join_result.nd rfl (.inl rfl)) (pgs_cons (pg_name (i := 6) sc_join_result.nd rfl (.inl rfl)) pgs_nil))))
      (pss_cons (ps_if (pt_cmpR op_gt (pe_callB call_len_str (by rfl) T.z_len PySem.boot_len (pa_cons (pv 5) pa_nil)) (pe_gi T.i_RESULT_MOST) (nomark _)) (pss_one (ps_ret (pe_tup (pa_cons pe_str (pa_cons (pv 0) pa_nil))))) pss_nil)
      (pss_one (ps_ret (pe_tup (pa_cons pe_str (pa_cons (pv 5) (pa_cons (pv 6) pa_nil))))))))))), ?_⟩
    refine ⟨_, rfl, _, rfl, _, rfl, _, rfl, name, text, n, l, us, found, rfl, hl, hd, hok.known, hus, fun H1 v s1 hv => ?_⟩
    cases hf : ffail name text n found with
    | some r =>
      rw [hf] at hv
      have hne : v ≠ .non := dt_not_none (K := K) (H := H1) (r := r) hv
      refine ⟨_, rfl, rfl, _, rfl, ifY (nF hne) ⟨_, rfl, k _ _ s1 ?_⟩⟩
      have e : joinResult name text n found = r := by
        unfold ffail at hf
        unfold joinResult
        by_cases h : nfail text ≥ n
        · rw [if_pos h] at hf ⊢
          exact Option.some.inj hf
        · rw [if_neg h] at hf ⊢
          rw [hf]
      rw [e]
      exact hv
    | none =>
      rw [hf] at hv
      obtain rfl := hv.none_inv
      have hn : ¬ nfail text ≥ n := fun z => by
        unfold ffail at hf
        rw [if_pos z] at hf
        cases hf
      have hb : firstBad found = none := by
        unfold ffail at hf
        rw [if_neg hn] at hf
        exact hf
      have e : joinResult name text n found = if (joinGo name (split name text) found "" []).1.length > 200 then .long name else .text (joinGo name (split name text) found "" []).1 (srt (joinGo name (split name text) found "" []).2) := by
        unfold joinResult
        rw [if_neg hn, hb]
      rw [e] at k
      refine ⟨_, rfl, rfl, _, rfl, ifN (nT rfl) ?_⟩
      refine ⟨_, rfl, _, rfl, _, rfl, name, text, l, us, found, kn, rfl, s1 _ _ hl, hd.keep (Same.tk s1), hfd, hok.texts hb, htl, fun H2 p q s2 hp hq hlen => ?_⟩
      generalize joinGo name (split name text) found "" [] = cl at *
      refine ⟨_, _, rfl, hp.sq, rfl, _, _, rfl, _, _, rfl, rfl, ?_⟩
      refine ⟨_, rfl, _, rfl, small5 hlen, _, _, rfl, rfl, _, rfl, ?_⟩
      by_cases h2 : cl.1.length > 200
      · rw [if_pos h2] at k
        refine ifY (dT (by omega)) ⟨_, rfl, le2, fun r hr => k _ _ ((s1.trans s2).trans (same_new hr)) ?_⟩
        exact Dt.tup upd_same (.cons .str (.cons .str .nil))
      · rw [if_neg h2] at k
        refine ifN (dF (by omega)) ⟨_, rfl, _, rfl, le3, fun r hr => k _ _ ((s1.trans s2).trans (same_new hr)) ?_⟩
        refine Dt.tup upd_same (.cons .str (.cons .str (.cons (Dt.ofU (hq.keep (Same.tk (same_new hr))) (DtAll.of_strs _)) .nil)))
end
end L2.TP
/-! closing.py -/
namespace L2.TP
open PySem PySem.Spec PyProof.Rows L2
section
variable {P : Program} {w : World} {K : PySem.W.Frag} {mg : Str → Option Value} {base : Heap} {H H' : Hp}
theorem flat_strs (ks : List Str) : (ks.map V.str).all flatV = true := by
  rw [List.all_map]
  exact List.all_eq_true.mpr fun _ _ => rfl
theorem inV_strs (a : Str) (ks : List Str) : inV (.str a) (ks.map V.str) = decide (a ∈ ks) := by
  unfold inV
  rw [List.any_map, Bool.eq_iff_iff, List.any_eq_true, decide_eq_true_iff]
  constructor
  · rintro ⟨x, hx, h⟩
    have e : x = a := by
      have z : eqV (.str x) (.str a) = true := h
      simpa [eqV] using z
    rw [← e]
    exact hx
  · intro h
    refine ⟨a, h, ?_⟩
    show eqV (.str a) (.str a) = true
    simp [eqV]
def spOpen (K : PySem.W.Frag) : Sp := fun vs H Q _ => ∃ (f : V) (c : Str) (ls ks : List Str) (l : Addr), vs = [f, .ref l] ∧ Dt K H f (Res.text c ls).enc ∧ SqL K H l (ks.map V.str) ∧ Q (ov (openLink ls ks)) H
theorem ok_open_link (T : Txt w K mg) : FnOk P w K mg base CX0 1 (He.ga K "_open_link") (fd__open_link K) ["found", "kept"] (spOpen K) := by
  refine T.f__open_link.ok sc__open_link (fun vs H Q E h => ?_) (fun cdv A outer s H vs Q E hr h => ?_)
  · obtain ⟨a, b, c, d, e, rfl, _⟩ := h
    rfl
  · obtain ⟨f, c, ls, ks, l, rfl, hf, hl, k⟩ := h
    have hu := hu_of hr
    refine ⟨_, PSs.nox ((pss_cons (ps_for PassesOwn.never rfl (pi_tup (pe_ix ix_tup (pv 0) pe_int (fun _ _ => rfl))) (pg_name (i := 2) sc__open_link.nd rfl (.inl rfl)) (pss_one (ps_if (pt_cmpR op_notIn_seq (pv 2) (pv 1) rfl) (pss_one (ps_ret (pv 2))) pss_nil)))
      (pss_one (ps_ret pe_non)))), ?_⟩
    obtain ⟨p, q, rfl, hp, hq⟩ := dt_text hf
    refine ⟨_, rfl, _, _, _, _, rfl, rfl, hp.sq, at2, q, rfl, ⟨_, hq.sq⟩, for_items ls (fun i σ H2 => H2 = H ∧ (∃ b, σ = [some (.ref p), some (.ref l), b]) ∧ (ls.take i).find? (fun n => !decide (n ∈ ks)) = none) ⟨rfl, ⟨_, rfl⟩, rfl⟩ (fun i s σ H2 hi pv => ?_) fun σ H2 pv => ?_⟩
    · obtain ⟨rfl, ⟨b, rfl⟩, hn⟩ := pv
      have hxi : (ls.map V.str)[i]? = some (.str s) := by rw [List.getElem?_map, hi] <;> rfl
      refine ⟨itt_go hq.sq hxi, fun x H4 hy => ?_⟩
      obtain ⟨rfl, rfl⟩ := itt_yld hq.sq hxi hy
      refine ⟨_, rfl, _, rfl, l, _, rfl, .inl hl, rfl, flat_strs _, _, rfl, ?_⟩
      by_cases hs : s ∈ ks
      · refine ifN (by rw [inV_strs, dT hs] <;> rfl) ⟨rfl, ⟨_, rfl⟩, ?_⟩
        rw [take_next hi, List.find?_append, hn]
        simp [hs]
      · refine ifY (by rw [inV_strs, dF hs] <;> rfl) ⟨_, rfl, ?_⟩
        have e : openLink ls ks = some s := by
          have z : ls = ls.take i ++ s :: ls.drop (i + 1) := by
            have := List.take_append_drop i ls
            rw [List.drop_eq_getElem?_toList_append, hi] at this
            exact this.symm
          unfold openLink
          rw [z, List.find?_append, hn]
          simp [hs]
        rw [e] at k
        exact k
    · obtain ⟨rfl, ⟨b, rfl⟩, hn⟩ := pv
      rw [List.take_length] at hn
      refine ⟨itt_stop hq.sq (by rw [List.length_map]; exact Nat.le_refl _), ?_⟩
      have e : openLink ls ks = none := hn
      rw [e] at k
      exact k
/-- what the table of results holds for the pages -/
def RsAt (K : PySem.W.Frag) (H : Hp) (d : Addr) (rs : Str → Res) (pages : List Str) : Prop := ∃ kvs, H d = some (.dK kvs) ∧ ∀ n ∈ pages, ∃ v, valV kvs (.inr n) = some v ∧ Dt K H v (rs n).enc
theorem RsAt.same {d : Addr} {rs : Str → Res} {pages : List Str} (h : RsAt K H d rs pages) (s : Same H H') : RsAt K H' d rs pages := by
  obtain ⟨kvs, h1, h2⟩ := h
  exact ⟨kvs, s _ _ h1, fun n hn => let ⟨v, a, b⟩ := h2 n hn; ⟨v, a, b.keep (Same.tk s)⟩⟩
theorem RsAt.look {d : Addr} {rs : Str → Res} {pages : List Str} (h : RsAt K H d rs pages) {n : Str} (hn : n ∈ pages) : ∃ v, DGet H d (.str n) (some v) ∧ Dt K H v (rs n).enc := by
  obtain ⟨kvs, h1, h2⟩ := h
  obtain ⟨v, a, b⟩ := h2 n hn
  exact ⟨v, .inl ⟨kvs, .inr n, .of h1, rfl, a.symm⟩, b⟩
def spGreatest (K : PySem.W.Frag) : Sp := fun vs H Q _ => ∃ (p d : Addr) (pages : List Str) (rs : Str → Res), vs = [.ref p, .ref d] ∧ SqU K H p (pages.map V.str) ∧ RsAt K H d rs pages ∧ pages.length ≤ 1000 ∧
  ∀ H' l, Same H H' → H' l = some (.lst ((greatest rs pages).map V.str)) → Q (.ref l) H'
theorem filterMap_if {α β : Type} (l : List α) (p : α → Bool) (f : α → β) : l.filterMap (fun a => if p a = true then some (f a) else none) = (l.filter p).map f := by
  induction l with
  | nil => rfl
  | cons a l ih =>
    cases h : p a with
    | true => simp [h, ih]
    | false => simp [h, ih]
theorem ok_greatest (T : Txt w K mg) : FnOk P w K mg base CX0 2 (He.ga K "_greatest") (fd__greatest K) ["pages", "results"] (spGreatest K) := by
  have G__open_link := ok_open_link (P := P) (base := base) T
  refine T.f__greatest.ok sc__greatest (fun vs H Q E h => ?_) (fun cdv A outer s H vs Q E hr h => ?_)
  · obtain ⟨a, b, c, d, rfl, _⟩ := h
    rfl
  · obtain ⟨p, d, pages, rs, rfl, hp, hr1, hpl, k⟩ := h
    have hu := hu_of hr
    refine ⟨_, PSs.nox ((pss_cons (ps_set (i := 2) sc__greatest.nd rfl (.inr rfl) (pe_lc (own := [("name", 4)]) (g := gName 4) rfl sc__greatest.nd (pi_tup (pv 0)) (blkOk_by (own := [("name", 4)]) (N := ["pages", "results", "kept", "_", "name"]) (sc := defScope s__greatest) (by decide +kernel)) (fun _ _ _ _ _ => (pg_name (i := 4) sc__greatest.nd rfl (.inl rfl))) (fun _ _ _ _ _ => pts_one (pt_cmpR op_eq (pe_ix (ix_tupK (K := K) rfl) (pe_dget hu (pv 1) (pv 4) (fun _ _ => rfl)) pe_int (fun _ _ => rfl)) pe_str (nomark _))) (fun _ _ _ _ _ => (pv 4))))
      (pss_cons (ps_for PassesOwn.never rfl (pi_tup (pv 0)) (pg_name (i := 3) sc__greatest.nd rfl (.inl rfl)) (pss_one (ps_set (i := 2) sc__greatest.nd rfl (.inr rfl) (pe_lc (own := [("name", 4)]) (g := gName 4) rfl sc__greatest.nd (pi_list (pv 2)) (blkOk_by (own := [("name", 4)]) (N := ["pages", "results", "kept", "_", "name"]) (sc := defScope s__greatest) (by decide +kernel)) (fun _ _ _ _ _ => (pg_name (i := 4) sc__greatest.nd rfl (.inl rfl))) (fun _ _ _ _ _ => pts_one (pt_cmpR op_isN (pe_call G__open_link (hr.mono (by omega)) (by rfl) T.g__open_link T.f__open_link.kp T.b__open_link .nil pass0 (pa_cons (pe_dget hu (pv 1) (pv 4) (fun _ _ => rfl)) (pa_cons (pv 2) pa_nil))) pe_non (nomark _))) (fun _ _ _ _ _ => (pv 4))))))
      (pss_one (ps_ret (pv 2)))))), ?_⟩
    refine ⟨_, rfl, p, rfl, ⟨_, hp.sq⟩, fun D0 hD0 => lc_items pages (fun n => if (rs n).isText = true then some (.str n) else none) (by omega) hD0 (fun i n H2 hi s2 => ?_) fun H2 s2 hd2 => ?_⟩
    · have hq := (hp.keep (Same.tk s2)).sq
      have hxi : (pages.map V.str)[i]? = some (.str n) := by rw [List.getElem?_map, hi] <;> rfl
      refine ⟨itt_go hq hxi, fun x H3 hy Kt Kf kt kf => ?_⟩
      obtain ⟨rfl, rfl⟩ := itt_yld hq hxi hy
      obtain ⟨v, hg, hv⟩ := (hr1.same s2).look (List.mem_of_getElem? hi)
      obtain ⟨p2, c, tl, rfl, hp2, hc⟩ := dt_res hv
      refine ⟨rfl, _, rfl, _, rfl, d, _, rfl, hg, _, _, _, _, rfl, rfl, hp2.sq, at0, rfl, _, rfl, ?_⟩
      cases ht : (rs n).isText with
      | true => exact ifY (by rw [kd_text, ht]) ⟨_, rfl, kt _ _ (by rw [if_pos ht]) (Same.refl _)⟩
      | false => exact ifN (by rw [kd_text, ht]) (kf _ (by rw [ht]; rfl) (Same.refl _))
    · have hq := (hp.keep (Same.tk s2)).sq
      refine ⟨itt_stop hq (by rw [List.length_map]; exact Nat.le_refl _), ?_⟩
      rw [filterMap_if] at hd2
      refine ⟨_, rfl, p, rfl, ⟨_, hq⟩, for_items pages (fun i σ H3 => ∃ (ks : List Str) (l : Addr) (b : Option V), Same H H3 ∧ σ = [some (.ref p), some (.ref d), some (.ref l), b, none] ∧ H3 l = some (.lst (ks.map V.str)) ∧ greatGo rs (pages.length - i) ks = greatest rs pages ∧ (∀ n ∈ ks, n ∈ pages ∧ (rs n).isText = true) ∧ ks.length ≤ 1000)
        ⟨_, D0, _, s2, rfl, hd2, rfl, fun n hn => ⟨(List.mem_filter.mp hn).1, (List.mem_filter.mp hn).2⟩, Nat.le_trans (List.length_filter_le _ _) hpl⟩ (fun i n σ H3 hi pv => ?_) fun σ H3 pv => ?_⟩
      · obtain ⟨ks, l, b, s3, rfl, hl, hg, hk, hkl⟩ := pv
        have hq := (hp.keep (Same.tk s3)).sq
        have hxi : (pages.map V.str)[i]? = some (.str n) := by rw [List.getElem?_map, hi] <;> rfl
        have hil : i < pages.length := (List.getElem?_eq_some_iff.mp hi).1
        refine ⟨itt_go hq hxi, fun x H4 hy => ?_⟩
        obtain ⟨rfl, rfl⟩ := itt_yld hq hxi hy
        obtain ⟨m, hm⟩ : ∃ m, pages.length - i = m + 1 := ⟨pages.length - i - 1, by omega⟩
        rw [hm, greatGo] at hg
        refine ⟨_, rfl, l, rfl, ⟨_, sqL_of hl⟩, fun D1 hD1 => lc_items ks (fun n => if (openLink (rs n).links ks).isNone = true then some (.str n) else none) (by omega) hD1 (fun j n2 H5 hj s5 => ?_) fun H5 s5 hd5 => ?_⟩
        · have hq5 := sqL_of (K := K) (s5 _ _ hl)
          have hxj : (ks.map V.str)[j]? = some (.str n2) := by rw [List.getElem?_map, hj] <;> rfl
          refine ⟨itl_go hq5 hxj, fun x H6 hy Kt Kf kt kf => ?_⟩
          obtain ⟨rfl, rfl⟩ := itl_yld hq5 hxj hy
          obtain ⟨hn1, hn2⟩ := hk n2 (List.mem_of_getElem? hj)
          obtain ⟨v, hg, hv⟩ := (hr1.same (s3.trans s5)).look hn1
          obtain ⟨c, ls, hrs⟩ : ∃ c ls, rs n2 = .text c ls := by
            cases hz : rs n2 with
            | text c ls => exact ⟨c, ls, rfl⟩
            | failed m => rw [hz] at hn2; cases hn2
            | long m => rw [hz] at hn2; cases hn2
          rw [hrs] at hv
          refine ⟨rfl, _, rfl, _, rfl, d, _, rfl, hg, _, rfl, v, c, ls, ks, l, rfl, hv, hq5, rfl, _, rfl, ?_⟩
          cases ho : openLink ls ks with
          | none => exact ifY rfl ⟨_, rfl, kt _ _ (by rw [hrs]; show (if (openLink ls ks).isNone = true then _ else _) = _; rw [ho]; rfl) (Same.refl _)⟩
          | some z => exact ifN rfl (kf _ (by rw [hrs]; show (if (openLink ls ks).isNone = true then _ else _) = _; rw [ho]; rfl) (Same.refl _))
        · rw [filterMap_if] at hd5
          refine ⟨itl_stop (sqL_of (s5 _ _ hl)) (by rw [List.length_map]; exact Nat.le_refl _), ?_⟩
          refine ⟨_, D1, _, s3.trans s5, rfl, hd5, ?_, fun n hn => hk n (List.mem_filter.mp hn).1, Nat.le_trans (List.length_filter_le _ _) hkl⟩
          rw [← hg]
          congr 1
          omega
      · obtain ⟨ks, l, b, s3, rfl, hl, hg, hk, hkl⟩ := pv
        rw [Nat.sub_self] at hg
        replace hg : ks = greatest rs pages := hg
        rw [hg] at hl
        exact ⟨itt_stop (hp.keep (Same.tk s3)).sq (by rw [List.length_map]; exact Nat.le_refl _), _, rfl, k _ l s3 hl⟩
end
end L2.TP
/-! closing.py: closed; options.py: duration, delay -/
namespace L2.TP
open PySem PySem.Spec PyProof.Rows L2
section
variable {P : Program} {w : World} {K : PySem.W.Frag} {mg : Str → Option Value} {base : Heap} {H H' : Hp}
def encB (p : Str × Rsn) : PyData := .tuple [.str p.1, p.2.enc]
def spClosed (K : PySem.W.Frag) : Sp := fun vs H Q _ => ∃ (p d : Addr) (pages : List Str) (rs : Str → Res), vs = [.ref p, .ref d] ∧ SqU K H p (pages.map V.str) ∧ RsAt K H d rs pages ∧ pages.length ≤ 1000 ∧
  ∀ H' t kl bl us, Same H H' → SqU K H' t [.ref kl, .ref bl] → H' kl = some (.lst ((greatest rs pages).map V.str)) → H' bl = some (.lst us) → DtAll K H' us ((closedB rs pages).map encB) → Q (.ref t) H'
theorem ov_dt (n : Option Str) : Dt K H (ov n) (match n with
    | some n => .str n
    | none => .none) := by
  cases n with
  | none => exact .non
  | some s => exact .str
theorem ok_closed (T : Txt w K mg) : FnOk P w K mg base CX0 3 (He.ga K "closed") (fd_closed K) ["pages", "results"] (spClosed K) := by
  have G__open_link := ok_open_link (P := P) (base := base) T
  have G__greatest := ok_greatest (P := P) (base := base) T
  refine T.f_closed.ok sc_closed (fun vs H Q E h => ?_) (fun cdv A outer s H vs Q E hr h => ?_)
  · obtain ⟨a, b, c, d, rfl, _⟩ := h
    rfl
  · obtain ⟨p, d, pages, rs, rfl, hp, hr1, hpl, k⟩ := h
    have hu := hu_of hr
    refine ⟨_, PSs.nox ((pss_cons (ps_set (i := 2) sc_closed.nd rfl (.inl rfl) (pe_call G__greatest (hr.mono (by omega)) (by rfl) T.g__greatest T.f__greatest.kp T.b__greatest .nil pass0 (pa_cons (pv 0) (pa_cons (pv 1) pa_nil))))
      (pss_cons (ps_set (i := 3) sc_closed.nd rfl (.inl rfl) (pe_lst pa_nil))
      (pss_cons (ps_for PassesOwn.never rfl (pi_tup (pv 0)) (pg_name (i := 4) sc_closed.nd rfl (.inl rfl)) (pss_cons (ps_set (i := 5) sc_closed.nd rfl (.inl rfl) (pe_dget hu (pv 1) (pv 4) (fun _ _ => rfl)))
      (pss_one (ps_if (pt_cmpR op_ne (pe_ix ix_tup (pv 5) pe_int (fun _ _ => rfl)) pe_str (nomark _)) (pss_one (ps_expr (pe_bm PySem.F.plainAttrs_list PySem.F.slot_list_append PySem.F.type_list_append mt_append (pv 3) (pa_cons (pe_tup (pa_cons (pv 4) (pa_cons (pv 5) pa_nil))) pa_nil)))) (pss_one (ps_if (pt_cmpR op_notIn_seq (pv 4) (pv 2) rfl) (pss_one (ps_expr (pe_bm PySem.F.plainAttrs_list PySem.F.slot_list_append PySem.F.type_list_append mt_append (pv 3) (pa_cons (pe_tup (pa_cons (pv 4) (pa_cons (pe_tup (pa_cons pe_str (pa_cons (pe_call G__open_link (hr.mono (by omega)) (by rfl) T.g__open_link T.f__open_link.kp T.b__open_link .nil pass0 (pa_cons (pv 5) (pa_cons (pv 2) pa_nil))) pa_nil))) pa_nil))) pa_nil)))) pss_nil))))))
      (pss_one (ps_ret (pe_tup (pa_cons (pv 2) (pa_cons (pv 3) pa_nil))))))))), ?_⟩
    refine ⟨_, rfl, _, rfl, p, d, pages, rs, rfl, hp, hr1, hpl, fun H1 kl s1 hkl => ?_⟩
    generalize hks : greatest rs pages = ks at *
    refine ⟨Nat.zero_le _, fun bl hbl => ?_⟩
    have hne : kl ≠ bl := ne_of_none hkl hbl
    refine ⟨_, rfl, p, rfl, ⟨_, (hp.keep (Same.tk (s1.trans (same_new hbl)))).sq⟩, for_items pages (fun i σ H2 => ∃ (us : List V) (b4 b5 : Option V), Same H1 H2 ∧ H2 bl = some (.lst us) ∧ DtAll K H2 us (((pages.take i).flatMap (behindOf rs ks)).map encB) ∧ us.length ≤ i ∧ σ = [some (.ref p), some (.ref d), some (.ref kl), some (.ref bl), b4, b5])
      ⟨[], _, _, same_new hbl, upd_same, .nil, Nat.le_refl _, rfl⟩ (fun i n σ H2 hi pv => ?_) fun σ H2 pv => ?_⟩
    · obtain ⟨us, b4, b5, s2, hb2, hd2, hul, rfl⟩ := pv
      have hil : i < pages.length := (List.getElem?_eq_some_iff.mp hi).1
      have hq := (hp.keep (Same.tk (s1.trans s2))).sq
      have hxi : (pages.map V.str)[i]? = some (.str n) := by rw [List.getElem?_map, hi] <;> rfl
      refine ⟨itt_go hq hxi, fun x H4 hy => ?_⟩
      obtain ⟨rfl, rfl⟩ := itt_yld hq hxi hy
      obtain ⟨v, hg, hv⟩ := (hr1.same (s1.trans s2)).look (List.mem_of_getElem? hi)
      obtain ⟨p2, c, tl, rfl, hp2, hc⟩ := dt_res hv
      have hkl2 := s2 _ _ hkl
      refine ⟨_, rfl, _, rfl, d, _, rfl, hg, ?_⟩
      refine ⟨_, rfl, _, _, _, _, rfl, rfl, hp2.sq, at0, rfl, _, rfl, ?_⟩
      cases ht : (rs n).isText with
      | false =>
        refine ifY (by rw [kd_text, ht] <;> rfl) ⟨_, rfl, tyL hb2, _, rfl, _, rfl, le2, fun q hq3 => ?_⟩
        have sN := same_new hq3 (o := .tup [.str n, .ref p2])
        have hb3 := sN _ _ hb2
        refine ⟨_, _, _, rfl, rfl, hb3, small5' (by omega), us ++ [.ref q], _, _, same_mut (s2.trans sN) hbl, upd_same, ?_, by simp; omega, rfl⟩
        rw [take_next hi, List.flatMap_append, List.map_append]
        have e : [n].flatMap (behindOf rs ks) = [(n, .res (rs n))] := by simp [behindOf, ht]
        rw [e]
        refine DtAll.append ((hd2.keep (Same.tk sN)).keep (tkL hb3)) (.cons (.tup (tkL hb3 _ _ upd_same) (.cons .str (.cons ((hv.keep (Same.tk sN)).keep (tkL hb3)) .nil))) .nil)
      | true =>
        refine ifN (by rw [kd_text, ht] <;> rfl) ⟨_, rfl, _, rfl, kl, _, rfl, .inl (sqL_of hkl2), rfl, flat_strs _, _, rfl, ?_⟩
        by_cases hn : n ∈ ks
        · refine ifN (by rw [inV_strs, dT hn] <;> rfl) ⟨us, _, _, s2, hb2, ?_, by omega, rfl⟩
          rw [take_next hi, List.flatMap_append, List.map_append]
          have e : [n].flatMap (behindOf rs ks) = [] := by simp [behindOf, ht, hn]
          rw [e, List.map_nil, List.append_nil]
          exact hd2
        · refine ifY (by rw [inV_strs, dF hn] <;> rfl) ?_
          obtain ⟨c2, ls, hrs⟩ : ∃ c ls, rs n = .text c ls := by
            cases hz : rs n with
            | text c ls => exact ⟨c, ls, rfl⟩
            | failed m => rw [hz] at ht; cases ht
            | long m => rw [hz] at ht; cases ht
          have hv' := hv
          rw [hrs] at hv'
          refine ⟨_, rfl, tyL hb2, _, rfl, _, rfl, _, rfl, .ref p2, c2, ls, ks, kl, rfl, hv', sqL_of hkl2, le2, fun q1 hq1 => ⟨le2, fun q2 hq2 => ?_⟩⟩
          have sN1 := same_new hq1 (o := .tup [.str "link", ov (openLink ls ks)])
          have sN := sN1.trans (same_new hq2 (o := .tup [.str n, .ref q1]))
          have hb3 := sN _ _ hb2
          refine ⟨_, _, _, rfl, rfl, hb3, small5' (by omega), us ++ [.ref q2], _, _, same_mut (s2.trans sN) hbl, upd_same, ?_, by simp; omega, rfl⟩
          rw [take_next hi, List.flatMap_append, List.map_append]
          have e : [n].flatMap (behindOf rs ks) = [(n, .link (openLink ls ks))] := by simp [behindOf, hrs, hn, Res.isText, Res.links]
          rw [e]
          refine DtAll.append ((hd2.keep (Same.tk sN)).keep (tkL hb3)) (.cons (.tup (tkL hb3 _ _ upd_same) (.cons .str (.cons (.tup (tkL hb3 _ _ (same_new hq2 _ _ upd_same)) (.cons .str (.cons (ov_dt _) .nil))) .nil))) .nil)
    · obtain ⟨us, b4, b5, s2, hb2, hd2, hul, rfl⟩ := pv
      rw [List.take_length] at hd2
      refine ⟨itt_stop (hp.keep (Same.tk (s1.trans s2))).sq (by rw [List.length_map]; exact Nat.le_refl _), ?_⟩
      refine ⟨_, rfl, _, rfl, le2, fun t ht => ?_⟩
      have sN := same_new ht (o := .tup [.ref kl, .ref bl])
      refine k _ t kl bl us ((s1.trans s2).trans sN) (squ_of upd_same) (sN _ _ (s2 _ _ hkl)) (sN _ _ hb2) ?_
      unfold closedB
      rw [hks]
      exact hd2.keep (Same.tk sN)
/-! ### options -/
def Opt.vals (o : Opt) : List V := [.int o.together, .int o.unit, .int o.attempts, .int o.delay, .int o.delayMost, .int o.pause, .int o.wait]
/-- the bounds that the law's draws keep -/
structure Opt.Ok (o : Opt) : Prop where
  t1 : 1 ≤ o.together
  t2 : o.together ≤ 3
  u1 : 1 ≤ o.unit
  u2 : o.unit ≤ 100
  a1 : 1 ≤ o.attempts
  a2 : o.attempts ≤ 4
  d1 : 1 ≤ o.delay
  d2 : o.delay ≤ 100
  m1 : 1 ≤ o.delayMost
  m2 : o.delayMost ≤ 400
  p1 : 1 ≤ o.pause
  p2 : o.pause ≤ 200
  w1 : 1 ≤ o.wait
  w2 : o.wait ≤ 2000
theorem Opt.at1 {o : Opt} : atI o.vals 1 = some (.int o.unit) := atI_nat (j := 1) rfl
theorem Opt.at0 {o : Opt} : atI o.vals 0 = some (.int o.together) := atI_nat (j := 0) rfl
theorem Opt.at2 {o : Opt} : atI o.vals 2 = some (.int o.attempts) := atI_nat (j := 2) rfl
theorem Opt.at3 {o : Opt} : atI o.vals 3 = some (.int o.delay) := atI_nat (j := 3) rfl
theorem Opt.at4 {o : Opt} : atI o.vals 4 = some (.int o.delayMost) := atI_nat (j := 4) rfl
theorem Opt.at5 {o : Opt} : atI o.vals 5 = some (.int o.pause) := atI_nat (j := 5) rfl
theorem Opt.at6 {o : Opt} : atI o.vals 6 = some (.int o.wait) := atI_nat (j := 6) rfl
def spDuration (K : PySem.W.Frag) : Sp := fun vs H Q _ => ∃ (p : Addr) (o : Opt) (n : Nat), vs = [.ref p, .int n] ∧ SqU K H p o.vals ∧ o.Ok ∧ n ≤ 100000 ∧ Q (.int (duration o n)) H
theorem ok_duration (T : Txt w K mg) : FnOk P w K mg base CX0 1 (He.ga K "duration") (fd_duration K) ["options", "many"] (spDuration K) := by
  refine T.f_duration.ok sc_duration (fun vs H Q E h => ?_) (fun cdv A outer s H vs Q E hr h => ?_)
  · obtain ⟨a, b, c, rfl, _⟩ := h
    rfl
  · obtain ⟨p, o, n, rfl, hp, ho, hn, k⟩ := h
    have hu := hu_of hr
    refine ⟨_, PSs.nox ((pss_one (ps_ret (pe_op op_mul (pe_ix ix_tup (pv 0) pe_int (fun _ _ => rfl)) (pe_op op_add pe_int (pv 1)))))), ?_⟩
    refine ⟨_, rfl, _, _, _, _, rfl, rfl, hp.sq, Opt.at1, _, rfl, _, _, rfl, rfl, _, _, rfl, rfl, ?_, k⟩
    have := ho.u1
    have := ho.u2
    exact .inl ⟨by omega, by omega⟩
theorem delayGo_min (k : Nat) (t : Int) : ∀ i ≤ k, delayGo (k - i) (delayGo i t) = delayGo k t := by
  intro i
  induction i generalizing k t with
  | zero => intro _; rfl
  | succ i ih =>
    intro h
    obtain ⟨k, rfl⟩ : ∃ j, k = j + 1 := ⟨k - 1, by omega⟩
    have z := ih k (2 * t) (by omega)
    rw [Nat.add_sub_add_right]
    exact z
theorem delayGo_succ (i : Nat) (t : Int) : delayGo (i + 1) t = 2 * delayGo i t := by
  induction i generalizing t with
  | zero => rfl
  | succ i ih => exact ih (2 * t)
def spDelay (K : PySem.W.Frag) : Sp := fun vs H Q _ => ∃ (p : Addr) (o : Opt) (n : Int), vs = [.ref p, .int n] ∧ SqU K H p o.vals ∧ o.Ok ∧ -100 ≤ n ∧ n ≤ 100 ∧ Q (.int (delay o n)) H
theorem ok_delay (T : Txt w K mg) : FnOk P w K mg base CX0 1 (He.ga K "delay") (fd_delay K) ["options", "attempt"] (spDelay K) := by
  refine T.f_delay.ok sc_delay (fun vs H Q E h => ?_) (fun cdv A outer s H vs Q E hr h => ?_)
  · obtain ⟨a, b, c, rfl, _⟩ := h
    rfl
  · obtain ⟨p, o, n, rfl, hp, ho, hn1, hn2, k⟩ := h
    have hu := hu_of hr
    refine ⟨_, PSs.nox ((pss_cons (ps_set (i := 2) sc_delay.nd rfl (.inl rfl) (pe_ix ix_tup (pv 0) pe_int (fun _ _ => rfl)))
      (pss_cons (ps_for PassesOwn.never rfl (pi_range2 rfl T.z_range (pa_cons pe_int (pa_cons (pv 1) pa_nil))) (pg_name (i := 3) sc_delay.nd rfl (.inl rfl)) (pss_one (ps_set (i := 2) sc_delay.nd rfl (.inl rfl) (pe_op op_mul pe_int (pv 2)))))
      (pss_one (ps_ret (pe_callB (call_min2 rfl) (by rfl) T.z_min (by decide +kernel) (pa_cons (pe_ix ix_tup (pv 0) pe_int (fun _ _ => rfl)) (pa_cons (pv 2) pa_nil)))))))), ?_⟩
    refine ⟨_, rfl, _, _, _, _, rfl, rfl, hp.sq, Opt.at3, ?_⟩
    refine ⟨_, rfl, _, _, rfl, ⟨by omega, by omega, by omega, by omega⟩, ?_⟩
    refine for_any (n := (n - 1).toNat) (fun i σ H2 => H2 = H ∧ ∃ b, σ = [some (.ref p), some (.int n), some (.int (delayGo i o.delay)), b]) ⟨rfl, _, rfl⟩ (fun i σ H2 hi pv => ?_) fun σ H2 pv => ?_
    · obtain ⟨rfl, b, rfl⟩ := pv
      refine ⟨hi, fun x H3 hy => ?_⟩
      obtain ⟨rfl, rfl⟩ := hy
      refine ⟨_, rfl, _, _, rfl, rfl, .inl ⟨by omega, by omega⟩, rfl, some (.int (1 + i)), ?_⟩
      rw [delayGo_succ] <;> rfl
    · obtain ⟨rfl, b, rfl⟩ := pv
      refine ⟨Nat.le_refl _, ?_⟩
      refine ⟨_, rfl, _, _, _, _, rfl, rfl, hp.sq, Opt.at4, _, rfl, _, _, rfl, ?_⟩
      have e : delay o n = if delayGo (n - 1).toNat o.delay < o.delayMost then delayGo (n - 1).toNat o.delay else o.delayMost := by
        unfold delay
        split <;> omega
      rw [e] at k
      exact k
end
end L2.TP
/-! The publisher on the heap. -/
namespace L2.TP
open PySem PySem.Spec PyProof.Rows L2
section
variable {P : Program} {w : World} {K : PySem.W.Frag} {H H' : Hp}
def pks : List Str := ["_options", "_clock", "_sources", "_pages", "_count", "_last_edit", "_cache", "_timers", "_jobs", "_frozen", "_dirty_since", "_version", "_published", "_attempts_made"]
def jks : List Str := ["text", "found", "attempt", "state"]
def fks : List Str := ["sources", "pages", "count", "time"]
def sks : List Str := ["_sources", "_pages", "_attempts", "_known"]
/-- an instance's first attribute -/
def tag : HO → Option Str
  | .ins _ _ ((k, _) :: _) => some k
  | _ => none
theorem ne_tag {a b : Addr} {o u : HO} (h : H b = some o) (h2 : H a = some u) (n : tag o ≠ tag u) : b ≠ a := ne_of h h2 fun z => n (congrArg tag z)
theorem tg_c : (some ("_renderings" : Str)) ≠ some ("_options" : Str) := by decide +kernel
theorem tg_t : (some ("_due" : Str)) ≠ some ("_options" : Str) := by decide +kernel
theorem tg_j : (some ("text" : Str)) ≠ some ("_options" : Str) := by decide +kernel
theorem tg_f : (some ("sources" : Str)) ≠ some ("_options" : Str) := by decide +kernel
theorem tg_s : (some ("_sources" : Str)) ≠ some ("_options" : Str) := by decide +kernel
theorem tj_p : (some ("_options" : Str)) ≠ some ("text" : Str) := by decide +kernel
theorem tj_c : (some ("_renderings" : Str)) ≠ some ("text" : Str) := by decide +kernel
theorem tj_t : (some ("_due" : Str)) ≠ some ("text" : Str) := by decide +kernel
theorem tj_f : (some ("sources" : Str)) ≠ some ("text" : Str) := by decide +kernel
theorem tj_s : (some ("_sources" : Str)) ≠ some ("text" : Str) := by decide +kernel
/-- all but the object at a -/
def But (a : Addr) (H H' : Hp) : Prop := ∀ b o, b ≠ a → H b = some o → H' b = some o
theorem But.refl (a : Addr) (H : Hp) : But a H H := fun _ _ _ h => h
theorem But.trans {a : Addr} {H1 : Hp} (x : But a H H1) (y : But a H1 H') : But a H H' := fun b o n h => y b o n (x b o n h)
theorem but_upd {a : Addr} {o : HO} : But a H (upd H a o) := fun b u n h => by rw [upd_ne n]; exact h
theorem but_same {a : Addr} (s : Same H H') : But a H H' := fun b o _ h => s b o h
theorem but_tk {a : Addr} {u : HO} (x : But a H H') (ha : H a = some u) (hn : ∀ xs, u ≠ .tup xs) : TK' H H' := fun b xs h => x b _ (ne_of h ha fun z => hn xs z.symm) h
/-- nothing of others is written; the tuples stand -/
structure Fr (own : Addr → Prop) (H H' : Hp) : Prop where
  keep : ∀ b o, ¬ own b → H b = some o → H' b = some o
  tk : TK' H H'
theorem Fr.refl (own : Addr → Prop) (H : Hp) : Fr own H H := ⟨fun _ _ _ h => h, TK'.refl H⟩
theorem Fr.trans {own : Addr → Prop} {H1 : Hp} (x : Fr own H H1) (y : Fr own H1 H') : Fr own H H' := ⟨fun b o n h => y.keep b o n (x.keep b o n h), x.tk.trans y.tk⟩
theorem fr_same {own : Addr → Prop} (s : Same H H') : Fr own H H' := ⟨fun b o _ h => s b o h, Same.tk s⟩
theorem fr_but {own : Addr → Prop} {a : Addr} {u : HO} (x : But a H H') (ha : H a = some u) (hn : ∀ xs, u ≠ .tup xs) (ho : own a) : Fr own H H' := ⟨fun b o n h => x b o (fun e => n (e ▸ ho)) h, but_tk x ha hn⟩
/-! ### the parts -/
def SrcAt (own : Addr → Prop) (H : Hp) (sd : Addr) (src : Src) : Prop := own sd ∧ ∃ kvs, H sd = some (.dK kvs) ∧ DR (fun v x => v = .str x) kvs src
theorem SrcAt.keep {own own' : Addr → Prop} {sd : Addr} {src : Src} (h : SrcAt own H sd src) (k : ∀ kvs, H sd = some (.dK kvs) → H' sd = some (.dK kvs)) (ho : own sd → H sd ≠ none → own' sd) : SrcAt own' H' sd src := by
  obtain ⟨h1, kvs, h2, h3⟩ := h
  exact ⟨ho h1 (by rw [h2]; exact fun z => nomatch z), kvs, k _ h2, h3⟩
def LstAt (K : PySem.W.Frag) (own : Addr → Prop) (H : Hp) (v : V) (rs : List Rend) : Prop := ∃ l us, v = .ref l ∧ own l ∧ H l = some (.lst us) ∧ DtAll K H us (rs.map Rend.enc)
def CchAt (K : PySem.W.Frag) (own : Addr → Prop) (H : Hp) (cd : Addr) (c : Cch) : Prop := own cd ∧ ∃ kvs, H cd = some (.dK kvs) ∧ DR (LstAt K own H) kvs c
theorem LstAt.keep {own own' : Addr → Prop} {v : V} {rs : List Rend} (h : LstAt K own H v rs) (k : ∀ l us, own l → H l = some (.lst us) → H' l = some (.lst us)) (tk : TK' H H') (ho : ∀ b, own b → H b ≠ none → own' b) : LstAt K own' H' v rs := by
  obtain ⟨l, us, e, h1, h2, h3⟩ := h
  exact ⟨l, us, e, ho l h1 (by rw [h2]; exact fun z => nomatch z), k l us h1 h2, h3.keep tk⟩
theorem CchAt.keep {own own' : Addr → Prop} {cd : Addr} {c : Cch} (h : CchAt K own H cd c) (k1 : ∀ kvs, H cd = some (.dK kvs) → H' cd = some (.dK kvs)) (k : ∀ l us, own l → H l = some (.lst us) → H' l = some (.lst us)) (tk : TK' H H') (ho : ∀ b, own b → H b ≠ none → own' b) : CchAt K own' H' cd c := by
  obtain ⟨h1, kvs, h2, h3⟩ := h
  exact ⟨ho cd h1 (by rw [h2]; exact fun z => nomatch z), kvs, k1 _ h2, h3.mono fun v rs z => z.keep k tk ho⟩
def EntU (K : PySem.W.Frag) (H : Hp) (x : List L2.Key × Addr × V) (p : TK × Int) : Prop := x.1 = p.1.enc ∧ SqU K H x.2.1 (p.1.enc.map kV) ∧ x.2.2 = .int p.2
def TmU (K : PySem.W.Frag) (P : Program) (w : World) (own : Addr → Prop) (H : Hp) (td : Addr) (t : Tms) : Prop := own td ∧ ∃ xs, H td = some (tdO P w td xs) ∧ Paired (EntU K H) xs t
theorem TmU.keep {own own' : Addr → Prop} {td : Addr} {t : Tms} (h : TmU K P w own H td t) (k1 : ∀ xs, H td = some (tdO P w td xs) → H' td = some (tdO P w td xs)) (tk : TK' H H') (ho : own td → H td ≠ none → own' td) : TmU K P w own' H' td t := by
  obtain ⟨h1, xs, h2, h3⟩ := h
  exact ⟨ho h1 (by rw [h2]; exact fun z => nomatch z), xs, k1 _ h2, Paired.mapP h3 fun _ _ z => ⟨z.1, z.2.1.keep tk, z.2.2⟩⟩
theorem TmU.x {own : Addr → Prop} {td : Addr} {t : Tms} (h : TmU K P w own H td t) : ∃ xs, TmX P w K H td t xs ∧ Paired (EntU K H) xs t := by
  obtain ⟨h1, xs, h2, h3⟩ := h
  exact ⟨xs, ⟨h2, Paired.mapP h3 fun _ _ z => ⟨z.1, z.2.1.sq, z.2.2⟩⟩, h3⟩
def JobAt (K : PySem.W.Frag) (own : Addr → Prop) (H : Hp) (v : V) (j : Job) : Prop := ∃ a fl, v = .ref a ∧ own a ∧ InsAt H a (He.ga K "Job") jks [.str j.text, fl, .int j.attempt, .str j.state.enc] ∧ Dt K H fl (encT j.found)
def JobsAt (K : PySem.W.Frag) (own : Addr → Prop) (H : Hp) (jd : Addr) (jobs : List (Str × Job)) : Prop := own jd ∧ ∃ kvs, H jd = some (.dK kvs) ∧ DR (JobAt K own H) kvs jobs ∧ (kvs.map (·.2)).Nodup
theorem JobAt.keep {own own' : Addr → Prop} {v : V} {j : Job} (h : JobAt K own H v j) (k : ∀ a dx v1 v2 v3 v4, own a → H a = some (.ins (He.ga K "Job") dx (jks.zip [v1, v2, v3, v4])) → H' a = some (.ins (He.ga K "Job") dx (jks.zip [v1, v2, v3, v4]))) (tk : TK' H H') (ho : ∀ b, own b → H b ≠ none → own' b) : JobAt K own' H' v j := by
  obtain ⟨a, fl, e, h1, ⟨dx, h2⟩, h3⟩ := h
  exact ⟨a, fl, e, ho a h1 (by rw [h2]; exact fun z => nomatch z), ⟨dx, k a dx _ _ _ _ h1 h2⟩, h3.keep tk⟩
theorem JobsAt.keep {own own' : Addr → Prop} {jd : Addr} {jobs : List (Str × Job)} (h : JobsAt K own H jd jobs) (k1 : ∀ kvs, H jd = some (.dK kvs) → H' jd = some (.dK kvs))
    (k : ∀ a dx v1 v2 v3 v4, own a → H a = some (.ins (He.ga K "Job") dx (jks.zip [v1, v2, v3, v4])) → H' a = some (.ins (He.ga K "Job") dx (jks.zip [v1, v2, v3, v4]))) (tk : TK' H H') (ho : ∀ b, own b → H b ≠ none → own' b) : JobsAt K own' H' jd jobs := by
  obtain ⟨h1, kvs, h2, h3, h4⟩ := h
  exact ⟨ho jd h1 (by rw [h2]; exact fun z => nomatch z), kvs, k1 _ h2, h3.mono fun v rs z => z.keep k tk ho, h4⟩
def FrzAt (K : PySem.W.Frag) (own : Addr → Prop) (H : Hp) (fv : V) : Option Frz → Prop
  | none => fv = .non
  | some f => ∃ a sd pg, fv = .ref a ∧ own a ∧ InsAt H a (He.ga K "Frozen") fks [.ref sd, .ref pg, .int f.count, .int f.time] ∧ SrcAt own H sd f.src ∧ SqU K H pg (f.pages.map V.str)
theorem FrzAt.keep {own own' : Addr → Prop} {fv : V} : ∀ {f : Option Frz}, FrzAt K own H fv f → (∀ a dx v1 v2 v3 v4, own a → H a = some (.ins (He.ga K "Frozen") dx (fks.zip [v1, v2, v3, v4])) → H' a = some (.ins (He.ga K "Frozen") dx (fks.zip [v1, v2, v3, v4]))) →
    (∀ b kvs, own b → H b = some (.dK kvs) → H' b = some (.dK kvs)) → TK' H H' → (∀ b, own b → H b ≠ none → own' b) → FrzAt K own' H' fv f
  | none, h, _, _, _, _ => h
  | some f, ⟨a, sd, pg, e, h1, ⟨dx, h2⟩, h3, h4⟩, k1, k2, tk, ho => ⟨a, sd, pg, e, ho a h1 (by rw [h2]; exact fun z => nomatch z), ⟨dx, k1 a dx _ _ _ _ h1 h2⟩, h3.keep (fun kvs z => k2 _ kvs h3.1 z) (ho sd), h4.keep tk⟩
/-- where a publisher's lasting objects stand -/
structure Lay where
  p : Addr
  ca : Addr
  cd : Addr
  ta : Addr
  td : Addr
  jd : Addr
/-- neither the cache's dict nor the dict of jobs -/
def Lay.out (L : Lay) (own : Addr → Prop) : Addr → Prop := fun b => own b ∧ b ≠ L.cd ∧ b ≠ L.jd
def oi : Option Int → V
  | none => .non
  | some i => .int i
structure PubX (K : PySem.W.Frag) (P : Program) (w : World) (own : Addr → Prop) (L : Lay) (op sd pg : Addr) (fv vv : V) (s : S) (H : Hp) : Prop where
  fresh : ∀ b, H b = none → own b
  ne : L.cd ≠ L.jd
  ownp : own L.p
  pub : InsAt H L.p (He.ga K "Publisher") pks [.ref op, .int s.clock, .ref sd, .ref pg, .int s.count, .int s.last, .ref L.ca, .ref L.ta, .ref L.jd, fv, oi s.dirty, vv, .int s.published, .int s.made]
  opt : SqU K H op s.o.vals
  src : SrcAt (L.out own) H sd s.src
  pgs : SqU K H pg (s.pages.map V.str)
  oca : own L.ca
  cch : InsAt H L.ca (He.ga K "Cache") ["_renderings"] [.ref L.cd]
  atc : CchAt K own H L.cd s.cache
  ota : own L.ta
  tmr : InsAt H L.ta (He.ga K "Timers") ["_due"] [.ref L.td]
  att : TmU K P w own H L.td s.tms
  atj : JobsAt K own H L.jd s.jobs
  frz : FrzAt K (L.out own) H fv s.frz
  ver : Dt K H vv (encV s.ver)
def Pub (K : PySem.W.Frag) (P : Program) (w : World) (own : Addr → Prop) (L : Lay) (s : S) (H : Hp) : Prop := ∃ op sd pg fv vv, PubX K P w own L op sd pg fv vv s H
section
variable {own own' : Addr → Prop} {L : Lay} {op sd pg : Addr} {fv vv : V} {s : S}
theorem out_mono (ho : ∀ b, own b → H b ≠ none → own' b) : ∀ b, L.out own b → H b ≠ none → L.out own' b := fun b h n => ⟨ho b h.1 n, h.2⟩
theorem PubX.keep (h : PubX K P w own L op sd pg fv vv s H) (k : ∀ b o, own b → H b = some o → H' b = some o) (tk : TK' H H') (fr : ∀ b, H' b = none → own' b) (ho : ∀ b, own b → H b ≠ none → own' b) : PubX K P w own' L op sd pg fv vv s H' := by
  have at_ : ∀ {a C ks vs}, own a → InsAt H a C ks vs → InsAt H' a C ks vs := fun q ⟨dx, e⟩ => ⟨dx, k _ _ q e⟩
  have some_ : ∀ {a C ks vs}, own a → InsAt H a C ks vs → own' a := fun q ⟨dx, e⟩ => ho _ q (by rw [e]; exact fun z => nomatch z)
  exact { fresh := fr, ne := h.ne, ownp := some_ h.ownp h.pub, pub := at_ h.ownp h.pub, opt := h.opt.keep tk, src := h.src.keep (fun kvs e => k _ _ h.src.1.1 e) (out_mono ho sd), pgs := h.pgs.keep tk, oca := some_ h.oca h.cch, cch := at_ h.oca h.cch,
          atc := h.atc.keep (fun kvs e => k _ _ h.atc.1 e) (fun l us q e => k _ _ q e) tk ho, ota := some_ h.ota h.tmr, tmr := at_ h.ota h.tmr, att := h.att.keep (fun xs e => k _ _ h.att.1 e) tk (ho _), atj := h.atj.keep (fun kvs e => k _ _ h.atj.1 e) (fun a dx v1 v2 v3 v4 q e => k _ _ q e) tk ho,
          frz := h.frz.keep (fun a dx v1 v2 v3 v4 q e => k _ _ q.1 e) (fun b kvs q e => k _ _ q.1 e) tk (out_mono ho), ver := h.ver.keep tk }
theorem none_same (s : Same H H') {b : Addr} (h : H' b = none) : H b = none := by
  cases e : H b with
  | none => rfl
  | some o => rw [s b o e] at h; cases h
theorem PubX.same (h : PubX K P w own L op sd pg fv vv s H) (e : Same H H') : PubX K P w own L op sd pg fv vv s H' := h.keep (fun b o _ q => e b o q) (Same.tk e) (fun b q => h.fresh b (none_same e q)) fun b q _ => q
theorem Pub.same (h : Pub K P w own L s H) (e : Same H H') : Pub K P w own L s H' := let ⟨op, sd, pg, fv, vv, q⟩ := h; ⟨op, sd, pg, fv, vv, q.same e⟩
theorem none_but {a : Addr} {u : HO} (x : But a H H') (ha' : H' a = some u) {b : Addr} (h : H' b = none) : H b = none := by
  cases e : H b with
  | none => rfl
  | some o =>
    by_cases q : b = a
    · rw [q, ha'] at h; cases h
    · rw [x b o q e] at h; cases h
/-- the publisher's own attributes change -/
theorem PubX.setp (h : PubX K P w own L op sd pg fv vv s H) {s' : S} {op' sd' pg' : Addr} {fv' vv' : V} {dx : Addr} (e1 : s'.cache = s.cache) (e2 : s'.tms = s.tms) (e3 : s'.jobs = s.jobs) (opt' : SqU K H op' s'.o.vals) (src' : SrcAt (L.out own) H sd' s'.src) (pgs' : SqU K H pg' (s'.pages.map V.str))
    (frz' : FrzAt K (L.out own) H fv' s'.frz) (ver' : Dt K H vv' (encV s'.ver)) :
    PubX K P w own L op' sd' pg' fv' vv' s' (upd H L.p (.ins (He.ga K "Publisher") dx (pks.zip [.ref op', .int s'.clock, .ref sd', .ref pg', .int s'.count, .int s'.last, .ref L.ca, .ref L.ta, .ref L.jd, fv', oi s'.dirty, vv', .int s'.published, .int s'.made]))) := by
  obtain ⟨dx0, hp⟩ := h.pub
  have bt : But L.p H (upd H L.p (.ins (He.ga K "Publisher") dx (pks.zip [.ref op', .int s'.clock, .ref sd', .ref pg', .int s'.count, .int s'.last, .ref L.ca, .ref L.ta, .ref L.jd, fv', oi s'.dirty, vv', .int s'.published, .int s'.made]))) := but_upd
  have tk := but_tk bt hp (fun xs z => nomatch z)
  have ho : ∀ b, own b → H b ≠ none → own b := fun b q _ => q
  exact { fresh := fun b q => h.fresh b (none_but bt upd_same q), ne := h.ne, ownp := h.ownp, pub := ⟨dx, upd_same⟩, opt := opt'.keep tk, src := src'.keep (fun kvs e => bt _ _ (ne_of e hp (fun z => nomatch z)) e) (fun q _ => q), pgs := pgs'.keep tk, oca := h.oca,
          cch := (let ⟨dx, e⟩ := h.cch; ⟨dx, bt _ _ (ne_tag e hp tg_c) e⟩),
          atc := e1 ▸ h.atc.keep (fun kvs e => bt _ _ (ne_of e hp (fun z => nomatch z)) e) (fun l us q e => bt _ _ (ne_of e hp (fun z => nomatch z)) e) tk ho, ota := h.ota,
          tmr := (let ⟨dx, e⟩ := h.tmr; ⟨dx, bt _ _ (ne_tag e hp tg_t) e⟩),
          att := e2 ▸ h.att.keep (fun xs e => bt _ _ (ne_of e hp (fun z => nomatch z)) e) tk (ho _),
          atj := e3 ▸ h.atj.keep (fun kvs e => bt _ _ (ne_of e hp (fun z => nomatch z)) e) (fun a dx v1 v2 v3 v4 q e => bt _ _ (ne_tag e hp tg_j) e) tk ho,
          frz := frz'.keep (fun a dx v1 v2 v3 v4 q e => bt _ _ (ne_tag e hp tg_f) e) (fun b kvs q e => bt _ _ (ne_of e hp (fun z => nomatch z)) e) tk (fun b q _ => q), ver := ver'.keep tk }
/-- the cache's dict changes -/
theorem PubX.setc (h : PubX K P w own L op sd pg fv vv s H) (bt : But L.cd H H') {c' : Cch} (hc : CchAt K own H' L.cd c') : PubX K P w own L op sd pg fv vv { s with cache := c' } H' := by
  obtain ⟨_, kvs0, hp, _⟩ := h.atc
  obtain ⟨_, kvs1, hp', _⟩ := id hc
  have tk := but_tk bt hp (fun xs z => nomatch z)
  have ho : ∀ b, own b → H b ≠ none → own b := fun b q _ => q
  exact { fresh := fun b q => h.fresh b (none_but bt hp' q), ne := h.ne, ownp := h.ownp, pub := (let ⟨dx, e⟩ := h.pub; ⟨dx, bt _ _ (ne_of e hp (fun z => nomatch z)) e⟩), opt := h.opt.keep tk, src := h.src.keep (fun kvs e => bt _ _ h.src.1.2.1 e) (fun q _ => q), pgs := h.pgs.keep tk, oca := h.oca,
          cch := (let ⟨dx, e⟩ := h.cch; ⟨dx, bt _ _ (ne_of e hp (fun z => nomatch z)) e⟩), atc := hc, ota := h.ota, tmr := (let ⟨dx, e⟩ := h.tmr; ⟨dx, bt _ _ (ne_of e hp (fun z => nomatch z)) e⟩),
          att := h.att.keep (fun xs e => bt _ _ (ne_of e hp (fun z => nomatch z)) e) tk (ho _),
          atj := h.atj.keep (fun kvs e => bt _ _ h.ne.symm e) (fun a dx v1 v2 v3 v4 q e => bt _ _ (ne_of e hp (fun z => nomatch z)) e) tk ho,
          frz := h.frz.keep (fun a dx v1 v2 v3 v4 q e => bt _ _ (ne_of e hp (fun z => nomatch z)) e) (fun b kvs q e => bt _ _ q.2.1 e) tk (fun b q _ => q), ver := h.ver.keep tk }
/-- the dict of timers changes -/
theorem PubX.sett (h : PubX K P w own L op sd pg fv vv s H) (bt : But L.td H H') {t' : Tms} (hc : TmU K P w own H' L.td t') : PubX K P w own L op sd pg fv vv { s with tms := t' } H' := by
  obtain ⟨_, xs0, hp, _⟩ := h.att
  obtain ⟨_, xs1, hp', _⟩ := id hc
  have tk := but_tk bt hp (fun xs z => nomatch z)
  have ho : ∀ b, own b → H b ≠ none → own b := fun b q _ => q
  exact { fresh := fun b q => h.fresh b (none_but bt hp' q), ne := h.ne, ownp := h.ownp, pub := (let ⟨dx, e⟩ := h.pub; ⟨dx, bt _ _ (ne_of e hp (fun z => nomatch z)) e⟩), opt := h.opt.keep tk, src := h.src.keep (fun kvs e => bt _ _ (ne_of e hp (fun z => nomatch z)) e) (fun q _ => q), pgs := h.pgs.keep tk, oca := h.oca,
          cch := (let ⟨dx, e⟩ := h.cch; ⟨dx, bt _ _ (ne_of e hp (fun z => nomatch z)) e⟩), atc := h.atc.keep (fun kvs e => bt _ _ (ne_of e hp (fun z => nomatch z)) e) (fun l us q e => bt _ _ (ne_of e hp (fun z => nomatch z)) e) tk ho, ota := h.ota, tmr := (let ⟨dx, e⟩ := h.tmr; ⟨dx, bt _ _ (ne_of e hp (fun z => nomatch z)) e⟩),
          att := hc,
          atj := h.atj.keep (fun kvs e => bt _ _ (ne_of e hp (fun z => nomatch z)) e) (fun a dx v1 v2 v3 v4 q e => bt _ _ (ne_of e hp (fun z => nomatch z)) e) tk ho,
          frz := h.frz.keep (fun a dx v1 v2 v3 v4 q e => bt _ _ (ne_of e hp (fun z => nomatch z)) e) (fun b kvs q e => bt _ _ (ne_of e hp (fun z => nomatch z)) e) tk (fun b q _ => q), ver := h.ver.keep tk }
/-- the dict of jobs changes -/
theorem PubX.setj (h : PubX K P w own L op sd pg fv vv s H) (bt : But L.jd H H') {j' : List (Str × Job)} (hc : JobsAt K own H' L.jd j') : PubX K P w own L op sd pg fv vv { s with jobs := j' } H' := by
  obtain ⟨_, kvs0, hp, _⟩ := h.atj
  obtain ⟨_, kvs1, hp', _⟩ := id hc
  have tk := but_tk bt hp (fun xs z => nomatch z)
  have ho : ∀ b, own b → H b ≠ none → own b := fun b q _ => q
  exact { fresh := fun b q => h.fresh b (none_but bt hp' q), ne := h.ne, ownp := h.ownp, pub := (let ⟨dx, e⟩ := h.pub; ⟨dx, bt _ _ (ne_of e hp (fun z => nomatch z)) e⟩), opt := h.opt.keep tk, src := h.src.keep (fun kvs e => bt _ _ h.src.1.2.2 e) (fun q _ => q), pgs := h.pgs.keep tk, oca := h.oca,
          cch := (let ⟨dx, e⟩ := h.cch; ⟨dx, bt _ _ (ne_of e hp (fun z => nomatch z)) e⟩), atc := h.atc.keep (fun kvs e => bt _ _ h.ne e) (fun l us q e => bt _ _ (ne_of e hp (fun z => nomatch z)) e) tk ho, ota := h.ota, tmr := (let ⟨dx, e⟩ := h.tmr; ⟨dx, bt _ _ (ne_of e hp (fun z => nomatch z)) e⟩),
          att := h.att.keep (fun xs e => bt _ _ (ne_of e hp (fun z => nomatch z)) e) tk (ho _), atj := hc,
          frz := h.frz.keep (fun a dx v1 v2 v3 v4 q e => bt _ _ (ne_of e hp (fun z => nomatch z)) e) (fun b kvs q e => bt _ _ q.2.2 e) tk (fun b q _ => q), ver := h.ver.keep tk }
/-- a job's attributes change -/
theorem PubX.seto (h : PubX K P w own L op sd pg fv vv s H) {a dx0 : Addr} {w1 w2 w3 w4 : V} (hp : H a = some (.ins (He.ga K "Job") dx0 (jks.zip [w1, w2, w3, w4]))) (bt : But a H H') (hp' : H' a ≠ none) {j' : List (Str × Job)} (hc : JobsAt K own H' L.jd j') : PubX K P w own L op sd pg fv vv { s with jobs := j' } H' := by
  have tk := but_tk bt hp (fun xs z => nomatch z)
  have ho : ∀ b, own b → H b ≠ none → own b := fun b q _ => q
  obtain ⟨o', hp'⟩ : ∃ o', H' a = some o' := Option.ne_none_iff_exists'.mp hp'
  exact { fresh := fun b q => h.fresh b (none_but bt hp' q), ne := h.ne, ownp := h.ownp, pub := (let ⟨dx, e⟩ := h.pub; ⟨dx, bt _ _ (ne_tag e hp tj_p) e⟩), opt := h.opt.keep tk, src := h.src.keep (fun kvs e => bt _ _ (ne_of e hp (fun z => nomatch z)) e) (fun q _ => q), pgs := h.pgs.keep tk, oca := h.oca,
          cch := (let ⟨dx, e⟩ := h.cch; ⟨dx, bt _ _ (ne_tag e hp tj_c) e⟩), atc := h.atc.keep (fun kvs e => bt _ _ (ne_of e hp (fun z => nomatch z)) e) (fun l us q e => bt _ _ (ne_of e hp (fun z => nomatch z)) e) tk ho, ota := h.ota, tmr := (let ⟨dx, e⟩ := h.tmr; ⟨dx, bt _ _ (ne_tag e hp tj_t) e⟩),
          att := h.att.keep (fun xs e => bt _ _ (ne_of e hp (fun z => nomatch z)) e) tk (ho _), atj := hc,
          frz := h.frz.keep (fun a dx v1 v2 v3 v4 q e => bt _ _ (ne_tag e hp tj_f) e) (fun b kvs q e => bt _ _ (ne_of e hp (fun z => nomatch z)) e) tk (fun b q _ => q), ver := h.ver.keep tk }
end
end
end L2.TP
/-! Timers, walked. -/
namespace L2.TP
open PySem PySem.Spec PyProof.Rows L2
section
variable {P : Program} {w : World} {K : PySem.W.Frag} {mg : Str → Option Value} {base : Heap} {H H' : Hp}
def Lo (n : Nat) (d : PyData) : Prop := d.canLay0 = true ∧ d.depth ≤ n
def LoAll (n : Nat) (ds : List PyData) : Prop := PyData.canLayAll0 ds = true ∧ PyData.depthAll ds ≤ n
theorem Lo.str {n : Nat} {x : Str} (h : SOk x) : Lo n (.str x) := ⟨by simp [PyData.canLay0]; exact h, by simp [PyData.depth]⟩
theorem Lo.int {n : Nat} {x : Int} : Lo n (.int x) := ⟨by simp [PyData.canLay0], by simp [PyData.depth]⟩
theorem Lo.none {n : Nat} : Lo n .none := ⟨by simp [PyData.canLay0], by simp [PyData.depth]⟩
theorem LoAll.nil {n : Nat} : LoAll n [] := ⟨by simp [PyData.canLayAll0], by simp [PyData.depthAll]⟩
theorem LoAll.cons {n : Nat} {d : PyData} {ds : List PyData} (h : Lo n d) (t : LoAll n ds) : LoAll n (d :: ds) := ⟨by simp [PyData.canLayAll0, h.1, t.1], by
  simp only [PyData.depthAll]
  have := h.2
  have := t.2
  omega⟩
theorem Lo.tup {n : Nat} {ds : List PyData} (h : LoAll n ds) : Lo (n + 1) (.tuple ds) := ⟨by simp [PyData.canLay0, h.1], by
  simp only [PyData.depth]
  have := h.2
  omega⟩
theorem Lo.list {n : Nat} {ds : List PyData} (h : LoAll n ds) : Lo (n + 1) (.list ds) := ⟨by simp [PyData.canLay0, h.1], by
  simp only [PyData.depth]
  have := h.2
  omega⟩
theorem LoAll.map {α : Type} {n : Nat} {f : α → PyData} : ∀ l : List α, (∀ a ∈ l, Lo n (f a)) → LoAll n (l.map f)
  | [], _ => .nil
  | a :: l, h => .cons (h a List.mem_cons_self) (LoAll.map l fun b hb => h b (List.mem_cons_of_mem _ hb))
theorem Lo.mono {n m : Nat} {d : PyData} (h : Lo n d) (e : n ≤ m) : Lo m d := ⟨h.1, Nat.le_trans h.2 e⟩
theorem Lo.shaped {n : Nat} {d : PyData} (h : Lo n d) (e : n ≤ 64) : SeqAt.shaped d = true := by
  unfold SeqAt.shaped
  rw [h.1, decide_eq_true (Nat.le_trans h.2 e)] <;> rfl
theorem sok (x : Str) (h : PyData.strOk x = true := by decide +kernel) : SOk x := h
theorem lo_res {r : Res} (h : r.Sk) : Lo 2 r.enc := by
  cases r with
  | text c ls => exact .tup (.cons (.str (sok _)) (.cons (.str h.1) (.cons (.tup (.map ls fun x hx => .str (h.2 x hx).1)) .nil)))
  | failed n => exact .tup (.cons (.str (sok _)) (.cons (.str h.1) .nil))
  | long n => exact .tup (.cons (.str (sok _)) (.cons (.str h.1) .nil))
theorem lo_o {o : Option Res} (h : ∀ r, o = some r → r.Ok) : Lo 2 (encO o) := by
  cases o with
  | none => exact .none
  | some r => exact lo_res (h r rfl).2.2
theorem lo_p {p : Str × Option Res} (h : SOk p.1 ∧ ∀ r, p.2 = some r → r.Ok) : Lo 3 (encP p) := .tup (.cons (.str h.1) (.cons (lo_o h.2) .nil))
theorem lo_t {f : Told} (h : TOk f) : Lo 4 (encT f) := .tup (.map f fun p hp => lo_p (h p hp))
theorem lo_l {f : Told} (h : TOk f) : Lo 4 (encL f) := .list (.map f fun p hp => lo_p (h p hp))
theorem lo_r {r : Rend} (h : r.Ok) : Lo 5 r.enc := .tup (.cons (.str h.name) (.cons (.str h.text) (.cons (lo_t h.found) (.cons ((lo_res h.res.2.2).mono (by decide)) .nil))))
/-! ### attributes -/
theorem ins_fld {a C : Addr} {ks : List Str} {vs : List V} {f : Str} {v : V} (i : Nat) (h : InsAt H a C ks vs) (nd : ks.Nodup) (h1 : ks[i]? = some f) (h2 : vs[i]? = some v) : ∃ dx, H a = some (.ins C dx (ks.zip vs)) ∧ (ks.zip vs).lookup f = some v := by
  obtain ⟨dx, e⟩ := h
  exact ⟨dx, e, zip_look nd h1 h2⟩
theorem one_nd (k : Str) : [k].Nodup := by simp
def Ot (o : Option Int) : V := match o with
  | some d => .int d
  | none => .non
/-! ### the timers -/
def KeyU (K : PySem.W.Frag) (H : Hp) (b : Addr) (k : TK) : Prop := SqU K H b (k.enc.map kV)
theorem drop_uu (k : TK) : ∀ {xs : TX} {t : Tms}, Paired (EntU K H) xs t → Paired (EntU K H) (dropX xs k.enc) (adrop t k)
  | _, _, .nil => .nil
  | p :: xs, q :: t, .cons a b => by
    have ih := drop_uu k b
    by_cases h : q.1 = k
    · have hp : p.1 = k.enc := by rw [a.1, h]
      have z1 : dropX (p :: xs) k.enc = dropX xs k.enc := List.filter_cons_of_neg (by simp [hp])
      have z2 : adrop (q :: t) k = adrop t k := List.filter_cons_of_neg (by simp [h])
      rw [z1, z2]
      exact ih
    · have hp : ¬ p.1 = k.enc := fun z => h (enc_inj (a.1.symm.trans z))
      have z1 : dropX (p :: xs) k.enc = p :: dropX xs k.enc := List.filter_cons_of_pos (by simp [hp])
      have z2 : adrop (q :: t) k = q :: adrop t k := List.filter_cons_of_pos (by simp [h])
      rw [z1, z2]
      exact .cons a ih
theorem aget_drop {κ α : Type} [DecidableEq κ] (l : List (κ × α)) (k : κ) : aget (adrop l k) k = none := by
  unfold aget adrop
  rw [List.find?_eq_none.mpr (by simp)] <;> rfl
theorem adrop_none {κ α : Type} [DecidableEq κ] (l : List (κ × α)) (k : κ) (h : aget l k = none) : adrop l k = l := by
  unfold adrop
  refine List.filter_eq_self.mpr fun p hp => ?_
  unfold aget at h
  have z := List.find?_eq_none.mp (Option.map_eq_none_iff.mp h) p hp
  simpa using z
theorem tk_td {own : Addr → Prop} {td : Addr} {t : Tms} {o : HO} (h : TmU K P w own H td t) : TK' H (upd H td o) := let ⟨_, _, h2, _⟩ := h; tk_upd h2 fun _ z => nomatch z
theorem tm_set {own : Addr → Prop} {td : Addr} {t : Tms} {xs : TX} {t' : Tms} (h : TmU K P w own H td t) (hx : Paired (EntU K H) xs t') : TmU K P w own (upd H td (tdO P w td xs)) td t' :=
  ⟨h.1, _, upd_same, Paired.mapP hx fun _ _ z => ⟨z.1, z.2.1.keep (tk_td h), z.2.2⟩⟩
/-- a method of the timers: the object, its dict -/
def TmsAt (K : PySem.W.Frag) (P : Program) (w : World) (own : Addr → Prop) (H : Hp) (ta td : Addr) (t : Tms) : Prop := InsAt H ta (He.ga K "Timers") ["_due"] [.ref td] ∧ TmU K P w own H td t
def spTPut (K : PySem.W.Frag) (P : Program) (w : World) : Sp := fun vs H Q _ => ∃ (own : Addr → Prop) (ta td b : Addr) (t : Tms) (k : TK) (d : Int), vs = [.ref ta, .ref b, .int d] ∧ TmsAt K P w own H ta td t ∧ KeyU K H b k ∧ t.length ≤ 100000 ∧
  ∀ H', But td H H' → TmU K P w own H' td (tput t k d) → Q .non H'
theorem ok_timers_put (T : Txt w K mg) : FnOk P w K mg base CX0 1 (He.ma K (He.ga K "Timers") "put") (fd_Timers_put K) ["self", "key", "due"] (spTPut K P w) := by
  refine T.f_Timers_put.ok sc_Timers_put (fun vs H Q E h => ?_) (fun cdv A outer s H vs Q E hr h => ?_)
  · obtain ⟨a, b, c, d, e, f, g, rfl, _⟩ := h
    rfl
  · obtain ⟨own, ta, td, b, t, k, d, rfl, ⟨⟨dx, hta⟩, ht⟩, hk, hl, kk⟩ := h
    have hu := hu_of hr
    refine ⟨_, PSs.nox ((pss_cons (ps_expr (pe_tpop hu (pe_fld (pv 0) rfl) (pv 1) pe_non ⟨rfl, rfl, rfl, rfl⟩))
      (pss_one (ps_tput hu (pe_fld (pv 0) rfl) (pv 1) (pv 2) rfl)))), ?_⟩
    obtain ⟨xs, hx, hxu⟩ := ht.x
    have hta2 : ∀ {o}, upd H td o ta = _ := fun {o} => but_upd (o := o) _ _ (ne_of hta hx.1 fun z => nomatch z) hta
    refine ⟨_, rfl, ta, _, dx, _, _, rfl, hta, T.cl_Timers, T.na_Timers__due, zip_look (i := 0) (one_nd _) rfl rfl, td, t, rfl, ⟨xs, hx⟩, _, rfl, b, k, xs, rfl, hk.sq, hx, fun d0 hd0 => ?_, fun hn => ?_⟩
    · have ht2 := tm_set ht (drop_uu k hxu)
      obtain ⟨xs2, hx2, hxu2⟩ := ht2.x
      refine ⟨_, rfl, _, rfl, ta, _, dx, _, _, rfl, hta2, T.cl_Timers, T.na_Timers__due, zip_look (i := 0) (one_nd _) rfl rfl, _, rfl, td, b, k, adrop t k, d, xs2, rfl, rfl, rfl, (hk.keep (tk_td ht)).sq, hx2, aget_drop _ _, ?_, ?_⟩
      · exact small5' (Nat.le_trans adrop_len hl)
      · refine kk _ (but_upd.trans but_upd) (tm_set ht2 (Paired.snoc hxu2 ⟨rfl, hk.keep (tk_td ht), rfl⟩))
    · refine ⟨_, rfl, _, rfl, ta, _, dx, _, _, rfl, hta, T.cl_Timers, T.na_Timers__due, zip_look (i := 0) (one_nd _) rfl rfl, _, rfl, td, b, k, t, d, xs, rfl, rfl, rfl, hk.sq, hx, hn, small5' hl, ?_⟩
      refine kk _ but_upd ?_
      unfold tput
      rw [adrop_none _ _ hn]
      exact tm_set ht (Paired.snoc hxu ⟨rfl, hk, rfl⟩)
def spTRem (K : PySem.W.Frag) (P : Program) (w : World) : Sp := fun vs H Q _ => ∃ (own : Addr → Prop) (ta td b : Addr) (t : Tms) (k : TK), vs = [.ref ta, .ref b] ∧ TmsAt K P w own H ta td t ∧ KeyU K H b k ∧
  ∀ H' x, But td H H' → TmU K P w own H' td (adrop t k) → Q (.bl x) H'
theorem ok_timers_remove (T : Txt w K mg) : FnOk P w K mg base CX0 1 (He.ma K (He.ga K "Timers") "remove") (fd_Timers_remove K) ["self", "key"] (spTRem K P w) := by
  refine T.f_Timers_remove.ok sc_Timers_remove (fun vs H Q E h => ?_) (fun cdv A outer s H vs Q E hr h => ?_)
  · obtain ⟨a, b, c, d, e, f, rfl, _⟩ := h
    rfl
  · obtain ⟨own, ta, td, b, t, k, rfl, ⟨⟨dx, hta⟩, ht⟩, hk, kk⟩ := h
    have hu := hu_of hr
    refine ⟨_, PSs.nox ((pss_one (ps_ret (pe_cmpR op_notN (pe_tpop hu (pe_fld (pv 0) rfl) (pv 1) pe_non ⟨rfl, rfl, rfl, rfl⟩) pe_non (nomark _))))), ?_⟩
    obtain ⟨xs, hx, hxu⟩ := ht.x
    refine ⟨_, rfl, ta, _, dx, _, _, rfl, hta, T.cl_Timers, T.na_Timers__due, zip_look (i := 0) (one_nd _) rfl rfl, td, t, rfl, ⟨xs, hx⟩, _, rfl, b, k, xs, rfl, hk.sq, hx, fun d0 hd0 => ⟨rfl, ?_⟩, fun hn => ⟨rfl, ?_⟩⟩
    · exact kk _ _ but_upd (tm_set ht (drop_uu k hxu))
    · refine kk _ _ (But.refl _ _) ?_
      rw [adrop_none _ _ hn]
      exact ht
def spTDue (K : PySem.W.Frag) (P : Program) (w : World) : Sp := fun vs H Q _ => ∃ (own : Addr → Prop) (ta td b : Addr) (t : Tms) (k : TK), vs = [.ref ta, .ref b] ∧ TmsAt K P w own H ta td t ∧ KeyU K H b k ∧ Q (oi (aget t k)) H
theorem ok_timers_due (T : Txt w K mg) : FnOk P w K mg base CX0 1 (He.ma K (He.ga K "Timers") "due") (fd_Timers_due K) ["self", "key"] (spTDue K P w) := by
  refine T.f_Timers_due.ok sc_Timers_due (fun vs H Q E h => ?_) (fun cdv A outer s H vs Q E hr h => ?_)
  · obtain ⟨a, b, c, d, e, f, rfl, _⟩ := h
    rfl
  · obtain ⟨own, ta, td, b, t, k, rfl, ⟨⟨dx, hta⟩, ht⟩, hk, kk⟩ := h
    have hu := hu_of hr
    refine ⟨_, PSs.nox ((pss_one (ps_ret (pe_tget hu (pe_fld (pv 0) rfl) (pv 1) ⟨rfl, rfl, rfl, rfl⟩)))), ?_⟩
    obtain ⟨xs, hx, hxu⟩ := ht.x
    refine ⟨_, rfl, ta, _, dx, _, _, rfl, hta, T.cl_Timers, T.na_Timers__due, zip_look (i := 0) (one_nd _) rfl rfl, td, t, rfl, ⟨xs, hx⟩, _, rfl, b, k, rfl, hk.sq, ⟨xs, hx⟩, ?_⟩
    cases e : aget t k with
    | none => rw [e] at kk; exact kk
    | some d => rw [e] at kk; exact kk
/-- the first timer: its due, its key -/
def FstAt (K : PySem.W.Frag) (H : Hp) (v : V) : Option (Int × TK) → Prop
  | none => v = .non
  | some (d, k) => ∃ p b, v = .ref p ∧ SqU K H p [.int d, .ref b] ∧ KeyU K H b k
theorem FstAt.keep {v : V} : ∀ {o : Option (Int × TK)}, FstAt K H v o → TK' H H' → FstAt K H' v o
  | none, h, _ => h
  | some (d, k), ⟨p, b, e, h1, h2⟩, tk => ⟨p, b, e, h1.keep tk, h2.keep tk⟩
def spTFirst (K : PySem.W.Frag) (P : Program) (w : World) : Sp := fun vs H Q _ => ∃ (own : Addr → Prop) (ta td : Addr) (t : Tms), vs = [.ref ta] ∧ TmsAt K P w own H ta td t ∧ t.length ≤ 100000 ∧
  ∀ H' v, Same H H' → FstAt K H' v (tfirst t) → Q v H'
theorem ok_timers_first (T : Txt w K mg) : FnOk P w K mg base CX0 1 (He.ma K (He.ga K "Timers") "first") (fd_Timers_first K) ["self"] (spTFirst K P w) := by
  refine T.f_Timers_first.ok sc_Timers_first (fun vs H Q E h => ?_) (fun cdv A outer s H vs Q E hr h => ?_)
  · obtain ⟨a, b, c, d, rfl, _⟩ := h
    rfl
  · obtain ⟨own, ta, td, t, rfl, ⟨⟨dx, hta⟩, ht⟩, hl, kk⟩ := h
    have hu := hu_of hr
    refine ⟨_, PSs.nox ((pss_cons (ps_set (i := 1) sc_Timers_first.nd rfl (.inl rfl) pe_non)
      (pss_cons (ps_lock (ps_for PassesOwn.never rfl (pi_titems (pe_fld (pv 0) rfl)) (pg_tup (by rfl) (pgs_cons (pg_name (i := 2) sc_Timers_first.nd rfl (.inl rfl)) (pgs_cons (pg_name (i := 3) sc_Timers_first.nd rfl (.inl rfl)) pgs_nil))) (pss_one (ps_if (PW.pt (pw_or (pt_cmpR op_isN (pv 1) pe_non (nomark _)) (pw_or1 (pt_cmpR op_lt (pv 3) (pe_ix ix_tup (pv 1) pe_int (fun _ _ => rfl)) (nomark _))))) (pss_one (ps_set (i := 1) sc_Timers_first.nd rfl (.inl rfl) (pe_tup (pa_cons (pv 3) (pa_cons (pv 2) pa_nil))))) pss_nil))))
      (pss_one (ps_ret (pv 1)))))), ?_⟩
    obtain ⟨xs, hx, hxu⟩ := ht.x
    refine ⟨td, _, hx.1, True.intro, fun od => ?_⟩
    have hta1 : upd H td (.frz od (tdO P w td xs)) ta = _ := but_upd _ _ (ne_of hta hx.1 fun z => nomatch z) hta
    have tk1 : TK' H (upd H td (.frz od (tdO P w td xs))) := tk_td ht
    have hlen : xs.length = t.length := Paired.length hxu
    refine ⟨_, rfl, ta, _, dx, _, _, rfl, hta1, T.cl_Timers, T.na_Timers__due, zip_look (i := 0) (one_nd _) rfl rfl, td, od, xs, rfl, upd_same, for_any (n := xs.length) (fun i σ H2 => Same (upd H td (.frz od (tdO P w td xs))) H2 ∧ ∃ v b2 b3, FstAt K H2 v (tfirst (t.take i)) ∧ σ = [some (.ref ta), some v, b2, b3]) ⟨Same.refl _, .non, _, _, rfl, rfl⟩ (fun i σ H2 hi pv => ?_) fun σ H2 pv => ?_⟩
    · obtain ⟨s2, v, b2, b3, hv, rfl⟩ := pv
      refine ⟨⟨s2 _ _ upd_same, hi⟩, fun x H3 hy => ?_⟩
      obtain ⟨T', k, b, d, hxi, rfl, hT, rfl⟩ := hy
      obtain ⟨⟨tk, dd⟩, hti, e1, e2, e3⟩ := paired_get hxu hxi
      replace e1 : k = tk.enc := e1
      replace e3 : d = .int dd := e3
      subst e1 e3
      have sT := same_new hT (o := .tup [.ref b, .int dd])
      have hkey : KeyU K (upd H2 T' (.tup [.ref b, .int dd])) b tk := (e2.keep tk1).keep (Same.tk (s2.trans sT))
      have hv2 := hv.keep (Same.tk sT)
      have htn : tfirst (t.take (i + 1)) = (match tfirst (t.take i) with
        | none => some (dd, tk)
        | some q => if dd < q.1 then some (dd, tk) else some q) := by
        unfold tfirst
        rw [take_next hti, List.foldl_append] <;> rfl
      refine ⟨_, _, rfl, sqT_of upd_same, rfl, _, _, rfl, _, _, rfl, rfl, ?_⟩
      cases hf : tfirst (t.take i) with
      | none =>
        rw [hf] at hv2 htn
        obtain rfl : v = .non := hv2
        refine ⟨_, rfl, rfl, _, rfl, ifY rfl (iteT ⟨_, rfl, _, rfl, le2, fun p hp => ?_⟩)⟩
        have sp := same_new hp (o := .tup [.int dd, .ref b])
        refine ⟨(s2.trans sT).trans sp, .ref p, _, _, ?_, rfl⟩
        rw [htn]
        exact ⟨p, b, rfl, squ_of upd_same, hkey.keep (Same.tk sp)⟩
      | some q =>
        obtain ⟨d0, k0⟩ := q
        rw [hf] at hv2 htn
        obtain ⟨p0, b0, rfl, hp0, hk0⟩ := hv2
        refine ⟨_, rfl, rfl, _, rfl, ifN rfl ⟨_, rfl, _, rfl, _, _, _, _, rfl, rfl, hp0.sq, at0, _, _, rfl, rfl, _, rfl, ?_⟩⟩
        by_cases hlt : dd < d0
        · refine ifY (dT hlt) ⟨_, rfl, _, rfl, le2, fun p hp => ?_⟩
          have sp := same_new hp (o := .tup [.int dd, .ref b])
          refine ⟨(s2.trans sT).trans sp, .ref p, _, _, ?_, rfl⟩
          rw [htn]
          show FstAt K _ _ (if dd < d0 then some (dd, tk) else some (d0, k0))
          rw [if_pos hlt]
          exact ⟨p, b, rfl, squ_of upd_same, hkey.keep (Same.tk sp)⟩
        · refine ifN (dF hlt) ⟨s2.trans sT, .ref p0, _, _, ?_, rfl⟩
          rw [htn]
          show FstAt K _ _ (if dd < d0 then some (dd, tk) else some (d0, k0))
          rw [if_neg hlt]
          exact ⟨p0, b0, rfl, hp0, hk0⟩
    · obtain ⟨s2, v, b2, b3, hv, rfl⟩ := pv
      have hd2 : H2 td = some (.frz od (tdO P w td xs)) := s2 _ _ upd_same
      refine ⟨⟨hd2, Nat.le_refl _⟩, hd2, _, rfl, ?_⟩
      rw [hlen, List.take_length] at hv
      refine kk _ v (fun b o hb => ?_) (hv.keep (tk_upd hd2 fun _ z => nomatch z))
      by_cases e : b = td
      · rw [e, upd_same]
        rw [e, hx.1] at hb
        exact hb
      · rw [upd_ne e]
        exact s2 b o (by rw [upd_ne e]; exact hb)
end
end L2.TP
/-! Cache, walked. -/
namespace L2.TP
open PySem PySem.Spec PyProof.Rows L2
section
variable {P : Program} {w : World} {K : PySem.W.Frag} {mg : Str → Option Value} {base : Heap} {H H' : Hp}
def CacAt (K : PySem.W.Frag) (own : Addr → Prop) (H : Hp) (ca cd : Addr) (c : Cch) : Prop := InsAt H ca (He.ga K "Cache") ["_renderings"] [.ref cd] ∧ CchAt K own H cd c ∧ ∀ b, H b = none → own b
theorem cut4 (xs : List V) : cutV xs none (some 4) = xs.take 4 := by
  unfold cutV
  show (xs.drop 0).take (min 4 xs.length - 0) = _
  rw [List.drop_zero, Nat.sub_zero]
  by_cases h : 4 ≤ xs.length
  · rw [Nat.min_eq_left h]
  · rw [Nat.min_eq_right (by omega), List.take_length, List.take_of_length_le (by omega)]
theorem dt_filter {α : Type} (enc : α → PyData) (p : α → Bool) : ∀ {us : List V} {rs : List α}, DtAll K H us (rs.map enc) → DtAll K H (((us.zip rs).filter fun q => p q.2).map (·.1)) ((rs.filter p).map enc)
  | us, [], h => by
    rw [h.nil_inv]
    exact .nil
  | us, r :: rs, h => by
    obtain ⟨v, us, rfl, h1, h2⟩ := DtAll.cons_inv (d := enc r) h
    have ih := dt_filter enc p h2
    rw [List.zip_cons_cons]
    cases e : p r with
    | true =>
      rw [List.filter_cons_of_pos (by exact e), List.filter_cons_of_pos e]
      exact .cons h1 ih
    | false =>
      rw [List.filter_cons_of_neg (by simp [e]), List.filter_cons_of_neg (by simp [e])]
      exact ih
theorem DtAll.take : ∀ {n : Nat} {us : List V} {ds : List PyData}, DtAll K H us ds → DtAll K H (us.take n) (ds.take n)
  | 0, _, _, _ => .nil
  | n + 1, _, _, DpAll.nil => .nil
  | n + 1, _, _, DpAll.cons a b => .cons a (DtAll.take b)
/-- the renderings of a name, or a new empty list -/
theorem cch_get {own : Addr → Prop} {cd p : Addr} {c : Cch} {name : Str} (h : CchAt K own H cd c) (hp : H p = none) : ∃ o l us, DGet (upd H p (.lst [])) cd (.str name) o ∧ o.getD (.ref p) = .ref l ∧ upd H p (.lst []) l = some (.lst us) ∧ DtAll K (upd H p (.lst [])) us (((aget c name).getD []).map Rend.enc) := by
  obtain ⟨h1, kvs, h2, h3⟩ := h
  have sp := same_new hp (o := .lst [])
  obtain ⟨z1, z2⟩ := h3.get name
  cases e : aget c name with
  | none => exact ⟨none, p, [], .inl ⟨kvs, .inr name, .of (sp _ _ h2), rfl, (z1 e).symm⟩, rfl, upd_same, .nil⟩
  | some rs =>
    obtain ⟨v, hv, l, us, rfl, ho, hl, hd⟩ := z2 rs e
    exact ⟨some (.ref l), l, us, .inl ⟨kvs, .inr name, .of (sp _ _ h2), rfl, hv.symm⟩, rfl, sp _ _ hl, hd.keep (Same.tk sp)⟩
theorem aget_mem {α : Type} {l : List (Str × α)} {k : Str} {a : α} (h : aget l k = some a) : (k, a) ∈ l := by
  unfold aget at h
  obtain ⟨p, hp, rfl⟩ := Option.map_eq_some_iff.mp h
  have e : p.1 = k := by simpa using List.find?_some hp
  rw [← e]
  exact List.mem_of_find?_eq_some hp
theorem CchOk.get {c : Cch} (h : CchOk c) (name : Str) : ((aget c name).getD []).length ≤ 4 ∧ ∀ r ∈ (aget c name).getD [], r.Ok := by
  cases e : aget c name with
  | none => exact ⟨Nat.zero_le _, (fun r hr => nomatch hr)⟩
  | some rs => exact h (name, rs) (aget_mem e)
def spCAdd (K : PySem.W.Frag) : Sp := fun vs H Q _ => ∃ (own : Addr → Prop) (ca cd : Addr) (c : Cch) (v : V) (r : Rend), vs = [.ref ca, v] ∧ CacAt K own H ca cd c ∧ Dt K H v r.enc ∧ r.Ok ∧ CchOk c ∧ c.length ≤ 100000 ∧
  ∀ H', But cd H H' → CchAt K own H' cd (cadd c r) → Q .non H'
theorem ok_cache_add (T : Txt w K mg) : FnOk P w K mg base CX0 1 (He.ma K (He.ga K "Cache") "add") (fd_Cache_add K) ["self", "rendering"] (spCAdd K) := by
  refine T.f_Cache_add.ok sc_Cache_add (fun vs H Q E h => ?_) (fun cdv A outer s H vs Q E hr h => ?_)
  · obtain ⟨a, b, c, d, e, f, rfl, _⟩ := h
    rfl
  · obtain ⟨own, ca, cd, c, v, r, rfl, ⟨⟨dx, hca⟩, hc, hfr⟩, hv, hro, hco, hcl, kk⟩ := h
    have hu := hu_of hr
    refine ⟨_, PSs.nox ((pss_cons (ps_set (i := 2) sc_Cache_add.nd rfl (.inl rfl) (pe_ix ix_tup (pv 1) pe_int (fun _ _ => rfl)))
      (pss_cons (ps_setLc (i := 3) (own := [("other", 4)]) (g := gName 4) (by rfl) sc_Cache_add.nd rfl rfl (sw_true rfl rfl rfl (by decide +kernel)) (pi_list (pe_dget2 hu (pe_fld (pv 0) rfl) (pv 2) (pe_lst pa_nil) ⟨rfl, rfl, rfl, rfl⟩)) (blkOk_by (own := [("other", 4)]) (N := ["self", "rendering", "name", "others", "other"]) (sc := defScope s_Cache_add) (by decide +kernel)) (fun _ _ _ _ _ => (pg_name (i := 4) sc_Cache_add.nd rfl (.inl rfl))) (fun _ _ _ _ _ => pts_one (pt_cmpR (op_neDK (K := K) rfl hr.units) (pv 4) (pv 1) (nomark _))) (fun _ _ _ _ _ => (pv 4)))
      (pss_one (ps_dput hu (pe_fld (pv 0) rfl) (pv 2) (pe_slice sl_list (pe_op op_cat (pe_lst (pa_cons (pv 1) pa_nil)) (pv 3)) po_none (po_some (pe_gi T.i_RENDERINGS_MOST))) rfl))))), ?_⟩
    obtain ⟨p, xs, rfl, hp, hx⟩ := id hv.itemsU
    obtain ⟨x0, xr, rfl, hx0, _⟩ := hx.cons_inv
    obtain rfl := hx0.str_inv
    obtain ⟨_, kvs0, hcd, hdr⟩ := id hc
    refine ⟨_, rfl, _, _, _, _, rfl, rfl, hp.sq, at0, ?_⟩
    refine ⟨_, rfl, ca, _, dx, _, _, rfl, hca, T.cl_Cache, T.na_Cache__renderings, zip_look (i := 0) (one_nd _) rfl rfl, cd, rfl, .inl ⟨_, .of hcd⟩, _, rfl, Nat.zero_le _, fun p0 hp0 => ?_⟩
    obtain ⟨o, l, us, hg, ho, hl, hus⟩ := cch_get (name := r.name) hc hp0
    obtain ⟨hc4, hcr⟩ := hco.get r.name
    have s1 := same_new hp0 (o := .lst [])
    generalize hrs : (aget c r.name).getD [] = rs at *
    have hlen : us.length = rs.length := by rw [hus.len, List.length_map]
    refine ⟨o, hg, l, ho, ⟨us, sqL_of hl⟩, fun D0 hD0 => lc_items (us.zip rs) (fun q => if (!PyData.eqv q.2.enc r.enc) = true then some q.1 else none) (by rw [List.length_zip]; omega) hD0 (fun i q H2 hi s2 => ?_) fun H2 s2 hd2 => ?_⟩
    · obtain ⟨u, z⟩ := q
      obtain ⟨hi1, hi2⟩ := List.getElem?_zip_eq_some.mp hi
      have hl2 := sqL_of (K := K) (s2 _ _ hl)
      refine ⟨itl_go hl2 hi1, fun x H3 hy Kt Kf kt kf => ?_⟩
      obtain ⟨rfl, rfl⟩ := itl_yld hl2 hi1 hy
      obtain ⟨u', hu1, hu2⟩ := hus.get (d := z.enc) (i := i) (by rw [List.getElem?_map, hi2] <;> rfl)
      have e : u' = x := Option.some.inj (hu1.symm.trans hi1)
      subst e
      refine ⟨rfl, _, rfl, _, rfl, z.enc, r.enc, (hu2.keep (Same.tk s2)).dp, ((hv.keep (Same.tk s1)).keep (Same.tk s2)).dp, (lo_r (hcr z (List.mem_of_getElem? hi2))).shaped (by decide), (lo_r hro).shaped (by decide), _, rfl, ?_⟩
      cases he : PyData.eqv z.enc r.enc with
      | true => exact ifN (by rfl) (kf _ (by simp [he]) (Same.refl _))
      | false => exact ifY (by rfl) ⟨_, rfl, kt _ _ (by simp [he]) (Same.refl _)⟩
    · rw [filterMap_if (us.zip rs) (fun q => !PyData.eqv q.2.enc r.enc) (·.1)] at hd2
      have hoth := dt_filter Rend.enc (fun z => !PyData.eqv z.enc r.enc) (hus.keep (Same.tk s2))
      generalize hos : ((us.zip rs).filter fun q => !PyData.eqv q.2.enc r.enc).map (·.1) = os at *
      have hol : os.length ≤ 4 := by
        rw [← hos, List.length_map]
        have h1 := List.length_filter_le (fun q : V × Rend => !PyData.eqv q.2.enc r.enc) (us.zip rs)
        rw [List.length_zip] at h1
        omega
      refine ⟨itl_stop (sqL_of (s2 _ _ hl)) (by rw [List.length_zip]; omega), ?_⟩
      refine ⟨_, rfl, le1, fun p3 hp3 => ?_⟩
      have s3 := same_new hp3 (o := .lst [.ref p])
      refine ⟨_, rfl, p3, D0, _, os, rfl, rfl, upd_same, s3 _ _ hd2, small5 (by show 1 + os.length ≤ _; omega), fun p4 hp4 => ?_⟩
      have s4 := same_new hp4 (o := .lst ([.ref p] ++ os))
      refine ⟨_, rfl, p4, _, rfl, sqL_of upd_same, fun p5 hp5 => ?_⟩
      have s5 := same_new hp5 (o := .lst (cutV ([.ref p] ++ os) none (some 4)))
      have sA := (((s1.trans s2).trans s3).trans s4).trans s5
      have hcaA := sA _ _ hca
      have hcdA := sA _ _ hcd
      refine ⟨_, rfl, ca, _, dx, _, _, rfl, hcaA, T.cl_Cache, T.na_Cache__renderings, zip_look (i := 0) (one_nd _) rfl rfl, _, rfl, cd, _, rfl, .inl ⟨kvs0, .inr r.name, hcdA, rfl, ?_, rfl⟩, ?_⟩
      · rw [hdr.len]
        exact small5' hcl
      · have tkA : TK' H _ := (Same.tk sA).trans (tkD (ys := putK kvs0 (.inr r.name) (.ref p5)) hcdA)
        refine kk _ (fun b o n e => by rw [upd_ne n]; exact sA b o e) ⟨hc.1, _, upd_same, ?_⟩
        have nl : ∀ {l us}, H l = some (.lst us) → upd (upd (upd (upd H2 p3 (.lst [.ref p])) p4 (.lst ([.ref p] ++ os))) p5 (.lst (cutV ([.ref p] ++ os) none (some 4)))) cd (.dK (putK kvs0 (.inr r.name) (.ref p5))) l = some (.lst us) := fun e => by
          rw [upd_ne (ne_of e hcd fun z => nomatch z)]
          exact sA _ _ e
        have hp5n : p5 ≠ cd := fun e => by rw [e] at hp5; rw [((((s1.trans s2).trans s3).trans s4)) _ _ hcd] at hp5; cases hp5
        have old : DR (LstAt K own (upd (upd (upd (upd H2 p3 (.lst [.ref p])) p4 (.lst ([.ref p] ++ os))) p5 (.lst (cutV ([.ref p] ++ os) none (some 4)))) cd (.dK (putK kvs0 (.inr r.name) (.ref p5))))) kvs0 c := hdr.mono fun v rs z => z.keep (fun l us _ e => nl e) tkA fun b q _ => q
        refine old.put r.name ⟨p5, cutV ([.ref p] ++ os) none (some 4), rfl, hfr _ (none_same ((((s1.trans s2).trans s3).trans s4)) hp5), ?_, ?_⟩
        · rw [upd_ne hp5n]
          exact upd_same
        · rw [hrs, List.map_take, List.map_cons]
          have hz := DtAll.take (n := 4) (DtAll.cons (hv.keep tkA) (hoth.keep ((Same.tk ((s3.trans s4).trans s5)).trans (tkD hcdA))))
          rw [← cut4] at hz
          exact hz
def spCFind (K : PySem.W.Frag) : Sp := fun vs H Q _ => ∃ (own : Addr → Prop) (ca cd l : Addr) (c : Cch) (name text : Str) (us : List V) (found : Told), vs = [.ref ca, .str name, .str text, .ref l] ∧ CacAt K own H ca cd c ∧ H l = some (.lst us) ∧ DtAll K H us (found.map encP) ∧ TOk found ∧ CchOk c ∧
  ∀ H' v, Same H H' → Dt K H' v (encO (cfind c name text found)) → Q v H'
theorem dt_rend {v : V} {r : Rend} (h : Dt K H v r.enc) : ∃ p f x, v = .ref p ∧ SqU K H p [.str r.name, .str r.text, f, x] ∧ Dt K H f (encT r.found) ∧ Dt K H x r.res.enc := by
  obtain ⟨p, xs, rfl, hp, hx⟩ := h.itemsU
  obtain ⟨a, xr, rfl, ha, hr⟩ := hx.cons_inv
  obtain ⟨b, c, d, rfl, hb, hc, hd⟩ := hr.three_inv
  rw [ha.str_inv, hb.str_inv] at hp
  exact ⟨p, c, d, rfl, hp, hc, hd⟩
theorem find_take {α : Type} {l : List α} {i : Nat} {a : α} {p : α → Bool} (hi : l[i]? = some a) (hn : (l.take i).find? p = none) (ha : p a = true) : l.find? p = some a := by
  have z : l = l.take i ++ a :: l.drop (i + 1) := by
    have := List.take_append_drop i l
    rw [List.drop_eq_getElem?_toList_append, hi] at this
    exact this.symm
  rw [z, List.find?_append, hn]
  simp [ha]
theorem find_take_no {α : Type} {l : List α} {i : Nat} {a : α} {p : α → Bool} (hi : l[i]? = some a) (hn : (l.take i).find? p = none) (ha : p a = false) : (l.take (i + 1)).find? p = none := by
  rw [take_next hi, List.find?_append, hn]
  simp [ha]
theorem ok_cache_find (T : Txt w K mg) : FnOk P w K mg base CX0 1 (He.ma K (He.ga K "Cache") "find") (fd_Cache_find K) ["self", "name", "text", "found"] (spCFind K) := by
  refine T.f_Cache_find.ok sc_Cache_find (fun vs H Q E h => ?_) (fun cdv A outer s H vs Q E hr h => ?_)
  · obtain ⟨a, b, c, d, e, f, g, i, j, rfl, _⟩ := h
    rfl
  · obtain ⟨own, ca, cd, l0, c, name, text, us0, found, rfl, ⟨⟨dx, hca⟩, hc, hfr⟩, hl0, hd0, hfo, hco, kk⟩ := h
    have hu := hu_of hr
    refine ⟨_, PSs.nox ((pss_cons (ps_for PassesOwn.never rfl (pi_list (pe_dget2 hu (pe_fld (pv 0) rfl) (pv 1) (pe_lst pa_nil) ⟨rfl, rfl, rfl, rfl⟩)) (pg_tup (by rfl) (pgs_cons (pg_name (i := 4) sc_Cache_find.nd rfl (.inl rfl)) (pgs_cons (pg_name (i := 5) sc_Cache_find.nd rfl (.inl rfl)) (pgs_cons (pg_name (i := 6) sc_Cache_find.nd rfl (.inl rfl)) (pgs_cons (pg_name (i := 7) sc_Cache_find.nd rfl (.inl rfl)) pgs_nil))))) (pss_one (ps_if (PW.pt (pw_and (pt_cmpR op_eq (pv 5) (pv 2) (nomark _)) (pw_and1 (pt_cmpR (op_eqD hr.units) (pv 6) (pe_callTy call_tuple_of (by rfl) T.z_tuple (by decide +kernel) (pa_cons (pv 3) pa_nil)) (nomark _))))) (pss_one (ps_ret (pv 7))) pss_nil)))
      (pss_one (ps_ret pe_non)))), ?_⟩
    obtain ⟨_, kvs0, hcd, hdr⟩ := id hc
    refine ⟨_, rfl, ca, _, dx, _, _, rfl, hca, T.cl_Cache, T.na_Cache__renderings, zip_look (i := 0) (one_nd _) rfl rfl, cd, rfl, .inl ⟨_, .of hcd⟩, _, rfl, Nat.zero_le _, fun p0 hp0 => ?_⟩
    obtain ⟨o, l, us, hg, ho, hl, hus⟩ := cch_get (name := name) hc hp0
    obtain ⟨hc4, hcr⟩ := hco.get name
    have s1 := same_new hp0 (o := .lst [])
    have ec : cfind c name text found = (((aget c name).getD []).find? fun r => decide (r.text = text) && PyData.eqv (encT r.found) (encT found)).map (·.res) := rfl
    generalize hrs : (aget c name).getD [] = rs at *
    have hlen : us.length = rs.length := by rw [hus.len, List.length_map]
    refine ⟨o, hg, l, ho, ⟨us, sqL_of hl⟩, for_items rs (fun i σ H2 => Same (upd H p0 (.lst [])) H2 ∧ (rs.take i).find? (fun r => decide (r.text = text) && PyData.eqv (encT r.found) (encT found)) = none ∧ ∃ b4 b5 b6 b7, σ = [some (.ref ca), some (.str name), some (.str text), some (.ref l0), b4, b5, b6, b7])
      ⟨Same.refl _, rfl, _, _, _, _, rfl⟩ (fun i z σ H2 hi pv => ?_) fun σ H2 pv => ?_⟩
    · obtain ⟨s2, hn, b4, b5, b6, b7, rfl⟩ := pv
      obtain ⟨v, hv1, hv2⟩ := hus.get (d := z.enc) (i := i) (by rw [List.getElem?_map, hi] <;> rfl)
      have hl2 := sqL_of (K := K) (s2 _ _ hl)
      refine ⟨itl_go hl2 hv1, fun x H3 hy => ?_⟩
      obtain ⟨rfl, rfl⟩ := itl_yld hl2 hv1 hy
      obtain ⟨p, f, y, rfl, hp, hf, hy2⟩ := dt_rend (hv2.keep (Same.tk s2))
      refine ⟨_, _, rfl, hp.sq, rfl, _, _, rfl, _, _, rfl, _, _, rfl, _, _, rfl, rfl, ?_⟩
      refine ⟨_, rfl, _, rfl, rfl, _, rfl, ?_⟩
      have hzr := hcr z (List.mem_of_getElem? hi)
      by_cases ht : z.text = text
      · refine ifY (dT (by rw [ht])) ⟨_, rfl, _, rfl, l0, us0, rfl, .inl ⟨sqL_of (s2 _ _ (s1 _ _ hl0)), fun q hq => ?_⟩⟩
        have s3 := same_new hq (o := .tup us0)
        refine ⟨encT z.found, encT found, (hf.keep (Same.tk s3)).dp, (Dt.tup upd_same (hd0.keep (Same.tk ((s1.trans s2).trans s3)))).dp, (lo_t hzr.found).shaped (by decide), (lo_t hfo).shaped (by decide), _, rfl, ?_⟩
        cases he : PyData.eqv (encT z.found) (encT found) with
        | true =>
          refine ifY rfl ⟨_, rfl, kk _ _ ((s1.trans s2).trans s3) ?_⟩
          rw [ec, find_take hi hn (by simp [ht, he])]
          exact hy2.keep (Same.tk s3)
        | false =>
          refine ifN rfl ⟨s2.trans s3, find_take_no hi hn (by simp [he]), _, _, _, _, rfl⟩
      · refine ifN (dF (by intro q; exact ht (V.str.inj q))) (iteF ⟨s2, find_take_no hi hn (by simp [ht]), _, _, _, _, rfl⟩)
    · obtain ⟨s2, hn, b4, b5, b6, b7, rfl⟩ := pv
      rw [List.take_length] at hn
      refine ⟨itl_stop (sqL_of (s2 _ _ hl)) (Nat.le_of_eq hlen), kk _ _ (s1.trans s2) ?_⟩
      rw [ec, hn]
      exact .non
end
end L2.TP
/-! Cache.keep; the makers. -/
namespace L2.TP
open PySem PySem.Spec PyProof.Rows L2
section
variable {P : Program} {w : World} {K : PySem.W.Frag} {mg : Str → Option Value} {base : Heap} {H H' : Hp}
theorem keysV {α : Type} {R : V → α → Prop} {kvs : List (L2.Key × V)} {m : List (Str × α)} (h : DR R kvs m) : (kvs.map fun kv => kV kv.1) = (m.map (·.1)).map V.str := by
  have e := congrArg (List.map kV) h.keys
  rw [List.map_map, List.map_map] at e
  exact e
theorem adrop_mid {α : Type} {A B : List (Str × α)} {k : Str} {a : α} (h1 : k ∉ A.map (·.1)) (h2 : k ∉ B.map (·.1)) : adrop (A ++ (k, a) :: B) k = A ++ B := by
  unfold adrop
  rw [List.filter_append, List.filter_cons_of_neg (by simp)]
  congr 1
  · exact List.filter_eq_self.mpr fun p hp => decide_eq_true fun e : p.1 = k => h1 (e ▸ List.mem_map_of_mem hp)
  · exact List.filter_eq_self.mpr fun p hp => decide_eq_true fun e : p.1 = k => h2 (e ▸ List.mem_map_of_mem hp)
theorem nd_split {α : Type} {l : List (Str × α)} {i : Nat} {p : Str × α} (nd : (l.map (·.1)).Nodup) (hi : l[i]? = some p) : l = l.take i ++ p :: l.drop (i + 1) ∧ p.1 ∉ (l.take i).map (·.1) ∧ p.1 ∉ (l.drop (i + 1)).map (·.1) := by
  have e : l = l.take i ++ p :: l.drop (i + 1) := by
    have := List.take_append_drop i l
    rw [List.drop_eq_getElem?_toList_append, hi] at this
    exact this.symm
  rw [e, List.map_append, List.map_cons] at nd
  obtain ⟨_, n2, n3⟩ := List.nodup_append.mp nd
  exact ⟨e, fun h => n3 _ h _ List.mem_cons_self rfl, (List.nodup_cons.mp n2).1⟩
theorem aget_mid {α : Type} {A B : List (Str × α)} {k : Str} {a : α} (h1 : k ∉ A.map (·.1)) : aget (A ++ (k, a) :: B) k = some a := by
  unfold aget
  rw [List.find?_append, List.find?_eq_none.mpr (by
    intro p hp
    have z : p.1 ≠ k := fun e : p.1 = k => h1 (e ▸ List.mem_map_of_mem hp)
    simpa using z)]
  simp
def spCKeep (K : PySem.W.Frag) : Sp := fun vs H Q _ => ∃ (own : Addr → Prop) (ca cd l : Addr) (c : Cch) (ns : List Str), vs = [.ref ca, .ref l] ∧ CacAt K own H ca cd c ∧ H l = some (.lst (ns.map V.str)) ∧ (c.map (·.1)).Nodup ∧ c.length ≤ 100000 ∧
  ∀ H', But cd H H' → CchAt K own H' cd (ckeep c ns) → Q .non H'
theorem ok_cache_keep (T : Txt w K mg) : FnOk P w K mg base CX0 1 (He.ma K (He.ga K "Cache") "keep") (fd_Cache_keep K) ["self", "names"] (spCKeep K) := by
  refine T.f_Cache_keep.ok sc_Cache_keep (fun vs H Q E h => ?_) (fun cdv A outer s H vs Q E hr h => ?_)
  · obtain ⟨a, b, c, d, e, f, rfl, _⟩ := h
    rfl
  · obtain ⟨own, ca, cd, l, c, ns, rfl, ⟨⟨dx, hca⟩, hc, hfr⟩, hl, nd, hcl, kk⟩ := h
    have hu := hu_of hr
    refine ⟨_, PSs.nox ((pss_one (ps_for PassesOwn.never rfl (pi_list (pe_callTy (call_listD rfl) (by rfl) T.z_list (by decide +kernel) (pa_cons (pe_fld (pv 0) rfl) pa_nil))) (pg_name (i := 2) sc_Cache_keep.nd rfl (.inl rfl)) (pss_one (ps_if (pt_cmpR op_notIn_seq (pv 2) (pv 1) rfl) (pss_one (ps_expr (pe_dpop1 (pe_fld (pv 0) rfl) (pv 2) ⟨rfl, rfl, rfl, rfl⟩))) pss_nil))))), ?_⟩
    obtain ⟨hown, kvs0, hcd, hdr⟩ := id hc
    refine ⟨_, rfl, ca, _, dx, _, _, rfl, hca, T.cl_Cache, T.na_Cache__renderings, zip_look (i := 0) (one_nd _) rfl rfl, cd, kvs0, rfl, .of hcd, fun q hq => ⟨q, rfl, ⟨_, sqL_of upd_same⟩, ?_⟩⟩
    rw [keysV hdr]
    have s1 := same_new hq (o := .lst ((c.map (·.1)).map V.str))
    generalize hH1 : upd H q (.lst ((c.map (·.1)).map V.str)) = H1 at *
    have hlq : H1 q = some (.lst ((c.map (·.1)).map V.str)) := by rw [← hH1]; exact upd_same
    refine for_items c (fun i σ H2 => But cd H H2 ∧ H2 q = some (.lst ((c.map (·.1)).map V.str)) ∧ CchAt K own H2 cd ((c.take i).filter (fun p => decide (p.1 ∈ ns)) ++ c.drop i) ∧ ∃ b, σ = [some (.ref ca), some (.ref l), b]) ⟨but_same s1, hlq, ?_, _, rfl⟩ (fun i p σ H2 hi pv => ?_) fun σ H2 pv => ?_
    · exact hc.keep (fun kvs e => s1 _ _ e) (fun l us _ e => s1 _ _ e) (Same.tk s1) fun b q _ => q
    · obtain ⟨bt, hq2, hc2, b, rfl⟩ := pv
      obtain ⟨name, rs⟩ := p
      have hxi : ((c.map (·.1)).map V.str)[i]? = some (.str name) := by rw [List.getElem?_map, List.getElem?_map, hi] <;> rfl
      refine ⟨itl_go (sqL_of hq2) hxi, fun x H4 hy => ?_⟩
      obtain ⟨rfl, rfl⟩ := itl_yld (sqL_of hq2) hxi hy
      have hl2 := bt _ _ (ne_of hl hcd fun z => nomatch z) hl
      have hca2 := bt _ _ (ne_of hca hcd fun z => nomatch z) hca
      obtain ⟨e1, e2, e3⟩ := nd_split nd hi
      refine ⟨_, rfl, _, rfl, l, _, rfl, .inl (sqL_of hl2), rfl, flat_strs _, _, rfl, ?_⟩
      have hdrop : c.drop i = (name, rs) :: c.drop (i + 1) := by
        rw [List.drop_eq_getElem?_toList_append, hi] <;> rfl
      rw [hdrop] at hc2
      by_cases hn : name ∈ ns
      · refine ifN (by rw [inV_strs, dT hn] <;> rfl) ⟨bt, hq2, ?_, _, rfl⟩
        rw [take_next hi, List.filter_append, List.append_assoc]
        have e : [(name, rs)].filter (fun p : Str × List Rend => decide (p.1 ∈ ns)) = [(name, rs)] := by simp [hn]
        rw [e]
        exact hc2
      · have hA : name ∉ ((c.take i).filter (fun p => decide (p.1 ∈ ns))).map (·.1) := fun h => e2 (by
          obtain ⟨z, hz, ez⟩ := List.mem_map.mp h
          exact List.mem_map.mpr ⟨z, (List.mem_filter.mp hz).1, ez⟩)
        obtain ⟨_, kvs2, hcd2, hdr2⟩ := id hc2
        obtain ⟨_, z2⟩ := hdr2.get name
        obtain ⟨v, hv, _⟩ := z2 rs (aget_mid hA)
        refine ifY (by rw [inV_strs, dF hn] <;> rfl) ⟨_, rfl, ca, _, dx, _, _, rfl, hca2, T.cl_Cache, T.na_Cache__renderings, zip_look (i := 0) (one_nd _) rfl rfl, cd, rfl, .inl ⟨_, .of hcd2⟩, _, rfl, kvs2, .inr name, v, hcd2, rfl, hv, ?_⟩
        refine ⟨bt.trans but_upd, ?_, ?_, _, rfl⟩
        · rw [upd_ne (ne_of hq2 hcd2 fun z => nomatch z)]
          exact hq2
        · rw [take_next hi, List.filter_append]
          have e : [(name, rs)].filter (fun p : Str × List Rend => decide (p.1 ∈ ns)) = [] := by simp [hn]
          rw [e, List.append_nil]
          have hd3 := hdr2.drop name
          rw [adrop_mid hA e3] at hd3
          refine ⟨hown, _, upd_same, hd3.mono fun v rs z => z.keep (fun l us _ e => ?_) (tkD hcd2) fun b q _ => q⟩
          rw [upd_ne (ne_of e hcd2 fun z => nomatch z)]
          exact e
    · obtain ⟨bt, hq2, hc2, b, rfl⟩ := pv
      rw [List.take_length, List.drop_length, List.append_nil] at hc2
      exact ⟨itl_stop (sqL_of hq2) (by rw [List.length_map, List.length_map]; exact Nat.le_refl _), kk _ bt hc2⟩
theorem putF_len (f : Str) (v : V) : ∀ fs : List (Str × V), (putF f v fs).length ≤ fs.length + 1
  | [] => Nat.le_refl _
  | (k, u) :: r => by
    show (if k = f then (k, v) :: r else (k, u) :: putF f v r).length ≤ _
    split
    · exact Nat.le_succ _
    · exact Nat.succ_le_succ (putF_len f v r)
theorem pl1 {f : Str} {v : V} : (putF f v []).length < 1000 := Nat.lt_of_le_of_lt (putF_len _ _ _) (by decide)
theorem pl2 {f g : Str} {v u : V} : (putF g u (putF f v [])).length < 1000 := Nat.lt_of_le_of_lt (Nat.le_trans (putF_len _ _ _) (Nat.succ_le_succ (putF_len _ _ _))) (by decide)
theorem pl3 {f g h : Str} {v u z : V} : (putF h z (putF g u (putF f v []))).length < 1000 := Nat.lt_of_le_of_lt (Nat.le_trans (putF_len _ _ _) (Nat.succ_le_succ (Nat.le_trans (putF_len _ _ _) (Nat.succ_le_succ (putF_len _ _ _))))) (by decide)
/-! ### the makers: called with a new instance at x -/
def spCInit (K : PySem.W.Frag) : Sp := fun vs H Q _ => ∃ (x dx : Addr), vs = [.ref x] ∧ H x = some (.ins (He.ga K "Cache") dx []) ∧ ∀ d, H d = none → Q .non (upd (upd H d (.dK [])) x (.ins (He.ga K "Cache") dx [("_renderings", .ref d)]))
theorem ok_cache_init (T : Txt w K mg) : FnOk P w K mg base CX0 1 (He.ma K (He.ga K "Cache") "__init__") (fd_Cache___init__ K) ["self"] (spCInit K) := by
  refine T.f_Cache___init__.ok sc_Cache___init__ (fun vs H Q E h => ?_) (fun cdv A outer s H vs Q E hr h => ?_)
  · obtain ⟨a, b, rfl, _⟩ := h
    rfl
  · obtain ⟨x, dx, rfl, hx, kk⟩ := h
    have hu := hu_of hr
    refine ⟨_, PSs.nox ((pss_one (ps_fld (pv 0) pe_dnewK rfl))), ?_⟩
    intro d hd
    exact ⟨_, rfl, x, _, dx, [], rfl, same_new hd _ _ hx, T.cl_Cache, T.na_Cache__renderings, by decide, kk d hd⟩
def spTInit (K : PySem.W.Frag) (P : Program) (w : World) : Sp := fun vs H Q _ => ∃ (x dx : Addr), vs = [.ref x] ∧ H x = some (.ins (He.ga K "Timers") dx []) ∧ ∀ d, H d = none → Q .non (upd (upd H d (tdO P w d [])) x (.ins (He.ga K "Timers") dx [("_due", .ref d)]))
theorem ok_timers_init (T : Txt w K mg) : FnOk P w K mg base CX0 1 (He.ma K (He.ga K "Timers") "__init__") (fd_Timers___init__ K) ["self"] (spTInit K P w) := by
  refine T.f_Timers___init__.ok sc_Timers___init__ (fun vs H Q E h => ?_) (fun cdv A outer s H vs Q E hr h => ?_)
  · obtain ⟨a, b, rfl, _⟩ := h
    rfl
  · obtain ⟨x, dx, rfl, hx, kk⟩ := h
    have hu := hu_of hr
    refine ⟨_, PSs.nox ((pss_one (ps_fld (pv 0) pe_tnew rfl))), ?_⟩
    intro d hd
    exact ⟨_, rfl, x, _, dx, [], rfl, same_new hd _ _ hx, T.cl_Timers, T.na_Timers__due, by decide, kk d hd⟩
def spJInit (K : PySem.W.Frag) : Sp := fun vs H Q _ => ∃ (x dx : Addr) (v1 v2 : V), vs = [.ref x, v1, v2] ∧ H x = some (.ins (He.ga K "Job") dx []) ∧ Q .non (upd H x (.ins (He.ga K "Job") dx (jks.zip [v1, v2, .int 0, .str "queued"])))
theorem upd2 {a : Addr} {o u : HO} : upd (upd H a o) a u = upd H a u := upd_upd
theorem ok_job_init (T : Txt w K mg) : FnOk P w K mg base CX0 1 (He.ma K (He.ga K "Job") "__init__") (fd_Job___init__ K) ["self", "text", "found"] (spJInit K) := by
  refine T.f_Job___init__.ok sc_Job___init__ (fun vs H Q E h => ?_) (fun cdv A outer s H vs Q E hr h => ?_)
  · obtain ⟨a, b, c, d, rfl, _⟩ := h
    rfl
  · obtain ⟨x, dx, v1, v2, rfl, hx, kk⟩ := h
    have hu := hu_of hr
    refine ⟨_, PSs.nox ((pss_cons (ps_fld (pv 0) (pv 1) rfl)
      (pss_cons (ps_fld (pv 0) (pv 2) rfl)
      (pss_cons (ps_fld (pv 0) pe_int rfl)
      (pss_one (ps_fld (pv 0) (pe_gs T.s_QUEUED) rfl)))))), ?_⟩
    refine ⟨_, rfl, _, rfl, x, _, dx, [], rfl, hx, T.cl_Job, T.na_Job_text, by decide, ?_⟩
    refine ⟨_, rfl, _, rfl, x, _, dx, _, rfl, upd_same, T.cl_Job, T.na_Job_found, pl1, ?_⟩
    rw [upd2]
    refine ⟨_, rfl, x, _, dx, _, rfl, upd_same, T.cl_Job, T.na_Job_attempt, pl2, ?_⟩
    rw [upd2]
    refine ⟨_, rfl, x, _, dx, _, rfl, upd_same, T.cl_Job, T.na_Job_state, pl3, ?_⟩
    rw [upd2]
    exact kk
def spFInit (K : PySem.W.Frag) : Sp := fun vs H Q _ => ∃ (x dx : Addr) (v1 v2 v3 v4 : V), vs = [.ref x, v1, v2, v3, v4] ∧ H x = some (.ins (He.ga K "Frozen") dx []) ∧ Q .non (upd H x (.ins (He.ga K "Frozen") dx (fks.zip [v1, v2, v3, v4])))
theorem ok_frozen_init (T : Txt w K mg) : FnOk P w K mg base CX0 1 (He.ma K (He.ga K "Frozen") "__init__") (fd_Frozen___init__ K) ["self", "sources", "pages", "count", "time"] (spFInit K) := by
  refine T.f_Frozen___init__.ok sc_Frozen___init__ (fun vs H Q E h => ?_) (fun cdv A outer s H vs Q E hr h => ?_)
  · obtain ⟨a, b, c, d, e, f, rfl, _⟩ := h
    rfl
  · obtain ⟨x, dx, v1, v2, v3, v4, rfl, hx, kk⟩ := h
    have hu := hu_of hr
    refine ⟨_, PSs.nox ((pss_cons (ps_fld (pv 0) (pv 1) rfl)
      (pss_cons (ps_fld (pv 0) (pv 2) rfl)
      (pss_cons (ps_fld (pv 0) (pv 3) rfl)
      (pss_one (ps_fld (pv 0) (pv 4) rfl)))))), ?_⟩
    refine ⟨_, rfl, _, rfl, x, _, dx, [], rfl, hx, T.cl_Frozen, T.na_Frozen_sources, by decide, ?_⟩
    refine ⟨_, rfl, _, rfl, x, _, dx, _, rfl, upd_same, T.cl_Frozen, T.na_Frozen_pages, pl1, ?_⟩
    rw [upd2]
    refine ⟨_, rfl, _, rfl, x, _, dx, _, rfl, upd_same, T.cl_Frozen, T.na_Frozen_count, pl2, ?_⟩
    rw [upd2]
    refine ⟨_, rfl, _, rfl, x, _, dx, _, rfl, upd_same, T.cl_Frozen, T.na_Frozen_time, pl3, ?_⟩
    rw [upd2]
    exact kk
end
end L2.TP
/-! Snapshot: known, told. -/
namespace L2.TP
open PySem PySem.Spec PyProof.Rows L2
section
variable {P : Program} {w : World} {K : PySem.W.Frag} {mg : Str → Option Value} {base : Heap} {H H' : Hp}
def KnAt (K : PySem.W.Frag) (ow : Addr → Prop) (H : Hp) (kd : Addr) (kn : List (Str × Option Res)) : Prop := ow kd ∧ ∃ kvs, H kd = some (.dK kvs) ∧ DR (fun v o => Dt K H v (encO o)) kvs kn
structure SnapX (K : PySem.W.Frag) (ow : Addr → Prop) (H : Hp) (a sd pg kd : Addr) (n : Int) (sn : Snap) : Prop where
  own : ow a
  ins : InsAt H a (He.ga K "Snapshot") sks [.ref sd, .ref pg, .int n, .ref kd]
  src : SrcAt ow H sd sn.src
  pgs : SqU K H pg (sn.pages.map V.str)
  kn : KnAt K ow H kd sn.kn
def SnapAt (K : PySem.W.Frag) (ow : Addr → Prop) (H : Hp) (a : Addr) (sn : Snap) : Prop := ∃ sd pg kd n, SnapX K ow H a sd pg kd n sn
theorem KnAt.keep {ow : Addr → Prop} {kd : Addr} {kn : List (Str × Option Res)} (h : KnAt K ow H kd kn) (k : ∀ kvs, H kd = some (.dK kvs) → H' kd = some (.dK kvs)) (tk : TK' H H') : KnAt K ow H' kd kn := by
  obtain ⟨h1, kvs, h2, h3⟩ := h
  exact ⟨h1, kvs, k _ h2, h3.mono fun v o z => z.keep tk⟩
theorem SnapX.keep {ow : Addr → Prop} {a sd pg kd : Addr} {n : Int} {sn : Snap} (h : SnapX K ow H a sd pg kd n sn) (k1 : ∀ dx v1 v2 v3 v4, ow a → H a = some (.ins (He.ga K "Snapshot") dx (sks.zip [v1, v2, v3, v4])) → H' a = some (.ins (He.ga K "Snapshot") dx (sks.zip [v1, v2, v3, v4])))
    (k2 : ∀ b kvs, ow b → H b = some (.dK kvs) → H' b = some (.dK kvs)) (tk : TK' H H') : SnapX K ow H' a sd pg kd n sn :=
  ⟨h.own, (let ⟨dx, e⟩ := h.ins; ⟨dx, k1 _ _ _ _ _ h.own e⟩), h.src.keep (fun kvs e => k2 _ _ h.src.1 e) (fun q _ => q), h.pgs.keep tk, h.kn.keep (fun kvs e => k2 _ _ h.kn.1 e) tk⟩
theorem SnapX.same {ow : Addr → Prop} {a sd pg kd : Addr} {n : Int} {sn : Snap} (h : SnapX K ow H a sd pg kd n sn) (s : Same H H') : SnapX K ow H' a sd pg kd n sn := h.keep (fun _ _ _ _ _ _ e => s _ _ e) (fun _ _ _ e => s _ _ e) (Same.tk s)
theorem SnapAt.same {ow : Addr → Prop} {a : Addr} {sn : Snap} (h : SnapAt K ow H a sn) (s : Same H H') : SnapAt K ow H' a sn := let ⟨x, y, z, n, q⟩ := h; ⟨x, y, z, n, q.same s⟩
structure SnapOk (sn : Snap) : Prop where
  src : ∀ p ∈ sn.src, p.2.length ≤ 60 ∧ SOk p.1 ∧ SOk p.2
  kn : ∀ p ∈ sn.kn, ∀ r, p.2 = some r → r.Ok
theorem nothing_ok : nothing.Ok := ⟨by decide +kernel, Nat.zero_le _, sok _, (fun l h => nomatch h)⟩
theorem SnapOk.known {sn : Snap} (h : SnapOk sn) {n : Str} {r : Res} (e : sn.known n = some r) : r.Ok := by
  unfold Snap.known at e
  split at e
  · cases q : aget sn.kn n with
    | none => rw [q] at e; cases e
    | some o =>
      rw [q] at e
      exact h.kn _ (aget_mem q) r e
  · rw [← Option.some.inj e]
    exact nothing_ok
theorem sks_nd : sks.Nodup := by decide +kernel
def spKnown (K : PySem.W.Frag) : Sp := fun vs H Q _ => ∃ (ow : Addr → Prop) (a : Addr) (sn : Snap) (name : Str), vs = [.ref a, .str name] ∧ SnapAt K ow H a sn ∧ ∀ v, Dt K H v (encO (sn.known name)) → Q v H
theorem ok_known (T : Txt w K mg) : FnOk P w K mg base CX0 1 (He.ma K (He.ga K "Snapshot") "known") (fd_Snapshot_known K) ["self", "name"] (spKnown K) := by
  refine T.f_Snapshot_known.ok sc_Snapshot_known (fun vs H Q E h => ?_) (fun cdv A outer s H vs Q E hr h => ?_)
  · obtain ⟨a, b, c, d, rfl, _⟩ := h
    rfl
  · obtain ⟨ow, a, sn, name, rfl, ⟨sd, pg, kd, n, X⟩, kk⟩ := h
    have hu := hu_of hr
    obtain ⟨dx, ha⟩ := X.ins
    obtain ⟨_, kvs1, hsd, hsr⟩ := X.src
    obtain ⟨_, kvs2, hkd, hkr⟩ := X.kn
    refine ⟨_, PSs.nox ((pss_one (ps_ret (pe_ifExp (pt_cmp (pc_din hu (pv 1) (pe_fld (pv 0) rfl)) rfl) (pe_dget1 hu (pe_fld (pv 0) rfl) (pv 1) ⟨rfl, rfl, rfl, rfl⟩) (pe_gr T.g_NOTHING))))), ?_⟩
    refine ⟨_, rfl, _, rfl, a, _, dx, _, _, rfl, ha, T.cl_Snapshot, T.na_Snapshot__sources, zip_look (i := 0) (sks_nd) rfl rfl, sd, _, rfl, .inl ⟨kvs1, .inr name, .of hsd, rfl, rfl⟩, _, rfl, ?_⟩
    have hs := hsr.has name
    by_cases h1 : ahas sn.src name = true
    · refine ifY (hs.trans h1) ⟨_, rfl, a, _, dx, _, _, rfl, ha, T.cl_Snapshot, T.na_Snapshot__known, zip_look (i := 3) (sks_nd) rfl rfl, kd, rfl, .inl ⟨_, .of hkd⟩, _, rfl, _, .inl ⟨kvs2, .inr name, .of hkd, rfl, rfl⟩, kk _ ?_⟩
      have e : sn.known name = (aget sn.kn name).getD none := if_pos h1
      rw [e]
      obtain ⟨z1, z2⟩ := hkr.get name
      cases q : aget sn.kn name with
      | none => rw [z1 q]; exact .non
      | some o =>
        obtain ⟨v, hv, hd⟩ := z2 o q
        rw [hv]
        exact hd
    · have h2 : ahas sn.src name = false := by simpa using h1
      refine ifN (hs.trans h2) (kk _ ?_)
      have e : sn.known name = some nothing := if_neg h1
      rw [e]
      exact T.t_NOTHING H
def spTold (K : PySem.W.Frag) : Sp := fun vs H Q _ => ∃ (ow : Addr → Prop) (a : Addr) (sn : Snap) (name : Str), vs = [.ref a, .str name] ∧ SnapAt K ow H a sn ∧ SnapOk sn ∧ ∀ H' l us, Same H H' → H l = none → H' l = some (.lst us) → DtAll K H' us ((sn.told name).map encP) → us.length ≤ 1000 → Q (.ref l) H'
structure JT (H H1 : Hp) (lS : Addr) (usS : List V) (fl : Addr) (H2 : Hp) (us : List V) : Prop where
  same : Same H H2
  tk : TK' H1 H2
  lst : H2 lS = some (.lst usS)
  fnd : H2 fl = some (.lst us)
theorem JT.next {H H1 H2 H3 : Hp} {lS fl : Addr} {usS us : List V} (j : JT H H1 lS usS fl H2 us) (s : Same H2 H3) : JT H H1 lS usS fl H3 us := ⟨j.same.trans s, j.tk.trans (Same.tk s), s _ _ j.lst, s _ _ j.fnd⟩
theorem JT.put {H H1 H2 : Hp} {lS fl : Addr} {usS us : List V} (j : JT H H1 lS usS fl H2 us) (hn : H fl = none) (hne : lS ≠ fl) (us' : List V) : JT H H1 lS usS fl (upd H2 fl (.lst us')) us' :=
  ⟨same_mut j.same hn, j.tk.trans (tkL j.fnd), by rw [upd_ne hne]; exact j.lst, upd_same⟩
theorem aget_def {sn : Snap} (h : SnapOk sn) (n : Str) : ((aget sn.src n).getD "").length ≤ 60 := by
  cases e : aget sn.src n with
  | none => decide +kernel
  | some t => exact (h.src _ (aget_mem e)).1
theorem ok_told (T : Txt w K mg) : FnOk P w K mg base CX0 4 (He.ma K (He.ga K "Snapshot") "told") (fd_Snapshot_told K) ["self", "name"] (spTold K) := by
  have G_Snapshot_known := ok_known (P := P) (base := base) T
  have G_split := ok_split (P := P) (base := base) T
  have G_target := ok_target (P := P) (base := base) T
  refine T.f_Snapshot_told.ok sc_Snapshot_told (fun vs H Q E h => ?_) (fun cdv A outer s H vs Q E hr h => ?_)
  · obtain ⟨a, b, c, d, rfl, _⟩ := h
    rfl
  · obtain ⟨ow, a, sn, name, rfl, SA, ho, kk⟩ := h
    have hu := hu_of hr
    obtain ⟨sd, pg, kd, n, X⟩ := id SA
    obtain ⟨dx, ha⟩ := X.ins
    obtain ⟨_, kvs1, hsd, hsr⟩ := X.src
    refine ⟨_, PSs.nox ((pss_cons (ps_set (i := 2) sc_Snapshot_told.nd rfl (.inl rfl) (pe_lst pa_nil))
      (pss_cons (ps_for PassesOwn.never rfl (pi_list (pe_call G_split (hr.mono (by omega)) (by rfl) T.g_split T.f_split.kp T.b_split .nil pass0 (pa_cons (pv 1) (pa_cons (pe_dget2 hu (pe_fld (pv 0) rfl) (pv 1) pe_str ⟨rfl, rfl, rfl, rfl⟩) pa_nil)))) (pg_tup (by rfl) (pgs_cons (pg_name (i := 3) sc_Snapshot_told.nd rfl (.inl rfl)) (pgs_cons (pg_name (i := 4) sc_Snapshot_told.nd rfl (.inl rfl)) pgs_nil))) (pss_one (ps_if (PW.pt (pw_or (pt_cmpR op_eq (pv 3) pe_str (nomark _)) (pw_or1 (pt_cmpR op_eq (pv 3) pe_str (nomark _))))) (pss_cons (ps_set (i := 5) sc_Snapshot_told.nd rfl (.inl rfl) (pe_meth (pv 0) T.cl_Snapshot T.mt_Snapshot_known G_Snapshot_known (hr.mono (by omega)) T.b_Snapshot_known .nil pass0 (pa_cons (pv 4) pa_nil)))
      (pss_cons (ps_expr (pe_bm PySem.F.plainAttrs_list PySem.F.slot_list_append PySem.F.type_list_append mt_append (pv 2) (pa_cons (pe_tup (pa_cons (pv 4) (pa_cons (pv 5) pa_nil))) pa_nil)))
      (pss_cons (ps_set (i := 6) sc_Snapshot_told.nd rfl (.inl rfl) (pe_ifExp (PW.pt (pw_and (pt_cmpR op_eq (pv 3) pe_str (nomark _)) (pw_and1 (pt_cmpR op_notN (pv 5) pe_non (nomark _))))) (pe_call G_target (hr.mono (by omega)) (by rfl) T.g_target T.f_target.kp T.b_target .nil pass0 (pa_cons (pv 1) (pa_cons (pv 5) pa_nil))) pe_non))
      (pss_one (ps_if (pt_cmpR op_notN (pv 6) pe_non (nomark _)) (pss_one (ps_expr (pe_bm PySem.F.plainAttrs_list PySem.F.slot_list_append PySem.F.type_list_append mt_append (pv 2) (pa_cons (pe_tup (pa_cons (pv 6) (pa_cons (pe_meth (pv 0) T.cl_Snapshot T.mt_Snapshot_known G_Snapshot_known (hr.mono (by omega)) T.b_Snapshot_known .nil pass0 (pa_cons (pv 6) pa_nil)) pa_nil))) pa_nil)))) pss_nil))))) pss_nil)))
      (pss_one (ps_ret (pv 2)))))), ?_⟩
    refine ⟨Nat.zero_le _, fun fl hfl => ?_⟩
    have s0 := same_new hfl (o := .lst [])
    have ha0 := s0 _ _ ha
    have hsd0 := s0 _ _ hsd
    have htext : ((valV kvs1 (.inr name)).getD (.str "")) = .str ((aget sn.src name).getD "") := by
      obtain ⟨z1, z2⟩ := hsr.get name
      cases q : aget sn.src name with
      | none => rw [z1 q] <;> rfl
      | some t =>
        obtain ⟨v, hv, rfl⟩ := z2 t q
        rw [hv] <;> rfl
    have htl := aget_def ho name
    have htold : sn.told name = toldOf sn.known name ((aget sn.src name).getD "") := rfl
    generalize (aget sn.src name).getD "" = text at *
    refine ⟨_, rfl, _, rfl, a, _, dx, _, _, rfl, ha0, T.cl_Snapshot, T.na_Snapshot__sources, zip_look (i := 0) (sks_nd) rfl rfl, sd, rfl, .inl ⟨_, .of hsd0⟩, _, rfl, _, .inl ⟨kvs1, .inr name, .of hsd0, rfl, rfl⟩, name, text, ?_, by omega, fun H1 lS usS s1 hlSn hlS hdS => ?_⟩
    · show [V.str name, (valV kvs1 (.inr name)).getD (.str "")] = _
      rw [htext]
    have hne : lS ≠ fl := fun z => by rw [z, upd_same] at hlSn; cases hlSn
    obtain ⟨hsl, hsn⟩ := split_len (name := name) (Nat.le_refl text.length)
    have hlenS : usS.length = (split name text).length := by rw [hdS.len, List.length_map]
    replace htold : sn.told name = (split name text).flatMap (toldSeg sn.known name) := htold
    generalize split name text = segs at *
    refine ⟨lS, rfl, ⟨usS, sqL_of hlS⟩, for_items segs (fun i σ H2 => ∃ (us : List V) (f3 f4 f5 f6 : Option V), JT H H1 lS usS fl H2 us ∧ σ = [some (.ref a), some (.str name), some (.ref fl), f3, f4, f5, f6] ∧ DtAll K H2 us (((segs.take i).flatMap (toldSeg sn.known name)).map encP) ∧ us.length ≤ 2 * i)
      ⟨[], _, _, _, _, ⟨s0.trans s1, TK'.refl _, hlS, s1 _ _ upd_same⟩, rfl, .nil, Nat.le_refl _⟩ (fun i g σ H2 hi pv => ?_) fun σ H2 pv => ?_⟩
    · obtain ⟨us, f3, f4, f5, f6, J, rfl, hd, hul⟩ := pv
      have hil : i < segs.length := (List.getElem?_eq_some_iff.mp hi).1
      obtain ⟨v, hv, hdv⟩ := hdS.get (d := g.enc) (i := i) (by rw [List.getElem?_map, hi] <;> rfl)
      refine ⟨itl_go (sqL_of J.lst) hv, fun x H3 hy => ?_⟩
      obtain ⟨rfl, rfl⟩ := itl_yld (sqL_of J.lst) hv hy
      obtain ⟨p, rfl, hp⟩ := dt_seg (hdv.keep J.tk)
      have hstep : (segs.take (i + 1)).flatMap (toldSeg sn.known name) = (segs.take i).flatMap (toldSeg sn.known name) ++ toldSeg sn.known name g := by
        rw [take_next hi, List.flatMap_append]
        simp
      have skip : toldSeg sn.known name g = [] → DtAll K H3 us (((segs.take (i + 1)).flatMap (toldSeg sn.known name)).map encP) := fun e => by
        rw [hstep, e, List.append_nil]
        exact hd
      refine ⟨_, _, rfl, hp.sq, rfl, _, _, rfl, _, _, rfl, rfl, ?_⟩
      refine ⟨_, rfl, rfl, _, rfl, ?_⟩
      /- the two kinds that tell: what follows the append of the first -/
      have app : ∀ (H4 : Hp) (us4 : List V) (s : Str) (u : V) (o : Option Res) (l : Told), JT H H1 lS usS fl H4 us4 → DtAll K H4 us4 (l.map encP) → Dt K H4 u (encO o) → ∀ q, H4 q = none →
          JT H H1 lS usS fl (upd (upd H4 q (.tup [.str s, u])) fl (.lst (us4 ++ [.ref q]))) (us4 ++ [.ref q]) ∧ DtAll K (upd (upd H4 q (.tup [.str s, u])) fl (.lst (us4 ++ [.ref q]))) (us4 ++ [.ref q]) ((l ++ [(s, o)]).map encP) := by
        intro H4 us4 s u o l j hd hu q hq
        have sq := same_new hq (o := .tup [.str s, u])
        have j2 := j.next sq
        refine ⟨j2.put hfl hne _, ?_⟩
        rw [List.map_append]
        exact DtAll.append ((hd.keep (Same.tk sq)).keep (tkL j2.fnd)) (.cons (.tup (tkL j2.fnd _ _ upd_same) (.cons .str (.cons ((hu.keep (Same.tk sq)).keep (tkL j2.fnd)) .nil))) .nil)
      cases g with
      | txt s => exact ifN rfl ⟨_, rfl, rfl, _, rfl, ifN rfl ⟨us, _, _, _, _, J, rfl, skip rfl, by omega⟩⟩
      | link s => exact ifN rfl ⟨_, rfl, rfl, _, rfl, ifN rfl ⟨us, _, _, _, _, J, rfl, skip rfl, by omega⟩⟩
      | incl s =>
        obtain ⟨dx2, ha2⟩ := (X.same J.same).ins
        refine ifY rfl (iteT ⟨_, rfl, a, dx2, _, rfl, ha2, zip_none (by decide +kernel), _, rfl, ow, a, sn, s, rfl, SA.same J.same, fun u hu => ?_⟩)
        refine ⟨_, rfl, tyL J.fnd, _, rfl, _, rfl, le2, fun q hq => ?_⟩
        obtain ⟨j3, hd3⟩ := app _ us s u _ _ J hd hu q hq
        refine ⟨fl, us, _, rfl, rfl, same_new hq _ _ J.fnd, small5' (by omega), ?_⟩
        refine ⟨_, rfl, rfl, _, rfl, ifN rfl ?_⟩
        refine iteF ⟨_, rfl, rfl, _, rfl, ifN rfl ⟨_, _, _, _, _, j3, rfl, ?_, by simp; omega⟩⟩
        rw [hstep]
        exact hd3
      | indr s =>
        obtain ⟨dx2, ha2⟩ := (X.same J.same).ins
        refine ifN rfl ⟨_, rfl, rfl, _, rfl, ifY rfl ?_⟩
        refine ⟨_, rfl, a, dx2, _, rfl, ha2, zip_none (by decide +kernel), _, rfl, ow, a, sn, s, rfl, SA.same J.same, fun u hu => ?_⟩
        refine ⟨_, rfl, tyL J.fnd, _, rfl, _, rfl, le2, fun q hq => ?_⟩
        obtain ⟨j3, hd3⟩ := app _ us s u _ _ J hd hu q hq
        have hu3 := (hu.keep (Same.tk (same_new hq (o := .tup [.str s, u])))).keep (tkL (same_new hq _ _ J.fnd) (ys := us ++ [.ref q]))
        refine ⟨fl, us, _, rfl, rfl, same_new hq _ _ J.fnd, small5' (by omega), ?_⟩
        refine ⟨_, rfl, rfl, _, rfl, ifY rfl ?_⟩
        cases hkn : sn.known s with
        | none =>
          rw [hkn] at hu3 hd3
          obtain rfl := hu3.none_inv
          refine ⟨_, rfl, rfl, _, rfl, ifN rfl ⟨_, rfl, rfl, _, rfl, ifN rfl ⟨_, _, _, _, _, j3, rfl, ?_, by simp; omega⟩⟩⟩
          rw [hstep]
          simp only [toldSeg, hkn]
          exact hd3
        | some r =>
          have hro := ho.known hkn
          rw [hkn] at hu3 hd3
          refine ⟨_, rfl, rfl, _, rfl, ifY (nF (dt_not_none (K := K) (r := r) hu3)) ?_⟩
          refine ⟨_, rfl, _, rfl, name, u, r, rfl, hu3, Nat.le_trans hro.1 (by decide), fun H4 s4 => ?_⟩
          have j4 := j3.next s4
          have hd4 := hd3.keep (Same.tk s4)
          cases ht : target name r with
          | none =>
            refine ⟨_, rfl, rfl, _, rfl, ifN rfl ⟨_, _, _, _, _, j4, rfl, ?_, by simp; omega⟩⟩
            rw [hstep]
            simp only [toldSeg, hkn, ht]
            exact hd4
          | some led =>
            obtain ⟨dx4, ha4⟩ := (X.same j4.same).ins
            refine ⟨_, rfl, rfl, _, rfl, ifY rfl ⟨_, rfl, tyL j4.fnd, _, rfl, _, rfl, a, dx4, _, rfl, ha4, zip_none (by decide +kernel), _, rfl, ow, a, sn, led, rfl, SA.same j4.same, fun u5 hu5 => ⟨le2, fun q5 hq5 => ?_⟩⟩⟩
            obtain ⟨j5, hd5⟩ := app _ _ led u5 _ _ j4 hd4 hu5 q5 hq5
            refine ⟨fl, _, _, rfl, rfl, same_new hq5 _ _ j4.fnd, small5' (by simp; omega), _, _, _, _, _, j5, rfl, ?_, by simp; omega⟩
            rw [hstep]
            simp only [toldSeg, hkn, ht]
            have e2 : ∀ (l : Told) (x y : Str × Option Res), l ++ [x] ++ [y] = l ++ [x, y] := fun l x y => by simp
            rw [e2] at hd5
            exact hd5
    · obtain ⟨us, f3, f4, f5, f6, J, rfl, hd, hul⟩ := pv
      rw [List.take_length] at hd
      exact ⟨itl_stop (sqL_of J.lst) (Nat.le_of_eq hlenS), _, rfl, kk _ fl us J.same hfl J.fnd (by rw [htold]; exact hd) (by omega)⟩
end
end L2.TP
/-! Snapshot: required and what stands on it. -/
namespace L2.TP
open PySem PySem.Spec PyProof.Rows L2
section
variable {P : Program} {w : World} {K : PySem.W.Frag} {mg : Str → Option Value} {base : Heap} {H H' : Hp}
theorem keys_has {kvs : List (L2.Key × V)} {ls : List Str} (h : kvs.map (·.1) = ls.map Sum.inr) (s : Str) : (valV kvs (.inr s)).isSome = decide (s ∈ ls) := by
  rw [← valV_any, Bool.eq_iff_iff, List.any_eq_true, decide_eq_true_iff]
  constructor
  · rintro ⟨q, hq, h2⟩
    have z : (Sum.inr s : L2.Key) ∈ kvs.map (·.1) := by
      rw [← of_decide_eq_true h2]
      exact List.mem_map_of_mem hq
    rw [h] at z
    obtain ⟨t, ht, e⟩ := List.mem_map.mp z
    rw [← Sum.inr.inj e]
    exact ht
  · intro hs
    have z : (Sum.inr s : L2.Key) ∈ ls.map Sum.inr := List.mem_map_of_mem hs
    rw [← h] at z
    obtain ⟨t, ht, e⟩ := List.mem_map.mp z
    exact ⟨t, ht, decide_eq_true e⟩
/-! the walk over what is required ends -/
def restOf (s : Snap) (names : List Str) (l : Src) : Nat := ((l.filter fun p => !decide (p.1 ∈ names)).map fun p => (s.told p.1).length).sum
theorem rest_le (s : Snap) (names : List Str) (n : Str) : ∀ l : Src, restOf s (names ++ [n]) l ≤ restOf s names l
  | [] => Nat.le_refl _
  | p :: l => by
    have ih := rest_le s names n l
    unfold restOf at ih ⊢
    by_cases h : p.1 ∈ names
    · rw [List.filter_cons_of_neg (by simp [h]), List.filter_cons_of_neg (by simp [h])]
      exact ih
    · by_cases e : p.1 = n
      · rw [List.filter_cons_of_neg (by simp [e]), List.filter_cons_of_pos (by simp [h]), List.map_cons, List.sum_cons]
        omega
      · rw [List.filter_cons_of_pos (by simp [h, e]), List.filter_cons_of_pos (by simp [h]), List.map_cons, List.sum_cons, List.map_cons, List.sum_cons]
        omega
theorem rest_lt (s : Snap) (names : List Str) (n : Str) (hn : n ∉ names) : ∀ l : Src, n ∈ l.map (·.1) → restOf s (names ++ [n]) l + (s.told n).length ≤ restOf s names l
  | [], h => nomatch h
  | p :: l, hm => by
    have ih := rest_lt s names n hn l
    have le := rest_le s names n l
    unfold restOf at ih le ⊢
    by_cases e : p.1 = n
    · rw [List.filter_cons_of_neg (by simp [e]), List.filter_cons_of_pos (by simp [e, hn]), List.map_cons, List.sum_cons, e]
      omega
    · have hm2 : n ∈ l.map (·.1) := by
        rcases List.mem_cons.mp hm with q | q
        · exact absurd q.symm e
        · exact q
      have ih := ih hm2
      by_cases h : p.1 ∈ names
      · rw [List.filter_cons_of_neg (by simp [h]), List.filter_cons_of_neg (by simp [h])]
        exact ih
      · rw [List.filter_cons_of_pos (by simp [h, e]), List.filter_cons_of_pos (by simp [h]), List.map_cons, List.sum_cons, List.map_cons, List.sum_cons]
        omega
theorem told_out (s : Snap) (n : Str) (h : n ∉ s.src.map (·.1)) : s.told n = [] := by
  have e : aget s.src n = none := by
    cases q : aget s.src n with
    | none => rfl
    | some t => exact absurd (List.mem_map_of_mem (f := (·.1)) (aget_mem q)) h
  unfold Snap.told
  rw [e]
  have z : split n ((none : Option Str).getD "") = [] := by
    show splitGo n "" (("" : Str).length + 1) [] "" 0 = []
    have l0 : ("" : Str).length = 0 := rfl
    rw [l0, splitGo, l0, if_neg (Nat.lt_irrefl 0)]
    rfl
  unfold toldOf
  rw [z] <;> rfl
theorem rest_step (s : Snap) (names : List Str) (n : Str) (hn : n ∉ names) : restOf s (names ++ [n]) s.src + (s.told n).length ≤ restOf s names s.src := by
  by_cases h : n ∈ s.src.map (·.1)
  · exact rest_lt s names n hn _ h
  · rw [told_out s n h]
    exact rest_le s names n _
theorem sum_le {α : Type} (f : α → Nat) (B : Nat) : ∀ l : List α, (∀ a ∈ l, f a ≤ B) → (l.map f).sum ≤ l.length * B
  | [], _ => Nat.zero_le _
  | a :: l, h => by
    have h1 := h a List.mem_cons_self
    have h2 := sum_le f B l fun b hb => h b (List.mem_cons_of_mem _ hb)
    rw [List.map_cons, List.sum_cons, List.length_cons, Nat.succ_mul]
    omega
theorem toldSeg_len (kn : Str → Option Res) (name : Str) (g : Seg) : (toldSeg kn name g).length ≤ 2 := by
  cases g with
  | txt s => exact Nat.zero_le _
  | link s => exact Nat.zero_le _
  | incl s => exact Nat.le_succ 1
  | indr s =>
    show ((s, kn s) :: (match kn s with
      | some r => (match target name r with
        | some led => [(led, kn led)]
        | none => [])
      | none => [])).length ≤ 2
    cases kn s with
    | none => exact Nat.le_succ 1
    | some r =>
      show ((s, some r) :: (match target name r with
        | some led => [(led, kn led)]
        | none => [])).length ≤ 2
      cases target name r with
      | none => exact Nat.le_succ 1
      | some led => exact Nat.le_refl 2
theorem flat_len {α β : Type} (f : α → List β) (B : Nat) : ∀ l : List α, (∀ a ∈ l, (f a).length ≤ B) → (l.flatMap f).length ≤ l.length * B
  | [], _ => Nat.zero_le _
  | a :: l, h => by
    have h1 := h a List.mem_cons_self
    have h2 := flat_len f B l fun b hb => h b (List.mem_cons_of_mem _ hb)
    rw [List.flatMap_cons, List.length_append, List.length_cons, Nat.succ_mul]
    omega
theorem told_len {s : Snap} (h : SnapOk s) (n : Str) : (s.told n).length ≤ 242 := by
  have h1 := aget_def h n
  obtain ⟨_, h2⟩ := split_len (name := n) (Nat.le_refl ((aget s.src n).getD "").length)
  have h3 := flat_len (toldSeg s.known n) 2 (split n ((aget s.src n).getD "")) fun g _ => toldSeg_len _ _ g
  unfold Snap.told toldOf
  omega
theorem restOf_le {s : Snap} (h : SnapOk s) (names : List Str) : restOf s names s.src ≤ s.src.length * 242 := by
  have h1 := sum_le (fun p : Str × Str => (s.told p.1).length) 242 (s.src.filter fun p => !decide (p.1 ∈ names)) fun p _ => told_len h p.1
  have h2 := List.length_filter_le (fun p : Str × Str => !decide (p.1 ∈ names)) s.src
  have h3 := Nat.mul_le_mul_right 242 h2
  unfold restOf
  omega
theorem rest_all (s : Snap) : restOf s [] s.src = (s.src.map fun p => (s.told p.1).length).sum := by
  unfold restOf
  rw [List.filter_eq_self.mpr (by simp)]
def spReq (K : PySem.W.Frag) : Sp := fun vs H Q _ => ∃ (ow : Addr → Prop) (a : Addr) (sn : Snap), vs = [.ref a] ∧ SnapAt K ow H a sn ∧ SnapOk sn ∧ sn.src.length ≤ 100 ∧ sn.pages.length ≤ 100 ∧
  ∀ H' l, Same H H' → H l = none → H' l = some (.lst (sn.required.map V.str)) → Q (.ref l) H'
theorem ok_required (T : Txt w K mg) : FnOk P w K mg base CX0 5 (He.ma K (He.ga K "Snapshot") "required") (fd_Snapshot_required K) ["self"] (spReq K) := by
  have G_Snapshot_told := ok_told (P := P) (base := base) T
  refine T.f_Snapshot_required.ok sc_Snapshot_required (fun vs H Q E h => ?_) (fun cdv A outer s H vs Q E hr h => ?_)
  · obtain ⟨a, b, c, rfl, _⟩ := h
    rfl
  · obtain ⟨ow, a, sn, rfl, SA, ho, hs1, hs2, kk⟩ := h
    have hu := hu_of hr
    obtain ⟨sd, pg, kd, n, X⟩ := id SA
    obtain ⟨dx, ha⟩ := X.ins
    refine ⟨_, PSs.nox ((pss_cons (ps_set (i := 1) sc_Snapshot_required.nd rfl (.inl rfl) pe_dnewK)
      (pss_cons (ps_set (i := 2) sc_Snapshot_required.nd rfl (.inl rfl) (pe_callTy call_list_of (by rfl) T.z_list (by decide +kernel) (pa_cons (pe_fld (pv 0) rfl) pa_nil)))
      (pss_cons (ps_while PassesOwn.never (pt_truth (pv 2) (by intro _; rfl)) (pss_cons (ps_set (i := 3) sc_Snapshot_required.nd rfl (.inl rfl) (pe_bm0 PySem.F.plainAttrs_list PySem.F.slot_list_pop PySem.F.type_list_pop mt_pop (pv 2)))
      (pss_one (ps_if (pt_cmp (pc_dnotin hu (pv 3) (pv 1)) rfl) (pss_cons (ps_dput hu (pv 1) (pv 3) pe_bl rfl)
      (pss_one (ps_expr (pe_bm PySem.F.plainAttrs_list PySem.F.slot_list_extend PySem.F.type_list_extend mt_extend (pv 2) (pa_cons (pe_lc (own := [("other", 4), ("_", 5)]) (g := gTup K 2 (gCons (gName 4) (gCons (gName 5) (gNil)))) rfl sc_Snapshot_required.nd (pi_list (pe_meth (pv 0) T.cl_Snapshot T.mt_Snapshot_told G_Snapshot_told (hr.mono (by omega)) T.b_Snapshot_told .nil pass0 (pa_cons (pv 3) pa_nil))) (blkOk_by (own := [("other", 4), ("_", 5)]) (N := ["self", "names", "waiting", "name", "other", "_"]) (sc := defScope s_Snapshot_required) (by decide +kernel)) (fun _ _ _ _ _ => (pg_tupK (K := K) rfl (by rfl) (pgs_cons (pg_name (i := 4) sc_Snapshot_required.nd rfl (.inl rfl)) (pgs_cons (pg_name (i := 5) sc_Snapshot_required.nd rfl (.inl rfl)) pgs_nil)))) (fun _ _ _ _ _ => pts_nil) (fun _ _ _ _ _ => (pv 4))) pa_nil))))) pss_nil))))
      (pss_one (ps_ret (pe_callB (cr_sortD rfl) (by rfl) T.z_sorted (by decide +kernel) (pa_cons (pv 1) pa_nil)))))))), ?_⟩
    intro nd hnd
    have s0 := same_new hnd (o := .dK [])
    have ha0 := s0 _ _ ha
    refine ⟨_, rfl, a, _, dx, _, _, rfl, ha0, T.cl_Snapshot, T.na_Snapshot__pages, zip_look (i := 1) (sks_nd) rfl rfl, pg, _, rfl, .inr (X.pgs.keep (Same.tk s0)).sq, fun wl hwl => ?_⟩
    have s1 := same_new hwl (o := .lst (sn.pages.map V.str))
    have hne : nd ≠ wl := fun e => by rw [← e, upd_same] at hwl; cases hwl
    have hwn : H wl = none := none_same s0 hwl
    have hall := restOf_le ho []
    refine ⟨fun m σ H2 => ∃ (names waiting : List Str) (kvs : List (L2.Key × V)) (f : Nat) (f3 : Option V), σ = [some (.ref a), some (.ref nd), some (.ref wl), f3, none, none] ∧ Same H H2 ∧ H2 nd = some (.dK kvs) ∧ kvs.map (·.1) = names.map Sum.inr ∧ H2 wl = some (.lst (waiting.map V.str)) ∧
      m = waiting.length + restOf sn names sn.src ∧ m + 1 ≤ f ∧ reqGo sn f names waiting = reqGo sn (reqFuel sn) [] sn.pages ∧ names.length + m ≤ 24300,
      ⟨_, [], sn.pages, [], reqFuel sn, _, rfl, s0.trans s1, s1 _ _ upd_same, rfl, upd_same, rfl, by unfold reqFuel; rw [rest_all]; exact Nat.le_refl _, rfl, by show 0 + (sn.pages.length + restOf sn [] sn.src) ≤ _; omega⟩, ?_⟩
    rintro m σ H2 ⟨names, waiting, kvs, f, f3, rfl, s2, hnd2, hk, hwl2, rfl, hf, hg, hb⟩
    obtain ⟨f, rfl⟩ : ∃ g, f = g + 1 := ⟨f - 1, by omega⟩
    have hkl := keys_len hk
    refine ⟨_, rfl, !(waiting.map V.str).isEmpty, .inl ⟨_, sqL_of hwl2, rfl⟩, ?_⟩
    cases hw : waiting.getLast? with
    | none =>
      have hw0 := List.getLast?_eq_none_iff.mp hw
      subst hw0
      refine ifN rfl ?_
      have e : sn.required = srt names := by
        unfold Snap.required
        rw [← hg, reqGo, hw]
      refine ⟨_, rfl, nd, kvs, names, rfl, .of hnd2, hk, fun q hq => kk _ q (s2.trans (same_new hq)) (none_same s2 hq) ?_⟩
      rw [e]
      exact upd_same
    | some n =>
      have hne0 : waiting ≠ [] := fun e => by rw [e] at hw; cases hw
      have hlast : waiting.getLast hne0 = n := by
        rw [List.getLast?_eq_some_getLast hne0] at hw
        exact Option.some.inj hw
      have hsplit : waiting.dropLast ++ [n] = waiting := by
        rw [← hlast]
        exact List.dropLast_concat_getLast hne0
      have hlen : waiting.length = waiting.dropLast.length + 1 := by rw [← hsplit]; simp
      have hem : (!(waiting.map V.str).isEmpty) = true := by
        cases waiting with
        | nil => exact absurd rfl hne0
        | cons _ _ => rfl
      refine ifY hem ⟨_, fun _ _ h => h, ?_⟩
      have hget : (waiting.map V.str)[(waiting.map V.str).length - 1]? = some (.str n) := by
        rw [← List.getLast?_eq_getElem?, List.getLast?_map, hw] <;> rfl
      refine ⟨_, rfl, tyL hwl2, wl, _, _, rfl, rfl, hwl2, hget, ?_⟩
      have hdl : (waiting.map V.str).dropLast = waiting.dropLast.map V.str := (List.map_dropLast).symm
      rw [hdl]
      have hnd3 : upd H2 wl (.lst (waiting.dropLast.map V.str)) nd = some (.dK kvs) := by rw [upd_ne hne]; exact hnd2
      have s3 : Same H (upd H2 wl (.lst (waiting.dropLast.map V.str))) := same_mut s2 hwn
      rw [reqGo, hw] at hg
      replace hg : (if n ∈ names then reqGo sn f names waiting.dropLast else reqGo sn f (names ++ [n]) (waiting.dropLast ++ (sn.told n).map (·.1))) = reqGo sn (reqFuel sn) [] sn.pages := hg
      refine ⟨_, rfl, _, rfl, nd, _, rfl, .inl ⟨kvs, .inr n, .of hnd3, rfl, rfl⟩, _, rfl, ?_⟩
      by_cases hn : n ∈ names
      · rw [if_pos hn] at hg
        refine ifN (by rw [keys_has hk, dT hn] <;> rfl) ⟨_, ?_, names, waiting.dropLast, kvs, f, some (.str n), rfl, s3, hnd3, hk, upd_same, rfl, by omega, hg, by omega⟩
        omega
      · rw [if_neg hn] at hg
        have hst := rest_step sn names n hn
        have htl := told_len ho n
        refine ifY (by rw [keys_has hk, dF hn] <;> rfl) ⟨_, rfl, _, rfl, nd, _, rfl, .inl ⟨kvs, .inr n, hnd3, rfl, small5' (by omega), rfl⟩, ?_⟩
        have s4 := same_mut (o := .dK (putK kvs (.inr n) (.bl true))) s3 hnd
        have hwl4 : upd (upd H2 wl (.lst (waiting.dropLast.map V.str))) nd (.dK (putK kvs (.inr n) (.bl true))) wl = some (.lst (waiting.dropLast.map V.str)) := by
          rw [upd_ne hne.symm]
          exact upd_same
        have hnd4 := upd_same (H := upd H2 wl (.lst (waiting.dropLast.map V.str))) (a := nd) (o := .dK (putK kvs (.inr n) (.bl true)))
        generalize upd (upd H2 wl (.lst (waiting.dropLast.map V.str))) nd (.dK (putK kvs (.inr n) (.bl true))) = H4 at *
        refine ⟨_, rfl, tyL hwl4, _, rfl, a, dx, _, rfl, s4 _ _ ha, zip_none (by decide +kernel), _, rfl, ow, a, sn, n, rfl, SA.same s4, ho, fun H5 l us s5 hln hl hd hul => ⟨l, rfl, ⟨us, sqL_of hl⟩, fun D hD => lc_map (sn.told n) (fun p => .str p.1) (by omega) hD (fun i p H6 hi s6 => ?_) fun H6 s6 hd6 => ?_⟩⟩
        · obtain ⟨v, hv, hdv⟩ := hd.get (d := encP p) (i := i) (by rw [List.getElem?_map, hi] <;> rfl)
          have hl6 := sqL_of (K := K) (s6 _ _ hl)
          refine ⟨itl_go hl6 hv, fun x H7 hy Kt kt => ?_⟩
          obtain ⟨rfl, rfl⟩ := itl_yld hl6 hv hy
          obtain ⟨pn, po⟩ := p
          obtain ⟨q, u, rfl, hq, _⟩ := dt_pair (hdv.keep (Same.tk s6))
          exact ⟨_, _, rfl, hq.sq, rfl, _, _, rfl, _, _, rfl, rfl, rfl, _, rfl, kt _ (Same.refl _)⟩
        · have hlu : us.length = (sn.told n).length := by rw [hd.len, List.length_map]
          refine ⟨itl_stop (sqL_of (s6 _ _ hl)) (Nat.le_of_eq hlu), wl, D, _, _, rfl, rfl, s6 _ _ (s5 _ _ hwl4), hd6, ?_, ?_⟩
          · rw [List.length_map, List.length_map]
            exact small5 (by omega)
          · have hmm : (waiting.dropLast.map V.str ++ (sn.told n).map fun p => V.str p.1) = (waiting.dropLast ++ (sn.told n).map (·.1)).map V.str := by
              rw [List.map_append, List.map_map] <;> rfl
            rw [hmm]
            have s56 := s5.trans s6
            refine ⟨_, ?_, names ++ [n], waiting.dropLast ++ (sn.told n).map (·.1), putK kvs (.inr n) (.bl true), f, some (.str n), rfl, same_mut (s4.trans s56) hwn, ?_, ?_, upd_same, rfl, ?_, hg, ?_⟩
            · rw [List.length_append, List.length_map]
              omega
            · rw [upd_ne hne]
              exact s56 _ _ hnd4
            · have := keys_put hk n (.bl true)
              unfold ladd at this
              rw [if_neg hn] at this
              exact this
            · rw [List.length_append, List.length_map]
              omega
            · rw [List.length_append, List.length_append, List.length_map]
              show names.length + 1 + _ ≤ _
              omega
end
end L2.TP
/-! Snapshot: what can be rendered; readiness; the maker. -/
namespace L2.TP
open PySem PySem.Spec PyProof.Rows L2
section
variable {P : Program} {w : World} {K : PySem.W.Frag} {mg : Str → Option Value} {base : Heap} {H H' : Hp}
theorem dt_isSome {v : V} {o : Option Res} (h : Dt K H v (encO o)) : (!decide (v = .non)) = o.isSome := by
  cases o with
  | none =>
    obtain rfl := h.none_inv
    exact nT rfl
  | some r => exact nF (dt_not_none (K := K) (H := H) (r := r) h)
def spIsRend (K : PySem.W.Frag) : Sp := fun vs H Q _ => ∃ (ow : Addr → Prop) (a : Addr) (sn : Snap) (name : Str), vs = [.ref a, .str name] ∧ SnapAt K ow H a sn ∧ SnapOk sn ∧ ∀ H', Same H H' → Q (.bl (sn.isRend name)) H'
theorem ok_is_rend (T : Txt w K mg) : FnOk P w K mg base CX0 5 (He.ma K (He.ga K "Snapshot") "_is_renderable") (fd_Snapshot__is_renderable K) ["self", "name"] (spIsRend K) := by
  have G_Snapshot_known := ok_known (P := P) (base := base) T
  have G_Snapshot_told := ok_told (P := P) (base := base) T
  refine T.f_Snapshot__is_renderable.ok sc_Snapshot__is_renderable (fun vs H Q E h => ?_) (fun cdv A outer s H vs Q E hr h => ?_)
  · obtain ⟨a, b, c, d, rfl, _⟩ := h
    rfl
  · obtain ⟨ow, a, sn, name, rfl, SA, ho, kk⟩ := h
    have hu := hu_of hr
    obtain ⟨sd, pg, kd, n, X⟩ := id SA
    obtain ⟨dx, ha⟩ := X.ins
    obtain ⟨_, kvs1, hsd, hsr⟩ := X.src
    refine ⟨_, PSs.nox ((pss_cons (ps_if (PW.pt (pw_or (pt_cmp (pc_dnotin hu (pv 1) (pe_fld (pv 0) rfl)) rfl) (pw_or1 (pt_cmpR op_notN (pe_meth (pv 0) T.cl_Snapshot T.mt_Snapshot_known G_Snapshot_known (hr.mono (by omega)) T.b_Snapshot_known .nil pass0 (pa_cons (pv 1) pa_nil)) pe_non (nomark _))))) (pss_one (ps_ret pe_bl)) pss_nil)
      (pss_one (ps_ret (pe_callB (cr_all rfl) (by rfl) T.z_all (by decide +kernel) (pa_cons (pe_lc (own := [("_", 2), ("known", 3)]) (g := gTup K 2 (gCons (gName 2) (gCons (gName 3) (gNil)))) rfl sc_Snapshot__is_renderable.nd (pi_list (pe_meth (pv 0) T.cl_Snapshot T.mt_Snapshot_told G_Snapshot_told (hr.mono (by omega)) T.b_Snapshot_told .nil pass0 (pa_cons (pv 1) pa_nil))) (blkOk_by (own := [("_", 2), ("known", 3)]) (N := ["self", "name", "_", "known"]) (sc := defScope s_Snapshot__is_renderable) (by decide +kernel)) (fun _ _ _ _ _ => (pg_tupK (K := K) rfl (by rfl) (pgs_cons (pg_name (i := 2) sc_Snapshot__is_renderable.nd rfl (.inl rfl)) (pgs_cons (pg_name (i := 3) sc_Snapshot__is_renderable.nd rfl (.inl rfl)) pgs_nil)))) (fun _ _ _ _ _ => pts_nil) (fun _ _ _ _ _ => (pe_cmpR op_notN (pv 3) pe_non (nomark _)))) pa_nil)))))), ?_⟩
    have hs := hsr.has name
    refine ⟨_, rfl, _, rfl, a, _, dx, _, _, rfl, ha, T.cl_Snapshot, T.na_Snapshot__sources, zip_look (i := 0) (sks_nd) rfl rfl, sd, _, rfl, .inl ⟨kvs1, .inr name, .of hsd, rfl, rfl⟩, _, rfl, ?_⟩
    cases h1 : ahas sn.src name with
    | false =>
      have e : sn.isRend name = false := by simp [Snap.isRend, h1]
      rw [e] at kk
      exact ifY (by rw [hs, h1] <;> rfl) (iteT (kk _ (Same.refl _)))
    | true =>
      refine ifN (by rw [hs, h1] <;> rfl) ⟨_, rfl, a, dx, _, rfl, ha, zip_none (by decide +kernel), _, rfl, ow, a, sn, name, rfl, SA, fun v hv => ⟨rfl, _, rfl, ?_⟩⟩
      have hvs := dt_isSome hv
      cases h2 : (sn.known name).isSome with
      | true =>
        have e : sn.isRend name = false := by simp [Snap.isRend, h2]
        rw [e] at kk
        exact ifY (hvs.trans h2) (kk _ (Same.refl _))
      | false =>
        have e : sn.isRend name = allKnown (sn.told name) := by simp [Snap.isRend, h1, h2]
        rw [e] at kk
        refine ifN (hvs.trans h2) ⟨_, rfl, a, dx, _, rfl, ha, zip_none (by decide +kernel), _, rfl, ow, a, sn, name, rfl, SA, ho, fun H1 l us s1 hln hl hd hul => ⟨l, rfl, ⟨us, sqL_of hl⟩, fun D hD => lc_map (sn.told name) (fun p => .bl p.2.isSome) (by have := told_len ho name; omega) hD (fun i p H2 hi s2 => ?_) fun H2 s2 hd2 => ?_⟩⟩
        · obtain ⟨v, hv, hdv⟩ := hd.get (d := encP p) (i := i) (by rw [List.getElem?_map, hi] <;> rfl)
          have hl2 := sqL_of (K := K) (s2 _ _ hl)
          refine ⟨itl_go hl2 hv, fun x H7 hy Kt kt => ?_⟩
          obtain ⟨rfl, rfl⟩ := itl_yld hl2 hv hy
          obtain ⟨pn, po⟩ := p
          obtain ⟨q, u, rfl, hq, hu⟩ := dt_pair (hdv.keep (Same.tk s2))
          refine ⟨_, _, rfl, hq.sq, rfl, _, _, rfl, _, _, rfl, rfl, rfl, _, rfl, rfl, ?_⟩
          rw [dt_isSome hu]
          exact kt _ (Same.refl _)
        · have hlu : us.length = (sn.told name).length := by rw [hd.len, List.length_map]
          refine ⟨itl_stop (sqL_of (s2 _ _ hl)) (Nat.le_of_eq hlu), D, (sn.told name).map fun p => p.2.isSome, rfl, .inl (.inl (hd2.trans ?_)), ?_⟩
          · rw [List.map_map] <;> rfl
          · rw [List.all_map]
            exact kk _ (s1.trans s2)
def spRend (K : PySem.W.Frag) : Sp := fun vs H Q _ => ∃ (ow : Addr → Prop) (a : Addr) (sn : Snap), vs = [.ref a] ∧ SnapAt K ow H a sn ∧ SnapOk sn ∧ sn.src.length ≤ 100 ∧ sn.pages.length ≤ 100 ∧ sn.required.length ≤ 100000 ∧
  ∀ H' l, Same H H' → H' l = some (.lst (sn.renderable.map V.str)) → Q (.ref l) H'
theorem ok_renderable (T : Txt w K mg) : FnOk P w K mg base CX0 6 (He.ma K (He.ga K "Snapshot") "renderable") (fd_Snapshot_renderable K) ["self"] (spRend K) := by
  have G_Snapshot_required := ok_required (P := P) (base := base) T
  have G_Snapshot__is_renderable := ok_is_rend (P := P) (base := base) T
  refine T.f_Snapshot_renderable.ok sc_Snapshot_renderable (fun vs H Q E h => ?_) (fun cdv A outer s H vs Q E hr h => ?_)
  · obtain ⟨a, b, c, rfl, _⟩ := h
    rfl
  · obtain ⟨ow, a, sn, rfl, SA, ho, hs1, hs2, hs3, kk⟩ := h
    have hu := hu_of hr
    obtain ⟨sd, pg, kd, n, X⟩ := id SA
    obtain ⟨dx, ha⟩ := X.ins
    refine ⟨_, PSs.nox ((pss_one (ps_ret (pe_lc (own := [("name", 1)]) (g := gName 1) rfl sc_Snapshot_renderable.nd (pi_list (pe_meth0 (pv 0) T.cl_Snapshot T.mt_Snapshot_required G_Snapshot_required (hr.mono (by omega)) T.b_Snapshot_required .nil pass0)) (blkOk_by (own := [("name", 1)]) (N := ["self", "name"]) (sc := defScope s_Snapshot_renderable) (by decide +kernel)) (fun _ _ _ _ _ => (pg_name (i := 1) sc_Snapshot_renderable.nd rfl (.inl rfl))) (fun _ _ _ _ _ => pts_one (pt_val (pe_meth (pv 0) T.cl_Snapshot T.mt_Snapshot__is_renderable G_Snapshot__is_renderable (hr.mono (by omega)) T.b_Snapshot__is_renderable .nil pass0 (pa_cons (pv 1) pa_nil)))) (fun _ _ _ _ _ => (pv 1)))))), ?_⟩
    refine ⟨_, rfl, a, dx, _, rfl, ha, zip_none (by decide +kernel), ow, a, sn, rfl, SA, ho, hs1, hs2, fun H1 l s1 hln hl => ⟨l, rfl, ⟨_, sqL_of hl⟩, fun D hD => lc_items sn.required (fun n => if sn.isRend n = true then some (.str n) else none) hs3 hD (fun i n H2 hi s2 => ?_) fun H2 s2 hd2 => ?_⟩⟩
    · have hl2 := sqL_of (K := K) (s2 _ _ hl)
      have hxi : (sn.required.map V.str)[i]? = some (.str n) := by rw [List.getElem?_map, hi] <;> rfl
      refine ⟨itl_go hl2 hxi, fun x H3 hy Kt Kf kt kf => ?_⟩
      obtain ⟨rfl, rfl⟩ := itl_yld hl2 hxi hy
      have s12 := s1.trans s2
      refine ⟨rfl, _, rfl, a, dx, _, rfl, s12 _ _ ha, zip_none (by decide +kernel), _, rfl, ow, a, sn, n, rfl, SA.same s12, ho, fun H4 s4 => ⟨_, rfl, ?_⟩⟩
      cases hr : sn.isRend n with
      | true => exact ifY rfl ⟨_, rfl, kt _ _ (by rw [hr]; rfl) s4⟩
      | false => exact ifN rfl (kf _ (by rw [hr]; rfl) s4)
    · rw [filterMap_if] at hd2
      exact ⟨itl_stop (sqL_of (s2 _ _ hl)) (by rw [List.length_map]; exact Nat.le_refl _), kk _ D (s1.trans s2) hd2⟩
def spReady (K : PySem.W.Frag) : Sp := fun vs H Q _ => ∃ (ow : Addr → Prop) (a : Addr) (sn : Snap), vs = [.ref a] ∧ SnapAt K ow H a sn ∧ SnapOk sn ∧ sn.src.length ≤ 100 ∧ sn.pages.length ≤ 100 ∧ sn.required.length ≤ 100000 ∧
  ∀ H', Same H H' → Q (.bl sn.ready) H'
theorem ok_ready (T : Txt w K mg) : FnOk P w K mg base CX0 6 (He.ma K (He.ga K "Snapshot") "is_ready") (fd_Snapshot_is_ready K) ["self"] (spReady K) := by
  have G_Snapshot_required := ok_required (P := P) (base := base) T
  have G_Snapshot_known := ok_known (P := P) (base := base) T
  refine T.f_Snapshot_is_ready.ok sc_Snapshot_is_ready (fun vs H Q E h => ?_) (fun cdv A outer s H vs Q E hr h => ?_)
  · obtain ⟨a, b, c, rfl, _⟩ := h
    rfl
  · obtain ⟨ow, a, sn, rfl, SA, ho, hs1, hs2, hs3, kk⟩ := h
    have hu := hu_of hr
    obtain ⟨sd, pg, kd, n, X⟩ := id SA
    obtain ⟨dx, ha⟩ := X.ins
    refine ⟨_, PSs.nox ((pss_one (ps_ret (pe_callB (cr_all rfl) (by rfl) T.z_all (by decide +kernel) (pa_cons (pe_lc (own := [("name", 1)]) (g := gName 1) rfl sc_Snapshot_is_ready.nd (pi_list (pe_meth0 (pv 0) T.cl_Snapshot T.mt_Snapshot_required G_Snapshot_required (hr.mono (by omega)) T.b_Snapshot_required .nil pass0)) (blkOk_by (own := [("name", 1)]) (N := ["self", "name"]) (sc := defScope s_Snapshot_is_ready) (by decide +kernel)) (fun _ _ _ _ _ => (pg_name (i := 1) sc_Snapshot_is_ready.nd rfl (.inl rfl))) (fun _ _ _ _ _ => pts_nil) (fun _ _ _ _ _ => (pe_cmpR op_notN (pe_meth (pv 0) T.cl_Snapshot T.mt_Snapshot_known G_Snapshot_known (hr.mono (by omega)) T.b_Snapshot_known .nil pass0 (pa_cons (pv 1) pa_nil)) pe_non (nomark _)))) pa_nil))))), ?_⟩
    refine ⟨_, rfl, a, dx, _, rfl, ha, zip_none (by decide +kernel), ow, a, sn, rfl, SA, ho, hs1, hs2, fun H1 l s1 hln hl => ⟨l, rfl, ⟨_, sqL_of hl⟩, fun D hD => lc_map sn.required (fun n => .bl (sn.known n).isSome) hs3 hD (fun i n H2 hi s2 => ?_) fun H2 s2 hd2 => ?_⟩⟩
    · have hl2 := sqL_of (K := K) (s2 _ _ hl)
      have hxi : (sn.required.map V.str)[i]? = some (.str n) := by rw [List.getElem?_map, hi] <;> rfl
      refine ⟨itl_go hl2 hxi, fun x H3 hy Kt kt => ?_⟩
      obtain ⟨rfl, rfl⟩ := itl_yld hl2 hxi hy
      have s12 := s1.trans s2
      refine ⟨rfl, _, rfl, a, dx, _, rfl, s12 _ _ ha, zip_none (by decide +kernel), _, rfl, ow, a, sn, n, rfl, SA.same s12, fun v hv => ⟨rfl, ?_⟩⟩
      rw [dt_isSome hv]
      exact kt _ (Same.refl _)
    · refine ⟨itl_stop (sqL_of (s2 _ _ hl)) (by rw [List.length_map]; exact Nat.le_refl _), D, sn.required.map fun n => (sn.known n).isSome, rfl, .inl (.inl (hd2.trans ?_)), ?_⟩
      · rw [List.map_map] <;> rfl
      · rw [List.all_map]
        exact kk _ (s1.trans s2)
end
end L2.TP
/-! Snapshot's maker. -/
namespace L2.TP
open PySem PySem.Spec PyProof.Rows L2
section
variable {P : Program} {w : World} {K : PySem.W.Frag} {mg : Str → Option Value} {base : Heap} {H H' : Hp}
def SegNm (g : Seg) : Prop := match g with
  | .incl s => isName s = true
  | .indr s => isName s = true
  | _ => True
theorem segAt_name {name text : Str} {i e : Nat} {g : Seg} (h : segAt name text i = some (g, e)) : SegNm g := by
  unfold segAt at h
  by_cases q1 : sign text i = "<"
  · rw [if_pos q1] at h
    by_cases q2 : Txt.find3 text ">" i < 0
    · simp only [q2, if_true] at h
      cases h
    · simp only [q2] at h
      obtain ⟨h1, h2⟩ := iteNS h
      have hg := (Prod.mk.inj h2).1
      rw [← hg]
      have h3 := (Bool.or_eq_false_iff.mp h1).1
      cases hb : Txt.startswith (cutS text (some ((i : Int) + 1)) (some (Txt.find3 text ">" i))) "@" with
      | true =>
        rw [hb] at h3
        simpa [SegNm] using h3
      | false =>
        rw [hb] at h3
        simpa [SegNm] using h3
  · rw [if_neg q1] at h
    by_cases q3 : sign text i = "["
    · rw [if_pos q3] at h
      by_cases q2 : Txt.find3 text "]" i < 0
      · simp only [q2, if_true] at h
        cases h
      · simp only [q2] at h
        have hg := (Prod.mk.inj (iteSN h).2).1
        rw [← hg]
        exact True.intro
    · rw [if_neg q3] at h
      cases h
theorem splitGo_names {name text : Str} : ∀ (f : Nat) (segs : List Seg) (plain : Str) (at_ : Nat), (∀ g ∈ segs, SegNm g) → ∀ g ∈ splitGo name text f segs plain at_, SegNm g
  | 0, segs, plain, at_, h => h
  | f + 1, segs, plain, at_, h => by
    have put : ∀ (l : List Seg) (g : Seg), (∀ g ∈ l, SegNm g) → SegNm g → ∀ x ∈ l ++ [g], SegNm x := by
      intro l g a b x hx
      rcases List.mem_append.mp hx with q | q
      · exact a x q
      · rw [List.mem_singleton.mp q]; exact b
    rw [splitGo]
    by_cases hlt : at_ < text.length
    · rw [if_pos hlt]
      cases hs : segAt name text at_ with
      | none => exact splitGo_names f segs _ _ h
      | some ge =>
        obtain ⟨g, e⟩ := ge
        have hg := segAt_name hs
        show ∀ x ∈ splitGo name text f ((if plain.length != 0 then segs ++ [.txt plain] else segs) ++ [g]) "" e, SegNm x
        cases (plain.length != 0) with
        | true => exact splitGo_names f _ _ _ (put _ _ (put _ _ h True.intro) hg)
        | false => exact splitGo_names f _ _ _ (put _ _ h hg)
    · rw [if_neg hlt]
      cases (plain.length != 0) with
      | true => exact put _ _ h True.intro
      | false => exact h
theorem split_names {name text : Str} : ∀ g ∈ split name text, SegNm g := splitGo_names _ _ _ _ (by simp)
theorem name_sok {s : Str} (h : isName s = true) : SOk s := by
  unfold isName at h
  have h2 := (Bool.and_eq_true_iff.mp h).2
  show s.cps.all (fun c => decide (c < 0x110000)) = true
  rw [← Array.all_toList]
  refine List.all_eq_true.mpr fun c hc => ?_
  have z := of_decide_eq_true (List.all_eq_true.mp h2 c hc)
  have all : ∀ x ∈ ("abcdefghijklmnopqrstuvwxyz" : Str).cps.toList, x < 0x110000 := by decide +kernel
  exact decide_eq_true (all c z)
theorem told_ok {sn : Snap} (h : SnapOk sn) (n : Str) : TOk (sn.told n) := by
  intro p hp
  obtain ⟨g, hg, hp⟩ := List.mem_flatMap.mp hp
  have hn := split_names g hg
  cases g with
  | txt s => exact nomatch hp
  | link s => exact nomatch hp
  | incl s =>
    have e : p = (s, sn.known s) := List.mem_singleton.mp hp
    rw [e]
    exact ⟨name_sok hn, fun r hr => h.known hr⟩
  | indr s =>
    rcases List.mem_cons.mp hp with e | hp
    · rw [e]
      exact ⟨name_sok hn, fun r hr => h.known hr⟩
    · cases hk : sn.known s with
      | none => simp [hk] at hp
      | some r =>
        cases ht : target n r with
        | none => simp [hk, ht] at hp
        | some led =>
          simp [hk, ht] at hp
          rw [hp]
          refine ⟨name_sok ?_, fun r hr => h.known hr⟩
          cases r with
          | text c ls =>
            unfold target at ht
            cases hc : (isName c && after c n) with
            | false => simp [hc] at ht
            | true =>
              simp [hc] at ht
              rw [← ht]
              exact (Bool.and_eq_true_iff.mp hc).1
          | failed m => cases ht
          | long m => cases ht
theorem cfind_ok {c : Cch} (h : CchOk c) {name text : Str} {found : Told} {r : Res} (e : cfind c name text found = some r) : r.Ok := by
  obtain ⟨x, hx, rfl⟩ := Option.map_eq_some_iff.mp e
  exact ((h.get name).2 x (List.mem_of_find?_eq_some hx)).res
theorem aput_mem {α : Type} {m : List (Str × α)} {k : Str} {x : α} {p : Str × α} (h : p ∈ aput m k x) : p ∈ m ∨ p.2 = x := by
  unfold aput at h
  split at h
  · obtain ⟨q, hq, e⟩ := List.mem_map.mp h
    split at e
    · exact .inr (by rw [← e])
    · exact .inl (e ▸ hq)
  · rcases List.mem_append.mp h with q | q
    · exact .inl q
    · exact .inr (by rw [List.mem_singleton.mp q])
theorem step_ok {c : Cch} (hc : CchOk c) {sn : Snap} (h : SnapOk sn) (n : Str) : SnapOk (snapStep c sn n) := by
  unfold snapStep
  split
  · refine ⟨h.src, fun p hp r hr => ?_⟩
    rcases aput_mem hp with q | q
    · exact h.kn p q r hr
    · exact cfind_ok hc (q ▸ hr)
  · exact h
theorem step_src (c : Cch) (sn : Snap) (n : Str) : (snapStep c sn n).src = sn.src ∧ (snapStep c sn n).pages = sn.pages ∧ (snapStep c sn n).kn.length ≤ sn.kn.length + 1 := by
  unfold snapStep
  split
  · exact ⟨rfl, rfl, aput_len⟩
  · exact ⟨rfl, rfl, Nat.le_succ _⟩
def SrcOk (src : Src) : Prop := ∀ p ∈ src, p.2.length ≤ 60 ∧ SOk p.1 ∧ SOk p.2
theorem mk_ok {src : Src} {pages : List Str} {c : Cch} (h : SrcOk src) (hc : CchOk c) : SnapOk (mkSnap src pages c) := by
  unfold mkSnap
  have all : ∀ (l : List Str) (sn : Snap), SnapOk sn → SnapOk (l.foldl (snapStep c) sn) := by
    intro l
    induction l with
    | nil => exact fun _ h => h
    | cons n l ih => exact fun sn h => ih _ (step_ok hc h n)
  exact all _ _ ⟨h, (fun p hp => nomatch hp)⟩
theorem mk_src {src : Src} {pages : List Str} {c : Cch} : (mkSnap src pages c).src = src ∧ (mkSnap src pages c).pages = pages := by
  unfold mkSnap
  have all : ∀ (l : List Str) (sn : Snap), (l.foldl (snapStep c) sn).src = sn.src ∧ (l.foldl (snapStep c) sn).pages = sn.pages := by
    intro l
    induction l with
    | nil => exact fun _ => ⟨rfl, rfl⟩
    | cons n l ih =>
      intro sn
      obtain ⟨h1, h2⟩ := ih (snapStep c sn n)
      obtain ⟨h3, h4, _⟩ := step_src c sn n
      exact ⟨h1.trans h3, h2.trans h4⟩
  exact all _ _
end
end L2.TP
/-! Snapshot's maker, walked. -/
namespace L2.TP
open PySem PySem.Spec PyProof.Rows L2
section
variable {P : Program} {w : World} {K : PySem.W.Frag} {mg : Str → Option Value} {base : Heap} {H H' : Hp}
theorem bt_tk {a : Addr} {u : HO} (x : But a H H') (ha : H a = some u) (hn : ∀ xs, u ≠ .tup xs) : TK' H H' := but_tk x ha hn
theorem CacAt.but {own : Addr → Prop} {ca cd a C dx : Addr} {fs : List (Str × V)} {o : HO} {c : Cch} (h : CacAt K own H ca cd c) (bt : But a H H') (ha : H a = some (.ins C dx fs)) (ht : tag (.ins C dx fs) ≠ some ("_renderings" : Str)) (ha' : H' a = some o) : CacAt K own H' ca cd c := by
  obtain ⟨⟨dx1, e1⟩, h2, h3⟩ := h
  exact ⟨⟨dx1, bt _ _ (ne_tag e1 ha fun z => ht z.symm) e1⟩, h2.keep (fun kvs e => bt _ _ (ne_of e ha fun z => nomatch z) e) (fun l us _ e => bt _ _ (ne_of e ha fun z => nomatch z) e) (but_tk bt ha fun _ z => nomatch z) fun b q _ => q, fun b q => h3 b (none_but bt ha' q)⟩
theorem tag_snap : (some ("_sources" : Str)) ≠ some ("_renderings" : Str) := by decide +kernel
def spSnap (K : PySem.W.Frag) : Sp := fun vs H Q _ => ∃ (own ow : Addr → Prop) (x dx sd pg ca cd : Addr) (n : Int) (src : Src) (pages : List Str) (c : Cch) (kvs : List (L2.Key × V)), vs = [.ref x, .ref sd, .ref pg, .int n, .ref ca] ∧ H x = some (.ins (He.ga K "Snapshot") dx []) ∧
  H sd = some (.dK kvs) ∧ DR (fun v t => v = .str t) kvs src ∧ SqU K H pg (pages.map V.str) ∧ CacAt K own H ca cd c ∧ ow x ∧ (∀ b, H b = none → ow b) ∧ SrcOk src ∧ CchOk c ∧ src.length ≤ 100 ∧
  ∀ H', But x H H' → SnapAt K ow H' x (mkSnap src pages c) → Q .non H'
theorem ok_snap (T : Txt w K mg) : FnOk P w K mg base CX0 5 (He.ma K (He.ga K "Snapshot") "__init__") (fd_Snapshot___init__ K) ["self", "sources", "pages", "attempts", "cache"] (spSnap K) := by
  have G_Snapshot_told := ok_told (P := P) (base := base) T
  have G_Cache_find := ok_cache_find (P := P) (base := base) T
  refine T.f_Snapshot___init__.ok sc_Snapshot___init__ (fun vs H Q E h => ?_) (fun cdv A outer s H vs Q E hr h => ?_)
  · obtain ⟨a, b, c, d, e, f, g, i, j, k, l, m, n, rfl, _⟩ := h
    rfl
  · obtain ⟨own, ow, x, dx, sd, pg, ca, cd, n, src, pages, c, kvs, rfl, hx, hsd, hsr, hpg, hca, hox, how, hso, hco, hsl, kk⟩ := h
    have hu := hu_of hr
    refine ⟨_, PSs.nox ((pss_cons (ps_fld (pv 0) (pe_callTy call_dictD (by rfl) T.z_dict (by decide +kernel) (pa_cons (pv 1) pa_nil)) rfl)
      (pss_cons (ps_fld (pv 0) (pv 2) rfl)
      (pss_cons (ps_fld (pv 0) (pv 3) rfl)
      (pss_cons (ps_fld (pv 0) pe_dnewK rfl)
      (pss_one (ps_for PassesOwn.never rfl (pi_list (pe_callBK (cr_sortDR rfl) (by rfl) T.z_sorted (by decide +kernel) (pa_cons (pv 1) pa_nil) (pk_cons pe_bl pk_nil))) (pg_name (i := 5) sc_Snapshot___init__.nd rfl (.inl rfl)) (pss_cons (ps_set (i := 6) sc_Snapshot___init__.nd rfl (.inl rfl) (pe_meth (pv 0) T.cl_Snapshot T.mt_Snapshot_told G_Snapshot_told (hr.mono (by omega)) T.b_Snapshot_told .nil pass0 (pa_cons (pv 5) pa_nil)))
      (pss_one (ps_if (pt_val (pe_callB (cr_all rfl) (by rfl) T.z_all (by decide +kernel) (pa_cons (pe_lc (own := [("_", 7), ("result", 8)]) (g := gTup K 2 (gCons (gName 7) (gCons (gName 8) (gNil)))) rfl sc_Snapshot___init__.nd (pi_list (pv 6)) (blkOk_by (own := [("_", 7), ("result", 8)]) (N := ["self", "sources", "pages", "attempts", "cache", "name", "found", "_", "result"]) (sc := defScope s_Snapshot___init__) (by decide +kernel)) (fun _ _ _ _ _ => (pg_tupK (K := K) rfl (by rfl) (pgs_cons (pg_name (i := 7) sc_Snapshot___init__.nd rfl (.inl rfl)) (pgs_cons (pg_name (i := 8) sc_Snapshot___init__.nd rfl (.inl rfl)) pgs_nil)))) (fun _ _ _ _ _ => pts_nil) (fun _ _ _ _ _ => (pe_cmpR op_notN (pv 8) pe_non (nomark _)))) pa_nil))) (pss_one (ps_dput hu (pe_fld (pv 0) rfl) (pv 5) (pe_meth (pv 4) T.cl_Cache T.mt_Cache_find G_Cache_find (hr.mono (by omega)) T.b_Cache_find .nil pass0 (pa_cons (pv 5) (pa_cons (pe_dget hu (pv 1) (pv 5) (fun _ _ => rfl)) (pa_cons (pv 6) pa_nil)))) rfl)) pss_nil)))))))))), ?_⟩
    refine ⟨_, rfl, sd, kvs, rfl, .of hsd, fun p1 hp1 => ?_⟩
    have hx1 := same_new hp1 (o := .dK kvs) _ _ hx
    have h1x : p1 ≠ x := fun e => by rw [e, hx] at hp1; cases hp1
    refine ⟨_, rfl, x, _, dx, [], rfl, hx1, T.cl_Snapshot, T.na_Snapshot__sources, by decide, ?_⟩
    refine ⟨_, rfl, _, rfl, x, _, dx, _, rfl, upd_same, T.cl_Snapshot, T.na_Snapshot__pages, pl1, ?_⟩
    rw [upd2]
    refine ⟨_, rfl, _, rfl, x, _, dx, _, rfl, upd_same, T.cl_Snapshot, T.na_Snapshot__attempts, pl2, ?_⟩
    rw [upd2]
    intro p2 hp2
    have h2x : p2 ≠ x := fun e => by rw [e, upd_same] at hp2; cases hp2
    rw [upd_ne h2x] at hp2
    have h12 : p1 ≠ p2 := fun e => by rw [← e, upd_same] at hp2; cases hp2
    have hp2H : H p2 = none := none_same (same_new hp1) hp2
    refine ⟨_, rfl, x, _, dx, _, rfl, (by rw [upd_ne h2x.symm]; exact upd_same), T.cl_Snapshot, T.na_Snapshot__known, pl3, ?_⟩
    have bt : But x H (upd (upd (upd (upd H p1 (.dK kvs)) x (.ins (He.ga K "Snapshot") dx (sks.zip [.ref p1, .ref pg, .int n]))) p2 (.dK [])) x (.ins (He.ga K "Snapshot") dx (sks.zip [.ref p1, .ref pg, .int n, .ref p2]))) := fun b o nb e => by
      rw [upd_ne nb, upd_ne (ne_of_none e hp2H), upd_ne nb, upd_ne (ne_of_none e hp1)]
      exact e
    have hxF := upd_same (H := upd (upd (upd H p1 (.dK kvs)) x (.ins (He.ga K "Snapshot") dx (sks.zip [.ref p1, .ref pg, .int n]))) p2 (.dK [])) (a := x) (o := .ins (He.ga K "Snapshot") dx (sks.zip [.ref p1, .ref pg, .int n, .ref p2]))
    have hF1 : upd (upd (upd (upd H p1 (.dK kvs)) x (.ins (He.ga K "Snapshot") dx (sks.zip [.ref p1, .ref pg, .int n]))) p2 (.dK [])) x (.ins (He.ga K "Snapshot") dx (sks.zip [.ref p1, .ref pg, .int n, .ref p2])) p1 = some (.dK kvs) := by
      rw [upd_ne h1x, upd_ne h12, upd_ne h1x]
      exact upd_same
    have hF2 : upd (upd (upd (upd H p1 (.dK kvs)) x (.ins (He.ga K "Snapshot") dx (sks.zip [.ref p1, .ref pg, .int n]))) p2 (.dK [])) x (.ins (He.ga K "Snapshot") dx (sks.zip [.ref p1, .ref pg, .int n, .ref p2])) p2 = some (.dK []) := by
      rw [upd_ne h2x]
      exact upd_same
    have q3 : putF "_attempts" (V.int n) (putF "_pages" (V.ref pg) (putF "_sources" (V.ref p1) [])) = sks.zip [.ref p1, .ref pg, .int n] := rfl
    have q4 : putF "_known" (V.ref p2) (sks.zip [.ref p1, .ref pg, .int n]) = sks.zip [.ref p1, .ref pg, .int n, .ref p2] := rfl
    rw [q3, q4]
    generalize hHF : upd (upd (upd (upd H p1 (.dK kvs)) x (.ins (He.ga K "Snapshot") dx (sks.zip [.ref p1, .ref pg, .int n]))) p2 (.dK [])) x (.ins (He.ga K "Snapshot") dx (sks.zip [.ref p1, .ref pg, .int n, .ref p2])) = HF at *
    have hca1 : CacAt K own HF ca cd c := hca.but bt hx (fun z => nomatch z) hxF
    have howF : ∀ b, HF b = none → ow b := fun b q => how b (none_but bt hxF q)
    have X0 : SnapX K ow HF x p1 pg p2 n ⟨src, pages, []⟩ := ⟨hox, ⟨dx, hxF⟩, ⟨how _ hp1, kvs, hF1, hsr⟩, hpg.keep (but_tk bt hx fun _ z => nomatch z), ⟨how _ hp2H, [], hF2, .nil⟩⟩
    have hsdx : sd ≠ x := ne_of hsd hx fun z => nomatch z
    have hsdF := bt _ _ hsdx hsd
    have hcd2 : cd ≠ p2 := by
      obtain ⟨_, ⟨_, kvc, hc1, _⟩, _⟩ := hca
      exact ne_of_none hc1 hp2H
    refine ⟨_, rfl, sd, kvs, src.map (·.1), rfl, rfl, .of hsdF, by rw [hsr.keys], fun lS hlS => ?_⟩
    have sS := same_new hlS (o := .lst ((srt (src.map (·.1))).reverse.map V.str))
    generalize hH1 : upd HF lS (.lst ((srt (src.map (·.1))).reverse.map V.str)) = H1 at *
    have hlS1 : H1 lS = some (.lst ((srt (src.map (·.1))).reverse.map V.str)) := by rw [← hH1]; exact upd_same
    have hlp2 : lS ≠ p2 := fun e => by rw [e, hF2] at hlS; cases hlS
    have hmk : mkSnap src pages c = (srt (src.map (·.1))).reverse.foldl (snapStep c) ⟨src, pages, []⟩ := rfl
    have hmem : ∀ nm ∈ (srt (src.map (·.1))).reverse, ∃ t, aget src nm = some t := by
      intro nm hnm
      have h1 := (srt_perm (src.map (·.1))).mem_iff.mp (List.mem_reverse.mp hnm)
      have h2 : ahas src nm = true := by
        obtain ⟨q, hq, e⟩ := List.mem_map.mp h1
        exact List.any_eq_true.mpr ⟨q, hq, decide_eq_true e⟩
      rw [ahas_get] at h2
      exact Option.isSome_iff_exists.mp h2
    have hnl : (srt (src.map (·.1))).reverse.length ≤ 100 := by
      rw [List.length_reverse, srt_len, List.length_map]
      exact hsl
    generalize (srt (src.map (·.1))).reverse = names at *
    refine ⟨lS, rfl, ⟨_, sqL_of hlS1⟩, for_items names (fun i σ H2 => ∃ (sn : Snap) (f5 f6 : Option V), σ = [some (.ref x), some (.ref sd), some (.ref pg), some (.int n), some (.ref ca), f5, f6, none, none] ∧ But x H H2 ∧ H2 x = some (.ins (He.ga K "Snapshot") dx (sks.zip [.ref p1, .ref pg, .int n, .ref p2])) ∧ H2 lS = some (.lst (names.map V.str)) ∧
      SnapX K ow H2 x p1 pg p2 n sn ∧ SnapOk sn ∧ sn.src = src ∧ sn.kn.length ≤ i ∧ (names.take i).foldl (snapStep c) ⟨src, pages, []⟩ = sn)
      ⟨⟨src, pages, []⟩, _, _, rfl, bt.trans (but_same sS), sS _ _ hxF, hlS1, X0.same sS, ⟨hso, (fun p hp => nomatch hp)⟩, rfl, Nat.le_refl _, rfl⟩ (fun i nm σ H2 hi pv => ?_) fun σ H2 pv => ?_⟩
    · obtain ⟨sn, f5, f6, rfl, b2, hx2, hl2, X2, ho2, hsrc, hknl, hfold⟩ := pv
      have hil : i < names.length := (List.getElem?_eq_some_iff.mp hi).1
      have hxi : (names.map V.str)[i]? = some (.str nm) := by rw [List.getElem?_map, hi] <;> rfl
      refine ⟨itl_go (sqL_of hl2) hxi, fun y H3 hy => ?_⟩
      obtain ⟨rfl, rfl⟩ := itl_yld (sqL_of hl2) hxi hy
      have hnext : (names.take (i + 1)).foldl (snapStep c) ⟨src, pages, []⟩ = snapStep c sn nm := by
        rw [take_next hi, List.foldl_append, hfold] <;> rfl
      refine ⟨_, rfl, x, dx, _, rfl, hx2, zip_none (by decide +kernel), _, rfl, ow, x, sn, nm, rfl, ⟨_, _, _, _, X2⟩, ho2, fun H4 l us s4 hln hl hd hul => ?_⟩
      have htl := told_len ho2 nm
      refine ⟨_, rfl, l, rfl, ⟨us, sqL_of hl⟩, fun D hD => lc_map (sn.told nm) (fun p => .bl p.2.isSome) (by omega) hD (fun j p H5 hj s5 => ?_) fun H5 s5 hd5 => ?_⟩
      · obtain ⟨v, hv, hdv⟩ := hd.get (d := encP p) (i := j) (by rw [List.getElem?_map, hj] <;> rfl)
        have hl5 := sqL_of (K := K) (s5 _ _ hl)
        refine ⟨itl_go hl5 hv, fun y H7 hy Kt kt => ?_⟩
        obtain ⟨rfl, rfl⟩ := itl_yld hl5 hv hy
        obtain ⟨pn, po⟩ := p
        obtain ⟨q, u, rfl, hq, hu⟩ := dt_pair (hdv.keep (Same.tk s5))
        refine ⟨_, _, rfl, hq.sq, rfl, _, _, rfl, _, _, rfl, rfl, rfl, _, rfl, rfl, ?_⟩
        rw [dt_isSome hu]
        exact kt _ (Same.refl _)
      · have hlu : us.length = (sn.told nm).length := by rw [hd.len, List.length_map]
        have s45 := s4.trans s5
        refine ⟨itl_stop (sqL_of (s5 _ _ hl)) (Nat.le_of_eq hlu), D, (sn.told nm).map fun p => p.2.isSome, rfl, .inl (.inl (hd5.trans (by rw [List.map_map] <;> rfl))), _, rfl, ?_⟩
        have hak : ((sn.told nm).map fun p => p.2.isSome).all id = allKnown (sn.told nm) := by rw [List.all_map] <;> rfl
        have b5 := b2.trans (but_same s45)
        have hx5 := s45 _ _ hx2
        cases hk : allKnown (sn.told nm) with
        | false =>
          have e : snapStep c sn nm = sn := by
            unfold snapStep
            rw [hk] <;> rfl
          rw [e] at hnext
          exact ifN (hak.trans hk) ⟨sn, _, _, rfl, b5, hx5, s45 _ _ hl2, X2.same s45, ho2, hsrc, by omega, hnext⟩
        | true =>
          obtain ⟨t, ht⟩ := hmem nm (List.mem_of_getElem? hi)
          have ht2 : aget sn.src nm = some t := by rw [hsrc]; exact ht
          have e : snapStep c sn nm = { sn with kn := aput sn.kn nm (cfind c nm t (sn.told nm)) } := by
            unfold snapStep
            rw [hk, ht2] <;> rfl
          have hso2 := step_ok hco ho2 nm
          rw [e] at hnext hso2
          obtain ⟨⟨dxc, hcaI⟩, _, _⟩ := id hca
          have hca5 : CacAt K own H5 ca cd c := hca.but b5 hx (fun z => nomatch z) hx5
          obtain ⟨dxc5, hcaI5⟩ := hca5.1
          have hsd5 := b5 _ _ hsdx hsd
          obtain ⟨z1, z2⟩ := hsr.get nm
          obtain ⟨v, hv, rfl⟩ := z2 t ht
          refine ifY (hak.trans hk) ⟨_, rfl, ca, dxc5, _, rfl, hcaI5, zip_none (by decide +kernel), _, rfl, _, rfl, _, rfl, sd, _, rfl, .inl ⟨kvs, .inr nm, .of hsd5, rfl, hv.symm⟩, _, rfl, own, ca, cd, l, c, nm, t, us, sn.told nm, rfl, hca5, s5 _ _ hl, hd.keep (Same.tk s5), told_ok ho2 nm, hco, fun H6 v s6 hv6 => ?_⟩
          have s456 := s45.trans s6
          have hx6 := s6 _ _ hx5
          obtain ⟨hop2, kv2, hkd, hkr⟩ := (X2.same s456).kn
          refine ⟨_, rfl, x, _, dx, _, _, rfl, hx6, T.cl_Snapshot, T.na_Snapshot__known, zip_look (i := 3) (sks_nd) rfl rfl, _, rfl, p2, _, rfl, .inl ⟨kv2, .inr nm, hkd, rfl, ?_, rfl⟩, ?_⟩
          · rw [hkr.len]
            exact small5' (by omega)
          · have X6 := X2.same s456
            have tk7 : TK' H6 (upd H6 p2 (.dK (putK kv2 (.inr nm) v))) := tkD hkd
            have b7 : But p2 H6 (upd H6 p2 (.dK (putK kv2 (.inr nm) v))) := but_upd
            refine ⟨{ sn with kn := aput sn.kn nm (cfind c nm t (sn.told nm)) }, _, _, rfl, ?_, b7 _ _ h2x.symm hx6, b7 _ _ hlp2 (s456 _ _ hl2), ?_, hso2, hsrc, ?_, hnext⟩
            · intro b o nb e
              rw [upd_ne (ne_of_none e hp2H)]
              exact (b2.trans (but_same s456)) _ _ nb e
            · exact ⟨X6.own, ⟨dx, b7 _ _ h2x.symm hx6⟩, X6.src.keep (fun kvs e => b7 _ _ h12 e) (fun q _ => q), X6.pgs.keep tk7, ⟨hop2, _, upd_same, (hkr.mono fun v o z => z.keep tk7).put nm (hv6.keep tk7)⟩⟩
            · have := aput_len (m := sn.kn) (k := nm) (x := cfind c nm t (sn.told nm))
              show (aput _ _ _).length ≤ _
              omega
    · obtain ⟨sn, f5, f6, rfl, b2, hx2, hl2, X2, ho2, hsrc, hknl, hfold⟩ := pv
      rw [List.take_length] at hfold
      refine ⟨itl_stop (sqL_of hl2) (by rw [List.length_map]; exact Nat.le_refl _), kk _ b2 ?_⟩
      rw [hmk, hfold]
      exact ⟨_, _, _, _, X2⟩
end
end L2.TP
/-! What holds of every state that the law reaches. -/
namespace L2.TP
open PySem PySem.Spec PyProof.Rows L2
def LN : List Str := ["a", "b", "c", "d", "e", "ab", "bc", "cd"]
theorem nodup_le {α : Type} [DecidableEq α] : ∀ (l m : List α), l.Nodup → (∀ x ∈ l, x ∈ m) → l.length ≤ m.length
  | [], _, _, _ => Nat.zero_le _
  | a :: l, m, nd, h => by
    obtain ⟨n1, n2⟩ := List.nodup_cons.mp nd
    have ha := h a List.mem_cons_self
    have ih := nodup_le l (m.erase a) n2 fun x hx => (List.mem_erase_of_ne (fun e : x = a => n1 (e ▸ hx))).mpr (h x (List.mem_cons_of_mem _ hx))
    rw [List.length_erase_of_mem ha] at ih
    have := List.length_pos_of_mem ha
    rw [List.length_cons]
    omega
/-- keys: distinct, the law's names -/
def KeysG {α : Type} (m : List (Str × α)) : Prop := (m.map (·.1)).Nodup ∧ ∀ p ∈ m, p.1 ∈ LN
theorem KeysG.len {α : Type} {m : List (Str × α)} (h : KeysG m) : m.length ≤ 8 := by
  have z := nodup_le (m.map (·.1)) LN h.1 fun x hx => by
    obtain ⟨p, hp, rfl⟩ := List.mem_map.mp hx
    exact h.2 p hp
  rw [List.length_map] at z
  exact z
theorem KeysG.filter {α : Type} {m : List (Str × α)} (h : KeysG m) (f : Str × α → Bool) : KeysG (m.filter f) :=
  ⟨h.1.sublist (List.filter_sublist.map _), fun p hp => h.2 p (List.mem_filter.mp hp).1⟩
theorem aput_keys {α : Type} {m : List (Str × α)} {k : Str} {x : α} (h : ahas m k = true) : (aput m k x).map (·.1) = m.map (·.1) := by
  unfold aput
  rw [if_pos h, List.map_map]
  refine List.map_congr_left fun p _ => ?_
  show (if p.1 = k then (p.1, x) else p).1 = p.1
  split <;> rfl
theorem ahas_mem {α : Type} {m : List (Str × α)} {k : Str} : ahas m k = true ↔ k ∈ m.map (·.1) := by
  unfold ahas
  rw [List.any_eq_true]
  constructor
  · rintro ⟨p, hp, e⟩
    rw [← of_decide_eq_true e]
    exact List.mem_map_of_mem hp
  · intro h
    obtain ⟨p, hp, e⟩ := List.mem_map.mp h
    exact ⟨p, hp, decide_eq_true e⟩
theorem KeysG.put {α : Type} {m : List (Str × α)} (h : KeysG m) {k : Str} {x : α} (hk : k ∈ LN) : KeysG (aput m k x) := by
  cases e : ahas m k with
  | true =>
    refine ⟨by rw [aput_keys e]; exact h.1, fun p hp => ?_⟩
    have z : p.1 ∈ (aput m k x).map (·.1) := List.mem_map_of_mem hp
    rw [aput_keys e] at z
    obtain ⟨q, hq, e2⟩ := List.mem_map.mp z
    rw [← e2]
    exact h.2 q hq
  | false =>
    have hn : k ∉ m.map (·.1) := fun z => by rw [ahas_mem.mpr z] at e; cases e
    unfold aput
    rw [e]
    show KeysG (m ++ [(k, x)])
    refine ⟨?_, fun p hp => ?_⟩
    · rw [List.map_append]
      refine List.nodup_append.mpr ⟨h.1, by simp, fun a ha b hb e => ?_⟩
      rw [List.mem_singleton.mp hb] at e
      have e2 : a = k := e
      exact hn (e2 ▸ ha)
    · rcases List.mem_append.mp hp with q | q
      · exact h.2 p q
      · rw [List.mem_singleton.mp q]
        exact hk
theorem ln_name : ∀ n ∈ LN, isName n = true := by decide +kernel
theorem ln_sok {n : Str} (h : n ∈ LN) : SOk n := name_sok (ln_name n h)
theorem nm_len {n : Str} (h : isName n = true) : n.length ≤ 6 := by
  unfold isName at h
  exact of_decide_eq_true (Bool.and_eq_true_iff.mp (Bool.and_eq_true_iff.mp h).1).2
theorem nm_sn {n : Str} (h : isName n = true) : SN n := ⟨name_sok h, Nat.le_trans (nm_len h) (by decide)⟩
theorem ln_sn {n : Str} (h : n ∈ LN) : SN n := nm_sn (ln_name n h)
def SrcG (src : Src) : Prop := KeysG src ∧ SrcOk src
def PgG (pages : List Str) : Prop := pages.Nodup ∧ ∀ n ∈ pages, n ∈ LN
theorem PgG.len {pages : List Str} (h : PgG pages) : pages.length ≤ 8 := nodup_le pages LN h.1 h.2
structure JobG (o : Opt) (n : Str) (j : Job) : Prop where
  len : j.text.length ≤ 60
  sok : SOk j.text
  tok : TOk j.found
  known : allKnown j.found = true
  told : ∃ kn, j.found = toldOf kn n j.text
  a0 : 0 ≤ j.attempt
  a1 : j.attempt ≤ o.attempts
  a2 : j.state ≠ .run → j.attempt < o.attempts
theorem JobG.fok {o : Opt} {n : Str} {j : Job} (h : JobG o n j) : FOk j.found := fun p hp => by
  obtain ⟨r, hr⟩ := Option.isSome_iff_exists.mp (List.all_eq_true.mp h.known p hp)
  exact ⟨r, hr, (h.tok p hp).2 r hr⟩
/-- a timer and the job it is for -/
def TimG (jobs : List (Str × Job)) : TK → Prop
  | .att n => ∃ j, aget jobs n = some j ∧ j.state = .run
  | .del n => ∃ j, aget jobs n = some j ∧ j.state = .back
  | _ => True
def Rsn.Sk : Rsn → Prop
  | .res r => r.Ok
  | .link none => True
  | .link (some n) => SN n
structure VerG (v : Ver) : Prop where
  pages : ∀ p ∈ v.pages, SN p.1 ∧ SOk p.2 ∧ p.2.length ≤ 200
  behind : ∀ p ∈ v.behind, SN p.1 ∧ p.2.Sk
  n1 : v.pages.length ≤ 8
  n2 : v.behind.length ≤ 8
structure Gd (s : S) : Prop where
  opt : s.o.Ok
  src : SrcG s.src
  pgs : PgG s.pages
  cch : CchOk s.cache
  cks : KeysG s.cache
  jks : KeysG s.jobs
  jbs : ∀ p ∈ s.jobs, JobG s.o p.1 p.2
  frz : ∀ f, s.frz = some f → SrcG f.src ∧ PgG f.pages
  tnd : (s.tms.map (·.1)).Nodup
  tim : ∀ p ∈ s.tms, TimG s.jobs p.1
  due : ∀ p ∈ s.tms, s.clock ≤ p.2
  ver : VerG s.ver
def S.cur (s : S) : Src := match s.frz with
  | some f => f.src
  | none => s.src
theorem S.text_cur (s : S) (n : Str) : s.text n = aget s.cur n := by
  unfold S.text S.cur
  cases s.frz <;> rfl
theorem Gd.cur {s : S} (h : Gd s) : SrcG s.cur := by
  unfold S.cur
  cases e : s.frz with
  | none => exact h.src
  | some f => exact (h.frz f e).1
theorem Gd.wanted {s : S} (h : Gd s) : PgG s.wanted := by
  unfold S.wanted
  cases e : s.frz with
  | none => exact h.pgs
  | some f => exact (h.frz f e).2
/-- a snapshot of the state's sources -/
structure SnG (s : S) (sn : Snap) : Prop where
  ok : SnapOk sn
  src : sn.src = s.cur
  pgs : sn.pages = s.wanted
theorem Gd.snap {s : S} (h : Gd s) : SnG s s.snap := by
  unfold S.snap
  cases e : s.frz with
  | none => exact ⟨mk_ok h.src.2 h.cch, by rw [mk_src.1]; unfold S.cur; rw [e], by rw [mk_src.2]; unfold S.wanted; rw [e]⟩
  | some f => exact ⟨mk_ok (h.frz f e).1.2 h.cch, by rw [mk_src.1]; unfold S.cur; rw [e], by rw [mk_src.2]; unfold S.wanted; rw [e]⟩
def TKs : List TK := .pause :: .wait :: (LN.map .att ++ LN.map .del)
theorem aget_LN {jobs : List (Str × Job)} (h : KeysG jobs) {n : Str} {j : Job} (e : aget jobs n = some j) : n ∈ LN := h.2 (n, j) (aget_mem e)
theorem Gd.tlen {s : S} (h : Gd s) : s.tms.length ≤ 18 := by
  have z := nodup_le (s.tms.map (·.1)) TKs h.tnd fun x hx => by
    obtain ⟨p, hp, rfl⟩ := List.mem_map.mp hx
    have q := h.tim p hp
    cases e : p.1 with
    | pause => exact List.mem_cons_self
    | wait => exact List.mem_cons_of_mem _ List.mem_cons_self
    | att n =>
      rw [e] at q
      obtain ⟨j, hj, _⟩ := q
      exact List.mem_cons_of_mem _ (List.mem_cons_of_mem _ (List.mem_append_left _ (List.mem_map_of_mem (aget_LN h.jks hj))))
    | del n =>
      rw [e] at q
      obtain ⟨j, hj, _⟩ := q
      exact List.mem_cons_of_mem _ (List.mem_cons_of_mem _ (List.mem_append_right _ (List.mem_map_of_mem (aget_LN h.jks hj))))
  rw [List.length_map] at z
  exact z
/-! ### gets and puts -/
section
variable {κ α : Type} [DecidableEq κ] {m : List (κ × α)} {k j : κ} {x : α}
theorem aget_cons {p : κ × α} : aget (p :: m) k = if p.1 = k then some p.2 else aget m k := by
  unfold aget
  by_cases e : p.1 = k
  · rw [if_pos e, List.find?_cons_of_pos (by simpa using e)] <;> rfl
  · rw [if_neg e, List.find?_cons_of_neg (by simpa using e)]
theorem aget_adrop (h : j ≠ k) : aget (adrop m k) j = aget m j := by
  unfold adrop
  induction m with
  | nil => rfl
  | cons p m ih =>
    by_cases e : p.1 = k
    · rw [List.filter_cons_of_neg (by simp [e]), ih, aget_cons, if_neg (fun z => h (z.symm.trans e))]
    · rw [List.filter_cons_of_pos (by simp [e]), aget_cons, aget_cons, ih]
theorem aget_app {l : List (κ × α)} : aget (m ++ l) k = (aget m k).or (aget l k) := by
  unfold aget
  rw [List.find?_append]
  cases m.find? (fun p => decide (p.1 = k)) <;> rfl
theorem ahas_get' : ahas m k = (aget m k).isSome := by
  unfold ahas aget
  rw [Option.isSome_map]
  induction m with
  | nil => rfl
  | cons p m ih =>
    by_cases h : p.1 = k
    · simp [h]
    · simp [h, ih]
theorem aget_mapif (i : κ) (y : α) : aget (m.map fun p => if p.1 = i then (p.1, y) else p) k = (aget m k).map fun z => if k = i then y else z := by
  induction m with
  | nil => rfl
  | cons p m ih =>
    rw [List.map_cons, aget_cons, aget_cons, ih]
    by_cases h : p.1 = i
    · rw [if_pos h]
      by_cases e : p.1 = k
      · rw [if_pos e, if_pos e, Option.map_some, if_pos (e.symm.trans h)]
      · rw [if_neg e, if_neg e]
    · rw [if_neg h]
      by_cases e : p.1 = k
      · rw [if_pos e, if_pos e, Option.map_some, if_neg (fun z => h (e.trans z))]
      · rw [if_neg e, if_neg e]
theorem aget_put : aget (aput m k x) j = if j = k then some x else aget m j := by
  unfold aput
  cases e : ahas m k with
  | true =>
    rw [if_pos rfl, aget_mapif]
    rw [ahas_get'] at e
    by_cases h : j = k
    · subst h
      obtain ⟨z, hz⟩ := Option.isSome_iff_exists.mp e
      rw [hz, Option.map_some, if_pos rfl, if_pos rfl]
    · rw [if_neg h]
      cases aget m j with
      | none => rfl
      | some z => rw [Option.map_some, if_neg h]
  | false =>
    rw [if_neg (by simp), aget_app, aget_cons]
    rw [ahas_get'] at e
    by_cases h : j = k
    · subst h
      cases q : aget m j with
      | none => rw [if_pos rfl, if_pos rfl] <;> rfl
      | some z => rw [q] at e; cases e
    · rw [if_neg (fun z => h z.symm), if_neg h]
      cases aget m j <;> rfl
theorem mem_adrop {p : κ × α} (h : p ∈ adrop m k) : p ∈ m ∧ p.1 ≠ k := by
  obtain ⟨h1, h2⟩ := List.mem_filter.mp h
  exact ⟨h1, of_decide_eq_true h2⟩
theorem nd_adrop (h : (m.map (·.1)).Nodup) (k : κ) : ((adrop m k).map (·.1)).Nodup := h.sublist (List.filter_sublist.map _)
end
theorem nd_tput {t : Tms} (h : (t.map (·.1)).Nodup) (k : TK) (d : Int) : ((tput t k d).map (·.1)).Nodup := by
  unfold tput
  rw [List.map_append]
  refine List.nodup_append.mpr ⟨nd_adrop h k, by simp, fun a ha b hb e => ?_⟩
  rw [List.mem_singleton.mp hb] at e
  obtain ⟨p, hp, e2⟩ := List.mem_map.mp ha
  exact (mem_adrop hp).2 (e2.trans e)
theorem mem_tput {t : Tms} {k : TK} {d : Int} {p : TK × Int} (h : p ∈ tput t k d) : (p ∈ t ∧ p.1 ≠ k) ∨ p = (k, d) := by
  rcases List.mem_append.mp h with q | q
  · exact .inl (mem_adrop q)
  · exact .inr (List.mem_singleton.mp q)
end L2.TP
/-! What holds of every state stays. -/
namespace L2.TP
open PySem PySem.Spec PyProof.Rows L2
/-- the clock stands; new timers lie ahead -/
structure Step (s s' : S) : Prop where
  clock : s'.clock = s.clock
  o : s'.o = s.o
  tms : ∀ p ∈ s'.tms, p ∈ s.tms ∨ s.clock < p.2
theorem Step.refl (s : S) : Step s s := ⟨rfl, rfl, fun _ h => .inl h⟩
theorem Step.trans {a b c : S} (x : Step a b) (y : Step b c) : Step a c := ⟨y.clock.trans x.clock, y.o.trans x.o, fun p hp => by
  rcases y.tms p hp with q | q
  · exact x.tms p q
  · exact .inr (by rw [← x.clock]; exact q)⟩
theorem Gd.forget {s : S} (h : Gd s) : Gd s.forget ∧ Step s s.forget :=
  ⟨{ opt := h.opt, src := h.src, pgs := h.pgs, cch := fun p hp => h.cch p (List.mem_filter.mp hp).1, cks := h.cks.filter _, jks := h.jks, jbs := h.jbs, frz := h.frz, tnd := h.tnd, tim := h.tim, due := h.due, ver := h.ver }, ⟨rfl, rfl, fun p hp => .inl hp⟩⟩
theorem TimG.mono {a b : List (Str × Job)} (k : TK) (h : TimG a k) (e : ∀ n, k = .att n ∨ k = .del n → aget b n = aget a n) : TimG b k := by
  cases k with
  | pause => exact True.intro
  | wait => exact True.intro
  | att n =>
    obtain ⟨j, h1, h2⟩ := h
    exact ⟨j, (e n (.inl rfl)).trans h1, h2⟩
  | del n =>
    obtain ⟨j, h1, h2⟩ := h
    exact ⟨j, (e n (.inr rfl)).trans h1, h2⟩
theorem Gd.dropJob {s : S} (h : Gd s) (n : Str) : Gd (s.dropJob n) ∧ Step s (s.dropJob n) := by
  refine ⟨{ opt := h.opt, src := h.src, pgs := h.pgs, cch := h.cch, cks := h.cks, jks := h.jks.filter _, jbs := fun p hp => h.jbs p (mem_adrop hp).1, frz := h.frz, tnd := nd_adrop (nd_adrop h.tnd _) _, tim := fun p hp => ?_, due := fun p hp => h.due p (mem_adrop (mem_adrop hp).1).1, ver := h.ver }, ⟨rfl, rfl, fun p hp => .inl (mem_adrop (mem_adrop hp).1).1⟩⟩
  obtain ⟨h1, h2⟩ := mem_adrop hp
  obtain ⟨h3, h4⟩ := mem_adrop h1
  refine (h.tim p h3).mono p.1 fun m hm => aget_adrop fun e => ?_
  subst e
  rcases hm with hm | hm
  · exact h4 hm
  · exact h2 hm
theorem Gd.dropGo {sn : Snap} {req : List Str} : ∀ (l : List (Str × Job)) {s : S}, Gd s → Gd (L2.TP.dropGo sn req l s) ∧ Step s (L2.TP.dropGo sn req l s)
  | [], s, h => ⟨h, Step.refl s⟩
  | (n, j) :: l, s, h => by
    unfold L2.TP.dropGo
    cases e : s.valid sn req n j with
    | true => exact Gd.dropGo l h
    | false =>
      obtain ⟨h1, h2⟩ := h.dropJob n
      obtain ⟨h3, h4⟩ := Gd.dropGo l h1 (sn := sn) (req := req)
      exact ⟨h3, h2.trans h4⟩
theorem Gd.dropJobs {s : S} (h : Gd s) (sn : Snap) : Gd (s.dropJobs sn) ∧ Step s (s.dropJobs sn) := Gd.dropGo _ h
theorem dropGo_cur {sn : Snap} {req : List Str} : ∀ (l : List (Str × Job)) (s : S), (dropGo sn req l s).cur = s.cur ∧ (dropGo sn req l s).wanted = s.wanted
  | [], s => ⟨rfl, rfl⟩
  | (n, j) :: l, s => by
    unfold dropGo
    split
    · exact dropGo_cur l s
    · exact dropGo_cur l (s.dropJob n)
theorem isRend_facts {sn : Snap} {n : Str} (h : sn.isRend n = true) : ahas sn.src n = true ∧ allKnown (sn.told n) = true := by
  unfold Snap.isRend at h
  cases e : ahas sn.src n with
  | false => simp [e] at h
  | true =>
    cases e2 : (sn.known n).isSome with
    | true => simp [e2] at h
    | false => simpa [e, e2] using h
theorem mem_app_one {α : Type} {l : List α} {a x : α} (h : x ∈ l ++ [a]) : x ∈ l ∨ x = a := by
  rcases List.mem_append.mp h with q | q
  · exact .inl q
  · exact .inr (List.mem_singleton.mp q)
theorem Gd.newJob {s : S} {sn : Snap} (h : Gd s) (g : SnG s sn) {n : Str} (hn : sn.isRend n = true) : Gd (s.newJob sn n) ∧ Step s (s.newJob sn n) ∧ (s.newJob sn n).cur = s.cur ∧ (s.newJob sn n).wanted = s.wanted ∧ ∃ j, aget (s.newJob sn n).jobs n = some j := by
  obtain ⟨h1, h2⟩ := isRend_facts hn
  unfold S.newJob
  cases e : ahas s.jobs n with
  | true =>
    rw [if_pos rfl]
    rw [ahas_get] at e
    exact ⟨h, Step.refl s, rfl, rfl, Option.isSome_iff_exists.mp e⟩
  | false =>
    rw [if_neg (by simp)]
    have hgn : aget s.jobs n = none := by
      rw [ahas_get] at e
      exact Option.not_isSome_iff_eq_none.mp (by rw [e]; exact Bool.false_ne_true)
    obtain ⟨t, ht⟩ : ∃ t, aget sn.src n = some t := by
      rw [ahas_get] at h1
      exact Option.isSome_iff_exists.mp h1
    have htx : s.text n = some t := by rw [S.text_cur, ← g.src]; exact ht
    have hln : n ∈ LN := by
      have z := aget_mem ht
      rw [g.src] at z
      exact h.cur.1.2 _ z
    have hts := g.ok.src _ (aget_mem ht)
    have hkn : n ∉ s.jobs.map (·.1) := fun z => by rw [ahas_mem.mpr z] at e; cases e
    have old : ∀ m j, aget s.jobs m = some j → aget (s.jobs ++ [(n, (⟨(s.text n).getD "", sn.told n, 0, .queued⟩ : Job))]) m = some j := fun m j q => by rw [aget_app, q] <;> rfl
    refine ⟨{ opt := h.opt, src := h.src, pgs := h.pgs, cch := h.cch, cks := h.cks, jks := ⟨?_, fun p hp => ?_⟩, jbs := fun p hp => ?_, frz := h.frz, tnd := h.tnd, tim := fun p hp => ?_, due := h.due, ver := h.ver }, ⟨rfl, rfl, fun p hp => .inl hp⟩, rfl, rfl, ⟨⟨(s.text n).getD "", sn.told n, 0, .queued⟩, ?_⟩⟩
    · rw [List.map_append]
      refine List.nodup_append.mpr ⟨h.jks.1, by simp, fun a ha b hb e => ?_⟩
      rw [List.mem_singleton.mp hb] at e
      have e2 : a = n := e
      exact hkn (e2 ▸ ha)
    · rcases mem_app_one hp with q | q
      · exact h.jks.2 p q
      · rw [q]; exact hln
    · rcases mem_app_one hp with q | q
      · exact h.jbs p q
      · rw [q]
        refine ⟨?_, ?_, told_ok g.ok n, h2, ⟨sn.known, ?_⟩, Int.le_refl 0, by have := h.opt.a1; show (0 : Int) ≤ s.o.attempts; omega, fun _ => by have := h.opt.a1; show (0 : Int) < s.o.attempts; omega⟩
        · show ((s.text n).getD "").length ≤ 60
          rw [htx]; exact hts.1
        · show SOk ((s.text n).getD "")
          rw [htx]; exact hts.2.2
        · show sn.told n = toldOf sn.known n ((s.text n).getD "")
          unfold Snap.told
          rw [htx, ht]
    · have q := h.tim p hp
      cases ek : p.1 with
      | pause => exact True.intro
      | wait => exact True.intro
      | att m =>
        rw [ek] at q
        obtain ⟨j, h3, h4⟩ := q
        exact ⟨j, old m j h3, h4⟩
      | del m =>
        rw [ek] at q
        obtain ⟨j, h3, h4⟩ := q
        exact ⟨j, old m j h3, h4⟩
    · rw [aget_app, hgn, aget_cons, if_pos rfl] <;> rfl
theorem aput_mem' {α : Type} {m : List (Str × α)} {k : Str} {x : α} {p : Str × α} (hk : ahas m k = true) (h : p ∈ aput m k x) : (p ∈ m ∧ p.1 ≠ k) ∨ p = (k, x) := by
  unfold aput at h
  rw [if_pos hk] at h
  obtain ⟨q, hq, e⟩ := List.mem_map.mp h
  by_cases h2 : q.1 = k
  · rw [if_pos h2] at e
    exact .inr (by rw [← e, h2])
  · rw [if_neg h2] at e
    rw [← e]
    exact .inl ⟨hq, h2⟩
/-- a job changes its state, and a timer of its own comes -/
theorem Gd.setJob {s : S} (h : Gd s) {n : Str} {j j' : Job} (hj : aget s.jobs n = some j) (hg : JobG s.o n j') (t' : Tms) (hnd : (t'.map (·.1)).Nodup) (ht : ∀ p ∈ t', (p ∈ s.tms ∧ p.1 ≠ .att n ∧ p.1 ≠ .del n) ∨ (TimG (aput s.jobs n j') p.1 ∧ s.clock < p.2)) :
    Gd { s with jobs := aput s.jobs n j', tms := t' } ∧ ∀ m, Step s { s with jobs := aput s.jobs n j', tms := t', made := m } := by
  have hh : ahas s.jobs n = true := by rw [ahas_get, hj] <;> rfl
  refine ⟨{ opt := h.opt, src := h.src, pgs := h.pgs, cch := h.cch, cks := h.cks, jks := h.jks.put (aget_LN h.jks hj), jbs := fun p hp => ?_, frz := h.frz, tnd := hnd, tim := fun p hp => ?_, due := fun p hp => ?_, ver := h.ver }, fun m => ⟨rfl, rfl, fun p hp => ?_⟩⟩
  · rcases aput_mem' hh hp with q | q
    · exact h.jbs p q.1
    · rw [q]; exact hg
  · rcases ht p hp with ⟨q1, q2, q3⟩ | ⟨q1, q2⟩
    · refine (h.tim p q1).mono p.1 fun m hm => ?_
      show aget (aput s.jobs n j') m = _
      rw [aget_put, if_neg fun e => ?_]
      subst e
      rcases hm with hm | hm
      · exact q2 hm
      · exact q3 hm
    · exact q1
  · rcases ht p hp with ⟨q1, _⟩ | ⟨_, q2⟩
    · exact h.due p q1
    · exact Int.le_of_lt q2
  · rcases ht p hp with ⟨q1, _⟩ | ⟨_, q2⟩
    · exact .inl q1
    · exact .inr q2
/-- no timer of a queued job -/
theorem no_tim {s : S} (h : Gd s) {n : Str} {j : Job} (hj : aget s.jobs n = some j) {p : TK × Int} (hp : p ∈ s.tms) : (j.state ≠ .run → p.1 ≠ .att n) ∧ (j.state ≠ .back → p.1 ≠ .del n) := by
  have q := h.tim p hp
  refine ⟨fun hs e => ?_, fun hs e => ?_⟩
  · rw [e] at q
    obtain ⟨j2, h1, h2⟩ := q
    rw [hj] at h1
    exact hs (Option.some.inj h1 ▸ h2)
  · rw [e] at q
    obtain ⟨j2, h1, h2⟩ := q
    rw [hj] at h1
    exact hs (Option.some.inj h1 ▸ h2)
theorem aget_jobG {s : S} (h : Gd s) {n : Str} {j : Job} (hj : aget s.jobs n = some j) : JobG s.o n j := h.jbs _ (aget_mem hj)
theorem dur_pos {o : Opt} (h : o.Ok) (n : Nat) : 0 < duration o n := by
  unfold duration
  have := h.u1
  exact Int.mul_pos (by omega) (by omega)
theorem Gd.startJob {s : S} (h : Gd s) {n : Str} {j : Job} (hj : aget s.jobs n = some j) : Gd (s.startJob n) ∧ Step s (s.startJob n) ∧ (s.startJob n).cur = s.cur ∧ (s.startJob n).wanted = s.wanted := by
  unfold S.startJob
  rw [hj]
  show Gd (if j.state = .queued then _ else s) ∧ Step s (if j.state = .queued then _ else s) ∧ (if j.state = .queued then _ else s).cur = _ ∧ (if j.state = .queued then _ else s).wanted = _
  by_cases hq : j.state = .queued
  · rw [if_pos hq]
    have g := aget_jobG h hj
    have g2 : j.attempt < s.o.attempts := g.a2 (by rw [hq]; exact fun z => nomatch z)
    obtain ⟨h1, h2⟩ := h.setJob (j' := { j with state := .run, attempt := j.attempt + 1 }) hj ⟨g.len, g.sok, g.tok, g.known, g.told, by have := g.a0; show (0 : Int) ≤ j.attempt + 1; omega, by show j.attempt + 1 ≤ _; omega, fun z => absurd rfl z⟩ (tput s.tms (.att n) (s.clock + duration s.o j.found.length)) (nd_tput h.tnd _ _) fun p hp => by
      rcases mem_tput hp with ⟨q1, q2⟩ | q
      · exact .inl ⟨q1, q2, (no_tim h hj q1).2 (by rw [hq]; exact fun z => nomatch z)⟩
      · rw [q]
        refine .inr ⟨⟨_, by rw [aget_put, if_pos rfl], rfl⟩, ?_⟩
        have := dur_pos h.opt j.found.length
        show s.clock < s.clock + duration s.o j.found.length
        omega
    exact ⟨{ h1 with }, h2 _, rfl, rfl⟩
  · rw [if_neg hq]
    exact ⟨h, Step.refl s, rfl, rfl⟩
theorem Gd.startGo {sn : Snap} : ∀ (l : List Str) {s : S}, Gd s → SnG s sn → (∀ n ∈ l, sn.isRend n = true) → Gd (L2.TP.startGo sn l s) ∧ Step s (L2.TP.startGo sn l s)
  | [], s, h, _, _ => ⟨h, Step.refl s⟩
  | n :: l, s, h, g, hl => by
    unfold L2.TP.startGo
    split
    · exact ⟨h, Step.refl s⟩
    · obtain ⟨h1, h2, h3, h4, j, hj⟩ := h.newJob g (hl n List.mem_cons_self)
      obtain ⟨h5, h6, h7, h8⟩ := h1.startJob hj
      obtain ⟨h9, h10⟩ := Gd.startGo l h5 ⟨g.ok, g.src.trans (h3.symm.trans h7.symm), g.pgs.trans (h4.symm.trans h8.symm)⟩ fun m hm => hl m (List.mem_cons_of_mem _ hm)
      exact ⟨h9, (h2.trans h6).trans h10⟩
theorem Gd.start {s : S} {sn : Snap} (h : Gd s) (g : SnG s sn) : Gd (s.start sn) ∧ Step s (s.start sn) := Gd.startGo _ h g fun _ hn => (List.mem_filter.mp hn).2
end L2.TP
/-! A joined result is in order. -/
namespace L2.TP
open PySem PySem.Spec PyProof.Rows L2
theorem sok_iff {x : Str} : SOk x ↔ ∀ c ∈ x.cps.toList, c < 0x110000 := by
  unfold SOk
  show x.cps.all (fun c => decide (c < 0x110000)) = true ↔ _
  rw [← Array.all_toList, List.all_eq_true]
  constructor
  · intro h c hc
    exact of_decide_eq_true (h c hc)
  · intro h c hc
    exact decide_eq_true (h c hc)
theorem sok_app {a b : Str} (ha : SOk a) (hb : SOk b) : SOk (a ++ b) := by
  rw [sok_iff] at *
  intro c hc
  have e : (a ++ b).cps.toList = a.cps.toList ++ b.cps.toList := Array.toList_append
  rw [e] at hc
  rcases List.mem_append.mp hc with q | q
  · exact ha c q
  · exact hb c q
theorem sok_sign {t : Str} (h : SOk t) {i : Nat} (hi : i < t.length) : SOk (sign t i) := by
  rw [sok_iff] at *
  intro c hc
  have e : (sign t i).cps.toList = [t.cps.getD i 0] := rfl
  rw [e] at hc
  rw [List.mem_singleton.mp hc]
  have e2 : t.cps.getD i 0 = t.cps[i]'hi := by
    rw [Array.getD_eq_getD_getElem?, Array.getElem?_eq_getElem hi] <;> rfl
  rw [e2]
  exact h _ (Array.getElem_mem_toList hi)
theorem segAt_sok {name text : Str} {i e : Nat} {g : Seg} (h : segAt name text i = some (g, e)) : SOk g.inner := by
  have hn := segAt_name h
  unfold segAt at h
  by_cases q1 : sign text i = "<"
  · rw [if_pos q1] at h
    by_cases q2 : Txt.find3 text ">" i < 0
    · simp only [q2, if_true] at h
      cases h
    · simp only [q2] at h
      obtain ⟨h1, h2⟩ := iteNS h
      have hg := (Prod.mk.inj h2).1
      rw [← hg] at hn ⊢
      cases hb : Txt.startswith (cutS text (some ((i : Int) + 1)) (some (Txt.find3 text ">" i))) "@" with
      | true =>
        rw [hb] at hn
        exact name_sok hn
      | false =>
        rw [hb] at hn
        exact name_sok hn
  · rw [if_neg q1] at h
    by_cases q3 : sign text i = "["
    · rw [if_pos q3] at h
      by_cases q2 : Txt.find3 text "]" i < 0
      · simp only [q2, if_true] at h
        cases h
      · simp only [q2] at h
        obtain ⟨h1, h2⟩ := iteSN h
        rw [← (Prod.mk.inj h2).1]
        exact name_sok h1
    · rw [if_neg q3] at h
      cases h
def SegS (g : Seg) : Prop := SOk g.inner ∧ match g with
  | .link s => s.length ≤ 60
  | _ => True
theorem segAt_s {name text : Str} {i e : Nat} {g : Seg} (h : segAt name text i = some (g, e)) : SegS g := by
  refine ⟨segAt_sok h, ?_⟩
  unfold segAt at h
  by_cases q1 : sign text i = "<"
  · rw [if_pos q1] at h
    by_cases q2 : Txt.find3 text ">" i < 0
    · simp only [q2, if_true] at h
      cases h
    · simp only [q2] at h
      obtain ⟨h1, h2⟩ := iteNS h
      have hg := (Prod.mk.inj h2).1
      rw [← hg]
      cases hb : Txt.startswith (cutS text (some ((i : Int) + 1)) (some (Txt.find3 text ">" i))) "@" with
      | true => exact True.intro
      | false => exact True.intro
  · rw [if_neg q1] at h
    by_cases q3 : sign text i = "["
    · rw [if_pos q3] at h
      by_cases q2 : Txt.find3 text "]" i < 0
      · simp only [q2, if_true] at h
        cases h
      · simp only [q2] at h
        obtain ⟨h1, h2⟩ := iteSN h
        rw [← (Prod.mk.inj h2).1]
        exact Nat.le_trans (nm_len h1) (by decide)
    · rw [if_neg q3] at h
      cases h
theorem splitGo_sok {name text : Str} (ht : SOk text) : ∀ (f : Nat) (segs : List Seg) (plain : Str) (at_ : Nat), (∀ g ∈ segs, SegS g) → SOk plain → ∀ g ∈ splitGo name text f segs plain at_, SegS g
  | 0, segs, plain, at_, h, _ => h
  | f + 1, segs, plain, at_, h, hp => by
    have put : ∀ (l : List Seg) (g : Seg), (∀ g ∈ l, SegS g) → SegS g → ∀ x ∈ l ++ [g], SegS x := by
      intro l g a b x hx
      rcases List.mem_append.mp hx with q | q
      · exact a x q
      · rw [List.mem_singleton.mp q]; exact b
    rw [splitGo]
    by_cases hlt : at_ < text.length
    · rw [if_pos hlt]
      cases hs : segAt name text at_ with
      | none => exact splitGo_sok ht f segs _ _ h (sok_app hp (sok_sign ht hlt))
      | some ge =>
        obtain ⟨g, e⟩ := ge
        have hg := segAt_s hs
        show ∀ x ∈ splitGo name text f ((if plain.length != 0 then segs ++ [.txt plain] else segs) ++ [g]) "" e, SegS x
        cases (plain.length != 0) with
        | true => exact splitGo_sok ht f _ _ _ (put _ _ (put _ _ h ⟨hp, True.intro⟩) hg) (sok _)
        | false => exact splitGo_sok ht f _ _ _ (put _ _ h hg) (sok _)
    · rw [if_neg hlt]
      cases (plain.length != 0) with
      | true => exact put _ _ h ⟨hp, True.intro⟩
      | false => exact h
theorem split_sok {name text : Str} (ht : SOk text) : ∀ g ∈ split name text, SegS g := splitGo_sok ht _ _ _ _ (by simp) (sok _)
theorem Res.Ok.chars_sok {r : Res} (h : r.Ok) : SOk r.chars := by
  cases r with
  | text c ls => exact h.2.2.1
  | failed n => exact sok ("" : Str)
  | long n => exact sok ("" : Str)
theorem Res.Ok.links_sn {r : Res} (h : r.Ok) : ∀ l ∈ r.links, SN l := by
  cases r with
  | text c ls => exact h.2.2.2
  | failed n => exact (fun l hl => nomatch hl)
  | long n => exact (fun l hl => nomatch hl)
theorem ladd_mem {l : List Str} {s x : Str} (h : x ∈ ladd l s) : x ∈ l ∨ x = s := by
  unfold ladd at h
  split at h
  · exact .inl h
  · exact mem_app_one h
theorem ladds_mem : ∀ (rl l : List Str) {x : Str}, x ∈ rl.foldl ladd l → x ∈ l ∨ x ∈ rl
  | [], l, x, h => .inl h
  | s :: rl, l, x, h => by
    rcases ladds_mem rl _ h with q | q
    · rcases ladd_mem q with q | q
      · exact .inl q
      · exact .inr (q ▸ List.mem_cons_self)
    · exact .inr (List.mem_cons_of_mem _ q)
def JoinOk (p : Str × List Str) : Prop := SOk p.1 ∧ p.2.length ≤ p.1.length ∧ ∀ l ∈ p.2, SN l
theorem join_add {c : Str} {l : List Str} {r : Res} (h : JoinOk (c, l)) (hr : r.Ok) : JoinOk (c ++ r.chars, r.links.foldl ladd l) := by
  refine ⟨sok_app h.1 hr.chars_sok, ?_, fun x hx => ?_⟩
  · have h1 := ladds_len r.links l
    have h2 := hr.2.1
    have h3 := h.2.1
    show (r.links.foldl ladd l).length ≤ (c ++ r.chars).length
    rw [str_app_len]
    replace h3 : l.length ≤ c.length := h3
    omega
  · rcases ladds_mem _ _ hx with q | q
    · exact h.2.2 x q
    · exact hr.links_sn x q
theorem joinGo_ok {name : Str} : ∀ (segs : List Seg) (f : Told) (c : Str) (l : List Str), (∀ g ∈ segs, SegS g) → (∀ p ∈ f, (resOf p).Ok) → JoinOk (c, l) → JoinOk (joinGo name segs f c l)
  | [], f, c, l, _, _, h => h
  | .txt s :: r, f, c, l, hs, hf, h => by
    refine joinGo_ok r f _ _ (fun g hg => hs g (List.mem_cons_of_mem _ hg)) hf ⟨sok_app h.1 (hs _ List.mem_cons_self).1, ?_, h.2.2⟩
    show _ ≤ (c ++ s).length
    rw [str_app_len]
    exact Nat.le_trans h.2.1 (Nat.le_add_right _ _)
  | .link s :: r, f, c, l, hs, hf, h => by
    have hss : SOk s := (hs _ List.mem_cons_self).1
    refine joinGo_ok r f _ _ (fun g hg => hs g (List.mem_cons_of_mem _ hg)) hf ⟨sok_app (sok_app (sok_app h.1 (sok _)) hss) (sok _), ?_, fun x hx => ?_⟩
    · have h1 := ladd_len l s
      have h3 : l.length ≤ c.length := h.2.1
      show (ladd l s).length ≤ (c ++ ("[" : Str) ++ s ++ ("]" : Str)).length
      rw [str_app_len, str_app_len, str_app_len]
      have e : ("]" : Str).length = 1 := by decide +kernel
      omega
    · rcases ladd_mem hx with q | q
      · exact h.2.2 x q
      · rw [q]; exact ⟨hss, (hs _ List.mem_cons_self).2⟩
  | .incl s :: r, [], c, l, hs, hf, h => h
  | .incl s :: r, p :: f, c, l, hs, hf, h => joinGo_ok r f _ _ (fun g hg => hs g (List.mem_cons_of_mem _ hg)) (fun q hq => hf q (List.mem_cons_of_mem _ hq)) (join_add h (hf p List.mem_cons_self))
  | .indr s :: r, [], c, l, hs, hf, h => h
  | .indr s :: r, p :: f, c, l, hs, hf, h => by
    have hs2 : ∀ g ∈ r, SegS g := fun g hg => hs g (List.mem_cons_of_mem _ hg)
    cases ht : target name (resOf p) with
    | none =>
      rw [joinGo_no ht]
      refine joinGo_ok r f _ _ hs2 (fun q hq => hf q (List.mem_cons_of_mem _ hq)) ⟨sok_app h.1 (sok _), ?_, h.2.2⟩
      show _ ≤ (c ++ ("?" : Str)).length
      rw [str_app_len]
      exact Nat.le_trans h.2.1 (Nat.le_add_right _ _)
    | some led =>
      cases f with
      | nil =>
        have e : joinGo name (.indr s :: r) [p] c l = (c, l) := by simp only [joinGo, ht]
        rw [e]
        exact h
      | cons q f =>
        rw [joinGo_led ht]
        exact joinGo_ok r f _ _ hs2 (fun z hz => hf z (List.mem_cons_of_mem _ (List.mem_cons_of_mem _ hz))) (join_add h (hf q (List.mem_cons_of_mem _ List.mem_cons_self)))
theorem joinResult_ok {name text : Str} {n : Int} {found : Told} (hn : SN name) (ht : SOk text) (hf : ∀ p ∈ found, (resOf p).Ok) : (joinResult name text n found).Ok := by
  unfold joinResult
  split
  · exact ⟨Nat.zero_le _, Nat.zero_le _, hn⟩
  · cases e : firstBad found with
    | some r =>
      obtain ⟨p, hp, rfl⟩ := Option.map_eq_some_iff.mp e
      exact hf p (List.mem_of_find?_eq_some hp)
    | none =>
      have J := joinGo_ok (name := name) (split name text) found "" [] (split_sok ht) hf ⟨sok _, Nat.le_refl _, (fun l hl => nomatch hl)⟩
      show (if (joinGo name (split name text) found "" []).1.length > 200 then Res.long name else .text (joinGo name (split name text) found "" []).1 (srt (joinGo name (split name text) found "" []).2)).Ok
      split
      · exact ⟨Nat.zero_le _, Nat.zero_le _, hn⟩
      · rename_i h
        refine ⟨Nat.le_of_not_lt h, ?_, J.1, fun x hx => J.2.2 x ((srt_perm _).mem_iff.mp hx)⟩
        show (srt _).length ≤ _
        rw [srt_len]
        exact J.2.1
end L2.TP
/-! progress, publish, release, freeze, end, turn keep what holds. -/
namespace L2.TP
open PySem PySem.Spec PyProof.Rows L2
def Gp (k : S → S) : Prop := ∀ s, Gd s → Gd (k s) ∧ Step s (k s)
theorem gp_id : Gp id := fun s h => ⟨h, Step.refl s⟩
theorem Gd.freeze {k : S → S} (hk : Gp k) {s : S} (h : Gd s) : Gd (S.freeze k s) ∧ Step s (S.freeze k s) := by
  have h1 : Gd { s with frz := some ⟨s.src, s.pages, s.count, s.clock⟩, dirty := none, tms := adrop s.tms .pause } :=
    { opt := h.opt, src := h.src, pgs := h.pgs, cch := h.cch, cks := h.cks, jks := h.jks, jbs := h.jbs, frz := fun f e => by
        rw [← Option.some.inj e]
        exact ⟨h.src, h.pgs⟩, tnd := nd_adrop h.tnd _, tim := fun p hp => h.tim p (mem_adrop hp).1, due := fun p hp => h.due p (mem_adrop hp).1, ver := h.ver }
  obtain ⟨h2, h3⟩ := hk _ h1
  have h0 : Step s { s with frz := some ⟨s.src, s.pages, s.count, s.clock⟩, dirty := none, tms := adrop s.tms .pause } := ⟨rfl, rfl, fun p hp => .inl (mem_adrop hp).1⟩
  exact ⟨h2, h0.trans h3⟩
theorem Gd.put {s : S} (h : Gd s) {k : TK} {d : Int} (hk : k = .pause ∨ k = .wait) (hd : s.clock < d) : Gd { s with tms := tput s.tms k d } ∧ Step s { s with tms := tput s.tms k d } := by
  refine ⟨{ opt := h.opt, src := h.src, pgs := h.pgs, cch := h.cch, cks := h.cks, jks := h.jks, jbs := h.jbs, frz := h.frz, tnd := nd_tput h.tnd _ _, tim := fun p hp => ?_, due := fun p hp => ?_, ver := h.ver }, ⟨rfl, rfl, fun p hp => ?_⟩⟩
  · rcases mem_tput hp with q | q
    · exact h.tim p q.1
    · rw [q]
      rcases hk with rfl | rfl
      · exact True.intro
      · exact True.intro
  · rcases mem_tput hp with q | q
    · exact h.due p q.1
    · rw [q]; exact Int.le_of_lt hd
  · rcases mem_tput hp with q | q
    · exact .inl q.1
    · rw [q]; exact .inr hd
theorem Gd.unfreeze {s : S} (h : Gd s) : Gd { s with frz := none } ∧ Step s { s with frz := none } :=
  ⟨{ opt := h.opt, src := h.src, pgs := h.pgs, cch := h.cch, cks := h.cks, jks := h.jks, jbs := h.jbs, frz := (fun f e => nomatch e), tnd := h.tnd, tim := h.tim, due := h.due, ver := h.ver }, ⟨rfl, rfl, fun p hp => .inl hp⟩⟩
theorem Gd.release {k : S → S} (hk : Gp k) {s : S} (h : Gd s) : Gd (S.release k s) ∧ Step s (S.release k s) := by
  obtain ⟨h1, h2⟩ := h.unfreeze
  unfold S.release
  cases e : s.dirty with
  | none =>
    rw [e] at h1 h2
    exact ⟨h1, h2⟩
  | some d =>
    show Gd (if s.clock - d ≥ s.o.wait then _ else _) ∧ Step s (if s.clock - d ≥ s.o.wait then _ else _)
    by_cases c1 : s.clock - d ≥ s.o.wait
    · rw [if_pos c1]
      obtain ⟨h3, h4⟩ := h1.freeze hk
      rw [e] at h3 h4
      exact ⟨h3, (show Step s { s with frz := none, dirty := some d } from ⟨rfl, rfl, fun p hp => .inl hp⟩).trans h4⟩
    · rw [if_neg c1]
      obtain ⟨h3, h4⟩ := h1.put (k := .wait) (d := d + s.o.wait) (.inr rfl) (by show s.clock < _; omega)
      by_cases c2 : s.clock - s.last < s.o.pause
      · obtain ⟨h5, h6⟩ := h3.put (k := .pause) (d := s.last + s.o.pause) (.inl rfl) (by show s.clock < _; omega)
        obtain ⟨h7, h8⟩ := hk _ h5
        have z := ((h2.trans h4).trans h6).trans h8
        rw [e] at h7 z
        dsimp only
        rw [if_pos c2]
        exact ⟨h7, z⟩
      · obtain ⟨h7, h8⟩ := hk _ h3
        have z := (h2.trans h4).trans h8
        rw [e] at h7 z
        dsimp only
        rw [if_neg c2]
        exact ⟨h7, z⟩
theorem greatGo_sub (rs : Str → Res) : ∀ (k : Nat) (kept : List Str), ∀ n ∈ greatGo rs k kept, n ∈ kept
  | 0, kept, n, h => h
  | k + 1, kept, n, h => (List.mem_filter.mp (greatGo_sub rs k _ n h)).1
theorem greatGo_len (rs : Str → Res) : ∀ (k : Nat) (kept : List Str), (greatGo rs k kept).length ≤ kept.length
  | 0, kept => Nat.le_refl _
  | k + 1, kept => Nat.le_trans (greatGo_len rs k _) (List.length_filter_le _ _)
theorem great_sub {rs : Str → Res} {pages : List Str} {n : Str} (h : n ∈ greatest rs pages) : n ∈ pages := (List.mem_filter.mp (greatGo_sub rs _ _ n h)).1
theorem great_len {rs : Str → Res} {pages : List Str} : (greatest rs pages).length ≤ pages.length := Nat.le_trans (greatGo_len rs _ _) (List.length_filter_le _ _)
theorem behind_len {rs : Str → Res} {pages : List Str} : (closedB rs pages).length ≤ pages.length := by
  have z := flat_len (behindOf rs (greatest rs pages)) 1 pages fun n _ => by
    unfold behindOf
    split
    · exact Nat.le_refl 1
    · split
      · exact Nat.zero_le _
      · exact Nat.le_refl 1
  unfold closedB
  omega
def S.rs (sn : Snap) (n : Str) : Res := (sn.known n).getD nothing
theorem rs_ok {s : S} {sn : Snap} (g : SnG s sn) (n : Str) : (S.rs sn n).Ok := by
  unfold S.rs
  cases e : sn.known n with
  | none => exact nothing_ok
  | some r => exact g.ok.known e
theorem openLink_mem {ls ks : List Str} {n : Str} (h : openLink ls ks = some n) : n ∈ ls := List.mem_of_find?_eq_some h
theorem ver_ok {s : S} {sn : Snap} (h : Gd s) (g : SnG s sn) (number count time : Int) : VerG ⟨number, count, time, (greatest (S.rs sn) s.wanted).map fun n => (n, (S.rs sn n).chars), closedB (S.rs sn) s.wanted⟩ := by
  have hw := h.wanted
  have hwl := hw.len
  refine ⟨fun p hp => ?_, fun p hp => ?_, ?_, ?_⟩
  · obtain ⟨n, hn, rfl⟩ := List.mem_map.mp hp
    exact ⟨ln_sn (hw.2 n (great_sub hn)), (rs_ok g n).chars_sok, (rs_ok g n).1⟩
  · obtain ⟨n, hn, hp⟩ := List.mem_flatMap.mp hp
    have hns := ln_sn (hw.2 n hn)
    unfold behindOf at hp
    split at hp
    · rw [List.mem_singleton.mp hp]
      exact ⟨hns, rs_ok g n⟩
    · split at hp
      · exact nomatch hp
      · rw [List.mem_singleton.mp hp]
        refine ⟨hns, ?_⟩
        show (Rsn.link (openLink (S.rs sn n).links (greatest (S.rs sn) s.wanted))).Sk
        cases e : openLink (S.rs sn n).links (greatest (S.rs sn) s.wanted) with
        | none => exact True.intro
        | some m => exact (rs_ok g n).links_sn m (openLink_mem e)
  · show ((greatest (S.rs sn) s.wanted).map fun n => (n, (S.rs sn n).chars)).length ≤ 8
    rw [List.length_map]
    exact Nat.le_trans great_len hwl
  · exact Nat.le_trans behind_len hwl
theorem Gd.publish {k : S → S} (hk : Gp k) {s : S} {sn : Snap} (h : Gd s) (g : SnG s sn) : Gd (S.publish k s sn) ∧ Step s (S.publish k s sn) := by
  unfold S.publish
  cases e : s.frz with
  | none =>
    refine ⟨{ opt := h.opt, src := h.src, pgs := h.pgs, cch := h.cch, cks := h.cks, jks := h.jks, jbs := h.jbs, frz := fun f z => h.frz f (e.trans z), tnd := nd_adrop h.tnd _, tim := fun p hp => h.tim p (mem_adrop hp).1, due := fun p hp => h.due p (mem_adrop hp).1, ver := ver_ok h g _ _ _ }, ⟨rfl, rfl, fun p hp => .inl (mem_adrop hp).1⟩⟩
  | some f =>
    have key : ∀ v : Ver, VerG v → Gd (S.release k { s with published := s.published + 1, ver := v }) ∧ Step s (S.release k { s with published := s.published + 1, ver := v }) := fun v hv => by
      obtain ⟨h1, h2⟩ := Gd.release hk (s := { s with published := s.published + 1, ver := v })
        { opt := h.opt, src := h.src, pgs := h.pgs, cch := h.cch, cks := h.cks, jks := h.jks, jbs := h.jbs, frz := h.frz, tnd := h.tnd, tim := h.tim, due := h.due, ver := hv }
      have h0 : Step s { s with published := s.published + 1, ver := v } := ⟨rfl, rfl, fun p hp => .inl hp⟩
      exact ⟨h1, h0.trans h2⟩
    have z := key _ (ver_ok h g (if PyData.eqv (encPB ((greatest (S.rs sn) s.wanted).map fun n => (n, (S.rs sn n).chars)) (closedB (S.rs sn) s.wanted)) (encPB s.ver.pages s.ver.behind) then s.ver.number else s.ver.number + 1) f.count f.time)
    rw [e] at z
    exact z
theorem startGo_cur {sn : Snap} : ∀ (l : List Str) (s : S), (startGo sn l s).cur = s.cur ∧ (startGo sn l s).wanted = s.wanted
  | [], s => ⟨rfl, rfl⟩
  | n :: l, s => by
    unfold startGo
    split
    · exact ⟨rfl, rfl⟩
    · obtain ⟨h1, h2⟩ := startGo_cur (sn := sn) l ((s.newJob sn n).startJob n)
      have e1 : ((s.newJob sn n).startJob n).cur = s.cur ∧ ((s.newJob sn n).startJob n).wanted = s.wanted := by
        have a1 : (s.newJob sn n).cur = s.cur ∧ (s.newJob sn n).wanted = s.wanted := by
          unfold S.newJob
          split <;> exact ⟨rfl, rfl⟩
        have a2 : ∀ t : S, (t.startJob n).cur = t.cur ∧ (t.startJob n).wanted = t.wanted := by
          intro t
          unfold S.startJob
          split
          · split <;> exact ⟨rfl, rfl⟩
          · exact ⟨rfl, rfl⟩
        exact ⟨(a2 _).1.trans a1.1, (a2 _).2.trans a1.2⟩
      exact ⟨h1.trans e1.1, h2.trans e1.2⟩
theorem gp_progress {k : S → S} (hk : Gp k) : Gp (S.progressK k) := by
  intro s h
  obtain ⟨h1, h2⟩ := h.forget
  obtain ⟨h3, h4⟩ := h1.dropJobs s.forget.snap
  have g1 := h1.snap
  obtain ⟨c1, c2⟩ := dropGo_cur (sn := s.forget.snap) (req := s.forget.snap.required) s.forget.jobs s.forget
  have g2 : SnG (s.forget.dropJobs s.forget.snap) s.forget.snap := ⟨g1.ok, g1.src.trans c1.symm, g1.pgs.trans c2.symm⟩
  obtain ⟨h5, h6⟩ := h3.start g2
  obtain ⟨c3, c4⟩ := startGo_cur (sn := s.forget.snap) s.forget.snap.renderable (s.forget.dropJobs s.forget.snap)
  have g3 : SnG ((s.forget.dropJobs s.forget.snap).start s.forget.snap) s.forget.snap := ⟨g2.ok, g2.src.trans c3.symm, g2.pgs.trans c4.symm⟩
  show Gd (if (aget (s.forget.dropJobs s.forget.snap).tms .pause).isSome then _ else _) ∧ Step s (if (aget (s.forget.dropJobs s.forget.snap).tms .pause).isSome then _ else _)
  cases (aget (s.forget.dropJobs s.forget.snap).tms .pause).isSome with
  | true => exact ⟨h3, h2.trans h4⟩
  | false =>
    show Gd (if (s.forget.snap.ready && _) = true then _ else _) ∧ Step s (if (s.forget.snap.ready && _) = true then _ else _)
    split
    · obtain ⟨h7, h8⟩ := h5.publish hk g3
      exact ⟨h7, ((h2.trans h4).trans h6).trans h8⟩
    · exact ⟨h5, (h2.trans h4).trans h6⟩
theorem gp_prog0 : Gp S.prog0 := gp_progress gp_id
theorem gp_prog : Gp S.prog := gp_progress gp_prog0
theorem delayGo_pos : ∀ (k : Nat) (t : Int), 0 < t → 0 < delayGo k t
  | 0, t, h => h
  | k + 1, t, h => delayGo_pos k _ (by omega)
theorem delay_pos {o : Opt} (h : o.Ok) (n : Int) : 0 < delay o n := by
  unfold delay
  have h1 := h.m1
  have h2 := delayGo_pos (n - 1).toNat o.delay (by have := h.d1; omega)
  omega
theorem CchOk.add {c : Cch} (h : CchOk c) {r : Rend} (hr : r.Ok) : CchOk (cadd c r) := by
  intro p hp
  rcases aput_mem hp with q | q
  · exact h p q
  · rw [q]
    refine ⟨by rw [List.length_take]; omega, fun x hx => ?_⟩
    rcases List.mem_cons.mp (List.mem_of_mem_take hx) with e | e
    · rw [e]; exact hr
    · exact (h.get r.name).2 x (List.mem_filter.mp e).1
theorem Gd.ended {s : S} (h : Gd s) {n : Str} {j : Job} (hj : aget s.jobs n = some j) (hs : j.state = .run) (hn : ∀ p ∈ s.tms, p.1 ≠ .att n) : Gd (s.ended n) ∧ Step s (s.ended n) := by
  have g := aget_jobG h hj
  unfold S.ended
  rw [hj]
  show Gd (if j.attempt ≤ nfail j.text ∧ j.attempt < s.o.attempts then _ else _) ∧ Step s (if j.attempt ≤ nfail j.text ∧ j.attempt < s.o.attempts then _ else _)
  by_cases c : j.attempt ≤ nfail j.text ∧ j.attempt < s.o.attempts
  · rw [if_pos c]
    obtain ⟨h1, h2⟩ := h.setJob (j' := { j with state := .back }) hj ⟨g.len, g.sok, g.tok, g.known, g.told, g.a0, g.a1, fun _ => c.2⟩ (tput s.tms (.del n) (s.clock + delay s.o j.attempt)) (nd_tput h.tnd _ _) fun p hp => by
      rcases mem_tput hp with ⟨q1, q2⟩ | q
      · exact .inl ⟨q1, hn p q1, q2⟩
      · rw [q]
        refine .inr ⟨⟨_, by rw [aget_put, if_pos rfl], rfl⟩, ?_⟩
        have := delay_pos h.opt j.attempt
        show s.clock < s.clock + delay s.o j.attempt
        omega
    exact ⟨h1, h2 _⟩
  · rw [if_neg c]
    have hln := aget_LN h.jks hj
    have hr : Rend.Ok ⟨n, j.text, j.found, joinResult n j.text s.o.attempts j.found⟩ := ⟨ln_sok hln, g.sok, g.tok, joinResult_ok (ln_sn hln) g.sok fun p hp => by
      obtain ⟨r, hr, ho⟩ := g.fok p hp
      unfold resOf
      rw [hr]
      exact ho⟩
    refine ⟨{ opt := h.opt, src := h.src, pgs := h.pgs, cch := h.cch.add hr, cks := h.cks.put hln, jks := h.jks.filter _, jbs := fun p hp => h.jbs p (mem_adrop hp).1, frz := h.frz, tnd := h.tnd, tim := fun p hp => ?_, due := h.due, ver := h.ver }, ⟨rfl, rfl, fun p hp => .inl hp⟩⟩
    refine (h.tim p hp).mono p.1 fun m hm => aget_adrop fun e => ?_
    subst e
    rcases hm with hm | hm
    · exact hn p hp hm
    · exact (no_tim h hj hp).2 (by rw [hs]; exact fun z => nomatch z) hm
theorem Gd.queue {s : S} (h : Gd s) {n : Str} {j : Job} (hj : aget s.jobs n = some j) (hs : j.state = .back) (hn : ∀ p ∈ s.tms, p.1 ≠ .del n) : Gd (s.queue n) ∧ Step s (s.queue n) := by
  have g := aget_jobG h hj
  unfold S.queue
  rw [hj]
  obtain ⟨h1, h2⟩ := h.setJob (j' := { j with state := .queued }) hj ⟨g.len, g.sok, g.tok, g.known, g.told, g.a0, g.a1, fun _ => g.a2 (by rw [hs]; exact fun z => nomatch z)⟩ s.tms h.tnd fun p hp => .inl ⟨hp, (no_tim h hj hp).1 (by rw [hs]; exact fun z => nomatch z), hn p hp⟩
  exact ⟨h1, h2 _⟩
/-! ### a turn -/
def tstep (f : Option (Int × TK)) (p : TK × Int) : Option (Int × TK) := match f with
  | none => some (p.2, p.1)
  | some q => if p.2 < q.1 then some (p.2, p.1) else some q
theorem tfirst_eq (t : Tms) : tfirst t = t.foldl tstep none := rfl
theorem tfirst_go : ∀ (t : Tms) (f : Option (Int × TK)), match t.foldl tstep f with
    | none => t = [] ∧ f = none
    | some (d, k) => (f = some (d, k) ∨ (k, d) ∈ t) ∧ (∀ p ∈ t, d ≤ p.2) ∧ ∀ q, f = some q → d ≤ q.1
  | [], none => ⟨rfl, rfl⟩
  | [], some (d, k) => ⟨.inl rfl, (fun p hp => nomatch hp), fun q e => by rw [← Option.some.inj e]; exact Int.le_refl _⟩
  | p :: t, f => by
    rw [List.foldl_cons]
    have ih := tfirst_go t (tstep f p)
    revert ih
    generalize List.foldl tstep (tstep f p) t = r
    intro ih
    cases r with
    | none =>
      obtain ⟨_, h2⟩ := ih
      cases f with
      | none => cases h2
      | some q =>
        unfold tstep at h2
        simp only at h2
        split at h2 <;> cases h2
    | some dk =>
      obtain ⟨d, k⟩ := dk
      obtain ⟨h1, h2, h3⟩ := ih
      cases f with
      | none =>
        have h4 := h3 (p.2, p.1) rfl
        refine ⟨.inr ?_, fun x hx => ?_, (fun q e => nomatch e)⟩
        · rcases h1 with e | e
          · have e2 := Option.some.inj e
            have e3 : p = (k, d) := by
              rw [← (Prod.mk.inj e2).1, ← (Prod.mk.inj e2).2]
            rw [e3]
            exact List.mem_cons_self
          · exact List.mem_cons_of_mem _ e
        · rcases List.mem_cons.mp hx with e | e
          · rw [e]; exact h4
          · exact h2 x e
      | some q =>
        unfold tstep at h1 h3
        simp only at h1 h3
        by_cases c : p.2 < q.1
        · rw [if_pos c] at h1 h3
          have h4 := h3 _ rfl
          refine ⟨.inr ?_, fun x hx => ?_, fun z e => ?_⟩
          · rcases h1 with e | e
            · have e2 := Option.some.inj e
              have e3 : p = (k, d) := by
                rw [← (Prod.mk.inj e2).1, ← (Prod.mk.inj e2).2]
              rw [e3]
              exact List.mem_cons_self
            · exact List.mem_cons_of_mem _ e
          · rcases List.mem_cons.mp hx with e | e
            · rw [e]; exact h4
            · exact h2 x e
          · rw [← Option.some.inj e]
            have h5 : d ≤ p.2 := h4
            omega
        · rw [if_neg c] at h1 h3
          have h4 := h3 _ rfl
          refine ⟨?_, fun x hx => ?_, fun z e => ?_⟩
          · rcases h1 with e | e
            · exact .inl e
            · exact .inr (List.mem_cons_of_mem _ e)
          · rcases List.mem_cons.mp hx with e | e
            · rw [e]
              omega
            · exact h2 x e
          · rw [← Option.some.inj e]
            exact h4
theorem tfirst_some {t : Tms} {d : Int} {k : TK} (h : tfirst t = some (d, k)) : (k, d) ∈ t ∧ ∀ p ∈ t, d ≤ p.2 := by
  have z := tfirst_go t none
  rw [tfirst_eq] at h
  rw [h] at z
  obtain ⟨h1, h2, _⟩ := z
  rcases h1 with e | e
  · cases e
  · exact ⟨e, h2⟩
theorem tfirst_none {t : Tms} (h : tfirst t = none) : t = [] := by
  have z := tfirst_go t none
  rw [tfirst_eq] at h
  rw [h] at z
  exact z.1
/-- the state at the firing -/
def S.fired (s : S) (d : Int) (k : TK) : S := { s with clock := d, tms := adrop s.tms k }
theorem Gd.fired {s : S} (h : Gd s) {d : Int} {k : TK} (e : tfirst s.tms = some (d, k)) : Gd (s.fired d k) := by
  obtain ⟨_, h2⟩ := tfirst_some e
  exact { opt := h.opt, src := h.src, pgs := h.pgs, cch := h.cch, cks := h.cks, jks := h.jks, jbs := h.jbs, frz := h.frz, tnd := nd_adrop h.tnd _, tim := fun p hp => h.tim p (mem_adrop hp).1, due := fun p hp => h2 p (mem_adrop hp).1, ver := h.ver }
theorem Gd.fire {s : S} (h : Gd s) {d : Int} {k : TK} (e : tfirst s.tms = some (d, k)) : Gd (S.fire (s.fired d k) k) ∧ Step (s.fired d k) (S.fire (s.fired d k) k) := by
  have h1 := h.fired e
  obtain ⟨hm, _⟩ := tfirst_some e
  have ht := h.tim _ hm
  cases k with
  | pause => exact gp_prog _ h1
  | wait => exact h1.freeze gp_prog
  | att n =>
    obtain ⟨j, hj, hs⟩ := ht
    obtain ⟨h2, h3⟩ := h1.ended (n := n) hj hs fun p hp => (mem_adrop hp).2
    obtain ⟨h4, h5⟩ := gp_prog _ h2
    exact ⟨h4, h3.trans h5⟩
  | del n =>
    obtain ⟨j, hj, hs⟩ := ht
    obtain ⟨h2, h3⟩ := h1.queue (n := n) hj hs fun p hp => (mem_adrop hp).2
    obtain ⟨h4, h5⟩ := gp_prog _ h2
    exact ⟨h4, h3.trans h5⟩
theorem Gd.turn {s : S} (h : Gd s) : Gd s.turn := by
  unfold S.turn
  cases e : tfirst s.tms with
  | none => exact h
  | some dk => exact (h.fire e).1
end L2.TP
/-! Publisher: running, text, forget, is_valid. -/
namespace L2.TP
open PySem PySem.Spec PyProof.Rows L2
section
variable {P : Program} {w : World} {K : PySem.W.Frag} {mg : Str → Option Value} {base : Heap} {H H' : Hp}
theorem pks_nd : pks.Nodup := by decide +kernel
theorem jks_nd : jks.Nodup := by decide +kernel
theorem fks_nd : fks.Nodup := by decide +kernel
theorem zip_filter_len {α β : Type} (p : β → Bool) : ∀ (l : List α) (m : List β), l.length = m.length → ((l.zip m).filter fun q => p q.2).length = (m.filter p).length
  | [], [], _ => rfl
  | a :: l, b :: m, h => by
    have ih := zip_filter_len p l m (Nat.succ.inj h)
    rw [List.zip_cons_cons]
    cases e : p b with
    | true => rw [List.filter_cons_of_pos (by exact e), List.filter_cons_of_pos e, List.length_cons, List.length_cons, ih]
    | false => rw [List.filter_cons_of_neg (by simp [e]), List.filter_cons_of_neg (by simp [e]), ih]
theorem st_run (x : JS) : decide (V.str x.enc = V.str ("running" : Str)) = decide (x = .run) := by cases x <;> decide +kernel
theorem st_queued (x : JS) : decide (V.str x.enc = V.str ("queued" : Str)) = decide (x = .queued) := by cases x <;> decide +kernel
def spRunning (K : PySem.W.Frag) (P : Program) (w : World) : Sp := fun vs H Q _ => ∃ (own : Addr → Prop) (L : Lay) (s : S), vs = [.ref L.p] ∧ Pub K P w own L s H ∧ s.jobs.length ≤ 100 ∧ ∀ H', Same H H' → Q (.int s.running) H'
theorem ok_running (T : Txt w K mg) : FnOk P w K mg base CX0 1 (He.ma K (He.ga K "Publisher") "_running") (fd_Publisher__running K) ["self"] (spRunning K P w) := by
  refine T.f_Publisher__running.ok sc_Publisher__running (fun vs H Q E h => ?_) (fun cdv A outer s H vs Q E hr h => ?_)
  · obtain ⟨a, b, c, rfl, _⟩ := h
    rfl
  · obtain ⟨own, L, s0, rfl, ⟨op, sd, pg, fv, vv, X⟩, hjl, kk⟩ := h
    have hu := hu_of hr
    obtain ⟨dx, hp⟩ := X.pub
    obtain ⟨_, kvs, hjd, hjr, hnd⟩ := X.atj
    refine ⟨_, PSs.nox ((pss_one (ps_ret (pe_callB call_len_seq (by rfl) T.z_len PySem.boot_len (pa_cons (pe_lock (pe_lc (own := [("job", 1)]) (g := gName 1) rfl sc_Publisher__running.nd (pi_values (pe_fld (pv 0) rfl)) (blkOk_by (own := [("job", 1)]) (N := ["self", "job"]) (sc := defScope s_Publisher__running) (by decide +kernel)) (fun _ _ _ _ _ => (pg_name (i := 1) sc_Publisher__running.nd rfl (.inl rfl))) (fun _ _ _ _ _ => pts_one (pt_cmpR op_eq (pe_fldK (K := K) rfl (pv 1) rfl) (pe_gs T.s_RUNNING) (nomark _))) (fun _ _ _ _ _ => (pv 1)))) pa_nil))))), ?_⟩
    refine ⟨L.jd, _, hjd, True.intro, fun od => ?_⟩
    have hp1 : upd H L.jd (.frz od (.dK kvs)) L.p = _ := but_upd _ _ (ne_of hp hjd fun z => nomatch z) hp
    have hlen : kvs.length = s0.jobs.length := hjr.len
    refine ⟨_, rfl, L.p, _, dx, _, _, rfl, hp1, T.cl_Publisher, T.na_Publisher__jobs, zip_look (i := 8) (pks_nd) rfl rfl, L.jd, od, kvs, rfl, upd_same, fun D hD => lc_items (kvs.zip s0.jobs) (fun q => if decide (q.2.2.state = .run) = true then some q.1.2 else none) (by rw [List.length_zip]; omega) hD (fun i q H2 hi s2 => ?_) fun H2 s2 hd2 => ?_⟩
    · obtain ⟨⟨k, v⟩, ⟨n, j⟩⟩ := q
      obtain ⟨h1, h2⟩ := List.getElem?_zip_eq_some.mp hi
      obtain ⟨q, hq1, hq2, hq3⟩ := hjr.get_at h1
      have e : q = (n, j) := Option.some.inj (hq1.symm.trans h2)
      subst e
      obtain ⟨a, fl, rfl, ha1, ⟨dxj, ha2⟩, ha3⟩ := hq3
      have ha4 : H2 a = _ := s2 _ _ (but_upd _ _ (ne_of ha2 hjd fun z => nomatch z) ha2)
      refine ⟨⟨s2 _ _ upd_same, (List.getElem?_eq_some_iff.mp h1).1⟩, fun x H3 hy Kt Kf kt kf => ?_⟩
      obtain ⟨rfl, k', hk'⟩ := hy
      have e : x = .ref a := by
        have z := Option.some.inj (h1.symm.trans hk')
        exact (Prod.mk.inj z).2.symm
      subst e
      refine ⟨rfl, _, rfl, a, _, dxj, _, _, rfl, ha4, T.cl_Job, T.na_Job_state, zip_look (i := 3) (jks_nd) rfl rfl, rfl, _, rfl, ?_⟩
      cases hs : decide (j.state = .run) with
      | true => exact ifY ((st_run _).trans hs) ⟨_, rfl, kt _ _ (by simp [hs]) (Same.refl _)⟩
      | false => exact ifN ((st_run _).trans hs) (kf _ (by simp [hs]) (Same.refl _))
    · rw [filterMap_if (kvs.zip s0.jobs) (fun q => decide (q.2.2.state = .run)) (fun q => q.1.2)] at hd2
      have hlz := zip_filter_len (fun p : Str × Job => decide (p.2.state = .run)) kvs s0.jobs hlen
      have hjd2 : H2 L.jd = some (.frz od (.dK kvs)) := s2 _ _ upd_same
      have sF : Same H (upd H2 L.jd (.dK kvs)) := fun b o hb => by
        by_cases e : b = L.jd
        · rw [e, upd_same]
          rw [e, hjd] at hb
          exact hb
        · rw [upd_ne e]
          exact s2 b o (by rw [upd_ne e]; exact hb)
      have hD2 : upd H2 L.jd (.dK kvs) D = _ := but_upd _ _ (ne_of hd2 hjd2 fun z => nomatch z) hd2
      refine ⟨⟨hjd2, by rw [List.length_zip]; omega⟩, hjd2, D, _, rfl, .inl (sqL_of hD2), ?_⟩
      rw [List.length_map, hlz]
      exact kk _ sF
theorem src_get {kvs : List (L2.Key × V)} {src : Src} (h : DR (fun v x => v = .str x) kvs src) (n : Str) : (valV kvs (.inr n)).getD .non = ov (aget src n) := by
  obtain ⟨z1, z2⟩ := h.get n
  cases q : aget src n with
  | none => rw [z1 q] <;> rfl
  | some t =>
    obtain ⟨v, hv, rfl⟩ := z2 t q
    rw [hv] <;> rfl
def spText (K : PySem.W.Frag) (P : Program) (w : World) : Sp := fun vs H Q _ => ∃ (own : Addr → Prop) (L : Lay) (s : S) (n : Str), vs = [.ref L.p, .str n] ∧ Pub K P w own L s H ∧ Q (ov (s.text n)) H
theorem ok_text (T : Txt w K mg) : FnOk P w K mg base CX0 1 (He.ma K (He.ga K "Publisher") "_text") (fd_Publisher__text K) ["self", "name"] (spText K P w) := by
  refine T.f_Publisher__text.ok sc_Publisher__text (fun vs H Q E h => ?_) (fun cdv A outer s H vs Q E hr h => ?_)
  · obtain ⟨a, b, c, d, rfl, _⟩ := h
    rfl
  · obtain ⟨own, L, s0, n, rfl, ⟨op, sd, pg, fv, vv, X⟩, kk⟩ := h
    have hu := hu_of hr
    obtain ⟨dx, hp⟩ := X.pub
    refine ⟨_, PSs.nox ((pss_cons (ps_set (i := 2) sc_Publisher__text.nd rfl (.inl rfl) (pe_ifExp (pt_cmpR op_isN (pe_fld (pv 0) rfl) pe_non (nomark _)) (pe_fld (pv 0) rfl) (pe_fld (pe_fld (pv 0) rfl) rfl)))
      (pss_one (ps_ret (pe_dget1 hu (pv 2) (pv 1) ⟨rfl, rfl, rfl, rfl⟩))))), ?_⟩
    refine ⟨_, rfl, L.p, _, dx, _, _, rfl, hp, T.cl_Publisher, T.na_Publisher__frozen, zip_look (i := 9) (pks_nd) rfl rfl, rfl, _, rfl, ?_⟩
    have hz := X.frz
    unfold S.text at kk
    cases hf : s0.frz with
    | none =>
      rw [hf] at hz kk
      obtain rfl : fv = .non := hz
      obtain ⟨_, kvs, hsd, hsr⟩ := X.src
      refine ifY rfl ⟨_, rfl, L.p, _, dx, _, _, rfl, hp, T.cl_Publisher, T.na_Publisher__sources, zip_look (i := 2) (pks_nd) rfl rfl, ?_⟩
      refine ⟨_, rfl, sd, rfl, .inl ⟨_, .of hsd⟩, _, rfl, _, .inl ⟨kvs, .inr n, .of hsd, rfl, rfl⟩, ?_⟩
      rw [src_get hsr]
      exact kk
    | some f =>
      rw [hf] at hz kk
      obtain ⟨fa, fsd, fpg, rfl, _, ⟨dxf, hfa⟩, ⟨_, kvs, hsd, hsr⟩, _⟩ := hz
      refine ifN rfl ⟨_, rfl, L.p, _, dx, _, _, rfl, hp, T.cl_Publisher, T.na_Publisher__frozen, zip_look (i := 9) (pks_nd) rfl rfl, fa, _, dxf, _, _, rfl, hfa, T.cl_Frozen, T.na_Frozen_sources, zip_look (i := 0) (fks_nd) rfl rfl, ?_⟩
      refine ⟨_, rfl, fsd, rfl, .inl ⟨_, .of hsd⟩, _, rfl, _, .inl ⟨kvs, .inr n, .of hsd, rfl, rfl⟩, ?_⟩
      rw [src_get hsr]
      exact kk
/-- a method that changes the state by f, and returns None -/
def spM (K : PySem.W.Frag) (P : Program) (w : World) (pre : S → Prop) (f : S → S) : Sp := fun vs H Q _ => ∃ (own : Addr → Prop) (L : Lay) (s : S), vs = [.ref L.p] ∧ Pub K P w own L s H ∧ Gd s ∧ pre s ∧ ∀ H', Pub K P w own L (f s) H' → Fr own H H' → Q .non H'
theorem ok_forget (T : Txt w K mg) : FnOk P w K mg base CX0 2 (He.ma K (He.ga K "Publisher") "_forget") (fd_Publisher__forget K) ["self"] (spM K P w (fun _ => True) S.forget) := by
  have G_Cache_keep := ok_cache_keep (P := P) (base := base) T
  refine T.f_Publisher__forget.ok sc_Publisher__forget (fun vs H Q E h => ?_) (fun cdv A outer s H vs Q E hr h => ?_)
  · obtain ⟨a, b, c, rfl, _⟩ := h
    rfl
  · obtain ⟨own, L, s0, rfl, ⟨op, sd, pg, fv, vv, X⟩, hg, _, kk⟩ := h
    have hu := hu_of hr
    obtain ⟨dx, hp⟩ := X.pub
    refine ⟨_, PSs.nox ((pss_cons (ps_set (i := 1) sc_Publisher__forget.nd rfl (.inl rfl) (pe_callTy (call_listD rfl) (by rfl) T.z_list (by decide +kernel) (pa_cons (pe_fld (pv 0) rfl) pa_nil)))
      (pss_cons (ps_if (pt_cmpR op_notN (pe_fld (pv 0) rfl) pe_non (nomark _)) (pss_one (ps_expr (pe_bm PySem.F.plainAttrs_list PySem.F.slot_list_extend PySem.F.type_list_extend (mt_extD rfl) (pv 1) (pa_cons (pe_fld (pe_fld (pv 0) rfl) rfl) pa_nil)))) pss_nil)
      (pss_one (ps_expr (pe_meth (pe_fld (pv 0) rfl) T.cl_Cache T.mt_Cache_keep G_Cache_keep (hr.mono (by omega)) T.b_Cache_keep .nil pass0 (pa_cons (pv 1) pa_nil))))))), ?_⟩
    obtain ⟨_, kvs, hsd, hsr⟩ := X.src
    refine ⟨_, rfl, L.p, _, dx, _, _, rfl, hp, T.cl_Publisher, T.na_Publisher__sources, zip_look (i := 2) (pks_nd) rfl rfl, sd, kvs, rfl, .of hsd, fun q hq => ?_⟩
    rw [keysV hsr]
    have s1 := same_new hq (o := .lst ((s0.src.map (·.1)).map V.str))
    have hp1 := s1 _ _ hp
    have fin : ∀ (H1 : Hp), Same H H1 → H1 q = some (.lst (s0.names.map V.str)) → ∃ a C dx fs v, (V.ref L.p) = .ref a ∧ H1 a = some (.ins C dx fs) ∧ Cls K C ∧ NoAttr K C "_cache" ∧ fs.lookup ("_cache" : Str) = some v ∧
        ∃ a dx fs, v = .ref a ∧ H1 a = some (.ins (He.ga K "Cache") dx fs) ∧ fs.lookup ("keep" : Str) = none ∧ (spCKeep K) [v, .ref q] H1 (fun _ H2 => Q .non H2) E0 := by
      intro H1 sH hq1
      have X1 := X.same sH
      obtain ⟨dxc, hca⟩ := X1.cch
      refine ⟨L.p, _, dx, _, _, rfl, (sH _ _ hp), T.cl_Publisher, T.na_Publisher__cache, zip_look (i := 6) (pks_nd) rfl rfl, L.ca, dxc, _, rfl, hca, zip_none (by decide +kernel), own, L.ca, L.cd, q, s0.cache, s0.names, rfl, ⟨X1.cch, X1.atc, X1.fresh⟩, hq1, hg.cks.1, Nat.le_trans hg.cks.len (by decide), fun H2 bt hc => ?_⟩
      refine kk H2 ⟨op, sd, pg, fv, vv, X1.setc bt hc⟩ ((fr_same sH).trans ?_)
      obtain ⟨hcdo, _, hcd, _⟩ := X1.atc
      exact fr_but bt hcd (fun _ z => nomatch z) hcdo
    refine ⟨_, rfl, L.p, _, dx, _, _, rfl, hp1, T.cl_Publisher, T.na_Publisher__frozen, zip_look (i := 9) (pks_nd) rfl rfl, rfl, _, rfl, ?_⟩
    have hz := X.frz
    cases hf : s0.frz with
    | none =>
      rw [hf] at hz
      obtain rfl : fv = .non := hz
      have hnm : s0.names = s0.src.map (·.1) := by
        unfold S.names
        rw [hf, List.append_nil]
      obtain ⟨a, C, dx1, fs, v, e1, e2, e3, e4, e5, a2, dx2, fs2, e6, e7, e8, e9⟩ := fin _ s1 (by rw [hnm]; exact upd_same)
      exact ifN rfl ⟨_, rfl, a, C, dx1, fs, v, e1, e2, e3, e4, e5, a2, dx2, fs2, e6, e7, e8, _, rfl, e9⟩
    | some f =>
      rw [hf] at hz
      obtain ⟨fa, fsd, fpg, rfl, _, ⟨dxf, hfa⟩, ⟨_, kvf, hfsd, hfsr⟩, _⟩ := hz
      have hfa1 := s1 _ _ hfa
      have hnm : s0.names = s0.src.map (·.1) ++ f.src.map (·.1) := by
        unfold S.names
        rw [hf]
      refine ifY rfl ⟨_, rfl, tyL upd_same, _, rfl, L.p, _, dx, _, _, rfl, hp1, T.cl_Publisher, T.na_Publisher__frozen, zip_look (i := 9) (pks_nd) rfl rfl, fa, _, dxf, _, _, rfl, hfa1, T.cl_Frozen, T.na_Frozen_sources, zip_look (i := 0) (fks_nd) rfl rfl, q, fsd, _, kvf, rfl, rfl, upd_same, .of (s1 _ _ hfsd), ?_, ?_⟩
      · have h1 := hg.src.1.len
        have h2 := (hg.frz f hf).1.1.len
        rw [List.length_map, List.length_map, hfsr.len]
        exact small5' (by omega)
      · rw [keysV hfsr, upd2]
        obtain ⟨a, C, dx1, fs, v, e1, e2, e3, e4, e5, a2, dx2, fs2, e6, e7, e8, e9⟩ := fin (upd H q (.lst ((s0.src.map (·.1)).map V.str ++ (f.src.map (·.1)).map V.str))) (same_new hq) (by rw [hnm, List.map_append]; exact upd_same)
        exact ⟨_, rfl, a, C, dx1, fs, v, e1, e2, e3, e4, e5, a2, dx2, fs2, e6, e7, e8, _, rfl, e9⟩
theorem scal_ov (o : Option Str) (t : Str) : scal (ov o) (.str t) = true := by cases o <;> rfl
theorem ov_eq (o : Option Str) (t : Str) : decide (ov o = .str t) = decide (o = some t) := by
  cases o with
  | none => exact (dF (fun z => nomatch z)).trans (dF (fun z => nomatch z)).symm
  | some s =>
    rw [Bool.eq_iff_iff, decide_eq_true_iff, decide_eq_true_iff]
    exact ⟨fun z => congrArg some (V.str.inj z), fun z => congrArg V.str (Option.some.inj z)⟩
def spValid (K : PySem.W.Frag) (P : Program) (w : World) : Sp := fun vs H Q _ => ∃ (own ow : Addr → Prop) (L : Lay) (s : S) (n : Str) (ja sa rl : Addr) (j : Job) (sn : Snap) (req : List Str), vs = [.ref L.p, .str n, .ref ja, .ref sa, .ref rl] ∧ Pub K P w own L s H ∧ JobAt K own H (.ref ja) j ∧ SnapAt K ow H sa sn ∧ SnapOk sn ∧ TOk j.found ∧ H rl = some (.lst (req.map V.str)) ∧
  ∀ H', Same H H' → Q (.bl (s.valid sn req n j)) H'
theorem ok_valid (T : Txt w K mg) : FnOk P w K mg base CX0 5 (He.ma K (He.ga K "Publisher") "_is_valid") (fd_Publisher__is_valid K) ["self", "name", "job", "snapshot", "required"] (spValid K P w) := by
  have G_Snapshot_known := ok_known (P := P) (base := base) T
  have G_Snapshot_told := ok_told (P := P) (base := base) T
  have G_Publisher__text := ok_text (P := P) (base := base) T
  refine T.f_Publisher__is_valid.ok sc_Publisher__is_valid (fun vs H Q E h => ?_) (fun cdv A outer s H vs Q E hr h => ?_)
  · obtain ⟨a, b, c, d, e, f, g, i, j, k, l, rfl, _⟩ := h
    rfl
  · obtain ⟨own, ow, L, s0, n, ja, sa, rl, j, sn, req, rfl, PA, ⟨ja', fl, e, hjo, ⟨dxj, hja⟩, hjf⟩, SA, ho, hjt, hrl, kk⟩ := h
    obtain rfl : ja = ja' := V.ref.inj e
    have hu := hu_of hr
    obtain ⟨op, sd, pg, fv, vv, X⟩ := id PA
    obtain ⟨dx, hp⟩ := X.pub
    obtain ⟨_, _, _, _, XS⟩ := id SA
    obtain ⟨dxs, hsa⟩ := XS.ins
    refine ⟨_, PSs.nox ((pss_cons (ps_if (PW.pt (pw_or (pt_cmpR op_notIn_seq (pv 1) (pv 4) rfl) (pw_or (pt_cmpR op_notN (pe_meth (pv 3) T.cl_Snapshot T.mt_Snapshot_known G_Snapshot_known (hr.mono (by omega)) T.b_Snapshot_known .nil pass0 (pa_cons (pv 1) pa_nil)) pe_non (nomark _)) (pw_or1 (pt_cmpR op_ne (pe_meth (pv 0) T.cl_Publisher T.mt_Publisher__text G_Publisher__text (hr.mono (by omega)) T.b_Publisher__text .nil pass0 (pa_cons (pv 1) pa_nil)) (pe_fld (pv 2) rfl) (nomark _)))))) (pss_one (ps_ret pe_bl)) pss_nil)
      (pss_one (ps_ret (pe_cmpR (op_eqD hr.units) (pe_meth (pv 3) T.cl_Snapshot T.mt_Snapshot_told G_Snapshot_told (hr.mono (by omega)) T.b_Snapshot_told .nil pass0 (pa_cons (pv 1) pa_nil)) (pe_callTy call_list_of (by rfl) T.z_list (by decide +kernel) (pa_cons (pe_fld (pv 2) rfl) pa_nil)) (nomark _)))))), ?_⟩
    refine ⟨_, rfl, _, rfl, rl, _, rfl, .inl (sqL_of hrl), rfl, flat_strs _, _, rfl, ?_⟩
    by_cases h1 : n ∈ req
    · refine ifN (by rw [inV_strs, dT h1] <;> rfl) ⟨_, rfl, sa, dxs, _, rfl, hsa, zip_none (by decide +kernel), _, rfl, ow, sa, sn, n, rfl, SA, fun v hv => ⟨rfl, _, rfl, ?_⟩⟩
      cases h2 : (sn.known n).isSome with
      | true =>
        have e : s0.valid sn req n j = false := by simp [S.valid, h2]
        rw [e] at kk
        exact ifY ((dt_isSome hv).trans h2) (iteT (kk _ (Same.refl _)))
      | false =>
        refine ifN ((dt_isSome hv).trans h2) ⟨_, rfl, L.p, dx, _, rfl, hp, zip_none (by decide +kernel), _, rfl, own, L, s0, n, rfl, PA, _, rfl, ja, _, dxj, _, _, rfl, hja, T.cl_Job, T.na_Job_text, zip_look (i := 0) (jks_nd) rfl rfl, scal_ov _ _, _, rfl, ?_⟩
        rw [ov_eq]
        by_cases h3 : s0.text n = some j.text
        · have e : s0.valid sn req n j = PyData.eqv (encL (sn.told n)) (encL j.found) := by simp [S.valid, h1, h2, h3]
          rw [e] at kk
          refine ifN (by rw [dT h3] <;> rfl) ⟨_, rfl, sa, dxs, _, rfl, hsa, zip_none (by decide +kernel), _, rfl, ow, sa, sn, n, rfl, SA, ho, fun H1 l us s1 hln hl hd hul => ?_⟩
          have hja1 := s1 _ _ hja
          obtain ⟨pf, xf, rfl, hpf, hxf⟩ := (hjf.keep (Same.tk s1)).itemsU
          refine ⟨_, rfl, ja, _, dxj, _, _, rfl, hja1, T.cl_Job, T.na_Job_found, zip_look (i := 1) (jks_nd) rfl rfl, pf, xf, rfl, .inr hpf.sq, fun l2 hl2 => ?_⟩
          have s2 := same_new hl2 (o := .lst xf)
          exact ⟨encL (sn.told n), encL j.found, .lst (sqL_of (s2 _ _ hl)) (hd.keep (Same.tk s2)).dp, .lst (sqL_of upd_same) (hxf.keep (Same.tk s2)).dp, (lo_l (told_ok ho n)).shaped (by decide), (lo_l hjt).shaped (by decide), kk _ (s1.trans s2)⟩
        · have e : s0.valid sn req n j = false := by simp [S.valid, h3]
          rw [e] at kk
          exact ifY (by rw [dF h3] <;> rfl) (kk _ (Same.refl _))
    · have e : s0.valid sn req n j = false := by simp [S.valid, h1]
      rw [e] at kk
      exact ifY (by rw [inV_strs, dF h1] <;> rfl) (iteT (kk _ (Same.refl _)))
end
end L2.TP
/-! Publisher: snapshot, drop_jobs. -/
namespace L2.TP
open PySem PySem.Spec PyProof.Rows L2
section
variable {P : Program} {w : World} {K : PySem.W.Frag} {mg : Str → Option Value} {base : Heap} {H H' : Hp}
theorem same_make {x dx : Addr} {C : Addr} (h1 : H x = none) (h2 : H dx = none) (hne : dx ≠ x) : Same H (upd (upd H dx (.own x)) x (.ins C dx [])) := (same_new h2).trans (same_new (by rw [upd_ne hne.symm]; exact h1))
theorem same_but {x : Addr} {H1 : Hp} (hn : H x = none) (s : Same H H1) (bt : But x H1 H') : Same H H' := fun b o e => bt b o (ne_of_none e hn) (s b o e)
def spSnapshot (K : PySem.W.Frag) (P : Program) (w : World) : Sp := fun vs H Q _ => ∃ (own : Addr → Prop) (L : Lay) (s : S), vs = [.ref L.p] ∧ Pub K P w own L s H ∧ Gd s ∧ ∀ H' sa, Same H H' → SnapAt K (fun b => H b = none) H' sa s.snap → Q (.ref sa) H'
theorem ok_snapshot (T : Txt w K mg) : FnOk P w K mg base CX0 7 (He.ma K (He.ga K "Publisher") "_snapshot") (fd_Publisher__snapshot K) ["self"] (spSnapshot K P w) := by
  have G_Snapshot___init__ := ok_snap (P := P) (base := base) T
  refine T.f_Publisher__snapshot.ok sc_Publisher__snapshot (fun vs H Q E h => ?_) (fun cdv A outer s H vs Q E hr h => ?_)
  · obtain ⟨a, b, c, rfl, _⟩ := h
    rfl
  · obtain ⟨own, L, s0, rfl, ⟨op, sd, pg, fv, vv, X⟩, hg, kk⟩ := h
    have hu := hu_of hr
    obtain ⟨dx, hp⟩ := X.pub
    refine ⟨_, PSs.nox ((pss_cons (ps_set (i := 1) sc_Publisher__snapshot.nd rfl (.inl rfl) (pe_ix ix_tup (pe_fld (pv 0) rfl) pe_int (fun _ _ => rfl)))
      (pss_cons (ps_if (pt_cmpR op_notN (pe_fld (pv 0) rfl) pe_non (nomark _)) (pss_one (ps_ret (pe_make T.mk_Snapshot G_Snapshot___init__ (hr.mono (by omega)) rfl T.g_Snapshot T.b_Snapshot___init__ .nil pass0 (pa_cons (pe_fld (pe_fld (pv 0) rfl) rfl) (pa_cons (pe_fld (pe_fld (pv 0) rfl) rfl) (pa_cons (pv 1) (pa_cons (pe_fld (pv 0) rfl) pa_nil))))))) pss_nil)
      (pss_one (ps_ret (pe_make T.mk_Snapshot G_Snapshot___init__ (hr.mono (by omega)) rfl T.g_Snapshot T.b_Snapshot___init__ .nil pass0 (pa_cons (pe_fld (pv 0) rfl) (pa_cons (pe_fld (pv 0) rfl) (pa_cons (pv 1) (pa_cons (pe_fld (pv 0) rfl) pa_nil)))))))))), ?_⟩
    refine ⟨_, rfl, L.p, _, dx, _, _, rfl, hp, T.cl_Publisher, T.na_Publisher__options, zip_look (i := 0) (pks_nd) rfl rfl, _, _, _, _, rfl, rfl, X.opt.sq, Opt.at2, ?_⟩
    refine ⟨_, rfl, L.p, _, dx, _, _, rfl, hp, T.cl_Publisher, T.na_Publisher__frozen, zip_look (i := 9) (pks_nd) rfl rfl, rfl, _, rfl, ?_⟩
    have hz := X.frz
    unfold S.snap at kk
    cases hf : s0.frz with
    | none =>
      rw [hf] at hz kk
      obtain rfl : fv = .non := hz
      obtain ⟨_, kvs, hsd, hsr⟩ := X.src
      refine ifN rfl ⟨_, rfl, L.p, _, dx, _, _, rfl, hp, T.cl_Publisher, T.na_Publisher__sources, zip_look (i := 2) (pks_nd) rfl rfl, _, rfl, L.p, _, dx, _, _, rfl, hp, T.cl_Publisher, T.na_Publisher__pages, zip_look (i := 3) (pks_nd) rfl rfl, _, rfl, _, rfl, L.p, _, dx, _, _, rfl, hp, T.cl_Publisher, T.na_Publisher__cache, zip_look (i := 6) (pks_nd) rfl rfl, fun x dx2 h1 h2 hne => ?_⟩
      have s1 := same_make (C := He.ga K "Snapshot") h1 h2 hne
      have X1 := X.same s1
      exact ⟨own, fun b => H b = none, x, dx2, sd, pg, L.ca, L.cd, s0.o.attempts, s0.src, s0.pages, s0.cache, kvs, rfl, upd_same, s1 _ _ hsd, hsr, X1.pgs, ⟨X1.cch, X1.atc, X1.fresh⟩, h1, fun b e => none_same s1 e, hg.src.2, hg.cch, Nat.le_trans hg.src.1.len (by decide), fun H' bt hs => ⟨rfl, kk H' x (same_but h1 s1 bt) hs⟩⟩
    | some f =>
      rw [hf] at hz kk
      obtain ⟨fa, fsd, fpg, rfl, _, ⟨dxf, hfa⟩, ⟨_, kvs, hsd, hsr⟩, hfp⟩ := hz
      obtain ⟨g1, g2⟩ := hg.frz f hf
      refine ifY rfl ⟨_, rfl, L.p, _, dx, _, _, rfl, hp, T.cl_Publisher, T.na_Publisher__frozen, zip_look (i := 9) (pks_nd) rfl rfl, fa, _, dxf, _, _, rfl, hfa, T.cl_Frozen, T.na_Frozen_sources, zip_look (i := 0) (fks_nd) rfl rfl, _, rfl, L.p, _, dx, _, _, rfl, hp, T.cl_Publisher, T.na_Publisher__frozen, zip_look (i := 9) (pks_nd) rfl rfl, fa, _, dxf, _, _, rfl, hfa, T.cl_Frozen, T.na_Frozen_pages, zip_look (i := 1) (fks_nd) rfl rfl, _, rfl, _, rfl, L.p, _, dx, _, _, rfl, hp, T.cl_Publisher, T.na_Publisher__cache, zip_look (i := 6) (pks_nd) rfl rfl, fun x dx2 h1 h2 hne => ?_⟩
      have s1 := same_make (C := He.ga K "Snapshot") h1 h2 hne
      have X1 := X.same s1
      exact ⟨own, fun b => H b = none, x, dx2, fsd, fpg, L.ca, L.cd, s0.o.attempts, f.src, f.pages, s0.cache, kvs, rfl, upd_same, s1 _ _ hsd, hsr, hfp.keep (Same.tk s1), ⟨X1.cch, X1.atc, X1.fresh⟩, h1, fun b e => none_same s1 e, g1.2, hg.cch, Nat.le_trans g1.1.len (by decide), fun H' bt hs => ⟨rfl, kk H' x (same_but h1 s1 bt) hs⟩⟩
theorem aget_of_mem {α : Type} {l : List (Str × α)} {p : Str × α} (nd : (l.map (·.1)).Nodup) (h : p ∈ l) : aget l p.1 = some p.2 := by
  obtain ⟨i, hi, e⟩ := List.getElem_of_mem h
  have hi2 : l[i]? = some p := by rw [List.getElem?_eq_getElem hi, e]
  obtain ⟨e1, e2, _⟩ := nd_split nd hi2
  rw [e1]
  exact aget_mid e2
theorem SnG.small {s : S} {sn : Snap} (g : SnG s sn) (h : Gd s) : sn.src.length ≤ 8 ∧ sn.pages.length ≤ 8 := by
  rw [g.src, g.pgs]
  exact ⟨h.cur.1.len, h.wanted.len⟩
theorem key_att {q : Addr} {n : Str} (h : H q = some (.tup [.str "attempt", .str n])) : KeyU K H q (.att n) := squ_of h
theorem key_del {q : Addr} {n : Str} (h : H q = some (.tup [.str "delay", .str n])) : KeyU K H q (.del n) := squ_of h
def spDrop (K : PySem.W.Frag) (P : Program) (w : World) : Sp := fun vs H Q _ => ∃ (own ow : Addr → Prop) (L : Lay) (s : S) (sa : Addr) (sn : Snap), vs = [.ref L.p, .ref sa] ∧ Pub K P w own L s H ∧ Gd s ∧ SnapAt K ow H sa sn ∧ SnG s sn ∧ (∀ b, ow b → b ≠ L.jd) ∧
  ∀ H', Pub K P w own L (s.dropJobs sn) H' → SnapAt K ow H' sa sn → Fr own H H' → Q .non H'
theorem ok_drop (T : Txt w K mg) : FnOk P w K mg base CX0 6 (He.ma K (He.ga K "Publisher") "_drop_jobs") (fd_Publisher__drop_jobs K) ["self", "snapshot"] (spDrop K P w) := by
  have G_Snapshot_required := ok_required (P := P) (base := base) T
  have G_Publisher__is_valid := ok_valid (P := P) (base := base) T
  have G_Timers_remove := ok_timers_remove (P := P) (base := base) T
  refine T.f_Publisher__drop_jobs.ok sc_Publisher__drop_jobs (fun vs H Q E h => ?_) (fun cdv A outer s H vs Q E hr h => ?_)
  · obtain ⟨a, b, c, d, e, f, rfl, _⟩ := h
    rfl
  · obtain ⟨own, ow, L, s0, sa, sn, rfl, PA, hg, SA, sg, how, kk⟩ := h
    have hu := hu_of hr
    obtain ⟨op, sd, pg, fv, vv, X⟩ := id PA
    obtain ⟨dx, hp⟩ := X.pub
    obtain ⟨_, _, _, _, XS⟩ := id SA
    obtain ⟨dxs, hsa⟩ := XS.ins
    obtain ⟨z1, z2⟩ := sg.small hg
    refine ⟨_, PSs.nox ((pss_cons (ps_set (i := 2) sc_Publisher__drop_jobs.nd rfl (.inl rfl) (pe_meth0 (pv 1) T.cl_Snapshot T.mt_Snapshot_required G_Snapshot_required (hr.mono (by omega)) T.b_Snapshot_required .nil pass0))
      (pss_one (ps_for PassesOwn.never rfl (pi_list (LiI.pe_listItems rfl (pe_fld (pv 0) rfl) (by rfl) T.z_list (by decide +kernel))) (pg_tup (by rfl) (pgs_cons (pg_name (i := 3) sc_Publisher__drop_jobs.nd rfl (.inl rfl)) (pgs_cons (pg_name (i := 4) sc_Publisher__drop_jobs.nd rfl (.inl rfl)) pgs_nil))) (pss_one (ps_if (pt_not (pt_val (pe_meth (pv 0) T.cl_Publisher T.mt_Publisher__is_valid G_Publisher__is_valid (hr.mono (by omega)) T.b_Publisher__is_valid .nil pass0 (pa_cons (pv 3) (pa_cons (pv 4) (pa_cons (pv 1) (pa_cons (pv 2) pa_nil))))))) (pss_cons (ps_expr (pe_dpop1 (pe_fld (pv 0) rfl) (pv 3) ⟨rfl, rfl, rfl, rfl⟩))
      (pss_cons (ps_expr (pe_meth (pe_fld (pv 0) rfl) T.cl_Timers T.mt_Timers_remove G_Timers_remove (hr.mono (by omega)) T.b_Timers_remove .nil pass0 (pa_cons (pe_tup (pa_cons pe_str (pa_cons (pv 3) pa_nil))) pa_nil)))
      (pss_one (ps_expr (pe_meth (pe_fld (pv 0) rfl) T.cl_Timers T.mt_Timers_remove G_Timers_remove (hr.mono (by omega)) T.b_Timers_remove .nil pass0 (pa_cons (pe_tup (pa_cons pe_str (pa_cons (pv 3) pa_nil))) pa_nil)))))) pss_nil)))))), ?_⟩
    refine ⟨_, rfl, sa, dxs, _, rfl, hsa, zip_none (by decide +kernel), ow, sa, sn, rfl, SA, sg.ok, by omega, by omega, fun H1 rl s1 hrn hrl => ?_⟩
    have X1 := X.same s1
    have hp1 := s1 _ _ hp
    obtain ⟨_, kvs, hjd, hjr, hjn⟩ := X1.atj
    refine ⟨_, rfl, L.p, _, dx, _, _, rfl, hp1, T.cl_Publisher, T.na_Publisher__jobs, zip_look (i := 8) (pks_nd) rfl rfl, L.jd, kvs, rfl, hjd, fun H2 il ts s2 hiln htn hil hil2 hts => ?_⟩
    have s12 : Same H H2 := s1.trans s2
    have hlt : ts.length = s0.jobs.length := by rw [← hjr.len]; exact Paired.length hts
    have hgo : s0.dropJobs sn = dropGo sn sn.required s0.jobs s0 := rfl
    refine ⟨il, rfl, ⟨_, sqL_of hil2⟩, for_items s0.jobs (fun i σ H3 => ∃ (s : S) (b3 b4 : Option V), σ = [some (.ref L.p), some (.ref sa), some (.ref rl), b3, b4] ∧ dropGo sn sn.required (s0.jobs.drop i) s = s0.dropJobs sn ∧ PubX K P w own L op sd pg fv vv s H3 ∧ SnapAt K ow H3 sa sn ∧ Fr own H H3 ∧ TK' H2 H3 ∧ H3 rl = some (.lst (sn.required.map V.str)) ∧ H3 il = some (.lst (ts.map V.ref)) ∧
      (∀ p ∈ s0.jobs.drop i, aget s.jobs p.1 = some p.2) ∧ (∀ v j, JobAt K own H2 v j → JobAt K own H3 v j))
      ⟨s0, _, _, rfl, rfl, X1.same s2, SA.same s12, fr_same s12, TK'.refl _, s2 _ _ hrl, hil2, fun p hp => aget_of_mem hg.jks.1 hp, fun v j h => h⟩ (fun i q σ H3 hi pv => ?_) fun σ H3 pv => ?_⟩
    · obtain ⟨s, b3, b4, rfl, hdg, X3, SA3, fr3, tk3, hrl3, hil3, hrest, hjobs⟩ := pv
      obtain ⟨n, j⟩ := q
      have hil : i < s0.jobs.length := (List.getElem?_eq_some_iff.mp hi).1
      obtain ⟨t, ht⟩ : ∃ t, ts[i]? = some t := ⟨ts[i]'(by omega), List.getElem?_eq_getElem _⟩
      have hxi : (ts.map V.ref)[i]? = some (.ref t) := by rw [List.getElem?_map, ht] <;> rfl
      refine ⟨itl_go (sqL_of hil3) hxi, fun x H4 hy => ?_⟩
      obtain ⟨rfl, rfl⟩ := itl_yld (sqL_of hil3) hxi hy
      obtain ⟨⟨kq, vq⟩, hq1, hq2⟩ := paired_get hts ht
      obtain ⟨q, hq3, hq4, hq5⟩ := hjr.get_at hq1
      have e : q = (n, j) := Option.some.inj (hq3.symm.trans hi)
      subst e
      replace hq4 : kq = .inr n := hq4
      subst hq4
      have hj2 : JobAt K own H2 vq j := hq5.keep (fun a dx v1 v2 v3 v4 _ e => s2 _ _ e) (Same.tk s2) fun b q _ => q
      have hj4 := hjobs _ _ hj2
      obtain ⟨ja, fl, rfl, hja⟩ := id hj4
      have hdrop : s0.jobs.drop i = (n, j) :: s0.jobs.drop (i + 1) := by
        rw [List.drop_eq_getElem?_toList_append, hi] <;> rfl
      rw [hdrop] at hdg hrest
      have hjg := hg.jbs (n, j) (List.mem_of_getElem? hi)
      obtain ⟨dx4, hp4⟩ := X3.pub
      refine ⟨_, _, rfl, (squ_of (hq2 : H2 t = _)).keep tk3 |>.sq, rfl, _, _, rfl, _, _, rfl, rfl, ?_⟩
      refine ⟨_, rfl, L.p, dx4, _, rfl, hp4, zip_none (by decide +kernel), _, rfl, _, rfl, _, rfl, _, rfl, own, ow, L, s, n, ja, sa, rl, j, sn, sn.required, rfl, ⟨op, sd, pg, fv, vv, X3⟩, hj4, SA3, sg.ok, hjg.tok, hrl3, fun H5 s5 => ⟨_, rfl, ?_⟩⟩
      have X5 := X3.same s5
      have hrest5 : ∀ p ∈ s0.jobs.drop (i + 1), aget s.jobs p.1 = some p.2 := fun p hp => hrest p (List.mem_cons_of_mem _ hp)
      have hjobs5 : ∀ v j, JobAt K own H2 v j → JobAt K own H5 v j := fun v j h => (hjobs v j h).keep (fun a dx v1 v2 v3 v4 _ e => s5 _ _ e) (Same.tk s5) fun b q _ => q
      rw [dropGo] at hdg
      cases hv : s.valid sn sn.required n j with
      | true =>
        rw [hv] at hdg
        exact ifN (by rfl) ⟨s, _, _, rfl, hdg, X5, SA3.same s5, fr3.trans (fr_same s5), tk3.trans (Same.tk s5), s5 _ _ hrl3, s5 _ _ hil3, hrest5, hjobs5⟩
      | false =>
        rw [hv] at hdg
        replace hdg : dropGo sn sn.required (s0.jobs.drop (i + 1)) (s.dropJob n) = s0.dropJobs sn := hdg
        obtain ⟨dx5, hp5⟩ := X5.pub
        obtain ⟨hjo, kv5, hjd5, hjr5, hjn5⟩ := X5.atj
        obtain ⟨_, zz⟩ := hjr5.get n
        obtain ⟨v5, hv5, _⟩ := zz j (hrest (n, j) List.mem_cons_self)
        refine ifY (by rfl) ⟨_, rfl, L.p, _, dx5, _, _, rfl, hp5, T.cl_Publisher, T.na_Publisher__jobs, zip_look (i := 8) (pks_nd) rfl rfl, L.jd, rfl, .inl ⟨_, .of hjd5⟩, _, rfl, kv5, .inr n, v5, hjd5, rfl, hv5, ?_⟩
        have b6 : But L.jd H5 (upd H5 L.jd (.dK (dropK kv5 (.inr n)))) := but_upd
        have tk6 := but_tk b6 hjd5 (fun _ z => nomatch z)
        have atj6 : JobsAt K own (upd H5 L.jd (.dK (dropK kv5 (.inr n)))) L.jd (adrop s.jobs n) := ⟨hjo, _, upd_same, (hjr5.drop n).mono fun v j z => z.keep (fun a dx v1 v2 v3 v4 _ e => b6 _ _ (ne_of e hjd5 fun z => nomatch z) e) tk6 fun b q _ => q, hjn5.sublist (List.filter_sublist.map _)⟩
        have X6 := X5.setj b6 atj6
        have SA6 : SnapAt K ow (upd H5 L.jd (.dK (dropK kv5 (.inr n)))) sa sn := by
          obtain ⟨u1, u2, u3, u4, Y⟩ := SA3.same s5
          exact ⟨u1, u2, u3, u4, Y.keep (fun dx v1 v2 v3 v4 _ e => b6 _ _ (ne_of e hjd5 fun z => nomatch z) e) (fun b kvs q e => b6 _ _ (how b q) e) tk6⟩
        have fr6 : Fr own H (upd H5 L.jd (.dK (dropK kv5 (.inr n)))) := (fr3.trans (fr_same s5)).trans (fr_but b6 hjd5 (fun _ z => nomatch z) hjo)
        have hrl6 : upd H5 L.jd (.dK (dropK kv5 (.inr n))) rl = _ := b6 _ _ (ne_of (s5 _ _ hrl3) hjd5 fun z => nomatch z) (s5 _ _ hrl3)
        have hil6 : upd H5 L.jd (.dK (dropK kv5 (.inr n))) il = _ := b6 _ _ (ne_of (s5 _ _ hil3) hjd5 fun z => nomatch z) (s5 _ _ hil3)
        have hjobs6 : ∀ v j, JobAt K own H2 v j → JobAt K own (upd H5 L.jd (.dK (dropK kv5 (.inr n)))) v j := fun v j h => (hjobs5 v j h).keep (fun a dx v1 v2 v3 v4 _ e => b6 _ _ (ne_of e hjd5 fun z => nomatch z) e) tk6 fun b q _ => q
        have tk26 := (tk3.trans (Same.tk s5)).trans tk6
        generalize upd H5 L.jd (.dK (dropK kv5 (.inr n))) = H6 at *
        /- the two removals -/
        have rem : ∀ (s' : S) (H7 : Hp) (k : TK) (q : Addr) (H8 : Hp), PubX K P w own L op sd pg fv vv s' H7 → SnapAt K ow H7 sa sn → Fr own H H7 → TK' H2 H7 → H7 rl = some (.lst (sn.required.map V.str)) → H7 il = some (.lst (ts.map V.ref)) → (∀ v j, JobAt K own H2 v j → JobAt K own H7 v j) → But L.td H7 H8 → TmU K P w own H8 L.td (adrop s'.tms k) →
            PubX K P w own L op sd pg fv vv { s' with tms := adrop s'.tms k } H8 ∧ SnapAt K ow H8 sa sn ∧ Fr own H H8 ∧ TK' H2 H8 ∧ H8 rl = some (.lst (sn.required.map V.str)) ∧ H8 il = some (.lst (ts.map V.ref)) ∧ (∀ v j, JobAt K own H2 v j → JobAt K own H8 v j) := by
          intro s' H7 k q H8 x1 x2 x3 x4 x5 x6 x7 bt tt
          obtain ⟨hto, xs, htd, _⟩ := x1.att
          have tk := but_tk bt htd (fun _ z => nomatch z)
          refine ⟨x1.sett bt tt, ?_, x3.trans (fr_but bt htd (fun _ z => nomatch z) hto), x4.trans tk, bt _ _ (ne_of x5 htd fun z => nomatch z) x5, bt _ _ (ne_of x6 htd fun z => nomatch z) x6, fun v j h => (x7 v j h).keep (fun a dx v1 v2 v3 v4 _ e => bt _ _ (ne_of e htd fun z => nomatch z) e) tk fun b q _ => q⟩
          obtain ⟨u1, u2, u3, u4, Y⟩ := x2
          exact ⟨u1, u2, u3, u4, Y.keep (fun dx v1 v2 v3 v4 _ e => bt _ _ (ne_of e htd fun z => nomatch z) e) (fun b kvs q e => bt _ _ (ne_of e htd fun z => nomatch z) e) tk⟩
        obtain ⟨dx6, hp6⟩ := X6.pub
        obtain ⟨dxt6, hta6⟩ := X6.tmr
        refine ⟨_, rfl, L.p, _, dx6, _, _, rfl, hp6, T.cl_Publisher, T.na_Publisher__timers, zip_look (i := 7) (pks_nd) rfl rfl, L.ta, dxt6, _, rfl, hta6, zip_none (by decide +kernel), _, rfl, le2, fun q1 hq1 => ?_⟩
        have s7 := same_new hq1 (o := .tup [.str "attempt", .str n])
        have X7 := X6.same s7
        refine ⟨own, L.ta, L.td, q1, _, .att n, rfl, ⟨X7.tmr, X7.att⟩, key_att upd_same, fun H8 x8 bt8 tt8 => ?_⟩
        obtain ⟨X8, SA8, fr8, tk8, hrl8, hil8, hjobs8⟩ := rem _ _ (.att n) q1 H8 X7 (SA6.same s7) (fr6.trans (fr_same s7)) (tk26.trans (Same.tk s7)) (s7 _ _ hrl6) (s7 _ _ hil6) (fun v j h => (hjobs6 v j h).keep (fun a dx v1 v2 v3 v4 _ e => s7 _ _ e) (Same.tk s7) fun b q _ => q) bt8 tt8
        obtain ⟨dx8, hp8⟩ := X8.pub
        obtain ⟨dxt8, hta8⟩ := X8.tmr
        refine ⟨_, rfl, L.p, _, dx8, _, _, rfl, hp8, T.cl_Publisher, T.na_Publisher__timers, zip_look (i := 7) (pks_nd) rfl rfl, L.ta, dxt8, _, rfl, hta8, zip_none (by decide +kernel), _, rfl, le2, fun q2 hq2 => ?_⟩
        have s9 := same_new hq2 (o := .tup [.str "delay", .str n])
        have X9 := X8.same s9
        refine ⟨own, L.ta, L.td, q2, _, .del n, rfl, ⟨X9.tmr, X9.att⟩, key_del upd_same, fun HA xA btA ttA => ?_⟩
        obtain ⟨XA, SAA, frA, tkA, hrlA, hilA, hjobsA⟩ := rem _ _ (.del n) q2 HA X9 (SA8.same s9) (fr8.trans (fr_same s9)) (tk8.trans (Same.tk s9)) (s9 _ _ hrl8) (s9 _ _ hil8) (fun v j h => (hjobs8 v j h).keep (fun a dx v1 v2 v3 v4 _ e => s9 _ _ e) (Same.tk s9) fun b q _ => q) btA ttA
        refine ⟨s.dropJob n, _, _, rfl, hdg, XA, SAA, frA, tkA, hrlA, hilA, fun p hp => ?_, hjobsA⟩
        show aget (adrop s.jobs n) p.1 = some p.2
        rw [aget_adrop fun e => ?_]
        · exact hrest5 p hp
        · exact (nd_split hg.jks.1 hi).2.2 (show n ∈ _ by rw [← e]; exact List.mem_map_of_mem hp)
    · obtain ⟨s, b3, b4, rfl, hdg, X3, SA3, fr3, tk3, hrl3, hil3, hrest, hjobs⟩ := pv
      rw [List.drop_length] at hdg
      replace hdg : s = s0.dropJobs sn := hdg
      subst hdg
      exact ⟨itl_stop (sqL_of hil3) (by rw [List.length_map]; omega), kk _ ⟨op, sd, pg, fv, vv, X3⟩ SA3 fr3⟩
end
end L2.TP
/-! Publisher: start. -/
namespace L2.TP
open PySem PySem.Spec PyProof.Rows L2
section
variable {P : Program} {w : World} {K : PySem.W.Frag} {mg : Str → Option Value} {base : Heap} {H H' : Hp}
theorem reqGo_len (sn : Snap) : ∀ (f : Nat) (names waiting : List Str), (reqGo sn f names waiting).length ≤ names.length + f
  | 0, names, _ => Nat.le_refl _
  | f + 1, names, waiting => by
    rw [reqGo]
    cases waiting.getLast? with
    | none => exact Nat.le_add_right _ _
    | some n =>
      show (if n ∈ names then reqGo sn f names waiting.dropLast else _).length ≤ _
      split
      · have := reqGo_len sn f names waiting.dropLast
        omega
      · have := reqGo_len sn f (names ++ [n]) (waiting.dropLast ++ (sn.told n).map (·.1))
        rw [List.length_append] at this
        show _ ≤ _
        have e : [n].length = 1 := rfl
        omega
theorem required_len {s : S} {sn : Snap} (g : SnG s sn) (h : Gd s) : sn.required.length ≤ 100000 := by
  obtain ⟨z1, z2⟩ := g.small h
  unfold Snap.required
  rw [srt_len]
  have h1 := reqGo_len sn (reqFuel sn) [] sn.pages
  have h2 := restOf_le g.ok []
  rw [rest_all] at h2
  unfold reqFuel at h1
  have e : ([] : List Str).length = 0 := rfl
  unfold reqFuel
  omega
theorem nd_inj {α β : Type} {f : α → β} : ∀ {l : List α}, (l.map f).Nodup → ∀ {a b : α}, a ∈ l → b ∈ l → f a = f b → a = b
  | [], _, _, _, h, _, _ => nomatch h
  | x :: l, nd, a, b, ha, hb, e => by
    obtain ⟨n1, n2⟩ := List.nodup_cons.mp nd
    rcases List.mem_cons.mp ha with ea | ha2
    · rcases List.mem_cons.mp hb with eb | hb2
      · rw [ea, eb]
      · subst ea
        exact absurd (e ▸ List.mem_map_of_mem hb2) n1
    · rcases List.mem_cons.mp hb with eb | hb2
      · subst eb
        exact absurd (e ▸ List.mem_map_of_mem ha2) n1
      · exact nd_inj n2 ha2 hb2 e
theorem lt4 {a b c d : V} {i : Nat} (h : i < 4) : i < [a, b, c, d].length := h
theorem lt14 {a0 a1 a2 a3 a4 a5 a6 a7 a8 a9 a10 a11 a12 a13 : V} {i : Nat} (h : i < 14) : i < [a0, a1, a2, a3, a4, a5, a6, a7, a8, a9, a10, a11, a12, a13].length := h
theorem JobsAt.add {own : Addr → Prop} {jd : Addr} {jobs : List (Str × Job)} {n : Str} {j : Job} {x : Addr} {fl : V} {H1 : Hp} (h : JobsAt K own H jd jobs) (hn : ahas jobs n = false) {kvs : List (L2.Key × V)} (hjd : H jd = some (.dK kvs)) (hs : Same H H1) (hx : H x = none) (ho : own x)
    (hi : InsAt H1 x (He.ga K "Job") jks [.str j.text, fl, .int j.attempt, .str j.state.enc]) (hd : Dt K H1 fl (encT j.found)) : JobsAt K own (upd H1 jd (.dK (putK kvs (.inr n) (.ref x)))) jd (jobs ++ [(n, j)]) := by
  obtain ⟨h1, kvs', h2, h3, h4⟩ := h
  obtain rfl : kvs = kvs' := HO.dK.inj (Option.some.inj (hjd.symm.trans h2))
  have hjd1 := hs _ _ hjd
  have bt : But jd H1 (upd H1 jd (.dK (putK kvs (.inr n) (.ref x)))) := but_upd
  have tk := but_tk bt hjd1 (fun _ z => nomatch z)
  obtain ⟨dx, hi⟩ := hi
  have e : aput jobs n j = jobs ++ [(n, j)] := by
    unfold aput
    rw [hn] <;> rfl
  have hk : (kvs.any fun kv => decide (kv.1 = .inr n)) = false := by
    rw [valV_any, h3.has n, hn]
  have ek : putK kvs (.inr n) (.ref x) = kvs ++ [(.inr n, .ref x)] := by
    unfold putK
    rw [hk] <;> rfl
  refine ⟨h1, _, upd_same, ?_, ?_⟩
  · rw [← e]
    refine DR.put ?_ n ⟨x, fl, rfl, ho, ⟨dx, bt _ _ (ne_of hi hjd1 fun z => nomatch z) hi⟩, hd.keep tk⟩
    exact h3.mono fun v j z => z.keep (fun a dx v1 v2 v3 v4 _ e => bt _ _ (ne_of (hs _ _ e) hjd1 fun z => nomatch z) (hs _ _ e)) ((Same.tk hs).trans tk) fun b q _ => q
  · rw [ek, List.map_append]
    refine List.nodup_append.mpr ⟨h4, by simp, fun a ha b hb e => ?_⟩
    rw [List.mem_singleton.mp hb] at e
    obtain ⟨p, hp, e2⟩ := List.mem_map.mp ha
    obtain ⟨i, hi2, e3⟩ := List.getElem_of_mem hp
    obtain ⟨q, _, _, c, _, e4, _, ⟨dxc, hc⟩, _⟩ := h3.get_at (i := i) (p := p) (by rw [List.getElem?_eq_getElem hi2, e3])
    have e5 : V.ref c = .ref x := e4.symm.trans (e2.trans e)
    rw [V.ref.inj e5] at hc
    rw [hx] at hc
    cases hc
/-- a job's attribute is stored -/
theorem JobsAt.set {own : Addr → Prop} {jd : Addr} {jobs : List (Str × Job)} {n : Str} {j j' : Job} {a dx : Addr} {fl : V} (h : JobsAt K own H jd jobs) (hn : (jobs.map (·.1)).Nodup) {kvs : List (L2.Key × V)} (hjd : H jd = some (.dK kvs)) (hv : valV kvs (.inr n) = some (.ref a)) (hj : aget jobs n = some j)
    (ha : H a = some (.ins (He.ga K "Job") dx (jks.zip [.str j.text, fl, .int j.attempt, .str j.state.enc]))) (ht : j'.text = j.text) (hf : j'.found = j.found) (hd : Dt K H fl (encT j.found)) (ho : own a) :
    JobsAt K own (upd H a (.ins (He.ga K "Job") dx (jks.zip [.str j.text, fl, .int j'.attempt, .str j'.state.enc]))) jd (aput jobs n j') := by
  obtain ⟨h1, kvs', h2, h3, h4⟩ := h
  obtain rfl : kvs = kvs' := HO.dK.inj (Option.some.inj (hjd.symm.trans h2))
  have bt : But a H (upd H a (.ins (He.ga K "Job") dx (jks.zip [.str j.text, fl, .int j'.attempt, .str j'.state.enc]))) := but_upd
  have tk := but_tk bt ha (fun _ z => nomatch z)
  refine ⟨h1, kvs, bt _ _ (ne_of h2 ha fun z => nomatch z) h2, ?_, h4⟩
  have hh : ahas jobs n = true := by rw [ahas_get, hj] <;> rfl
  unfold aput
  rw [if_pos hh]
  /- one entry after another -/
  have go : ∀ {kv : List (L2.Key × V)} {m : List (Str × Job)}, DR (JobAt K own H) kv m → (kv.map (·.2)).Nodup → (∀ p ∈ kv, p.2 = .ref a → p.1 = .inr n) → (∀ p ∈ m, p.1 = n → p.2 = j) → (∀ p ∈ kv, p.1 = .inr n → p.2 = .ref a) →
      DR (JobAt K own (upd H a (.ins (He.ga K "Job") dx (jks.zip [.str j.text, fl, .int j'.attempt, .str j'.state.enc])))) kv (m.map fun p => if p.1 = n then (p.1, j') else p) := by
    intro kv m hdr
    induction hdr with
    | nil => intro _ _ _ _; exact .nil
    | @cons p q ps qs hp tl ih =>
      intro nd h5 h6 h7
      rw [List.map_cons]
      refine .cons ?_ (ih (List.nodup_cons.mp nd).2 (fun x hx => h5 x (List.mem_cons_of_mem _ hx)) (fun x hx => h6 x (List.mem_cons_of_mem _ hx)) fun x hx => h7 x (List.mem_cons_of_mem _ hx))
      by_cases e : q.1 = n
      · rw [if_pos e]
        have e1 : p.1 = .inr n := by rw [hp.1, e]
        have e2 : p.2 = .ref a := h7 p List.mem_cons_self e1
        refine ⟨hp.1, a, fl, e2, ho, ⟨dx, ?_⟩, ?_⟩
        · rw [upd_same, ht]
        · rw [hf]
          exact hd.keep tk
      · rw [if_neg e]
        obtain ⟨b, fl', e1, o1, ⟨dx', hb⟩, hd'⟩ := hp.2
        refine ⟨hp.1, b, fl', e1, o1, ⟨dx', bt _ _ (fun eab => ?_) hb⟩, hd'.keep tk⟩
        have z := h5 p List.mem_cons_self (by rw [e1, eab])
        rw [hp.1] at z
        exact e (Sum.inr.inj z)
  obtain ⟨p0, hp0, e0⟩ := Option.map_eq_some_iff.mp hv
  have m0 := List.mem_of_find?_eq_some hp0
  have k0 : p0.1 = .inr n := by simpa using List.find?_some hp0
  have nk : (kvs.map (·.1)).Nodup := by
    rw [h3.keys]
    exact List.Pairwise.map _ (fun x y h z => h (Sum.inr.inj z)) hn
  refine go h3 h4 ?_ ?_ ?_
  · intro p hp e
    rw [nd_inj h4 hp m0 (e.trans e0.symm)]
    exact k0
  · intro p hp e
    have z := aget_of_mem hn hp
    rw [e, hj] at z
    exact (Option.some.inj z).symm
  · intro p hp e
    rw [nd_inj nk hp m0 (e.trans k0.symm)]
    exact e0
theorem SnapAt.but {ow : Addr → Prop} {sa a : Addr} {sn : Snap} {o : HO} (h : SnapAt K ow H sa sn) (bt : But a H H') (ha : H a = some o) (hn : ∀ xs, o ≠ .tup xs) (ht : tag o ≠ some ("_sources" : Str)) (hd : (∀ kvs, o ≠ .dK kvs) ∨ ∀ b, ow b → b ≠ a) : SnapAt K ow H' sa sn := by
  obtain ⟨u1, u2, u3, u4, Y⟩ := h
  refine ⟨u1, u2, u3, u4, Y.keep (fun dx v1 v2 v3 v4 _ e => bt _ _ (ne_tag e ha fun z => ht z.symm) e) (fun b kvs q e => bt _ _ ?_ e) (but_tk bt ha hn)⟩
  rcases hd with hd | hd
  · exact ne_of e ha fun z => hd kvs z.symm
  · exact hd b q
theorem tp_s : (some ("_options" : Str)) ≠ some ("_sources" : Str) := by decide +kernel
theorem tj_s' : (some ("text" : Str)) ≠ some ("_sources" : Str) := by decide +kernel
def spStart (K : PySem.W.Frag) (P : Program) (w : World) : Sp := fun vs H Q _ => ∃ (own ow : Addr → Prop) (L : Lay) (s : S) (sa : Addr) (sn : Snap), vs = [.ref L.p, .ref sa] ∧ Pub K P w own L s H ∧ Gd s ∧ SnapAt K ow H sa sn ∧ SnG s sn ∧ (∀ b, ow b → b ≠ L.jd) ∧
  ∀ H', Pub K P w own L (s.start sn) H' → SnapAt K ow H' sa sn → Fr own H H' → Q .non H'
theorem ok_start (T : Txt w K mg) : FnOk P w K mg base CX0 7 (He.ma K (He.ga K "Publisher") "_start") (fd_Publisher__start K) ["self", "snapshot"] (spStart K P w) := by
  have G_Snapshot_renderable := ok_renderable (P := P) (base := base) T
  have G_Snapshot_told := ok_told (P := P) (base := base) T
  have G_Publisher__running := ok_running (P := P) (base := base) T
  have G_Publisher__text := ok_text (P := P) (base := base) T
  have G_Job___init__ := ok_job_init (P := P) (base := base) T
  have G_duration := ok_duration (P := P) (base := base) T
  have G_Timers_put := ok_timers_put (P := P) (base := base) T
  refine T.f_Publisher__start.ok sc_Publisher__start (fun vs H Q E h => ?_) (fun cdv A outer s H vs Q E hr h => ?_)
  · obtain ⟨a, b, c, d, e, f, rfl, _⟩ := h
    rfl
  · obtain ⟨own, ow, L, s0, sa, sn, rfl, ⟨op, sd, pg, fv, vv, X⟩, hg, SA, sg, how, kk⟩ := h
    have hu := hu_of hr
    obtain ⟨dx, hp⟩ := X.pub
    obtain ⟨_, _, _, _, XS⟩ := id SA
    obtain ⟨dxs, hsa⟩ := XS.ins
    obtain ⟨z1, z2⟩ := sg.small hg
    refine ⟨_, PSs.nox ((pss_one (ps_for PassesOwn.never rfl (pi_list (pe_meth0 (pv 1) T.cl_Snapshot T.mt_Snapshot_renderable G_Snapshot_renderable (hr.mono (by omega)) T.b_Snapshot_renderable .nil pass0)) (pg_name (i := 2) sc_Publisher__start.nd rfl (.inl rfl)) (pss_cons (ps_if (pt_cmpR op_eq (pe_meth0 (pv 0) T.cl_Publisher T.mt_Publisher__running G_Publisher__running (hr.mono (by omega)) T.b_Publisher__running .nil pass0) (pe_ix ix_tup (pe_fld (pv 0) rfl) pe_int (fun _ _ => rfl)) (nomark _)) (pss_one ps_retN) pss_nil)
      (C8.pss_cut (ps_if (pt_cmp (pc_dnotin hu (pv 2) (pe_fld (pv 0) rfl)) rfl) (pss_one (ps_dput hu (pe_fld (pv 0) rfl) (pv 2) (pe_make T.mk_Job G_Job___init__ (hr.mono (by omega)) rfl T.g_Job T.b_Job___init__ .nil pass0 (pa_cons (pe_meth (pv 0) T.cl_Publisher T.mt_Publisher__text G_Publisher__text (hr.mono (by omega)) T.b_Publisher__text .nil pass0 (pa_cons (pv 2) pa_nil)) (pa_cons (pe_callTy call_tuple_of (by rfl) T.z_tuple (by decide +kernel) (pa_cons (pe_meth (pv 1) T.cl_Snapshot T.mt_Snapshot_told G_Snapshot_told (hr.mono (by omega)) T.b_Snapshot_told .nil pass0 (pa_cons (pv 2) pa_nil)) pa_nil)) pa_nil))) rfl)) pss_nil)
      (pss_cons (ps_set (i := 3) sc_Publisher__start.nd rfl (.inl rfl) (pe_dget hu (pe_fld (pv 0) rfl) (pv 2) (fun _ _ => rfl)))
      (pss_one (ps_if (pt_cmpR op_eq (pe_fld (pv 3) rfl) (pe_gs T.s_QUEUED) (nomark _)) (pss_cons (ps_fld (pv 3) (pe_gs T.s_RUNNING) rfl)
      (pss_cons (ps_fld (pv 3) (pe_op op_add (pe_fld (pv 3) rfl) pe_int) rfl)
      (pss_cons (ps_fld (pv 0) (pe_op op_add (pe_fld (pv 0) rfl) pe_int) rfl)
      (pss_one (ps_expr (pe_meth (pe_fld (pv 0) rfl) T.cl_Timers T.mt_Timers_put G_Timers_put (hr.mono (by omega)) T.b_Timers_put .nil pass0 (pa_cons (pe_tup (pa_cons pe_str (pa_cons (pv 2) pa_nil))) (pa_cons (pe_op op_add (pe_fld (pv 0) rfl) (pe_call G_duration (hr.mono (by omega)) (by rfl) T.g_duration T.f_duration.kp T.b_duration .nil pass0 (pa_cons (pe_fld (pv 0) rfl) (pa_cons (pe_callB call_len_seq (by rfl) T.z_len PySem.boot_len (pa_cons (pe_fld (pv 3) rfl) pa_nil)) pa_nil)))) pa_nil)))))))) pss_nil)))))))), ?_⟩
    refine ⟨_, rfl, sa, dxs, _, rfl, hsa, zip_none (by decide +kernel), ow, sa, sn, rfl, SA, sg.ok, by omega, by omega, required_len sg hg, fun H1 rl s1 hrl => ?_⟩
    have hgo : s0.start sn = startGo sn sn.renderable s0 := rfl
    have hren : ∀ n ∈ sn.renderable, sn.isRend n = true := fun n hn => (List.mem_filter.mp hn).2
    generalize sn.renderable = rn at *
    refine ⟨rl, rfl, ⟨_, sqL_of hrl⟩, for_items rn (fun i σ H2 => ∃ (s : S) (b2 b3 : Option V), σ = [some (.ref L.p), some (.ref sa), b2, b3] ∧ startGo sn (rn.drop i) s = s0.start sn ∧ PubX K P w own L op sd pg fv vv s H2 ∧ Gd s ∧ SnG s sn ∧ SnapAt K ow H2 sa sn ∧ Fr own H H2 ∧ H2 rl = some (.lst (rn.map V.str)))
      ⟨s0, _, _, rfl, hgo.symm, X.same s1, hg, sg, SA.same s1, fr_same s1, hrl⟩ (fun i n σ H2 hi pv => ?_) fun σ H2 pv => ?_⟩
    · obtain ⟨s, b2, b3, rfl, hst, X2, hg2, sg2, SA2, fr2, hrl2⟩ := pv
      have hxi : (rn.map V.str)[i]? = some (.str n) := by rw [List.getElem?_map, hi] <;> rfl
      refine ⟨itl_go (sqL_of hrl2) hxi, fun x H3 hy => ?_⟩
      obtain ⟨rfl, rfl⟩ := itl_yld (sqL_of hrl2) hxi hy
      have hdrop : rn.drop i = n :: rn.drop (i + 1) := by
        rw [List.drop_eq_getElem?_toList_append, hi] <;> rfl
      rw [hdrop, startGo] at hst
      obtain ⟨dx2, hp2⟩ := X2.pub
      have hnr := hren n (List.mem_of_getElem? hi)
      refine ⟨_, rfl, L.p, dx2, _, rfl, hp2, zip_none (by decide +kernel), own, L, s, rfl, ⟨op, sd, pg, fv, vv, X2⟩, Nat.le_trans hg2.jks.len (by decide), fun H4 s4 => ?_⟩
      have X4 := X2.same s4
      obtain ⟨dx4, hp4⟩ := X4.pub
      refine ⟨_, rfl, L.p, _, dx4, _, _, rfl, hp4, T.cl_Publisher, T.na_Publisher__options, zip_look (i := 0) (pks_nd) rfl rfl, _, _, _, _, rfl, rfl, X4.opt.sq, Opt.at0, rfl, _, rfl, ?_⟩
      have SA4 := SA2.same s4
      have fr4 := fr2.trans (fr_same s4)
      have hrl4 := s4 _ _ hrl2
      by_cases hc : (s.running : Int) = s.o.together
      · rw [if_pos hc] at hst
        refine ifY (dT (by rw [hc])) ?_
        subst hst
        exact kk _ ⟨op, sd, pg, fv, vv, X4⟩ SA4 fr4
      rw [if_neg hc] at hst
      refine ifN (dF fun z => hc (V.int.inj z)) ?_
      obtain ⟨hg5, _, hcur, hwan, j, hj⟩ := hg2.newJob sg2 hnr
      have sg5 : SnG (s.newJob sn n) sn := ⟨sg2.ok, sg2.src.trans hcur.symm, sg2.pgs.trans hwan.symm⟩
      refine ⟨fun σ' H5 => σ' = [some (.ref L.p), some (.ref sa), some (.str n), b3] ∧ PubX K P w own L op sd pg fv vv (s.newJob sn n) H5 ∧ SnapAt K ow H5 sa sn ∧ Fr own H H5 ∧ H5 rl = some (.lst (rn.map V.str)), ?_, ?_⟩
      · obtain ⟨hjo, kvs, hjd, hjr, hjn⟩ := X4.atj
        refine ⟨_, rfl, _, rfl, L.p, _, dx4, _, _, rfl, hp4, T.cl_Publisher, T.na_Publisher__jobs, zip_look (i := 8) (pks_nd) rfl rfl, L.jd, _, rfl, .inl ⟨kvs, .inr n, .of hjd, rfl, rfl⟩, _, rfl, ?_⟩
        have hhas := hjr.has n
        cases hh : ahas s.jobs n with
        | true =>
          have e : s.newJob sn n = s := by
            unfold S.newJob
            rw [hh] <;> rfl
          rw [e]
          exact ifN (by rw [hhas, hh] <;> rfl) ⟨rfl, X4, SA4, fr4, hrl4⟩
        | false =>
          have e : s.newJob sn n = { s with jobs := s.jobs ++ [(n, ⟨(s.text n).getD "", sn.told n, 0, .queued⟩)] } := by
            unfold S.newJob
            rw [hh] <;> rfl
          rw [e]
          obtain ⟨h1, h2⟩ := isRend_facts hnr
          obtain ⟨t, ht⟩ : ∃ t, aget sn.src n = some t := by
            rw [ahas_get] at h1
            exact Option.isSome_iff_exists.mp h1
          have htx : s.text n = some t := by rw [S.text_cur, ← sg2.src]; exact ht
          obtain ⟨_, _, _, _, Y4⟩ := id SA4
          obtain ⟨dxs4, hsa4⟩ := Y4.ins
          rw [htx]
          refine ifY (by rw [hhas, hh] <;> rfl) ⟨_, rfl, L.p, dx4, _, rfl, hp4, zip_none (by decide +kernel), _, rfl, own, L, s, n, rfl, ⟨op, sd, pg, fv, vv, X4⟩, ?_⟩
          rw [htx]
          refine ⟨_, rfl, sa, dxs4, _, rfl, hsa4, zip_none (by decide +kernel), _, rfl, ow, sa, sn, n, rfl, SA4, sg2.ok, fun H5 l us s5 hln hl hd hul => ⟨l, us, rfl, .inl ⟨sqL_of hl, fun q hq => ?_⟩⟩⟩
          have s6 := s5.trans (same_new hq (o := .tup us))
          have hd6 : Dt K (upd H5 q (.tup us)) (.ref q) (encT (sn.told n)) := .tup upd_same (hd.keep (Same.tk (same_new hq)))
          intro x dxx hx1 hx2 hne
          have s7 := same_make (C := He.ga K "Job") hx1 hx2 hne
          refine ⟨x, dxx, _, _, rfl, upd_same, rfl, ?_⟩
          rw [upd2]
          have hdxn : upd (upd H5 q (.tup us)) dxx (.own x) x = none := by rw [upd_ne hne.symm]; exact hx1
          have s8 := s6.trans ((same_new hx2 (o := .own x)).trans (same_new hdxn (o := .ins (He.ga K "Job") dxx (jks.zip [.str t, .ref q, .int 0, .str "queued"]))))
          have hp8 := s8 _ _ hp4
          have hjd8 := s8 _ _ hjd
          refine ⟨_, rfl, L.p, _, dx4, _, _, rfl, hp8, T.cl_Publisher, T.na_Publisher__jobs, zip_look (i := 8) (pks_nd) rfl rfl, _, rfl, L.jd, _, rfl, .inl ⟨kvs, .inr n, hjd8, rfl, ?_, rfl⟩, ?_⟩
          · rw [hjr.len]
            exact small5' (Nat.le_trans hg2.jks.len (by decide))
          · have hd8 := hd6.keep (Same.tk ((same_new hx2 (o := .own x)).trans (same_new hdxn (o := .ins (He.ga K "Job") dxx (jks.zip [.str t, .ref q, .int 0, .str "queued"])))))
            have A8 := JobsAt.add (n := n) (j := ⟨t, sn.told n, 0, .queued⟩) X4.atj hh hjd s8 (none_same s6 hx1) (X4.fresh _ (none_same s6 hx1)) ⟨dxx, upd_same⟩ hd8
            have X8 := (X4.same s8).setj but_upd A8
            exact ⟨rfl, X8, (SA4.same s8).but but_upd hjd8 (fun _ z => nomatch z) (fun z => nomatch z) (.inr how), (fr4.trans (fr_same s8)).trans (fr_but but_upd hjd8 (fun _ z => nomatch z) hjo), but_upd _ _ (ne_of (s8 _ _ hrl4) hjd8 fun z => nomatch z) (s8 _ _ hrl4)⟩
      · rintro σ' H5 ⟨rfl, X5, SA5, fr5, hrl5⟩
        obtain ⟨hg6, _, hcur6, hwan6⟩ := hg5.startJob hj
        have sg6 : SnG ((s.newJob sn n).startJob n) sn := ⟨sg5.ok, sg5.src.trans hcur6.symm, sg5.pgs.trans hwan6.symm⟩
        have ejob : (s.newJob sn n).startJob n = if j.state = .queued then { (s.newJob sn n) with jobs := aput (s.newJob sn n).jobs n { j with state := .run, attempt := j.attempt + 1 }, made := (s.newJob sn n).made + 1, tms := tput (s.newJob sn n).tms (.att n) ((s.newJob sn n).clock + duration (s.newJob sn n).o j.found.length) } else (s.newJob sn n) := by
          unfold S.startJob
          rw [hj]
        generalize s.newJob sn n = s5 at *
        obtain ⟨dx5, hp5⟩ := X5.pub
        obtain ⟨hjo, kvs, hjd, hjr, hjn⟩ := X5.atj
        obtain ⟨_, zz⟩ := hjr.get n
        obtain ⟨v, hv, ja, fl, rfl, hjao, ⟨dxj, hja⟩, hfl⟩ := zz j hj
        refine ⟨_, rfl, L.p, _, dx5, _, _, rfl, hp5, T.cl_Publisher, T.na_Publisher__jobs, zip_look (i := 8) (pks_nd) rfl rfl, _, rfl, L.jd, _, rfl, .inl ⟨kvs, .inr n, .of hjd, rfl, hv.symm⟩, ?_⟩
        refine ⟨_, rfl, ja, _, dxj, _, _, rfl, hja, T.cl_Job, T.na_Job_state, zip_look (i := 3) (jks_nd) rfl rfl, rfl, _, rfl, ?_⟩
        by_cases hq : j.state = .queued
        · rw [if_pos hq] at ejob
          refine ifY ((st_queued _).trans (dT hq)) ?_
          refine ⟨_, rfl, ja, _, dxj, _, rfl, hja, T.cl_Job, T.na_Job_state, Nat.lt_of_le_of_lt zip_len (by decide), ?_⟩
          have e1 : putF "state" (.str "running") (jks.zip [.str j.text, fl, .int j.attempt, .str j.state.enc]) = jks.zip [.str j.text, fl, .int j.attempt, .str "running"] := zip_put (i := 3) jks_nd rfl (lt4 (by decide))
          rw [e1]
          have hj1 := upd_same (H := H5) (a := ja) (o := .ins (He.ga K "Job") dxj (jks.zip [.str j.text, fl, .int j.attempt, .str "running"]))
          refine ⟨_, rfl, ja, _, dxj, _, _, rfl, hj1, T.cl_Job, T.na_Job_attempt, zip_look (i := 2) (jks_nd) rfl rfl, _, _, rfl, rfl, _, rfl, ja, _, dxj, _, rfl, hj1, T.cl_Job, T.na_Job_attempt, Nat.lt_of_le_of_lt zip_len (by decide), ?_⟩
          have e2 : putF "attempt" (.int (j.attempt + 1)) (jks.zip [.str j.text, fl, .int j.attempt, .str "running"]) = jks.zip [.str j.text, fl, .int (j.attempt + 1), .str "running"] := zip_put (i := 2) jks_nd rfl (lt4 (by decide))
          rw [e2, upd2]
          have A6 := JobsAt.set (j' := { j with state := .run, attempt := j.attempt + 1 }) X5.atj hg5.jks.1 hjd hv hj hja rfl rfl hfl hjao
          replace A6 : JobsAt K own (upd H5 ja (.ins (He.ga K "Job") dxj (jks.zip [.str j.text, fl, .int (j.attempt + 1), .str "running"]))) L.jd (aput s5.jobs n { j with state := .run, attempt := j.attempt + 1 }) := A6
          have b6 : But ja H5 (upd H5 ja (.ins (He.ga K "Job") dxj (jks.zip [.str j.text, fl, .int (j.attempt + 1), .str "running"]))) := but_upd
          have X6 := X5.seto hja b6 (by rw [upd_same]; exact fun z => nomatch z) A6
          have SA6 := SA5.but b6 hja (fun _ z => nomatch z) tj_s' (.inl fun _ z => nomatch z)
          have fr6 := fr5.trans (fr_but b6 hja (fun _ z => nomatch z) hjao)
          have hrl6 := b6 _ _ (ne_of hrl5 hja fun z => nomatch z) hrl5
          have hja6 := upd_same (H := H5) (a := ja) (o := .ins (He.ga K "Job") dxj (jks.zip [.str j.text, fl, .int (j.attempt + 1), .str "running"]))
          have hfl6 := hfl.keep (but_tk b6 hja (fun _ z => nomatch z))
          generalize upd H5 ja (.ins (He.ga K "Job") dxj (jks.zip [.str j.text, fl, .int (j.attempt + 1), .str "running"])) = H6 at *
          obtain ⟨dx6, hp6⟩ := X6.pub
          replace hp6 : H6 L.p = some (.ins (He.ga K "Publisher") dx6 (pks.zip [.ref op, .int s5.clock, .ref sd, .ref pg, .int s5.count, .int s5.last, .ref L.ca, .ref L.ta, .ref L.jd, fv, oi s5.dirty, vv, .int s5.published, .int s5.made])) := hp6
          refine ⟨_, rfl, L.p, _, dx6, _, _, rfl, hp6, T.cl_Publisher, T.na_Publisher__attempts_made, zip_look (i := 13) (pks_nd) rfl rfl, _, _, rfl, rfl, _, rfl, L.p, _, dx6, _, rfl, hp6, T.cl_Publisher, T.na_Publisher__attempts_made, Nat.lt_of_le_of_lt zip_len (by decide), ?_⟩
          have e3 : putF "_attempts_made" (.int (s5.made + 1)) (pks.zip [.ref op, .int s5.clock, .ref sd, .ref pg, .int s5.count, .int s5.last, .ref L.ca, .ref L.ta, .ref L.jd, fv, oi s5.dirty, vv, .int s5.published, .int s5.made]) = pks.zip [.ref op, .int s5.clock, .ref sd, .ref pg, .int s5.count, .int s5.last, .ref L.ca, .ref L.ta, .ref L.jd, fv, oi s5.dirty, vv, .int s5.published, .int (s5.made + 1)] := zip_put (i := 13) pks_nd rfl (lt14 (by decide))
          rw [e3]
          have X7 := X6.setp (s' := { s5 with jobs := aput s5.jobs n { j with state := .run, attempt := j.attempt + 1 }, made := s5.made + 1 }) (dx := dx6) rfl rfl rfl X6.opt X6.src X6.pgs X6.frz X6.ver
          have b7 : But L.p H6 (upd H6 L.p (.ins (He.ga K "Publisher") dx6 (pks.zip [.ref op, .int s5.clock, .ref sd, .ref pg, .int s5.count, .int s5.last, .ref L.ca, .ref L.ta, .ref L.jd, fv, oi s5.dirty, vv, .int s5.published, .int (s5.made + 1)]))) := but_upd
          have SA7 := SA6.but b7 hp6 (fun _ z => nomatch z) tp_s (.inl fun _ z => nomatch z)
          have fr7 := fr6.trans (fr_but b7 hp6 (fun _ z => nomatch z) X6.ownp)
          have hrl7 := b7 _ _ (ne_of hrl6 hp6 fun z => nomatch z) hrl6
          have hja7 := b7 _ _ (ne_tag hja6 hp6 tg_j) hja6
          have hfl7 := hfl6.keep (but_tk b7 hp6 (fun _ z => nomatch z))
          have hp7 := upd_same (H := H6) (a := L.p) (o := .ins (He.ga K "Publisher") dx6 (pks.zip [.ref op, .int s5.clock, .ref sd, .ref pg, .int s5.count, .int s5.last, .ref L.ca, .ref L.ta, .ref L.jd, fv, oi s5.dirty, vv, .int s5.published, .int (s5.made + 1)]))
          replace X7 : PubX K P w own L op sd pg fv vv { s5 with jobs := aput s5.jobs n { j with state := .run, attempt := j.attempt + 1 }, made := s5.made + 1 } (upd H6 L.p (.ins (He.ga K "Publisher") dx6 (pks.zip [.ref op, .int s5.clock, .ref sd, .ref pg, .int s5.count, .int s5.last, .ref L.ca, .ref L.ta, .ref L.jd, fv, oi s5.dirty, vv, .int s5.published, .int (s5.made + 1)]))) := X7
          generalize upd H6 L.p (.ins (He.ga K "Publisher") dx6 (pks.zip [.ref op, .int s5.clock, .ref sd, .ref pg, .int s5.count, .int s5.last, .ref L.ca, .ref L.ta, .ref L.jd, fv, oi s5.dirty, vv, .int s5.published, .int (s5.made + 1)])) = H7 at *
          obtain ⟨dxt, hta⟩ := X7.tmr
          refine ⟨_, rfl, L.p, _, dx6, _, _, rfl, hp7, T.cl_Publisher, T.na_Publisher__timers, zip_look (i := 7) (pks_nd) rfl rfl, L.ta, dxt, _, rfl, hta, zip_none (by decide +kernel), _, rfl, le2, fun q1 hq1 => ?_⟩
          have s8 := same_new hq1 (o := .tup [.str "attempt", .str n])
          have X8 := X7.same s8
          have hp8 := s8 _ _ hp7
          have hja8 := s8 _ _ hja7
          have hfl8 := hfl7.keep (Same.tk s8)
          obtain ⟨pf, xf, rfl, hpf, hxf⟩ := hfl8.itemsU
          have hxl : xf.length = j.found.length := by rw [hxf.len, List.length_map]
          have hjg := aget_jobG hg5 hj
          have hfl2 : j.found.length ≤ 100000 := by
            obtain ⟨kn, hk⟩ := hjg.told
            have h1 := flat_len (toldSeg kn n) 2 (split n j.text) fun g _ => toldSeg_len _ _ g
            obtain ⟨_, h2⟩ := split_len (name := n) hjg.len
            have h3 := hjg.len
            rw [hk]
            unfold toldOf
            omega
          refine ⟨_, rfl, L.p, _, dx6, _, _, rfl, hp8, T.cl_Publisher, T.na_Publisher__clock, zip_look (i := 1) (pks_nd) rfl rfl, _, rfl, L.p, _, dx6, _, _, rfl, hp8, T.cl_Publisher, T.na_Publisher__options, zip_look (i := 0) (pks_nd) rfl rfl, _, rfl, ja, _, dxj, _, _, rfl, hja8, T.cl_Job, T.na_Job_found, zip_look (i := 1) (jks_nd) rfl rfl, pf, xf, rfl, .inr hpf.sq, ?_⟩
          refine ⟨op, s5.o, j.found.length, ?_, X8.opt, hg5.opt, hfl2, ?_⟩
          · rw [hxl] <;> rfl
          refine ⟨_, _, rfl, rfl, own, L.ta, L.td, q1, s5.tms, .att n, s5.clock + duration s5.o j.found.length, rfl, ⟨X8.tmr, X8.att⟩, key_att upd_same, Nat.le_trans hg5.tlen (by decide), fun H9 bt9 tt9 => ?_⟩
          obtain ⟨hto, xs, htd, _⟩ := X8.att
          have X9 := X8.sett bt9 tt9
          refine ⟨(s5.startJob n), _, _, rfl, hst, ?_, hg6, sg6, (SA7.same s8).but bt9 htd (fun _ z => nomatch z) (fun z => nomatch z) (.inl fun _ z => nomatch z), (fr7.trans (fr_same s8)).trans (fr_but bt9 htd (fun _ z => nomatch z) hto), bt9 _ _ (ne_of (s8 _ _ hrl7) htd fun z => nomatch z) (s8 _ _ hrl7)⟩
          rw [ejob]
          exact X9
        · rw [if_neg hq] at ejob
          refine ifN ((st_queued _).trans (dF hq)) ⟨s5, _, _, rfl, ?_, X5, hg5, sg5, SA5, fr5, hrl5⟩
          rw [← hst, ejob]
    · obtain ⟨s, b2, b3, rfl, hst, X2, hg2, sg2, SA2, fr2, hrl2⟩ := pv
      rw [List.drop_length] at hst
      replace hst : s = s0.start sn := hst
      subst hst
      exact ⟨itl_stop (sqL_of hrl2) (by rw [List.length_map]; exact Nat.le_refl _), kk _ ⟨op, sd, pg, fv, vv, X2⟩ SA2 fr2⟩
end
end L2.TP
/-! Publisher: freeze, release. -/
namespace L2.TP
open PySem PySem.Spec PyProof.Rows L2
section
variable {P : Program} {w : World} {K : PySem.W.Frag} {mg : Str → Option Value} {base : Heap} {H H' : Hp}
def spB (K : PySem.W.Frag) (P : Program) (w : World) (pr : Bool → Bool → Prop) (f : S → S) : Sp := spM K P w (fun s => pr s.frz.isSome s.dirty.isSome) f
theorem key_pause (T : Txt w K mg) : KeyU K H (He.ga K "PAUSE") .pause := T.t_PAUSE _
theorem key_wait (T : Txt w K mg) : KeyU K H (He.ga K "WAIT") .wait := T.t_WAIT _
/-- the attributes, by their values -/
def pvs (op sd pg : Addr) (L : Lay) (fv vv : V) (s : S) : List V := [.ref op, .int s.clock, .ref sd, .ref pg, .int s.count, .int s.last, .ref L.ca, .ref L.ta, .ref L.jd, fv, oi s.dirty, vv, .int s.published, .int s.made]
theorem ne_of_none' {a b : Addr} {o : HO} (h : H a = none) (h2 : H b = some o) : a ≠ b := fun e => by
  rw [e, h2] at h
  cases h
theorem out_fresh {own : Addr → Prop} {L : Lay} {op sd pg : Addr} {fv vv : V} {s : S} (X : PubX K P w own L op sd pg fv vv s H) {x : Addr} (hx : H x = none) : L.out own x := by
  obtain ⟨_, kc, hc, _⟩ := X.atc
  obtain ⟨_, kj, hj, _⟩ := X.atj
  exact ⟨X.fresh x hx, ne_of_none' hx hc, ne_of_none' hx hj⟩
theorem ok_prog_no (T : Txt w K mg) (n : Nat) (f : S → S) : FnOk P w K mg base CX0 (n + 1) (He.ma K (He.ga K "Publisher") "_progress") (fd_Publisher__progress K) ["self"] (spB K P w (fun _ _ => False) f) :=
  T.f_Publisher__progress.ok sc_Publisher__progress (fun vs H Q E h => by obtain ⟨_, _, _, _, _, _, h, _⟩ := h; exact h.elim) (fun cdv A outer s H vs Q E hr h => by obtain ⟨_, _, _, _, _, _, h, _⟩ := h; exact h.elim)
theorem ok_frz_no (T : Txt w K mg) (n : Nat) (f : S → S) : FnOk P w K mg base CX0 (n + 1) (He.ma K (He.ga K "Publisher") "_freeze") (fd_Publisher__freeze K) ["self"] (spB K P w (fun _ _ => False) f) :=
  T.f_Publisher__freeze.ok sc_Publisher__freeze (fun vs H Q E h => by obtain ⟨_, _, _, _, _, _, h, _⟩ := h; exact h.elim) (fun cdv A outer s H vs Q E hr h => by obtain ⟨_, _, _, _, _, _, h, _⟩ := h; exact h.elim)
theorem ok_freeze (T : Txt w K mg) {n : Nat} {κ : S → S} {pr : Bool → Bool → Prop} (hn : 5 ≤ n) (hpr : pr true false) (G_Publisher__progress : FnOk P w K mg base CX0 n (He.ma K (He.ga K "Publisher") "_progress") (fd_Publisher__progress K) ["self"] (spB K P w pr κ)) :
    FnOk P w K mg base CX0 (n + 1) (He.ma K (He.ga K "Publisher") "_freeze") (fd_Publisher__freeze K) ["self"] (spB K P w (fun _ _ => True) (S.freeze κ)) := by
  have G_Frozen___init__ := ok_frozen_init (P := P) (base := base) T
  have G_Timers_remove := ok_timers_remove (P := P) (base := base) T
  refine T.f_Publisher__freeze.ok sc_Publisher__freeze (fun vs H Q E h => ?_) (fun cdv A outer s H vs Q E hr h => ?_)
  · obtain ⟨a, b, c, rfl, _⟩ := h
    rfl
  · obtain ⟨own, L, s0, rfl, ⟨op, sd, pg, fv, vv, X⟩, hg, _, kk⟩ := h
    have hu := hu_of hr
    obtain ⟨dx, hp⟩ := X.pub
    obtain ⟨_, kvs, hsd, hsr⟩ := X.src
    refine ⟨_, PSs.nox ((pss_cons (ps_fld (pv 0) (pe_make T.mk_Frozen G_Frozen___init__ (hr.mono (by omega)) rfl T.g_Frozen T.b_Frozen___init__ .nil pass0 (pa_cons (pe_callTy call_dictD (by rfl) T.z_dict (by decide +kernel) (pa_cons (pe_fld (pv 0) rfl) pa_nil)) (pa_cons (pe_fld (pv 0) rfl) (pa_cons (pe_fld (pv 0) rfl) (pa_cons (pe_fld (pv 0) rfl) pa_nil))))) rfl)
      (pss_cons (ps_fld (pv 0) pe_non rfl)
      (pss_cons (ps_expr (pe_meth (pe_fld (pv 0) rfl) T.cl_Timers T.mt_Timers_remove G_Timers_remove (hr.mono (by omega)) T.b_Timers_remove .nil pass0 (pa_cons (pe_gr T.g_PAUSE) pa_nil)))
      (pss_one (ps_expr (pe_meth0 (pv 0) T.cl_Publisher T.mt_Publisher__progress G_Publisher__progress (hr.mono (by omega)) T.b_Publisher__progress .nil pass0))))))), ?_⟩
    refine ⟨_, rfl, L.p, _, dx, _, _, rfl, hp, T.cl_Publisher, T.na_Publisher__sources, zip_look (i := 2) (pks_nd) rfl rfl, sd, kvs, rfl, .of hsd, fun q hq => ?_⟩
    have s1 := same_new hq (o := .dK kvs)
    have hp1 := s1 _ _ hp
    refine ⟨_, rfl, L.p, _, dx, _, _, rfl, hp1, T.cl_Publisher, T.na_Publisher__pages, zip_look (i := 3) (pks_nd) rfl rfl, _, rfl, L.p, _, dx, _, _, rfl, hp1, T.cl_Publisher, T.na_Publisher__count, zip_look (i := 4) (pks_nd) rfl rfl, _, rfl, L.p, _, dx, _, _, rfl, hp1, T.cl_Publisher, T.na_Publisher__clock, zip_look (i := 1) (pks_nd) rfl rfl, fun x dxx h1 h2 hne => ?_⟩
    refine ⟨x, dxx, _, _, _, _, rfl, upd_same, rfl, ?_⟩
    rw [upd2]
    have hxn : upd (upd H q (.dK kvs)) dxx (.own x) x = none := by rw [upd_ne hne.symm]; exact h1
    have s2 := s1.trans ((same_new h2 (o := .own x)).trans (same_new hxn (o := .ins (He.ga K "Frozen") dxx (fks.zip [.ref q, .ref pg, .int s0.count, .int s0.clock]))))
    have hq2 := ((same_new h2 (o := .own x)).trans (same_new hxn (o := .ins (He.ga K "Frozen") dxx (fks.zip [.ref q, .ref pg, .int s0.count, .int s0.clock])))) _ _ (upd_same (H := H) (a := q) (o := .dK kvs))
    have hx2 := upd_same (H := upd (upd H q (.dK kvs)) dxx (.own x)) (a := x) (o := .ins (He.ga K "Frozen") dxx (fks.zip [.ref q, .ref pg, .int s0.count, .int s0.clock]))
    have X2 := X.same s2
    have hp2 := s2 _ _ hp
    have hxo : L.out own x := out_fresh X (none_same s1 h1)
    have hqo : L.out own q := out_fresh X hq
    generalize upd (upd (upd H q (.dK kvs)) dxx (.own x)) x (.ins (He.ga K "Frozen") dxx (fks.zip [.ref q, .ref pg, .int s0.count, .int s0.clock])) = H2 at *
    refine ⟨_, rfl, L.p, _, dx, _, rfl, hp2, T.cl_Publisher, T.na_Publisher__frozen, Nat.lt_of_le_of_lt zip_len (by decide), ?_⟩
    have e3 : putF "_frozen" (.ref x) (pks.zip [.ref op, .int s0.clock, .ref sd, .ref pg, .int s0.count, .int s0.last, .ref L.ca, .ref L.ta, .ref L.jd, fv, oi s0.dirty, vv, .int s0.published, .int s0.made]) = pks.zip [.ref op, .int s0.clock, .ref sd, .ref pg, .int s0.count, .int s0.last, .ref L.ca, .ref L.ta, .ref L.jd, .ref x, oi s0.dirty, vv, .int s0.published, .int s0.made] := zip_put (i := 9) pks_nd rfl (lt14 (by decide))
    rw [e3]
    refine ⟨_, rfl, L.p, _, dx, _, rfl, upd_same, T.cl_Publisher, T.na_Publisher__dirty_since, Nat.lt_of_le_of_lt zip_len (by decide), ?_⟩
    have e4 : putF "_dirty_since" .non (pks.zip [.ref op, .int s0.clock, .ref sd, .ref pg, .int s0.count, .int s0.last, .ref L.ca, .ref L.ta, .ref L.jd, .ref x, oi s0.dirty, vv, .int s0.published, .int s0.made]) = pks.zip [.ref op, .int s0.clock, .ref sd, .ref pg, .int s0.count, .int s0.last, .ref L.ca, .ref L.ta, .ref L.jd, .ref x, .non, vv, .int s0.published, .int s0.made] := zip_put (i := 10) pks_nd rfl (lt14 (by decide))
    rw [e4, upd2]
    have X3 := X2.setp (s' := { s0 with frz := some ⟨s0.src, s0.pages, s0.count, s0.clock⟩, dirty := none }) (dx := dx) (fv' := .ref x) rfl rfl rfl X2.opt X2.src X2.pgs ⟨x, q, pg, rfl, hxo, ⟨dxx, hx2⟩, ⟨hqo, kvs, hq2, hsr⟩, X2.pgs⟩ X2.ver
    replace X3 : PubX K P w own L op sd pg (.ref x) vv { s0 with frz := some ⟨s0.src, s0.pages, s0.count, s0.clock⟩, dirty := none } (upd H2 L.p (.ins (He.ga K "Publisher") dx (pks.zip [.ref op, .int s0.clock, .ref sd, .ref pg, .int s0.count, .int s0.last, .ref L.ca, .ref L.ta, .ref L.jd, .ref x, .non, vv, .int s0.published, .int s0.made]))) := X3
    have fr3 : Fr own H (upd H2 L.p (.ins (He.ga K "Publisher") dx (pks.zip [.ref op, .int s0.clock, .ref sd, .ref pg, .int s0.count, .int s0.last, .ref L.ca, .ref L.ta, .ref L.jd, .ref x, .non, vv, .int s0.published, .int s0.made]))) := (fr_same s2).trans (fr_but but_upd hp2 (fun _ z => nomatch z) X.ownp)
    generalize upd H2 L.p (.ins (He.ga K "Publisher") dx (pks.zip [.ref op, .int s0.clock, .ref sd, .ref pg, .int s0.count, .int s0.last, .ref L.ca, .ref L.ta, .ref L.jd, .ref x, .non, vv, .int s0.published, .int s0.made])) = H3 at *
    obtain ⟨dx3, hp3⟩ := X3.pub
    obtain ⟨dxt, hta⟩ := X3.tmr
    refine ⟨_, rfl, L.p, _, dx3, _, _, rfl, hp3, T.cl_Publisher, T.na_Publisher__timers, zip_look (i := 7) (pks_nd) rfl rfl, L.ta, dxt, _, rfl, hta, zip_none (by decide +kernel), own, L.ta, L.td, _, _, .pause, rfl, ⟨X3.tmr, X3.att⟩, key_pause T, fun H4 x4 bt4 tt4 => ?_⟩
    obtain ⟨hto, xs, htd, _⟩ := X3.att
    have X4 := X3.sett bt4 tt4
    have fr4 := fr3.trans (fr_but bt4 htd (fun _ z => nomatch z) hto)
    obtain ⟨dx4, hp4⟩ := X4.pub
    have h1 : Gd { s0 with frz := some ⟨s0.src, s0.pages, s0.count, s0.clock⟩, dirty := none, tms := adrop s0.tms .pause } :=
      { opt := hg.opt, src := hg.src, pgs := hg.pgs, cch := hg.cch, cks := hg.cks, jks := hg.jks, jbs := hg.jbs, frz := fun f e => by
          rw [← Option.some.inj e]
          exact ⟨hg.src, hg.pgs⟩, tnd := nd_adrop hg.tnd _, tim := fun p hp => hg.tim p (mem_adrop hp).1, due := fun p hp => hg.due p (mem_adrop hp).1, ver := hg.ver }
    exact ⟨_, rfl, L.p, dx4, _, rfl, hp4, zip_none (by decide +kernel), own, L, _, rfl, ⟨op, sd, pg, .ref x, vv, X4⟩, h1, hpr, fun H5 P5 fr5 => kk H5 P5 (fr4.trans fr5)⟩
end
end L2.TP
/-! Publisher: release. -/
namespace L2.TP
open PySem PySem.Spec PyProof.Rows L2
section
variable {P : Program} {w : World} {K : PySem.W.Frag} {mg : Str → Option Value} {base : Heap} {H H' : Hp}
def S.relT (s : S) (d : Int) : Tms := if s.clock - s.last < s.o.pause then tput (tput s.tms .wait (d + s.o.wait)) .pause (s.last + s.o.pause) else tput s.tms .wait (d + s.o.wait)
theorem rel_none {κ : S → S} {s : S} (h : s.dirty = none) : S.release κ s = { s with frz := none } := by
  unfold S.release
  rw [h]
theorem rel_frz {κ : S → S} {s : S} {d : Int} (h : s.dirty = some d) (c : s.clock - d ≥ s.o.wait) : S.release κ s = S.freeze κ { s with frz := none } := by
  have e : S.release κ s = (if s.clock - d ≥ s.o.wait then S.freeze κ { s with frz := none } else κ { s with frz := none, tms := s.relT d }) := by
    unfold S.release
    rw [h] <;> rfl
  rw [e, if_pos c]
theorem rel_go {κ : S → S} {s : S} {d : Int} (h : s.dirty = some d) (c : ¬ s.clock - d ≥ s.o.wait) : S.release κ s = κ { s with frz := none, tms := s.relT d } := by
  have e : S.release κ s = (if s.clock - d ≥ s.o.wait then S.freeze κ { s with frz := none } else κ { s with frz := none, tms := s.relT d }) := by
    unfold S.release
    rw [h] <;> rfl
  rw [e, if_neg c]
theorem Gd.relGo {s : S} (h : Gd s) {d : Int} (c : ¬ s.clock - d ≥ s.o.wait) : Gd { s with frz := none, tms := s.relT d } := by
  obtain ⟨h1, h2⟩ := h.unfreeze
  obtain ⟨h3, h4⟩ := h1.put (k := .wait) (d := d + s.o.wait) (.inr rfl) (by show s.clock < _; omega)
  unfold S.relT
  by_cases c2 : s.clock - s.last < s.o.pause
  · rw [if_pos c2]
    exact (h3.put (k := .pause) (d := s.last + s.o.pause) (.inl rfl) (by show s.clock < _; omega)).1
  · rw [if_neg c2]
    exact h3
theorem ok_release (T : Txt w K mg) {n m1 m2 : Nat} {κ : S → S} {prF prP : Bool → Bool → Prop} (hn : 5 ≤ n) (hm1 : m1 ≤ n) (hm2 : m2 ≤ n) (G_Publisher__progress : FnOk P w K mg base CX0 m1 (He.ma K (He.ga K "Publisher") "_progress") (fd_Publisher__progress K) ["self"] (spB K P w prP κ))
    (G_Publisher__freeze : FnOk P w K mg base CX0 m2 (He.ma K (He.ga K "Publisher") "_freeze") (fd_Publisher__freeze K) ["self"] (spB K P w prF (S.freeze κ))) :
    FnOk P w K mg base CX0 (n + 1) (He.ma K (He.ga K "Publisher") "_release") (fd_Publisher__release K) ["self"] (spB K P w (fun _ d => d = true → prF false true ∧ prP false true) (S.release κ)) := by
  have G_Timers_put := ok_timers_put (P := P) (base := base) T
  refine T.f_Publisher__release.ok sc_Publisher__release (fun vs H Q E h => ?_) (fun cdv A outer s H vs Q E hr h => ?_)
  · obtain ⟨a, b, c, rfl, _⟩ := h
    rfl
  · obtain ⟨own, L, s0, rfl, ⟨op, sd, pg, fv, vv, X⟩, hg, hpre, kk⟩ := h
    have hu := hu_of hr
    obtain ⟨dx, hp⟩ := X.pub
    refine ⟨_, PSs.nox ((pss_cons (ps_fld (pv 0) pe_non rfl)
      (pss_cons (ps_if (pt_cmpR op_isN (pe_fld (pv 0) rfl) pe_non (nomark _)) (pss_one ps_retN) pss_nil)
      (pss_cons (ps_set (i := 1) sc_Publisher__release.nd rfl (.inl rfl) (pe_op op_sub (pe_fld (pv 0) rfl) (pe_fld (pv 0) rfl)))
      (pss_cons (ps_if (pt_cmpR op_ge (pv 1) (pe_ix ix_tup (pe_fld (pv 0) rfl) pe_int (fun _ _ => rfl)) (nomark _)) (pss_cons (ps_expr (pe_meth0 (pv 0) T.cl_Publisher T.mt_Publisher__freeze G_Publisher__freeze (hr.mono (by omega)) T.b_Publisher__freeze .nil pass0))
      (pss_one ps_retN)) pss_nil)
      (pss_cons (ps_expr (pe_meth (pe_fld (pv 0) rfl) T.cl_Timers T.mt_Timers_put G_Timers_put (hr.mono (by omega)) T.b_Timers_put .nil pass0 (pa_cons (pe_gr T.g_WAIT) (pa_cons (pe_op op_add (pe_fld (pv 0) rfl) (pe_ix ix_tup (pe_fld (pv 0) rfl) pe_int (fun _ _ => rfl))) pa_nil))))
      (C8.pss_cut (ps_if (pt_cmpR op_lt (pe_op op_sub (pe_fld (pv 0) rfl) (pe_fld (pv 0) rfl)) (pe_ix ix_tup (pe_fld (pv 0) rfl) pe_int (fun _ _ => rfl)) (nomark _)) (pss_one (ps_expr (pe_meth (pe_fld (pv 0) rfl) T.cl_Timers T.mt_Timers_put G_Timers_put (hr.mono (by omega)) T.b_Timers_put .nil pass0 (pa_cons (pe_gr T.g_PAUSE) (pa_cons (pe_op op_add (pe_fld (pv 0) rfl) (pe_ix ix_tup (pe_fld (pv 0) rfl) pe_int (fun _ _ => rfl))) pa_nil))))) pss_nil)
      (pss_one (ps_expr (pe_meth0 (pv 0) T.cl_Publisher T.mt_Publisher__progress G_Publisher__progress (hr.mono (by omega)) T.b_Publisher__progress .nil pass0)))))))))), ?_⟩
    refine ⟨_, rfl, L.p, _, dx, _, rfl, hp, T.cl_Publisher, T.na_Publisher__frozen, Nat.lt_of_le_of_lt zip_len (by decide), ?_⟩
    have e3 : putF "_frozen" .non (pks.zip [.ref op, .int s0.clock, .ref sd, .ref pg, .int s0.count, .int s0.last, .ref L.ca, .ref L.ta, .ref L.jd, fv, oi s0.dirty, vv, .int s0.published, .int s0.made]) = pks.zip [.ref op, .int s0.clock, .ref sd, .ref pg, .int s0.count, .int s0.last, .ref L.ca, .ref L.ta, .ref L.jd, .non, oi s0.dirty, vv, .int s0.published, .int s0.made] := zip_put (i := 9) pks_nd rfl (lt14 (by decide))
    rw [e3]
    have X1 := X.setp (s' := { s0 with frz := none }) (dx := dx) (fv' := .non) rfl rfl rfl X.opt X.src X.pgs rfl X.ver
    replace X1 : PubX K P w own L op sd pg .non vv { s0 with frz := none } (upd H L.p (.ins (He.ga K "Publisher") dx (pks.zip [.ref op, .int s0.clock, .ref sd, .ref pg, .int s0.count, .int s0.last, .ref L.ca, .ref L.ta, .ref L.jd, .non, oi s0.dirty, vv, .int s0.published, .int s0.made]))) := X1
    have fr1 : Fr own H (upd H L.p (.ins (He.ga K "Publisher") dx (pks.zip [.ref op, .int s0.clock, .ref sd, .ref pg, .int s0.count, .int s0.last, .ref L.ca, .ref L.ta, .ref L.jd, .non, oi s0.dirty, vv, .int s0.published, .int s0.made]))) := fr_but but_upd hp (fun _ z => nomatch z) X.ownp
    have hp1 := upd_same (H := H) (a := L.p) (o := .ins (He.ga K "Publisher") dx (pks.zip [.ref op, .int s0.clock, .ref sd, .ref pg, .int s0.count, .int s0.last, .ref L.ca, .ref L.ta, .ref L.jd, .non, oi s0.dirty, vv, .int s0.published, .int s0.made]))
    generalize upd H L.p (.ins (He.ga K "Publisher") dx (pks.zip [.ref op, .int s0.clock, .ref sd, .ref pg, .int s0.count, .int s0.last, .ref L.ca, .ref L.ta, .ref L.jd, .non, oi s0.dirty, vv, .int s0.published, .int s0.made])) = H1 at *
    have hg1 := hg.unfreeze.1
    refine ⟨_, rfl, L.p, _, dx, _, _, rfl, hp1, T.cl_Publisher, T.na_Publisher__dirty_since, zip_look (i := 10) (pks_nd) rfl rfl, rfl, _, rfl, ?_⟩
    cases hd : s0.dirty with
    | none =>
      have X2 : PubX K P w own L op sd pg .non vv (S.release κ s0) H1 := by rw [rel_none hd]; exact X1
      exact ifY rfl (kk H1 ⟨op, sd, pg, .non, vv, X2⟩ fr1)
    | some d =>
      have hpr := hpre (by rw [hd]; rfl)
      rw [hd] at hp1
      refine ifN rfl ⟨_, rfl, L.p, _, dx, _, _, rfl, hp1, T.cl_Publisher, T.na_Publisher__clock, zip_look (i := 1) (pks_nd) rfl rfl, _, rfl, L.p, _, dx, _, _, rfl, hp1, T.cl_Publisher, T.na_Publisher__dirty_since, zip_look (i := 10) (pks_nd) rfl rfl, _, _, rfl, rfl, ?_⟩
      refine ⟨_, rfl, _, rfl, L.p, _, dx, _, _, rfl, hp1, T.cl_Publisher, T.na_Publisher__options, zip_look (i := 0) (pks_nd) rfl rfl, _, _, _, _, rfl, rfl, X1.opt.sq, Opt.at6, _, _, rfl, rfl, _, rfl, ?_⟩
      by_cases c1 : s0.clock - d ≥ s0.o.wait
      · refine ifY (dT c1) ⟨_, rfl, L.p, dx, _, rfl, hp1, zip_none (by decide +kernel), own, L, _, rfl, ⟨op, sd, pg, .non, vv, X1⟩, hg1, ?_, fun H2 P2 fr2 => ?_⟩
        · show prF false s0.dirty.isSome
          rw [hd]
          exact hpr.1
        · have P3 : Pub K P w own L (S.release κ s0) H2 := by rw [rel_frz hd c1]; exact P2
          exact kk H2 P3 (fr1.trans fr2)
      · have hgo := rel_go (κ := κ) hd c1
        have hg2 := hg.relGo c1
        obtain ⟨dxt, hta⟩ := X1.tmr
        refine ifN (dF c1) ⟨_, rfl, L.p, _, dx, _, _, rfl, hp1, T.cl_Publisher, T.na_Publisher__timers, zip_look (i := 7) (pks_nd) rfl rfl, L.ta, dxt, _, rfl, hta, zip_none (by decide +kernel), _, rfl, L.p, _, dx, _, _, rfl, hp1, T.cl_Publisher, T.na_Publisher__dirty_since, zip_look (i := 10) (pks_nd) rfl rfl, _, rfl, L.p, _, dx, _, _, rfl, hp1, T.cl_Publisher, T.na_Publisher__options, zip_look (i := 0) (pks_nd) rfl rfl, _, _, _, _, rfl, rfl, X1.opt.sq, Opt.at6, _, _, rfl, rfl, ?_⟩
        refine ⟨own, L.ta, L.td, _, s0.tms, .wait, d + s0.o.wait, rfl, ⟨X1.tmr, X1.att⟩, key_wait T, Nat.le_trans hg1.tlen (by decide), fun H2 bt2 tt2 => ?_⟩
        obtain ⟨hto, xs, htd, _⟩ := X1.att
        have X2 := X1.sett bt2 tt2
        have fr2 := fr1.trans (fr_but bt2 htd (fun _ z => nomatch z) hto)
        have hp2 := bt2 _ _ (ne_of hp1 htd fun z => nomatch z) hp1
        refine ⟨fun σ' H3 => σ' = [some (.ref L.p), some (.int (s0.clock - d))] ∧ PubX K P w own L op sd pg .non vv { s0 with frz := none, tms := s0.relT d } H3 ∧ Fr own H H3, ?_, ?_⟩
        · refine ⟨_, rfl, L.p, _, dx, _, _, rfl, hp2, T.cl_Publisher, T.na_Publisher__clock, zip_look (i := 1) (pks_nd) rfl rfl, _, rfl, L.p, _, dx, _, _, rfl, hp2, T.cl_Publisher, T.na_Publisher__last_edit, zip_look (i := 5) (pks_nd) rfl rfl, _, _, rfl, rfl, _, rfl, L.p, _, dx, _, _, rfl, hp2, T.cl_Publisher, T.na_Publisher__options, zip_look (i := 0) (pks_nd) rfl rfl, _, _, _, _, rfl, rfl, X2.opt.sq, Opt.at5, _, _, rfl, rfl, _, rfl, ?_⟩
          by_cases c2 : s0.clock - s0.last < s0.o.pause
          · have e : s0.relT d = tput (tput s0.tms .wait (d + s0.o.wait)) .pause (s0.last + s0.o.pause) := if_pos c2
            rw [e]
            obtain ⟨dxt2, hta2⟩ := X2.tmr
            refine ifY (dT c2) ⟨_, rfl, L.p, _, dx, _, _, rfl, hp2, T.cl_Publisher, T.na_Publisher__timers, zip_look (i := 7) (pks_nd) rfl rfl, L.ta, dxt2, _, rfl, hta2, zip_none (by decide +kernel), _, rfl, L.p, _, dx, _, _, rfl, hp2, T.cl_Publisher, T.na_Publisher__last_edit, zip_look (i := 5) (pks_nd) rfl rfl, _, rfl, L.p, _, dx, _, _, rfl, hp2, T.cl_Publisher, T.na_Publisher__options, zip_look (i := 0) (pks_nd) rfl rfl, _, _, _, _, rfl, rfl, X2.opt.sq, Opt.at5, _, _, rfl, rfl, ?_⟩
            refine ⟨own, L.ta, L.td, _, _, .pause, s0.last + s0.o.pause, rfl, ⟨X2.tmr, X2.att⟩, key_pause T, ?_, fun H3 bt3 tt3 => ?_⟩
            · have h1 := hg1.tlen
              have h2 : (tput s0.tms .wait (d + s0.o.wait)).length ≤ s0.tms.length + 1 := by
                unfold tput
                rw [List.length_append]
                exact Nat.succ_le_succ adrop_len
              have h3 : s0.tms.length ≤ 18 := h1
              show (tput s0.tms .wait (d + s0.o.wait)).length ≤ _
              omega
            · obtain ⟨hto3, xs3, htd3, _⟩ := X2.att
              exact ⟨rfl, X2.sett bt3 tt3, fr2.trans (fr_but bt3 htd3 (fun _ z => nomatch z) hto3)⟩
          · have e : s0.relT d = tput s0.tms .wait (d + s0.o.wait) := if_neg c2
            rw [e]
            exact ifN (dF c2) ⟨rfl, X2, fr2⟩
        · rintro σ' H3 ⟨rfl, X3, fr3⟩
          obtain ⟨dx3, hp3⟩ := X3.pub
          refine ⟨_, rfl, L.p, dx3, _, rfl, hp3, zip_none (by decide +kernel), own, L, _, rfl, ⟨op, sd, pg, .non, vv, X3⟩, hg2, ?_, fun H4 P4 fr4 => ?_⟩
          · show prP false s0.dirty.isSome
            rw [hd]
            exact hpr.2
          · have P5 : Pub K P w own L (S.release κ s0) H4 := by rw [hgo]; exact P4
            exact kk H4 P5 (fr3.trans fr4)
end
end L2.TP
/-! Publisher: publish. -/
namespace L2.TP
open PySem PySem.Spec PyProof.Rows L2
section
variable {P : Program} {w : World} {K : PySem.W.Frag} {mg : Str → Option Value} {base : Heap} {H H' : Hp}
/-- a comprehension that makes data of each item -/
theorem lc_data {α : Type} {J : It} {g : TG} {te : TE} {vs : List Nat} {σ : St} {H1 : Hp} {D : Addr} {Qd : Hp → Prop} (l : List α) (f : α → PyData) (hn : l.length ≤ 100000) (hD : H1 D = none)
    (hs : ∀ i a H, l[i]? = some a → Same H1 H → J.go i H ∧ ∀ x H', J.yld i H x H' → ∀ (Kt : V → Hp → Prop), (∀ y H4, Same H H4 → Dt K H4 y (f a) → Kt y H4) → g x (wipe σ vs) H' fun σ2 H2 => wipe σ2 vs = wipe σ vs ∧ te σ2 H2 Kt)
    (hd : ∀ H acc, Same H1 H → H D = some (.lst acc) → DtAll K H acc (l.map f) → J.stop l.length H ∧ Qd H) :
    ∃ W : Nat → Nat → Hp → Prop, (∃ m, W 0 m (upd H1 D (.lst []))) ∧ ∀ i m H, W i m H →
      (J.stop i H ∧ Qd H) ∨ (J.go i H ∧ ∃ Nx : Hp → Prop, (∀ H', Nx H' → ∃ m', m' < m ∧ W (i + 1) m' H') ∧ ∀ x H', J.yld i H x H' → g x (wipe σ vs) H' fun σ2 H2 => wipe σ2 vs = wipe σ vs ∧ tYes σ2 H2 fun b H3 =>
        if b = true then te σ2 H3 fun y H4 => ∃ acc, H4 D = some (.lst acc) ∧ acc.length < sizeLine ∧ Nx (upd H4 D (.lst (acc ++ [y]))) else Nx H3) := by
  refine lc_any (n := l.length) (fun i H => Same H1 H ∧ ∃ acc, H D = some (.lst acc) ∧ DtAll K H acc ((l.take i).map f)) ⟨same_mut (Same.refl H1) hD, [], upd_same, .nil⟩ (fun i H hi ⟨s1, acc, s2, s3⟩ => ?_) fun H ⟨s1, acc, s2, s3⟩ => ?_
  · obtain ⟨a, ha⟩ : ∃ a, l[i]? = some a := ⟨l[i], List.getElem?_eq_getElem hi⟩
    obtain ⟨q1, q2⟩ := hs i a H ha s1
    refine ⟨q1, fun x H' hy => q2 x H' hy _ fun y H4 s4 hy4 => ?_⟩
    have hD4 := s4 _ _ s2
    refine ⟨_, hD4, ?_, same_mut (s1.trans s4) hD, _, upd_same, ?_⟩
    · have h2 := s3.len
      rw [List.length_map, List.length_take] at h2
      exact small5' (by omega)
    · rw [take_next ha, List.map_append]
      exact DtAll.append ((s3.keep (Same.tk s4)).keep (tkL hD4)) (.cons (hy4.keep (tkL hD4)) .nil)
  · rw [List.take_length] at s3
    exact hd H acc s1 s2 s3
theorem putK_get {kvs : List (L2.Key × V)} {k j : L2.Key} {v : V} : valV (putK kvs k v) j = if j = k then some v else valV kvs j := by
  unfold putK
  cases e : (kvs.any fun kv => decide (kv.1 = k)) with
  | true =>
    rw [if_pos rfl, valV_map]
    rw [valV_any] at e
    by_cases h : j = k
    · subst h
      obtain ⟨z, hz⟩ := Option.isSome_iff_exists.mp e
      rw [hz, Option.map_some, if_pos rfl, if_pos rfl]
    · rw [if_neg h]
      cases valV kvs j with
      | none => rfl
      | some z => rw [Option.map_some, if_neg h]
  | false =>
    rw [valV_any] at e
    rw [if_neg (by simp), valV_snoc k j v kvs (Option.not_isSome_iff_eq_none.mp (by rw [e]; exact Bool.false_ne_true))]
theorem putK_len {kvs : List (L2.Key × V)} {k : L2.Key} {v : V} : (putK kvs k v).length ≤ kvs.length + 1 := by
  unfold putK
  split
  · rw [List.length_map]; omega
  · rw [List.length_append]; exact Nat.le_refl _
def encPG (p : Str × Str) : PyData := .tuple [.str p.1, .str p.2]
theorem lo_pb {v : Ver} (h : VerG v) : Lo 5 (encPB v.pages v.behind) := by
  refine .tup (.cons (.tup (.map _ fun p hp => ?_)) (.cons (.tup (.map _ fun p hp => ?_)) .nil))
  · obtain ⟨h1, h2, _⟩ := h.pages p hp
    exact (Lo.tup (n := 0) (.cons (.str h1.1) (.cons (.str h2) .nil))).mono (by decide)
  · obtain ⟨h1, h2⟩ := h.behind p hp
    refine .tup (.cons (.str h1.1) (.cons ?_ .nil))
    cases e : p.2 with
    | res r =>
      rw [e] at h2
      exact (lo_res h2.2.2)
    | link n =>
      rw [e] at h2
      cases n with
      | none => exact .tup (.cons (.str (sok _)) (.cons .none .nil))
      | some m => exact .tup (.cons (.str (sok _)) (.cons (.str h2.1) .nil))
def S.pubPages (s : S) (sn : Snap) : List (Str × Str) := (greatest (S.rs sn) s.wanted).map fun n => (n, (S.rs sn n).chars)
def S.pubBehind (s : S) (sn : Snap) : List (Str × Rsn) := closedB (S.rs sn) s.wanted
def S.pubNum (s : S) (sn : Snap) : Int := if PyData.eqv (encPB (s.pubPages sn) (s.pubBehind sn)) (encPB s.ver.pages s.ver.behind) then s.ver.number else s.ver.number + 1
theorem pub_none {κ : S → S} {s : S} {sn : Snap} (h : s.frz = none) : S.publish κ s sn = { s with published := s.published + 1, ver := ⟨s.pubNum sn, s.count, s.clock, s.pubPages sn, s.pubBehind sn⟩, dirty := none, tms := adrop s.tms .wait } := by
  unfold S.publish
  rw [h] <;> rfl
theorem pub_some {κ : S → S} {s : S} {sn : Snap} {f : Frz} (h : s.frz = some f) : S.publish κ s sn = S.release κ { s with published := s.published + 1, ver := ⟨s.pubNum sn, f.count, f.time, s.pubPages sn, s.pubBehind sn⟩ } := by
  unfold S.publish
  rw [h] <;> rfl
theorem ver_ok2 {s : S} {sn : Snap} (h : Gd s) (g : SnG s sn) (number count time : Int) : VerG ⟨number, count, time, s.pubPages sn, s.pubBehind sn⟩ := ver_ok h g number count time
end
end L2.TP
/-! Publisher: publish, walked. -/
namespace L2.TP
open PySem PySem.Spec PyProof.Rows L2
section
variable {P : Program} {w : World} {K : PySem.W.Frag} {mg : Str → Option Value} {base : Heap} {H H' : Hp}
theorem not_whole : ¬ (HT.sIx 5 0 (some 3) = 0 ∧ HT.sIx 5 5 none = 5) := by decide
theorem great_text {rs : Str → Res} {pages : List Str} {n : Str} (h : n ∈ greatest rs pages) : (rs n).isText = true := (List.mem_filter.mp (greatGo_sub rs _ _ n h)).2
def spPub (K : PySem.W.Frag) (P : Program) (w : World) (pr : Bool → Bool → Prop) (κ : S → S) : Sp := fun vs H Q _ => ∃ (own ow : Addr → Prop) (L : Lay) (s : S) (sa : Addr) (sn : Snap), vs = [.ref L.p, .ref sa] ∧ Pub K P w own L s H ∧ Gd s ∧ SnapAt K ow H sa sn ∧ SnG s sn ∧ (∀ n ∈ s.wanted, (sn.known n).isSome = true) ∧ pr s.frz.isSome s.dirty.isSome ∧
  ∀ H', Pub K P w own L (S.publish κ s sn) H' → Fr own H H' → Q .non H'
theorem dt_ver {v : V} {x : Ver} (h : Dt K H v (encV x)) : ∃ p a b c d, v = .ref p ∧ SqU K H p [.int x.number, a, b, c, d] ∧ Dt K H c (.tuple (x.pages.map encPG)) ∧ Dt K H d (.tuple (x.behind.map encB)) := by
  obtain ⟨p, xs, rfl, hp, hx⟩ := h.itemsU
  obtain ⟨a, xr, rfl, ha, hr⟩ := hx.cons_inv
  obtain ⟨b, xr, rfl, hb, hr⟩ := hr.cons_inv
  obtain ⟨c, d, e, rfl, hc, hd, he⟩ := hr.three_inv
  rw [ha.int_inv] at hp
  exact ⟨p, b, c, d, e, rfl, hp, hd, he⟩
theorem ok_publish (T : Txt w K mg) {n : Nat} {κ : S → S} {prR : Bool → Bool → Prop} (hn : 5 ≤ n) (G_Publisher__release : FnOk P w K mg base CX0 n (He.ma K (He.ga K "Publisher") "_release") (fd_Publisher__release K) ["self"] (spB K P w prR (S.release κ))) :
    FnOk P w K mg base CX0 (n + 1) (He.ma K (He.ga K "Publisher") "_publish") (fd_Publisher__publish K) ["self", "snapshot"] (spPub K P w (fun f d => f = true → prR true d) κ) := by
  have G_Snapshot_known := ok_known (P := P) (base := base) T
  have G_closed := ok_closed (P := P) (base := base) T
  have G_Timers_remove := ok_timers_remove (P := P) (base := base) T
  refine T.f_Publisher__publish.ok sc_Publisher__publish (fun vs H Q E h => ?_) (fun cdv A outer s H vs Q E hr h => ?_)
  · obtain ⟨a, b, c, d, e, f, rfl, _⟩ := h
    rfl
  · obtain ⟨own, ow, L, s0, sa, sn, rfl, ⟨op, sd, pg, fv, vv, X⟩, hg, SA, sg, hrd, hpre, kk⟩ := h
    have hu := hu_of hr
    obtain ⟨dx, hp⟩ := X.pub
    obtain ⟨_, _, _, _, XS⟩ := id SA
    obtain ⟨dxs, hsa⟩ := XS.ins
    have hwl := hg.wanted.len
    refine ⟨_, PSs.nox ((C8.pss_cut (ps_set (i := 2) sc_Publisher__publish.nd rfl (.inl rfl) (pe_ifExp (pt_cmpR op_isN (pe_fld (pv 0) rfl) pe_non (nomark _)) (pe_fld (pv 0) rfl) (pe_fld (pe_fld (pv 0) rfl) rfl)))
      (pss_cons (ps_set (i := 3) sc_Publisher__publish.nd rfl (.inr rfl) (pe_dc (own := [("name", 9)]) (g := gName 9) rfl sc_Publisher__publish.nd (pi_tup (pv 2)) (blkOk_by (own := [("name", 9)]) (N := ["self", "snapshot", "wanted", "results", "kept", "left", "pages", "behind", "number", "name"]) (sc := defScope s_Publisher__publish) (by decide +kernel)) (fun _ _ _ _ _ => (pg_name (i := 9) sc_Publisher__publish.nd rfl (.inl rfl))) (fun _ _ _ _ _ => pts_nil) (fun _ _ _ _ _ => (pv 9)) (fun _ _ _ _ _ => (pe_meth (pv 1) T.cl_Snapshot T.mt_Snapshot_known G_Snapshot_known (hr.mono (by omega)) T.b_Snapshot_known .nil pass0 (pa_cons (pv 9) pa_nil)))))
      (pss_cons (ps_asg (pe_call G_closed (hr.mono (by omega)) (by rfl) T.g_closed T.f_closed.kp T.b_closed .nil pass0 (pa_cons (pv 2) (pa_cons (pv 3) pa_nil))) (pg_tup (by rfl) (pgs_cons (pg_name (i := 4) sc_Publisher__publish.nd rfl (.inl rfl)) (pgs_cons (pg_name (i := 5) sc_Publisher__publish.nd rfl (.inl rfl)) pgs_nil))))
      (pss_cons (ps_set (i := 6) sc_Publisher__publish.nd rfl (.inl rfl) (pe_callTy call_tuple_of (by rfl) T.z_tuple (by decide +kernel) (pa_cons (pe_lc (own := [("name", 9)]) (g := gName 9) rfl sc_Publisher__publish.nd (pi_list (pv 4)) (blkOk_by (own := [("name", 9)]) (N := ["self", "snapshot", "wanted", "results", "kept", "left", "pages", "behind", "number", "name"]) (sc := defScope s_Publisher__publish) (by decide +kernel)) (fun _ _ _ _ _ => (pg_name (i := 9) sc_Publisher__publish.nd rfl (.inl rfl))) (fun _ _ _ _ _ => pts_nil) (fun _ _ _ _ _ => (pe_tup (pa_cons (pv 9) (pa_cons (pe_ix (ix_tupK (K := K) rfl) (pe_dget hu (pv 3) (pv 9) (fun _ _ => rfl)) pe_int (fun _ _ => rfl)) pa_nil))))) pa_nil)))
      (pss_cons (ps_set (i := 7) sc_Publisher__publish.nd rfl (.inl rfl) (pe_callTy call_tuple_of (by rfl) T.z_tuple (by decide +kernel) (pa_cons (pv 5) pa_nil)))
      (pss_cons (ps_set (i := 8) sc_Publisher__publish.nd rfl (.inl rfl) (pe_ix ix_tup (pe_fld (pv 0) rfl) pe_int (fun _ _ => rfl)))
      (C8.pss_cut (ps_if (pt_cmpR (op_neD hr.units) (pe_tup (pa_cons (pv 6) (pa_cons (pv 7) pa_nil))) (pe_slice sl_tup (pe_fld (pv 0) rfl) (po_some pe_int) po_none) (nomark _)) (pss_one (ps_set (i := 8) sc_Publisher__publish.nd rfl (.inl rfl) (pe_op op_add (pv 8) pe_int))) pss_nil)
      (pss_cons (ps_fld (pv 0) (pe_op op_add (pe_fld (pv 0) rfl) pe_int) rfl)
      (pss_one (ps_if (pt_cmpR op_isN (pe_fld (pv 0) rfl) pe_non (nomark _)) (pss_cons (ps_fld (pv 0) (pe_tup (pa_cons (pv 8) (pa_cons (pe_fld (pv 0) rfl) (pa_cons (pe_fld (pv 0) rfl) (pa_cons (pv 6) (pa_cons (pv 7) pa_nil)))))) rfl)
      (pss_cons (ps_fld (pv 0) pe_non rfl)
      (pss_one (ps_expr (pe_meth (pe_fld (pv 0) rfl) T.cl_Timers T.mt_Timers_remove G_Timers_remove (hr.mono (by omega)) T.b_Timers_remove .nil pass0 (pa_cons (pe_gr T.g_WAIT) pa_nil)))))) (pss_cons (ps_fld (pv 0) (pe_tup (pa_cons (pv 8) (pa_cons (pe_fld (pe_fld (pv 0) rfl) rfl) (pa_cons (pe_fld (pe_fld (pv 0) rfl) rfl) (pa_cons (pv 6) (pa_cons (pv 7) pa_nil)))))) rfl)
      (pss_one (ps_expr (pe_meth0 (pv 0) T.cl_Publisher T.mt_Publisher__release G_Publisher__release (hr.mono (by omega)) T.b_Publisher__release .nil pass0))))))))))))))), ?_⟩
    refine ⟨fun σ' H' => H' = H ∧ ∃ wp, SqU K H wp (s0.wanted.map V.str) ∧ σ' = [some (.ref L.p), some (.ref sa), some (.ref wp), none, none, none, none, none, none, none], ?_, ?_⟩
    · refine ⟨_, rfl, L.p, _, dx, _, _, rfl, hp, T.cl_Publisher, T.na_Publisher__frozen, zip_look (i := 9) (pks_nd) rfl rfl, rfl, _, rfl, ?_⟩
      have hz := X.frz
      unfold S.wanted
      cases hf : s0.frz with
      | none =>
        rw [hf] at hz
        obtain rfl : fv = .non := hz
        exact ifY rfl ⟨_, rfl, L.p, _, dx, _, _, rfl, hp, T.cl_Publisher, T.na_Publisher__pages, zip_look (i := 3) (pks_nd) rfl rfl, rfl, pg, X.pgs, rfl⟩
      | some f =>
        rw [hf] at hz
        obtain ⟨fa, fsd, fpg, rfl, _, ⟨dxf, hfa⟩, _, hfp⟩ := hz
        exact ifN rfl ⟨_, rfl, L.p, _, dx, _, _, rfl, hp, T.cl_Publisher, T.na_Publisher__frozen, zip_look (i := 9) (pks_nd) rfl rfl, fa, _, dxf, _, _, rfl, hfa, T.cl_Frozen, T.na_Frozen_pages, zip_look (i := 1) (fks_nd) rfl rfl, rfl, fpg, hfp, rfl⟩
    rintro σ' H' ⟨rfl, wp, hwp, rfl⟩
    refine ⟨_, rfl, wp, rfl, ⟨_, hwp.sq⟩, fun D hD => dc_tup (xs := s0.wanted.map V.str) (fun i H2 => ∃ kvs, H2 = upd H' D (.dK kvs) ∧ kvs.length ≤ i ∧ ∀ n ∈ s0.wanted.take i, ∃ v, valV kvs (.inr n) = some v ∧ Dt K H' v (S.rs sn n).enc) ⟨[], rfl, Nat.le_refl _, (fun n hn => nomatch hn)⟩ (fun i H2 _ pv => ?_) (fun i x H2 hx pv => ?_) fun H2 pv => ?_⟩
    · obtain ⟨kvs, rfl, _, _⟩ := pv
      exact (hwp.keep (Same.tk (same_new hD))).sq
    · obtain ⟨kvs, rfl, hkl, hall⟩ := pv
      have hil : i < (s0.wanted.map V.str).length := (List.getElem?_eq_some_iff.mp hx).1
      rw [List.length_map] at hil
      obtain ⟨m, hm⟩ : ∃ m, s0.wanted[i]? = some m := ⟨s0.wanted[i], List.getElem?_eq_getElem hil⟩
      have hxm : x = .str m := by
        rw [List.getElem?_map, hm] at hx
        exact (Option.some.inj hx).symm
      subst hxm
      have sD : Same H' (upd H' D (.dK kvs)) := same_new hD
      refine ⟨rfl, ⟨_, rfl, _, rfl, sa, dxs, _, rfl, sD _ _ hsa, zip_none (by decide +kernel), _, rfl, ow, sa, sn, m, rfl, SA.same sD, fun v hv => ⟨kvs, .inr m, rfl, upd_same, small5' (by omega), putK kvs (.inr m) v, upd_upd, ?_, fun k hk => ?_⟩⟩⟩
      · have := putK_len (kvs := kvs) (k := .inr m) (v := v)
        omega
      · rw [take_next hm] at hk
        have hv2 : Dt K H' v (S.rs sn m).enc := by
          obtain ⟨r, hr2⟩ := Option.isSome_iff_exists.mp (hrd m (List.mem_of_getElem? hm))
          have e : S.rs sn m = r := by
            unfold S.rs
            rw [hr2] <;> rfl
          rw [e]
          rw [hr2] at hv
          exact hv.keep fun a xs ha => by
            by_cases e : a = D
            · rw [e, upd_same] at ha; cases ha
            · rw [upd_ne e] at ha; exact ha
        rw [putK_get]
        by_cases e : k = m
        · subst e
          rw [if_pos rfl]
          exact ⟨v, rfl, hv2⟩
        · rw [if_neg (fun z => e (Sum.inr.inj z))]
          rcases mem_app_one hk with q | q
          · exact hall k q
          · exact absurd q e
    · obtain ⟨kvs, rfl, hkl, hall⟩ := pv
      have hlw : (s0.wanted.map V.str).length = s0.wanted.length := List.length_map ..
      rw [hlw, List.take_length] at hall
      have s1 : Same H' (upd H' D (.dK kvs)) := same_new hD
      have hR1 : RsAt K (upd H' D (.dK kvs)) D (S.rs sn) s0.wanted := ⟨kvs, upd_same, fun m hm => let ⟨v, a, b⟩ := hall m hm; ⟨v, a, b.keep (Same.tk s1)⟩⟩
      generalize upd H' D (.dK kvs) = H1 at *
      refine ⟨_, rfl, _, rfl, wp, D, s0.wanted, S.rs sn, rfl, hwp.keep (Same.tk s1), hR1, by omega, fun H2 t kl bl us s2 ht hkl2 hbl hus => ?_⟩
      refine ⟨_, _, rfl, ht.sq, rfl, _, _, rfl, _, _, rfl, rfl, ?_⟩
      have hR2 := hR1.same s2
      refine ⟨_, rfl, kl, rfl, ⟨_, sqL_of hkl2⟩, fun D2 hD2 => lc_data (K := K) (greatest (S.rs sn) s0.wanted) (fun m => encPG (m, (S.rs sn m).chars)) (by have := great_len (rs := S.rs sn) (pages := s0.wanted); omega) hD2 (fun i m H3 hi s3 => ?_) fun H3 acc s3 hd3 hacc => ?_⟩
      · have hq := sqL_of (K := K) (s3 _ _ hkl2)
        have hxi : ((greatest (S.rs sn) s0.wanted).map V.str)[i]? = some (.str m) := by rw [List.getElem?_map, hi] <;> rfl
        refine ⟨itl_go hq hxi, fun x H4 hy Kt kt => ?_⟩
        obtain ⟨rfl, rfl⟩ := itl_yld hq hxi hy
        have hmg := List.mem_of_getElem? hi
        obtain ⟨v, hg2, hv⟩ := (hR2.same s3).look (great_sub hmg)
        obtain ⟨p2, c, tl, rfl, hp2, hc⟩ := dt_res hv
        have hcc := hc (great_text hmg)
        subst hcc
        exact ⟨rfl, _, rfl, _, rfl, _, rfl, D, _, rfl, hg2, _, _, _, _, rfl, rfl, hp2.sq, at1, le2, fun q hq => kt _ _ (same_new hq) (.tup upd_same (.cons .str (.cons .str .nil)))⟩
      · refine ⟨itl_stop (sqL_of (s3 _ _ hkl2)) (by rw [List.length_map]; exact Nat.le_refl _), D2, acc, rfl, .inl ⟨sqL_of hd3, fun q1 hq1 => ?_⟩⟩
        have s4 := same_new hq1 (o := .tup acc)
        have hpg : Dt K (upd H3 q1 (.tup acc)) (.ref q1) (.tuple ((s0.pubPages sn).map encPG)) := by
          refine .tup upd_same ?_
          unfold S.pubPages
          rw [List.map_map]
          exact hacc.keep (Same.tk s4)
        refine ⟨_, rfl, bl, us, rfl, .inl ⟨sqL_of (s4 _ _ (s3 _ _ hbl)), fun q2 hq2 => ?_⟩⟩
        have s5 := same_new hq2 (o := .tup us)
        have hbh : Dt K (upd (upd H3 q1 (.tup acc)) q2 (.tup us)) (.ref q2) (.tuple ((s0.pubBehind sn).map encB)) := .tup upd_same (hus.keep (Same.tk ((s3.trans s4).trans s5)))
        have hpg5 := hpg.keep (Same.tk s5)
        have sA := (((s1.trans s2).trans s3).trans s4).trans s5
        have XA := X.same sA
        have hpA := sA _ _ hp
        generalize upd (upd H3 q1 (.tup acc)) q2 (.tup us) = HA at *
        obtain ⟨vp, va, vb, vc, vd, rfl, hvp, hvc, hvd⟩ := dt_ver XA.ver
        refine ⟨_, rfl, L.p, _, dx, _, _, rfl, hpA, T.cl_Publisher, T.na_Publisher__version, zip_look (i := 11) (pks_nd) rfl rfl, _, _, _, _, rfl, rfl, hvp.sq, at0, ?_⟩
        refine ⟨fun σ' HB => Same HA HB ∧ σ' = [some (.ref L.p), some (.ref sa), some (.ref wp), some (.ref D), some (.ref kl), some (.ref bl), some (.ref q1), some (.ref q2), some (.int (s0.pubNum sn)), none], ?_, ?_⟩
        · refine ⟨_, rfl, _, rfl, le2, fun q3 hq3 => ?_⟩
          have s6 := same_new hq3 (o := .tup [.ref q1, .ref q2])
          have hp6 := s6 _ _ hpA
          refine ⟨_, rfl, L.p, _, dx, _, _, rfl, hp6, T.cl_Publisher, T.na_Publisher__version, zip_look (i := 11) (pks_nd) rfl rfl, _, rfl, vp, _, rfl, (hvp.keep (Same.tk s6)).sq, not_whole, fun q4 hq4 => ?_⟩
          have s7 := same_new hq4 (o := .tup (cutV [.int s0.ver.number, va, vb, vc, vd] (some 3) none))
          have sB := s6.trans s7
          refine ⟨encPB (s0.pubPages sn) (s0.pubBehind sn), encPB s0.ver.pages s0.ver.behind, ?_, ?_, (lo_pb (ver_ok2 hg sg 0 0 0)).shaped (by decide), (lo_pb hg.ver).shaped (by decide), _, rfl, ?_⟩
          · exact (Dt.tup (s7 _ _ upd_same) (.cons (hpg5.keep (Same.tk sB)) (.cons (hbh.keep (Same.tk sB)) .nil))).dp
          · exact (Dt.tup (ds := [.tuple (s0.ver.pages.map encPG), .tuple (s0.ver.behind.map encB)]) (vs := [vc, vd]) upd_same (.cons (hvc.keep (Same.tk sB)) (.cons (hvd.keep (Same.tk sB)) .nil))).dp
          · unfold S.pubNum
            cases he : PyData.eqv (encPB (s0.pubPages sn) (s0.pubBehind sn)) (encPB s0.ver.pages s0.ver.behind) with
            | true => exact ifN rfl ⟨sB, rfl⟩
            | false => exact ifY rfl ⟨_, rfl, _, _, rfl, rfl, sB, rfl⟩
        · rintro σ' HB ⟨sB, rfl⟩
          have XB := XA.same sB
          have hpB := sB _ _ hpA
          have hpgB := hpg5.keep (Same.tk sB)
          have hbhB := hbh.keep (Same.tk sB)
          have frB : Fr own H' HB := fr_same (sA.trans sB)
          refine ⟨_, rfl, L.p, _, dx, _, _, rfl, hpB, T.cl_Publisher, T.na_Publisher__published, zip_look (i := 12) (pks_nd) rfl rfl, _, _, rfl, rfl, _, rfl, L.p, _, dx, _, rfl, hpB, T.cl_Publisher, T.na_Publisher__published, Nat.lt_of_le_of_lt zip_len (by decide), ?_⟩
          have e3 : putF "_published" (.int (s0.published + 1)) (pks.zip [.ref op, .int s0.clock, .ref sd, .ref pg, .int s0.count, .int s0.last, .ref L.ca, .ref L.ta, .ref L.jd, fv, oi s0.dirty, .ref vp, .int s0.published, .int s0.made]) = pks.zip [.ref op, .int s0.clock, .ref sd, .ref pg, .int s0.count, .int s0.last, .ref L.ca, .ref L.ta, .ref L.jd, fv, oi s0.dirty, .ref vp, .int (s0.published + 1), .int s0.made] := zip_put (i := 12) pks_nd rfl (lt14 (by decide))
          rw [e3]
          have bt1 : But L.p HB (upd HB L.p (.ins (He.ga K "Publisher") dx (pks.zip [.ref op, .int s0.clock, .ref sd, .ref pg, .int s0.count, .int s0.last, .ref L.ca, .ref L.ta, .ref L.jd, fv, oi s0.dirty, .ref vp, .int (s0.published + 1), .int s0.made]))) := but_upd
          have hp1 := upd_same (H := HB) (a := L.p) (o := .ins (He.ga K "Publisher") dx (pks.zip [.ref op, .int s0.clock, .ref sd, .ref pg, .int s0.count, .int s0.last, .ref L.ca, .ref L.ta, .ref L.jd, fv, oi s0.dirty, .ref vp, .int (s0.published + 1), .int s0.made]))
          have X1 := XB.setp (s' := { s0 with published := s0.published + 1 }) (dx := dx) rfl rfl rfl XB.opt XB.src XB.pgs XB.frz XB.ver
          replace X1 : PubX K P w own L op sd pg fv (.ref vp) { s0 with published := s0.published + 1 } (upd HB L.p (.ins (He.ga K "Publisher") dx (pks.zip [.ref op, .int s0.clock, .ref sd, .ref pg, .int s0.count, .int s0.last, .ref L.ca, .ref L.ta, .ref L.jd, fv, oi s0.dirty, .ref vp, .int (s0.published + 1), .int s0.made]))) := X1
          have tk1 := but_tk bt1 hpB (fun _ z => nomatch z)
          have hpg1 := hpgB.keep tk1
          have hbh1 := hbhB.keep tk1
          have fr1 := frB.trans (fr_but bt1 hpB (fun _ z => nomatch z) X.ownp)
          generalize upd HB L.p (.ins (He.ga K "Publisher") dx (pks.zip [.ref op, .int s0.clock, .ref sd, .ref pg, .int s0.count, .int s0.last, .ref L.ca, .ref L.ta, .ref L.jd, fv, oi s0.dirty, .ref vp, .int (s0.published + 1), .int s0.made])) = HC at *
          refine ⟨_, rfl, L.p, _, dx, _, _, rfl, hp1, T.cl_Publisher, T.na_Publisher__frozen, zip_look (i := 9) (pks_nd) rfl rfl, rfl, _, rfl, ?_⟩
          have hz := X1.frz
          cases hf : s0.frz with
          | none =>
            replace hz : FrzAt K (L.out own) HC fv s0.frz := hz
            rw [hf] at hz
            obtain rfl : fv = .non := hz
            refine ifY rfl ⟨_, rfl, _, rfl, L.p, _, dx, _, _, rfl, hp1, T.cl_Publisher, T.na_Publisher__count, zip_look (i := 4) (pks_nd) rfl rfl, _, rfl, L.p, _, dx, _, _, rfl, hp1, T.cl_Publisher, T.na_Publisher__clock, zip_look (i := 1) (pks_nd) rfl rfl, _, rfl, _, rfl, le5, fun q5 hq5 => ?_⟩
            have s8 := same_new hq5 (o := .tup [.int (s0.pubNum sn), .int s0.count, .int s0.clock, .ref q1, .ref q2])
            have hp8 := s8 _ _ hp1
            have hv8 : Dt K (upd HC q5 (.tup [.int (s0.pubNum sn), .int s0.count, .int s0.clock, .ref q1, .ref q2])) (.ref q5) (encV ⟨s0.pubNum sn, s0.count, s0.clock, s0.pubPages sn, s0.pubBehind sn⟩) := .tup upd_same (.cons .int (.cons .int (.cons .int (.cons (hpg1.keep (Same.tk s8)) (.cons (hbh1.keep (Same.tk s8)) .nil)))))
            have X8 := X1.same s8
            refine ⟨_, rfl, L.p, _, dx, _, rfl, hp8, T.cl_Publisher, T.na_Publisher__version, Nat.lt_of_le_of_lt zip_len (by decide), ?_⟩
            have e4 : putF "_version" (.ref q5) (pks.zip [.ref op, .int s0.clock, .ref sd, .ref pg, .int s0.count, .int s0.last, .ref L.ca, .ref L.ta, .ref L.jd, .non, oi s0.dirty, .ref vp, .int (s0.published + 1), .int s0.made]) = pks.zip [.ref op, .int s0.clock, .ref sd, .ref pg, .int s0.count, .int s0.last, .ref L.ca, .ref L.ta, .ref L.jd, .non, oi s0.dirty, .ref q5, .int (s0.published + 1), .int s0.made] := zip_put (i := 11) pks_nd rfl (lt14 (by decide))
            rw [e4]
            refine ⟨_, rfl, L.p, _, dx, _, rfl, upd_same, T.cl_Publisher, T.na_Publisher__dirty_since, Nat.lt_of_le_of_lt zip_len (by decide), ?_⟩
            have e5 : putF "_dirty_since" .non (pks.zip [.ref op, .int s0.clock, .ref sd, .ref pg, .int s0.count, .int s0.last, .ref L.ca, .ref L.ta, .ref L.jd, .non, oi s0.dirty, .ref q5, .int (s0.published + 1), .int s0.made]) = pks.zip [.ref op, .int s0.clock, .ref sd, .ref pg, .int s0.count, .int s0.last, .ref L.ca, .ref L.ta, .ref L.jd, .non, .non, .ref q5, .int (s0.published + 1), .int s0.made] := zip_put (i := 10) pks_nd rfl (lt14 (by decide))
            rw [e5, upd2]
            have X9 := X8.setp (s' := { s0 with published := s0.published + 1, ver := ⟨s0.pubNum sn, s0.count, s0.clock, s0.pubPages sn, s0.pubBehind sn⟩, dirty := none }) (dx := dx) (vv' := .ref q5) rfl rfl rfl X8.opt X8.src X8.pgs X8.frz hv8
            have fr9 := (fr1.trans (fr_same s8)).trans (fr_but (but_upd (o := .ins (He.ga K "Publisher") dx (pks.zip [.ref op, .int s0.clock, .ref sd, .ref pg, .int s0.count, .int s0.last, .ref L.ca, .ref L.ta, .ref L.jd, .non, .non, .ref q5, .int (s0.published + 1), .int s0.made]))) hp8 (fun _ z => nomatch z) X.ownp)
            have hp9 := upd_same (H := upd HC q5 (.tup [.int (s0.pubNum sn), .int s0.count, .int s0.clock, .ref q1, .ref q2])) (a := L.p) (o := .ins (He.ga K "Publisher") dx (pks.zip [.ref op, .int s0.clock, .ref sd, .ref pg, .int s0.count, .int s0.last, .ref L.ca, .ref L.ta, .ref L.jd, .non, .non, .ref q5, .int (s0.published + 1), .int s0.made]))
            obtain ⟨dxt, hta⟩ := X9.tmr
            refine ⟨_, rfl, L.p, _, dx, _, _, rfl, hp9, T.cl_Publisher, T.na_Publisher__timers, zip_look (i := 7) (pks_nd) rfl rfl, L.ta, dxt, _, rfl, hta, zip_none (by decide +kernel), own, L.ta, L.td, _, _, .wait, rfl, ⟨X9.tmr, X9.att⟩, key_wait T, fun HE xE btE ttE => ?_⟩
            obtain ⟨hto, xs, htd, _⟩ := X9.att
            have XE := X9.sett btE ttE
            have PE : Pub K P w own L (S.publish κ s0 sn) HE := by
              rw [pub_none hf]
              refine ⟨op, sd, pg, .non, .ref q5, ?_⟩
              rw [hf] at XE ⊢
              exact XE
            exact kk HE PE (fr9.trans (fr_but btE htd (fun _ z => nomatch z) hto))
          | some f =>
            replace hz : FrzAt K (L.out own) HC fv s0.frz := hz
            rw [hf] at hz
            obtain ⟨fa, fsd, fpg, rfl, _, ⟨dxf, hfa⟩, _, hfp⟩ := hz
            refine ifN rfl ⟨_, rfl, _, rfl, L.p, _, dx, _, _, rfl, hp1, T.cl_Publisher, T.na_Publisher__frozen, zip_look (i := 9) (pks_nd) rfl rfl, fa, _, dxf, _, _, rfl, hfa, T.cl_Frozen, T.na_Frozen_count, zip_look (i := 2) (fks_nd) rfl rfl, _, rfl, L.p, _, dx, _, _, rfl, hp1, T.cl_Publisher, T.na_Publisher__frozen, zip_look (i := 9) (pks_nd) rfl rfl, fa, _, dxf, _, _, rfl, hfa, T.cl_Frozen, T.na_Frozen_time, zip_look (i := 3) (fks_nd) rfl rfl, _, rfl, _, rfl, le5, fun q5 hq5 => ?_⟩
            have s8 := same_new hq5 (o := .tup [.int (s0.pubNum sn), .int f.count, .int f.time, .ref q1, .ref q2])
            have hp8 := s8 _ _ hp1
            have hv8 : Dt K (upd HC q5 (.tup [.int (s0.pubNum sn), .int f.count, .int f.time, .ref q1, .ref q2])) (.ref q5) (encV ⟨s0.pubNum sn, f.count, f.time, s0.pubPages sn, s0.pubBehind sn⟩) := .tup upd_same (.cons .int (.cons .int (.cons .int (.cons (hpg1.keep (Same.tk s8)) (.cons (hbh1.keep (Same.tk s8)) .nil)))))
            have X8 := X1.same s8
            refine ⟨_, rfl, L.p, _, dx, _, rfl, hp8, T.cl_Publisher, T.na_Publisher__version, Nat.lt_of_le_of_lt zip_len (by decide), ?_⟩
            have e4 : putF "_version" (.ref q5) (pks.zip [.ref op, .int s0.clock, .ref sd, .ref pg, .int s0.count, .int s0.last, .ref L.ca, .ref L.ta, .ref L.jd, .ref fa, oi s0.dirty, .ref vp, .int (s0.published + 1), .int s0.made]) = pks.zip [.ref op, .int s0.clock, .ref sd, .ref pg, .int s0.count, .int s0.last, .ref L.ca, .ref L.ta, .ref L.jd, .ref fa, oi s0.dirty, .ref q5, .int (s0.published + 1), .int s0.made] := zip_put (i := 11) pks_nd rfl (lt14 (by decide))
            rw [e4]
            have X9 := X8.setp (s' := { s0 with published := s0.published + 1, ver := ⟨s0.pubNum sn, f.count, f.time, s0.pubPages sn, s0.pubBehind sn⟩ }) (dx := dx) (vv' := .ref q5) rfl rfl rfl X8.opt X8.src X8.pgs X8.frz hv8
            have fr9 := (fr1.trans (fr_same s8)).trans (fr_but (but_upd (o := .ins (He.ga K "Publisher") dx (pks.zip [.ref op, .int s0.clock, .ref sd, .ref pg, .int s0.count, .int s0.last, .ref L.ca, .ref L.ta, .ref L.jd, .ref fa, oi s0.dirty, .ref q5, .int (s0.published + 1), .int s0.made]))) hp8 (fun _ z => nomatch z) X.ownp)
            have hp9 := upd_same (H := upd HC q5 (.tup [.int (s0.pubNum sn), .int f.count, .int f.time, .ref q1, .ref q2])) (a := L.p) (o := .ins (He.ga K "Publisher") dx (pks.zip [.ref op, .int s0.clock, .ref sd, .ref pg, .int s0.count, .int s0.last, .ref L.ca, .ref L.ta, .ref L.jd, .ref fa, oi s0.dirty, .ref q5, .int (s0.published + 1), .int s0.made]))
            have hg9 : Gd { s0 with published := s0.published + 1, ver := ⟨s0.pubNum sn, f.count, f.time, s0.pubPages sn, s0.pubBehind sn⟩ } :=
              { opt := hg.opt, src := hg.src, pgs := hg.pgs, cch := hg.cch, cks := hg.cks, jks := hg.jks, jbs := hg.jbs, frz := hg.frz, tnd := hg.tnd, tim := hg.tim, due := hg.due, ver := ver_ok2 hg sg _ _ _ }
            refine ⟨_, rfl, L.p, dx, _, rfl, hp9, zip_none (by decide +kernel), own, L, _, rfl, ⟨op, sd, pg, .ref fa, .ref q5, X9⟩, hg9, ?_, fun HE PE frE => ?_⟩
            · show prR s0.frz.isSome s0.dirty.isSome
              rw [hf]
              exact hpre (by rw [hf]; rfl)
            · have PF : Pub K P w own L (S.publish κ s0 sn) HE := by rw [pub_some hf]; exact PE
              exact kk HE PF (fr9.trans frE)
end
end L2.TP
/-! Publisher: progress. -/
namespace L2.TP
open PySem PySem.Spec PyProof.Rows L2
section
variable {P : Program} {w : World} {K : PySem.W.Frag} {mg : Str → Option Value} {base : Heap} {H H' : Hp}
theorem reqGo_sub (sn : Snap) : ∀ (f : Nat) (names waiting : List Str), waiting.length + restOf sn names sn.src + 1 ≤ f → (∀ n ∈ names, n ∈ reqGo sn f names waiting) ∧ ∀ n ∈ waiting, n ∈ reqGo sn f names waiting
  | 0, names, waiting, h => by omega
  | f + 1, names, waiting, h => by
    rw [reqGo]
    cases hw : waiting.getLast? with
    | none =>
      have hw0 := List.getLast?_eq_none_iff.mp hw
      subst hw0
      exact ⟨fun n hn => hn, (fun n hn => nomatch hn)⟩
    | some m =>
      have hne0 : waiting ≠ [] := fun e => by rw [e] at hw; cases hw
      have hlast : waiting.getLast hne0 = m := by
        rw [List.getLast?_eq_some_getLast hne0] at hw
        exact Option.some.inj hw
      have hsplit : waiting.dropLast ++ [m] = waiting := by
        rw [← hlast]
        exact List.dropLast_concat_getLast hne0
      have hlen : waiting.length = waiting.dropLast.length + 1 := by rw [← hsplit]; simp
      show (∀ n ∈ names, n ∈ (if m ∈ names then reqGo sn f names waiting.dropLast else reqGo sn f (names ++ [m]) (waiting.dropLast ++ (sn.told m).map (·.1)))) ∧ ∀ n ∈ waiting, n ∈ (if m ∈ names then reqGo sn f names waiting.dropLast else reqGo sn f (names ++ [m]) (waiting.dropLast ++ (sn.told m).map (·.1)))
      by_cases hm : m ∈ names
      · rw [if_pos hm]
        obtain ⟨h1, h2⟩ := reqGo_sub sn f names waiting.dropLast (by omega)
        refine ⟨h1, fun n hn => ?_⟩
        rw [← hsplit] at hn
        rcases mem_app_one hn with q | q
        · exact h2 n q
        · rw [q]; exact h1 m hm
      · rw [if_neg hm]
        have hst := rest_step sn names m hm
        obtain ⟨h1, h2⟩ := reqGo_sub sn f (names ++ [m]) (waiting.dropLast ++ (sn.told m).map (·.1)) (by rw [List.length_append, List.length_map]; omega)
        refine ⟨fun n hn => h1 n (List.mem_append_left _ hn), fun n hn => ?_⟩
        rw [← hsplit] at hn
        rcases mem_app_one hn with q | q
        · exact h2 n (List.mem_append_left _ q)
        · rw [q]; exact h1 m (List.mem_append_right _ List.mem_cons_self)
theorem pages_req (sn : Snap) {n : Str} (h : n ∈ sn.pages) : n ∈ sn.required := by
  unfold Snap.required
  refine (srt_perm _).mem_iff.mpr ((reqGo_sub sn (reqFuel sn) [] sn.pages ?_).2 n h)
  unfold reqFuel
  rw [rest_all]
  exact Nat.le_refl _
theorem ready_known {s : S} {sn : Snap} (g : SnG s sn) (h : sn.ready = true) : ∀ n ∈ s.wanted, (sn.known n).isSome = true := fun n hn => by
  rw [← g.pgs] at hn
  exact List.all_eq_true.mp h n (pages_req sn hn)
theorem dropGo_fd {sn : Snap} {req : List Str} : ∀ (l : List (Str × Job)) (s : S), (dropGo sn req l s).frz = s.frz ∧ (dropGo sn req l s).dirty = s.dirty
  | [], s => ⟨rfl, rfl⟩
  | (n, j) :: l, s => by
    unfold dropGo
    split
    · exact dropGo_fd l s
    · exact dropGo_fd l (s.dropJob n)
theorem startGo_fd {sn : Snap} : ∀ (l : List Str) (s : S), (startGo sn l s).frz = s.frz ∧ (startGo sn l s).dirty = s.dirty
  | [], s => ⟨rfl, rfl⟩
  | n :: l, s => by
    unfold startGo
    split
    · exact ⟨rfl, rfl⟩
    · obtain ⟨h1, h2⟩ := startGo_fd (sn := sn) l ((s.newJob sn n).startJob n)
      have a1 : (s.newJob sn n).frz = s.frz ∧ (s.newJob sn n).dirty = s.dirty := by
        unfold S.newJob
        split <;> exact ⟨rfl, rfl⟩
      have a2 : ∀ t : S, (t.startJob n).frz = t.frz ∧ (t.startJob n).dirty = t.dirty := by
        intro t
        unfold S.startJob
        split
        · split <;> exact ⟨rfl, rfl⟩
        · exact ⟨rfl, rfl⟩
      exact ⟨h1.trans ((a2 _).1.trans a1.1), h2.trans ((a2 _).2.trans a1.2)⟩
theorem oi_some (o : Option Int) : (!decide (oi o = .non)) = o.isSome := by
  cases o with
  | none => exact nT rfl
  | some i => exact nF (fun z => nomatch z)
theorem frz_some {own : Addr → Prop} {fv : V} : ∀ {f : Option Frz}, FrzAt K own H fv f → (!decide (fv = .non)) = f.isSome
  | none, h => nT h
  | some f, ⟨a, _, _, e, _⟩ => nF (by rw [e]; exact fun z => nomatch z)
theorem ok_progress (T : Txt w K mg) {n : Nat} {κ : S → S} {prP : Bool → Bool → Prop} (hn : 7 ≤ n) (hκ : Gp κ) (G_Publisher__publish : FnOk P w K mg base CX0 n (He.ma K (He.ga K "Publisher") "_publish") (fd_Publisher__publish K) ["self", "snapshot"] (spPub K P w prP κ)) :
    FnOk P w K mg base CX0 (n + 1) (He.ma K (He.ga K "Publisher") "_progress") (fd_Publisher__progress K) ["self"] (spB K P w prP (S.progressK κ)) := by
  have G_Publisher__forget := ok_forget (P := P) (base := base) T
  have G_Publisher__snapshot := ok_snapshot (P := P) (base := base) T
  have G_Publisher__drop_jobs := ok_drop (P := P) (base := base) T
  have G_Publisher__start := ok_start (P := P) (base := base) T
  have G_Snapshot_is_ready := ok_ready (P := P) (base := base) T
  have G_Timers_due := ok_timers_due (P := P) (base := base) T
  refine T.f_Publisher__progress.ok sc_Publisher__progress (fun vs H Q E h => ?_) (fun cdv A outer s H vs Q E hr h => ?_)
  · obtain ⟨a, b, c, rfl, _⟩ := h
    rfl
  · obtain ⟨own, L, s0, rfl, PA, hg, hpre, kk⟩ := h
    have hu := hu_of hr
    obtain ⟨op, sd, pg, fv, vv, X⟩ := id PA
    obtain ⟨dx, hp⟩ := X.pub
    refine ⟨_, PSs.nox ((pss_cons (ps_expr (pe_meth0 (pv 0) T.cl_Publisher T.mt_Publisher__forget G_Publisher__forget (hr.mono (by omega)) T.b_Publisher__forget .nil pass0))
      (pss_cons (ps_set (i := 1) sc_Publisher__progress.nd rfl (.inl rfl) (pe_meth0 (pv 0) T.cl_Publisher T.mt_Publisher__snapshot G_Publisher__snapshot (hr.mono (by omega)) T.b_Publisher__snapshot .nil pass0))
      (pss_cons (ps_expr (pe_meth (pv 0) T.cl_Publisher T.mt_Publisher__drop_jobs G_Publisher__drop_jobs (hr.mono (by omega)) T.b_Publisher__drop_jobs .nil pass0 (pa_cons (pv 1) pa_nil)))
      (pss_cons (ps_if (pt_cmpR op_notN (pe_meth (pe_fld (pv 0) rfl) T.cl_Timers T.mt_Timers_due G_Timers_due (hr.mono (by omega)) T.b_Timers_due .nil pass0 (pa_cons (pe_gr T.g_PAUSE) pa_nil)) pe_non (nomark _)) (pss_one ps_retN) pss_nil)
      (pss_cons (ps_expr (pe_meth (pv 0) T.cl_Publisher T.mt_Publisher__start G_Publisher__start (hr.mono (by omega)) T.b_Publisher__start .nil pass0 (pa_cons (pv 1) pa_nil)))
      (pss_one (ps_if (PW.pt (pw_and (pt_val (pe_meth0 (pv 1) T.cl_Snapshot T.mt_Snapshot_is_ready G_Snapshot_is_ready (hr.mono (by omega)) T.b_Snapshot_is_ready .nil pass0)) (pw_and1 (PW.pt (pw_or (pt_cmpR op_notN (pe_fld (pv 0) rfl) pe_non (nomark _)) (pw_or1 (pt_cmpR op_notN (pe_fld (pv 0) rfl) pe_non (nomark _)))))))) (pss_one (ps_expr (pe_meth (pv 0) T.cl_Publisher T.mt_Publisher__publish G_Publisher__publish (hr.mono (by omega)) T.b_Publisher__publish .nil pass0 (pa_cons (pv 1) pa_nil)))) pss_nil)))))))), ?_⟩
    refine ⟨_, rfl, L.p, dx, _, rfl, hp, zip_none (by decide +kernel), own, L, s0, rfl, PA, hg, True.intro, fun H1 P1 fr1 => ?_⟩
    obtain ⟨op1, sd1, pg1, fv1, vv1, X1⟩ := id P1
    obtain ⟨dx1, hp1⟩ := X1.pub
    have hg1 := hg.forget.1
    refine ⟨_, rfl, L.p, dx1, _, rfl, hp1, zip_none (by decide +kernel), own, L, s0.forget, rfl, P1, hg1, fun H2 sa s2 SA2 => ?_⟩
    have how : ∀ b, H1 b = none → b ≠ L.jd := fun b hb => by
      obtain ⟨_, kj, hj, _⟩ := X1.atj
      exact ne_of_none' hb hj
    have hsn := hg1.snap
    have ep : S.progressK κ s0 = (if (aget (s0.forget.dropJobs s0.forget.snap).tms .pause).isSome then s0.forget.dropJobs s0.forget.snap else
        if (s0.forget.snap.ready && (((s0.forget.dropJobs s0.forget.snap).start s0.forget.snap).frz.isSome || ((s0.forget.dropJobs s0.forget.snap).start s0.forget.snap).dirty.isSome)) = true then S.publish κ ((s0.forget.dropJobs s0.forget.snap).start s0.forget.snap) s0.forget.snap else (s0.forget.dropJobs s0.forget.snap).start s0.forget.snap) := rfl
    have fd1 : s0.forget.frz = s0.frz ∧ s0.forget.dirty = s0.dirty := ⟨rfl, rfl⟩
    have P2 := P1.same s2
    have fr2 := fr1.trans (fr_same s2)
    generalize s0.forget.snap = sn at *
    generalize s0.forget = s1 at *
    obtain ⟨op2, sd2, pg2, fv2, vv2, X2⟩ := id P2
    obtain ⟨dx2, hp2⟩ := X2.pub
    refine ⟨_, rfl, L.p, dx2, _, rfl, hp2, zip_none (by decide +kernel), _, rfl, own, _, L, s1, sa, sn, rfl, P2, hg1, SA2, hsn, how, fun H3 P3 SA3 fr3 => ?_⟩
    have hg3 := (hg1.dropJobs sn).1
    obtain ⟨c1, c2⟩ := dropGo_cur (sn := sn) (req := sn.required) s1.jobs s1
    have fd2 : (s1.dropJobs sn).frz = s1.frz ∧ (s1.dropJobs sn).dirty = s1.dirty := dropGo_fd _ _
    have hsn3 : SnG (s1.dropJobs sn) sn := ⟨hsn.ok, hsn.src.trans c1.symm, hsn.pgs.trans c2.symm⟩
    generalize s1.dropJobs sn = s3 at *
    have fr3' := fr2.trans fr3
    obtain ⟨op3, sd3, pg3, fv3, vv3, X3⟩ := id P3
    obtain ⟨dx3, hp3⟩ := X3.pub
    obtain ⟨dxt, hta⟩ := X3.tmr
    refine ⟨_, rfl, L.p, _, dx3, _, _, rfl, hp3, T.cl_Publisher, T.na_Publisher__timers, zip_look (i := 7) (pks_nd) rfl rfl, L.ta, dxt, _, rfl, hta, zip_none (by decide +kernel), own, L.ta, L.td, _, s3.tms, .pause, rfl, ⟨X3.tmr, X3.att⟩, key_pause T, rfl, _, rfl, ?_⟩
    rw [oi_some]
    cases hps : (aget s3.tms .pause).isSome with
    | true =>
      rw [hps] at ep
      exact ifY rfl (kk H3 (by rw [ep]; exact P3) fr3')
    | false =>
      rw [hps] at ep
      refine ifN rfl ⟨_, rfl, L.p, dx3, _, rfl, hp3, zip_none (by decide +kernel), _, rfl, own, _, L, s3, sa, sn, rfl, P3, hg3, SA3, hsn3, how, fun H4 P4 SA4 fr4 => ?_⟩
      have hg4 := (hg3.start hsn3).1
      obtain ⟨c3, c4⟩ := startGo_cur (sn := sn) sn.renderable s3
      have fd3 : (s3.start sn).frz = s3.frz ∧ (s3.start sn).dirty = s3.dirty := startGo_fd _ _
      have hsn4 : SnG (s3.start sn) sn := ⟨hsn.ok, hsn3.src.trans c3.symm, hsn3.pgs.trans c4.symm⟩
      generalize s3.start sn = s4 at *
      have fr4' := fr3'.trans fr4
      obtain ⟨_, _, _, _, XS⟩ := id SA4
      obtain ⟨dxs, hsa⟩ := XS.ins
      obtain ⟨z1, z2⟩ := hsn4.small hg4
      refine ⟨_, rfl, sa, dxs, _, rfl, hsa, zip_none (by decide +kernel), _, sa, sn, rfl, SA4, hsn.ok, by omega, by omega, required_len hsn4 hg4, fun H5 s5 => ⟨_, rfl, ?_⟩⟩
      have P5 := P4.same s5
      have fr5 := fr4'.trans (fr_same s5)
      have SA5 := SA4.same s5
      obtain ⟨op5, sd5, pg5, fv5, vv5, X5⟩ := id P5
      obtain ⟨dx5, hp5⟩ := X5.pub
      cases hre : sn.ready with
      | false =>
        rw [hre] at ep
        exact ifN rfl (iteF (kk H5 (by rw [ep]; exact P5) fr5))
      | true =>
        have hkn := ready_known hsn4 hre
        have hpr4 : prP s4.frz.isSome s4.dirty.isSome := by
          rw [fd3.1, fd3.2, fd2.1, fd2.2, fd1.1, fd1.2]
          exact hpre
        rw [hre] at ep
        refine ifY rfl ⟨_, rfl, L.p, _, dx5, _, _, rfl, hp5, T.cl_Publisher, T.na_Publisher__frozen, zip_look (i := 9) (pks_nd) rfl rfl, rfl, _, rfl, ?_⟩
        rw [frz_some X5.frz]
        cases hfz : s4.frz.isSome with
        | true =>
          rw [hfz] at ep
          refine ifY rfl (iteT ⟨_, rfl, L.p, dx5, _, rfl, hp5, zip_none (by decide +kernel), _, rfl, own, _, L, s4, sa, sn, rfl, P5, hg4, SA5, hsn4, hkn, hpr4, fun H6 P6 fr6 => ?_⟩)
          exact kk H6 (by rw [ep]; exact P6) (fr5.trans fr6)
        | false =>
          rw [hfz] at ep
          refine ifN rfl ⟨_, rfl, L.p, _, dx5, _, _, rfl, hp5, T.cl_Publisher, T.na_Publisher__dirty_since, zip_look (i := 10) (pks_nd) rfl rfl, rfl, _, rfl, ?_⟩
          rw [oi_some]
          cases hdz : s4.dirty.isSome with
          | true =>
            rw [hdz] at ep
            refine ifY rfl ⟨_, rfl, L.p, dx5, _, rfl, hp5, zip_none (by decide +kernel), _, rfl, own, _, L, s4, sa, sn, rfl, P5, hg4, SA5, hsn4, hkn, hpr4, fun H6 P6 fr6 => ?_⟩
            exact kk H6 (by rw [ep]; exact P6) (fr5.trans fr6)
          | false =>
            rw [hdz] at ep
            exact ifN rfl (kk H5 (by rw [ep]; exact P5) fr5)
/-! ### the knot -/
def pr0 (f d : Bool) : Prop := f = true → d = true → False ∧ False
theorem ok_rel0 (T : Txt w K mg) : FnOk P w K mg base CX0 6 (He.ma K (He.ga K "Publisher") "_release") (fd_Publisher__release K) ["self"] (spB K P w (fun _ d => d = true → False ∧ False) (S.release id)) := ok_release T (n := 5) (m1 := 5) (m2 := 5) (by decide) (by decide) (by decide) (ok_prog_no T 4 id) (ok_frz_no T 4 (S.freeze id))
theorem ok_pub0 (T : Txt w K mg) : FnOk P w K mg base CX0 7 (He.ma K (He.ga K "Publisher") "_publish") (fd_Publisher__publish K) ["self", "snapshot"] (spPub K P w pr0 id) := ok_publish T (n := 6) (by decide) (ok_rel0 T)
theorem ok_prog0 (T : Txt w K mg) : FnOk P w K mg base CX0 8 (He.ma K (He.ga K "Publisher") "_progress") (fd_Publisher__progress K) ["self"] (spB K P w pr0 S.prog0) := ok_progress T (n := 7) (by decide) gp_id (ok_pub0 T)
theorem ok_frz1 (T : Txt w K mg) : FnOk P w K mg base CX0 9 (He.ma K (He.ga K "Publisher") "_freeze") (fd_Publisher__freeze K) ["self"] (spB K P w (fun _ _ => True) (S.freeze S.prog0)) := ok_freeze T (n := 8) (pr := pr0) (by decide) (fun _ z => nomatch z) (ok_prog0 T)
theorem ok_rel1 (T : Txt w K mg) : FnOk P w K mg base CX0 10 (He.ma K (He.ga K "Publisher") "_release") (fd_Publisher__release K) ["self"] (spB K P w (fun _ d => d = true → True ∧ pr0 false true) (S.release S.prog0)) := ok_release T (n := 9) (m1 := 8) (m2 := 9) (by decide) (by decide) (by decide) (ok_prog0 T) (ok_frz1 T)
theorem ok_pub1 (T : Txt w K mg) : FnOk P w K mg base CX0 11 (He.ma K (He.ga K "Publisher") "_publish") (fd_Publisher__publish K) ["self", "snapshot"] (spPub K P w (fun f d => f = true → d = true → True ∧ pr0 false true) S.prog0) := ok_publish T (n := 10) (by decide) (ok_rel1 T)
theorem ok_prog1 (T : Txt w K mg) : FnOk P w K mg base CX0 12 (He.ma K (He.ga K "Publisher") "_progress") (fd_Publisher__progress K) ["self"] (spB K P w (fun f d => f = true → d = true → True ∧ pr0 false true) S.prog) := ok_progress T (n := 11) (by decide) gp_prog0 (ok_pub1 T)
theorem pr1 (f d : Bool) : f = true → d = true → True ∧ pr0 false true := fun _ _ => ⟨True.intro, (fun z => nomatch z)⟩
theorem ok_frz2 (T : Txt w K mg) : FnOk P w K mg base CX0 13 (He.ma K (He.ga K "Publisher") "_freeze") (fd_Publisher__freeze K) ["self"] (spB K P w (fun _ _ => True) (S.freeze S.prog)) := ok_freeze T (n := 12) (by decide) (pr1 _ _) (ok_prog1 T)
end
end L2.TP
/-! Publisher: end. -/
namespace L2.TP
open PySem PySem.Spec PyProof.Rows L2
section
variable {P : Program} {w : World} {K : PySem.W.Frag} {mg : Str → Option Value} {base : Heap} {H H' : Hp}
def An (t : TT) (σ : St) (H : Hp) (b : Bool) : Prop := ∀ Q : Bool → Hp → Prop, Q b H → t σ H Q
theorem ifS_an {c : TT} {t u : TS} {D : Ends} {σ : St} {b : Bool} (h : An c σ H b) (g : if b = true then t D σ H else u D σ H) : tIfS c t u D σ H := h _ g
def spEnd (K : PySem.W.Frag) (P : Program) (w : World) : Sp := fun vs H Q _ => ∃ (own : Addr → Prop) (L : Lay) (s : S) (n : Str) (j : Job), vs = [.ref L.p, .str n] ∧ Pub K P w own L s H ∧ Gd s ∧ aget s.jobs n = some j ∧ j.state = .run ∧ (∀ p ∈ s.tms, p.1 ≠ .att n) ∧
  ∀ H', Pub K P w own L (s.ended n).prog H' → Fr own H H' → Q .non H'
theorem ok_end (T : Txt w K mg) : FnOk P w K mg base CX0 13 (He.ma K (He.ga K "Publisher") "_end") (fd_Publisher__end K) ["self", "name"] (spEnd K P w) := by
  have G_failures := ok_failures (P := P) (base := base) T
  have G_delay := ok_delay (P := P) (base := base) T
  have G_join_result := ok_join_result (P := P) (base := base) T
  have G_Timers_put := ok_timers_put (P := P) (base := base) T
  have G_Cache_add := ok_cache_add (P := P) (base := base) T
  have G_Publisher__progress := ok_prog1 (P := P) (base := base) T
  refine T.f_Publisher__end.ok sc_Publisher__end (fun vs H Q E h => ?_) (fun cdv A outer s H vs Q E hr h => ?_)
  · obtain ⟨a, b, c, d, e, rfl, _⟩ := h
    rfl
  · obtain ⟨own, L, s0, n, j, rfl, ⟨op, sd, pg, fv, vv, X⟩, hg, hj, hst, hnt, kk⟩ := h
    have hu := hu_of hr
    obtain ⟨dx, hp⟩ := X.pub
    obtain ⟨hjo, kvs, hjd, hjr, hjn⟩ := X.atj
    obtain ⟨_, zz⟩ := hjr.get n
    obtain ⟨v, hv, ja, fl, rfl, hjao, ⟨dxj, hja⟩, hfl⟩ := zz j hj
    have hjg := aget_jobG hg hj
    have hln := aget_LN hg.jks hj
    obtain ⟨hge, _⟩ := hg.ended hj hst hnt
    refine ⟨_, PSs.nox ((pss_cons (ps_set (i := 2) sc_Publisher__end.nd rfl (.inl rfl) (pe_dget hu (pe_fld (pv 0) rfl) (pv 1) (fun _ _ => rfl)))
      (C8.pss_cut (ps_if (PW.pt (pw_and (pt_cmpR op_le (pe_fld (pv 2) rfl) (pe_call G_failures (hr.mono (by omega)) (by rfl) T.g_failures T.f_failures.kp T.b_failures .nil pass0 (pa_cons (pe_fld (pv 2) rfl) pa_nil)) (nomark _)) (pw_and1 (pt_cmpR op_lt (pe_fld (pv 2) rfl) (pe_ix ix_tup (pe_fld (pv 0) rfl) pe_int (fun _ _ => rfl)) (nomark _))))) (pss_cons (ps_fld (pv 2) (pe_gs T.s_BACKING_OFF) rfl)
      (pss_one (ps_expr (pe_meth (pe_fld (pv 0) rfl) T.cl_Timers T.mt_Timers_put G_Timers_put (hr.mono (by omega)) T.b_Timers_put .nil pass0 (pa_cons (pe_tup (pa_cons pe_str (pa_cons (pv 1) pa_nil))) (pa_cons (pe_op op_add (pe_fld (pv 0) rfl) (pe_call G_delay (hr.mono (by omega)) (by rfl) T.g_delay T.f_delay.kp T.b_delay .nil pass0 (pa_cons (pe_fld (pv 0) rfl) (pa_cons (pe_fld (pv 2) rfl) pa_nil)))) pa_nil)))))) (pss_cons (ps_expr (pe_dpop1 (pe_fld (pv 0) rfl) (pv 1) ⟨rfl, rfl, rfl, rfl⟩))
      (pss_cons (ps_set (i := 3) sc_Publisher__end.nd rfl (.inl rfl) (pe_call G_join_result (hr.mono (by omega)) (by rfl) T.g_join_result T.f_join_result.kp T.b_join_result .nil pass0 (pa_cons (pv 1) (pa_cons (pe_fld (pv 2) rfl) (pa_cons (pe_ix ix_tup (pe_fld (pv 0) rfl) pe_int (fun _ _ => rfl)) (pa_cons (pe_callTy call_list_of (by rfl) T.z_list (by decide +kernel) (pa_cons (pe_fld (pv 2) rfl) pa_nil)) pa_nil))))))
      (pss_one (ps_expr (pe_meth (pe_fld (pv 0) rfl) T.cl_Cache T.mt_Cache_add G_Cache_add (hr.mono (by omega)) T.b_Cache_add .nil pass0 (pa_cons (pe_tup (pa_cons (pv 1) (pa_cons (pe_fld (pv 2) rfl) (pa_cons (pe_fld (pv 2) rfl) (pa_cons (pv 3) pa_nil))))) pa_nil)))))))
      (pss_one (ps_expr (pe_meth0 (pv 0) T.cl_Publisher T.mt_Publisher__progress G_Publisher__progress (hr.mono (by omega)) T.b_Publisher__progress .nil pass0)))))), ?_⟩
    refine ⟨_, rfl, L.p, _, dx, _, _, rfl, hp, T.cl_Publisher, T.na_Publisher__jobs, zip_look (i := 8) (pks_nd) rfl rfl, _, rfl, L.jd, _, rfl, .inl ⟨kvs, .inr n, .of hjd, rfl, hv.symm⟩, ?_⟩
    refine ⟨fun σ' H' => (∃ b3, σ' = [some (.ref L.p), some (.str n), some (.ref ja), b3]) ∧ PubX K P w own L op sd pg fv vv (s0.ended n) H' ∧ Fr own H H', ?_, ?_⟩
    · have een : s0.ended n = if j.attempt ≤ nfail j.text ∧ j.attempt < s0.o.attempts then { s0 with jobs := aput s0.jobs n { j with state := .back }, tms := tput s0.tms (.del n) (s0.clock + delay s0.o j.attempt) } else { s0 with jobs := adrop s0.jobs n, cache := cadd s0.cache ⟨n, j.text, j.found, joinResult n j.text s0.o.attempts j.found⟩ } := by
        unfold S.ended
        rw [hj]
      refine ifS_an (b := decide (j.attempt ≤ nfail j.text ∧ j.attempt < s0.o.attempts)) (fun Q2 q2 => ?_) ?_
      · refine ⟨_, rfl, ja, _, dxj, _, _, rfl, hja, T.cl_Job, T.na_Job_attempt, zip_look (i := 2) (jks_nd) rfl rfl, _, rfl, ja, _, dxj, _, _, rfl, hja, T.cl_Job, T.na_Job_text, zip_look (i := 0) (jks_nd) rfl rfl, j.text, rfl, _, _, rfl, rfl, _, rfl, ?_⟩
        by_cases c1 : j.attempt ≤ nfail j.text
        · refine ifY (dT c1) ⟨_, rfl, ja, _, dxj, _, _, rfl, hja, T.cl_Job, T.na_Job_attempt, zip_look (i := 2) (jks_nd) rfl rfl, _, rfl, L.p, _, dx, _, _, rfl, hp, T.cl_Publisher, T.na_Publisher__options, zip_look (i := 0) (pks_nd) rfl rfl, _, _, _, _, rfl, rfl, X.opt.sq, Opt.at2, _, _, rfl, rfl, _, rfl, ?_⟩
          have e : decide (j.attempt < s0.o.attempts) = decide (j.attempt ≤ nfail j.text ∧ j.attempt < s0.o.attempts) := by simp [c1]
          rw [e]
          exact q2
        · have e : false = decide (j.attempt ≤ nfail j.text ∧ j.attempt < s0.o.attempts) := by simp [c1]
          refine ifN (dF c1) ?_
          rw [e]
          exact q2
      by_cases c : j.attempt ≤ nfail j.text ∧ j.attempt < s0.o.attempts
      · rw [if_pos c] at een
        rw [een]
        refine ifY (dT c) ?_
        refine ⟨_, rfl, ja, _, dxj, _, rfl, hja, T.cl_Job, T.na_Job_state, Nat.lt_of_le_of_lt zip_len (by decide), ?_⟩
        have e1 : putF "state" (.str "backing off") (jks.zip [.str j.text, fl, .int j.attempt, .str j.state.enc]) = jks.zip [.str j.text, fl, .int j.attempt, .str "backing off"] := zip_put (i := 3) jks_nd rfl (lt4 (by decide))
        rw [e1]
        have A6 := JobsAt.set (j' := { j with state := .back }) X.atj hg.jks.1 hjd hv hj hja rfl rfl hfl hjao
        replace A6 : JobsAt K own (upd H ja (.ins (He.ga K "Job") dxj (jks.zip [.str j.text, fl, .int j.attempt, .str "backing off"]))) L.jd (aput s0.jobs n { j with state := .back }) := A6
        have b6 : But ja H (upd H ja (.ins (He.ga K "Job") dxj (jks.zip [.str j.text, fl, .int j.attempt, .str "backing off"]))) := but_upd
        have X6 := X.seto hja b6 (by rw [upd_same]; exact fun z => nomatch z) A6
        have fr6 : Fr own H _ := fr_but b6 hja (fun _ z => nomatch z) hjao
        have hja6 := upd_same (H := H) (a := ja) (o := .ins (He.ga K "Job") dxj (jks.zip [.str j.text, fl, .int j.attempt, .str "backing off"]))
        have hp6 := b6 _ _ (ne_tag hp hja tj_p) hp
        generalize upd H ja (.ins (He.ga K "Job") dxj (jks.zip [.str j.text, fl, .int j.attempt, .str "backing off"])) = H6 at *
        obtain ⟨dxt, hta⟩ := X6.tmr
        refine ⟨_, rfl, L.p, _, dx, _, _, rfl, hp6, T.cl_Publisher, T.na_Publisher__timers, zip_look (i := 7) (pks_nd) rfl rfl, L.ta, dxt, _, rfl, hta, zip_none (by decide +kernel), _, rfl, le2, fun q1 hq1 => ?_⟩
        have s8 := same_new hq1 (o := .tup [.str "delay", .str n])
        have X8 := X6.same s8
        have hp8 := s8 _ _ hp6
        have hja8 := s8 _ _ hja6
        have ha0 := hjg.a0
        have ha1 := hjg.a1
        have ho2 := hg.opt.a2
        refine ⟨_, rfl, L.p, _, dx, _, _, rfl, hp8, T.cl_Publisher, T.na_Publisher__clock, zip_look (i := 1) (pks_nd) rfl rfl, _, rfl, L.p, _, dx, _, _, rfl, hp8, T.cl_Publisher, T.na_Publisher__options, zip_look (i := 0) (pks_nd) rfl rfl, _, rfl, ja, _, dxj, _, _, rfl, hja8, T.cl_Job, T.na_Job_attempt, zip_look (i := 2) (jks_nd) rfl rfl, op, s0.o, j.attempt, rfl, X8.opt, hg.opt, by omega, by omega, ?_⟩
        refine ⟨_, _, rfl, rfl, own, L.ta, L.td, q1, s0.tms, .del n, s0.clock + delay s0.o j.attempt, rfl, ⟨X8.tmr, X8.att⟩, key_del upd_same, Nat.le_trans hg.tlen (by decide), fun H9 bt9 tt9 => ?_⟩
        obtain ⟨hto, xs, htd, _⟩ := X8.att
        exact ⟨⟨_, rfl⟩, X8.sett bt9 tt9, (fr6.trans (fr_same s8)).trans (fr_but bt9 htd (fun _ z => nomatch z) hto)⟩
      · rw [if_neg c] at een
        rw [een]
        refine ifN (dF c) ?_
        refine ⟨_, rfl, L.p, _, dx, _, _, rfl, hp, T.cl_Publisher, T.na_Publisher__jobs, zip_look (i := 8) (pks_nd) rfl rfl, L.jd, rfl, .inl ⟨_, .of hjd⟩, _, rfl, kvs, .inr n, _, hjd, rfl, hv, ?_⟩
        have b6 : But L.jd H (upd H L.jd (.dK (dropK kvs (.inr n)))) := but_upd
        have tk6 := but_tk b6 hjd (fun _ z => nomatch z)
        have atj6 : JobsAt K own (upd H L.jd (.dK (dropK kvs (.inr n)))) L.jd (adrop s0.jobs n) := ⟨hjo, _, upd_same, (hjr.drop n).mono fun v j z => z.keep (fun a dx v1 v2 v3 v4 _ e => b6 _ _ (ne_of e hjd fun z => nomatch z) e) tk6 fun b q _ => q, hjn.sublist (List.filter_sublist.map _)⟩
        have X6 := X.setj b6 atj6
        have fr6 : Fr own H _ := fr_but b6 hjd (fun _ z => nomatch z) hjo
        have hja6 := b6 _ _ (ne_of hja hjd fun z => nomatch z) hja
        have hp6 := b6 _ _ (ne_of hp hjd fun z => nomatch z) hp
        have hfl6 := hfl.keep tk6
        generalize upd H L.jd (.dK (dropK kvs (.inr n))) = H6 at *
        obtain ⟨pf, xf, rfl, hpf, hxf⟩ := id hfl6.itemsU
        refine ⟨_, rfl, _, rfl, ja, _, dxj, _, _, rfl, hja6, T.cl_Job, T.na_Job_text, zip_look (i := 0) (jks_nd) rfl rfl, _, rfl, L.p, _, dx, _, _, rfl, hp6, T.cl_Publisher, T.na_Publisher__options, zip_look (i := 0) (pks_nd) rfl rfl, _, _, _, _, rfl, rfl, X6.opt.sq, Opt.at2, _, rfl, ja, _, dxj, _, _, rfl, hja6, T.cl_Job, T.na_Job_found, zip_look (i := 1) (jks_nd) rfl rfl, pf, xf, rfl, .inr hpf.sq, fun l hl => ?_⟩
        have s7 := same_new hl (o := .lst xf)
        obtain ⟨kn, hkn⟩ := hjg.told
        have hxl : xf.length ≤ 100000 := by
          rw [hxf.len, List.length_map, hkn]
          have h1 := flat_len (toldSeg kn n) 2 (split n j.text) fun g _ => toldSeg_len _ _ g
          obtain ⟨_, h2⟩ := split_len (name := n) hjg.len
          have h3 := hjg.len
          unfold toldOf
          omega
        refine ⟨n, j.text, s0.o.attempts, l, xf, j.found, kn, rfl, upd_same, hxf.keep (Same.tk s7), hkn, hjg.fok, hjg.len, hxl, fun H8 v8 s8 hv8 => ?_⟩
        have s78 := s7.trans s8
        have X8 := X6.same s78
        have hp8 := s78 _ _ hp6
        have hja8 := s78 _ _ hja6
        obtain ⟨dxc, hca⟩ := X8.cch
        refine ⟨_, rfl, L.p, _, dx, _, _, rfl, hp8, T.cl_Publisher, T.na_Publisher__cache, zip_look (i := 6) (pks_nd) rfl rfl, L.ca, dxc, _, rfl, hca, zip_none (by decide +kernel), _, rfl, _, rfl, ja, _, dxj, _, _, rfl, hja8, T.cl_Job, T.na_Job_text, zip_look (i := 0) (jks_nd) rfl rfl, _, rfl, ja, _, dxj, _, _, rfl, hja8, T.cl_Job, T.na_Job_found, zip_look (i := 1) (jks_nd) rfl rfl, _, rfl, le4, fun q hq => ?_⟩
        have s9 := same_new hq (o := .tup [.str n, .str j.text, .ref pf, v8])
        have X9 := X8.same s9
        have hrd : Dt K (upd H8 q (.tup [.str n, .str j.text, .ref pf, v8])) (.ref q) (Rend.enc ⟨n, j.text, j.found, joinResult n j.text s0.o.attempts j.found⟩) := .tup upd_same (.cons .str (.cons .str (.cons ((hfl6.keep (Same.tk s78)).keep (Same.tk s9)) (.cons (hv8.keep (Same.tk s9)) .nil))))
        have hro : Rend.Ok ⟨n, j.text, j.found, joinResult n j.text s0.o.attempts j.found⟩ := ⟨ln_sok hln, hjg.sok, hjg.tok, joinResult_ok (ln_sn hln) hjg.sok fun p hp => by
          obtain ⟨r, hr, ho⟩ := hjg.fok p hp
          unfold resOf
          rw [hr]
          exact ho⟩
        refine ⟨own, L.ca, L.cd, s0.cache, .ref q, _, rfl, ⟨X9.cch, X9.atc, X9.fresh⟩, hrd, hro, hg.cch, Nat.le_trans hg.cks.len (by decide), fun HA btA hcA => ?_⟩
        obtain ⟨hco, _, hcd, _⟩ := X9.atc
        exact ⟨⟨_, rfl⟩, X9.setc btA hcA, ((fr6.trans (fr_same s78)).trans (fr_same s9)).trans (fr_but btA hcd (fun _ z => nomatch z) hco)⟩
    · rintro σ' H3 ⟨⟨b3, rfl⟩, X3, fr3⟩
      obtain ⟨dx3, hp3⟩ := X3.pub
      exact ⟨_, rfl, L.p, dx3, _, rfl, hp3, zip_none (by decide +kernel), own, L, _, rfl, ⟨op, sd, pg, fv, vv, X3⟩, hge, pr1 _ _, fun H4 P4 fr4 => kk H4 P4 (fr3.trans fr4)⟩
end
end L2.TP
/-! Publisher: fire, turn, advance. -/
namespace L2.TP
open PySem PySem.Spec PyProof.Rows L2
section
variable {P : Program} {w : World} {K : PySem.W.Frag} {mg : Str → Option Value} {base : Heap} {H H' : Hp}
def TK.dat : TK → PyData
  | .pause => .tuple [.str "pause"]
  | .wait => .tuple [.str "wait"]
  | .att n => .tuple [.str "attempt", .str n]
  | .del n => .tuple [.str "delay", .str n]
theorem key_dat {b : Addr} : ∀ {k : TK}, KeyU K H b k → Dt K H (.ref b) k.dat
  | .pause, h => .ofU h (.cons .str .nil)
  | .wait, h => .ofU h (.cons .str .nil)
  | .att n, h => .ofU h (.cons .str (.cons .str .nil))
  | .del n, h => .ofU h (.cons .str (.cons .str .nil))
theorem lo_key {k : TK} (h : match k with
    | .att n => SOk n
    | .del n => SOk n
    | _ => True) : Lo 1 k.dat := by
  cases k with
  | pause => exact .tup (.cons (.str (sok _)) .nil)
  | wait => exact .tup (.cons (.str (sok _)) .nil)
  | att n => exact .tup (.cons (.str (sok _)) (.cons (.str h) .nil))
  | del n => exact .tup (.cons (.str (sok _)) (.cons (.str h) .nil))
theorem eqv_wait (k : TK) : PyData.eqv k.dat (TK.dat .wait) = decide (k = .wait) := by
  cases k with
  | pause => decide +kernel
  | wait => decide +kernel
  | att n => exact (by rfl : _ = false).trans (dF (fun z => nomatch z)).symm
  | del n => exact (by rfl : _ = false).trans (dF (fun z => nomatch z)).symm
theorem eqv_pause (k : TK) : PyData.eqv k.dat (TK.dat .pause) = decide (k = .pause) := by
  cases k with
  | pause => decide +kernel
  | wait => decide +kernel
  | att n => exact (by rfl : _ = false).trans (dF (fun z => nomatch z)).symm
  | del n => exact (by rfl : _ = false).trans (dF (fun z => nomatch z)).symm
def KeyOk (k : TK) : Prop := match k with
  | .att n => SOk n
  | .del n => SOk n
  | _ => True
def FirePre (s : S) : TK → Prop
  | .att n => ∃ j, aget s.jobs n = some j ∧ j.state = .run ∧ ∀ p ∈ s.tms, p.1 ≠ .att n
  | .del n => ∃ j, aget s.jobs n = some j ∧ j.state = .back ∧ ∀ p ∈ s.tms, p.1 ≠ .del n
  | _ => True
def spFire (K : PySem.W.Frag) (P : Program) (w : World) : Sp := fun vs H Q _ => ∃ (own : Addr → Prop) (L : Lay) (s : S) (b : Addr) (k : TK), vs = [.ref L.p, .ref b] ∧ Pub K P w own L s H ∧ Gd s ∧ KeyU K H b k ∧ KeyOk k ∧ FirePre s k ∧
  ∀ H', Pub K P w own L (s.fire k) H' → Fr own H H' → Q .non H'
theorem ok_fire (T : Txt w K mg) : FnOk P w K mg base CX0 14 (He.ma K (He.ga K "Publisher") "_fire") (fd_Publisher__fire K) ["self", "key"] (spFire K P w) := by
  have G_Publisher__progress := ok_prog1 (P := P) (base := base) T
  have G_Publisher__freeze := ok_frz2 (P := P) (base := base) T
  have G_Publisher__end := ok_end (P := P) (base := base) T
  refine T.f_Publisher__fire.ok sc_Publisher__fire (fun vs H Q E h => ?_) (fun cdv A outer s H vs Q E hr h => ?_)
  · obtain ⟨a, b, c, d, e, rfl, _⟩ := h
    rfl
  · obtain ⟨own, L, s0, b, k, rfl, PA, hg, hk, hko, hpre, kk⟩ := h
    have hu := hu_of hr
    obtain ⟨op, sd, pg, fv, vv, X⟩ := id PA
    obtain ⟨dx, hp⟩ := X.pub
    refine ⟨_, PSs.nox ((pss_one (ps_if (pt_cmpR (op_eqD hr.units) (pv 1) (pe_gr T.g_WAIT) (nomark _)) (pss_one (ps_expr (pe_meth0 (pv 0) T.cl_Publisher T.mt_Publisher__freeze G_Publisher__freeze (hr.mono (by omega)) T.b_Publisher__freeze .nil pass0))) (pss_one (ps_if (pt_cmpR (op_eqD hr.units) (pv 1) (pe_gr T.g_PAUSE) (nomark _)) (pss_one (ps_expr (pe_meth0 (pv 0) T.cl_Publisher T.mt_Publisher__progress G_Publisher__progress (hr.mono (by omega)) T.b_Publisher__progress .nil pass0))) (pss_one (ps_if (pt_cmpR op_eq (pe_ix ix_tup (pv 1) pe_int (fun _ _ => rfl)) pe_str (nomark _)) (pss_one (ps_expr (pe_meth (pv 0) T.cl_Publisher T.mt_Publisher__end G_Publisher__end (hr.mono (by omega)) T.b_Publisher__end .nil pass0 (pa_cons (pe_ix ix_tup (pv 1) pe_int (fun _ _ => rfl)) pa_nil)))) (pss_cons (ps_fld (pe_dget hu (pe_fld (pv 0) rfl) (pe_ix ix_tup (pv 1) pe_int (fun _ _ => rfl)) (fun _ _ => rfl)) (pe_gs T.s_QUEUED) rfl)
      (pss_one (ps_expr (pe_meth0 (pv 0) T.cl_Publisher T.mt_Publisher__progress G_Publisher__progress (hr.mono (by omega)) T.b_Publisher__progress .nil pass0))))))))))), ?_⟩
    have sh := (lo_key (k := k) (by cases k <;> exact hko)).shaped (by decide)
    refine ⟨_, rfl, k.dat, TK.dat .wait, (key_dat hk).dp, (key_dat (key_wait T)).dp, sh, (lo_key (k := .wait) True.intro).shaped (by decide), _, rfl, ?_⟩
    rw [eqv_wait]
    have prog : ∀ (s' : S) (H2 : Hp), PubX K P w own L op sd pg fv vv s' H2 → Fr own H H2 → Gd s' → s'.prog = s0.fire k → ∃ a dx fs, (V.ref L.p) = .ref a ∧ H2 a = some (.ins (He.ga K "Publisher") dx fs) ∧ fs.lookup ("_progress" : Str) = none ∧ (spB K P w (fun f d => f = true → d = true → True ∧ pr0 false true) S.prog) [.ref L.p] H2 (fun _ H3 => Q .non H3) E0 := by
      intro s' H2 X2 fr2 hg2 e
      obtain ⟨dx2, hp2⟩ := X2.pub
      exact ⟨L.p, dx2, _, rfl, hp2, zip_none (by decide +kernel), own, L, s', rfl, ⟨op, sd, pg, fv, vv, X2⟩, hg2, pr1 _ _, fun H3 P3 fr3 => kk H3 (by rw [← e]; exact P3) (fr2.trans fr3)⟩
    cases k with
    | wait =>
      refine ifY (dT rfl) ⟨_, rfl, L.p, dx, _, rfl, hp, zip_none (by decide +kernel), own, L, s0, rfl, PA, hg, True.intro, fun H3 P3 fr3 => kk H3 P3 fr3⟩
    | pause =>
      refine ifN (dF (fun z => nomatch z)) ⟨_, rfl, _, _, (key_dat hk).dp, (key_dat (key_pause T)).dp, sh, (lo_key (k := .pause) True.intro).shaped (by decide), _, rfl, ?_⟩
      rw [eqv_pause]
      obtain ⟨a, dx2, fs, e1, e2, e3, e4⟩ := prog s0 H X (Fr.refl _ _) hg rfl
      exact ifY (dT rfl) ⟨_, rfl, a, dx2, fs, e1, e2, e3, e4⟩
    | att n =>
      obtain ⟨j, h1, h2, h3⟩ := hpre
      refine ifN (dF (fun z => nomatch z)) ⟨_, rfl, _, _, (key_dat hk).dp, (key_dat (key_pause T)).dp, sh, (lo_key (k := .pause) True.intro).shaped (by decide), _, rfl, ?_⟩
      rw [eqv_pause]
      have hk' : SqU K H b [.str "attempt", .str n] := hk
      refine ifN (dF (fun z => nomatch z)) ⟨_, rfl, _, _, _, _, rfl, rfl, hk'.sq, at0, rfl, _, rfl, ifY (dT rfl) ⟨_, rfl, L.p, dx, _, rfl, hp, zip_none (by decide +kernel), _, rfl, _, _, _, _, rfl, rfl, hk'.sq, at1, own, L, s0, n, j, rfl, PA, hg, h1, h2, h3, fun H3 P3 fr3 => kk H3 P3 fr3⟩⟩
    | del n =>
      obtain ⟨j, h1, h2, h3⟩ := hpre
      refine ifN (dF (fun z => nomatch z)) ⟨_, rfl, _, _, (key_dat hk).dp, (key_dat (key_pause T)).dp, sh, (lo_key (k := .pause) True.intro).shaped (by decide), _, rfl, ?_⟩
      rw [eqv_pause]
      have hk' : SqU K H b [.str "delay", .str n] := hk
      obtain ⟨hjo, kvs, hjd, hjr, hjn⟩ := X.atj
      obtain ⟨_, zz⟩ := hjr.get n
      obtain ⟨v, hv, ja, fl, rfl, hjao, ⟨dxj, hja⟩, hfl⟩ := zz j h1
      have hna : ¬ V.str ("delay" : Str) = V.str ("attempt" : Str) := by decide +kernel
      refine ifN (dF (fun z => nomatch z)) ⟨_, rfl, _, _, _, _, rfl, rfl, hk'.sq, at0, rfl, _, rfl, ifN (dF hna) ?_⟩
      refine ⟨_, rfl, L.p, _, dx, _, _, rfl, hp, T.cl_Publisher, T.na_Publisher__jobs, zip_look (i := 8) (pks_nd) rfl rfl, _, rfl, _, _, _, _, rfl, rfl, hk'.sq, at1, L.jd, _, rfl, .inl ⟨kvs, .inr n, .of hjd, rfl, hv.symm⟩, ja, _, dxj, _, rfl, hja, T.cl_Job, T.na_Job_state, Nat.lt_of_le_of_lt zip_len (by decide), ?_⟩
      have e1 : putF "state" (.str "queued") (jks.zip [.str j.text, fl, .int j.attempt, .str j.state.enc]) = jks.zip [.str j.text, fl, .int j.attempt, .str "queued"] := zip_put (i := 3) jks_nd rfl (lt4 (by decide))
      rw [e1]
      have A6 := JobsAt.set (j' := { j with state := .queued }) X.atj hg.jks.1 hjd hv h1 hja rfl rfl hfl hjao
      replace A6 : JobsAt K own (upd H ja (.ins (He.ga K "Job") dxj (jks.zip [.str j.text, fl, .int j.attempt, .str "queued"]))) L.jd (aput s0.jobs n { j with state := .queued }) := A6
      have b6 : But ja H (upd H ja (.ins (He.ga K "Job") dxj (jks.zip [.str j.text, fl, .int j.attempt, .str "queued"]))) := but_upd
      have X6 := X.seto hja b6 (by rw [upd_same]; exact fun z => nomatch z) A6
      have eq : s0.queue n = { s0 with jobs := aput s0.jobs n { j with state := .queued } } := by
        unfold S.queue
        rw [h1]
      have hgq := (hg.queue h1 h2 h3).1
      rw [← eq] at X6
      obtain ⟨a, dx2, fs, e1, e2, e3, e4⟩ := prog (s0.queue n) _ X6 (fr_but b6 hja (fun _ z => nomatch z) hjao) hgq rfl
      exact ⟨_, rfl, a, dx2, fs, e1, e2, e3, e4⟩
/-! ### a turn -/
def spTurn (K : PySem.W.Frag) (P : Program) (w : World) : Sp := fun vs H Q _ => ∃ (own : Addr → Prop) (L : Lay) (s : S) (last : Int), vs = [.ref L.p, .int last] ∧ Pub K P w own L s H ∧ Gd s ∧
  ∀ H', Pub K P w own L (if s.dueBy last = true then s.turn else s) H' → Fr own H H' → Q (.bl (s.dueBy last)) H'
theorem ok_turn (T : Txt w K mg) : FnOk P w K mg base CX0 15 (He.ma K (He.ga K "Publisher") "turn") (fd_Publisher_turn K) ["self", "last"] (spTurn K P w) := by
  have G_Timers_first := ok_timers_first (P := P) (base := base) T
  have G_Timers_remove := ok_timers_remove (P := P) (base := base) T
  have G_Publisher__fire := ok_fire (P := P) (base := base) T
  refine T.f_Publisher_turn.ok sc_Publisher_turn (fun vs H Q E h => ?_) (fun cdv A outer s H vs Q E hr h => ?_)
  · obtain ⟨a, b, c, d, rfl, _⟩ := h
    rfl
  · obtain ⟨own, L, s0, last, rfl, PA, hg, kk⟩ := h
    have hu := hu_of hr
    obtain ⟨op, sd, pg, fv, vv, X⟩ := id PA
    obtain ⟨dx, hp⟩ := X.pub
    obtain ⟨dxt, hta⟩ := X.tmr
    refine ⟨_, PSs.nox ((pss_cons (ps_set (i := 2) sc_Publisher_turn.nd rfl (.inl rfl) (pe_meth0 (pe_fld (pv 0) rfl) T.cl_Timers T.mt_Timers_first G_Timers_first (hr.mono (by omega)) T.b_Timers_first .nil pass0))
      (pss_cons (ps_if (PW.pt (pw_or (pt_cmpR op_isN (pv 2) pe_non (nomark _)) (pw_or1 (pt_cmpR op_gt (pe_ix ix_tup (pv 2) pe_int (fun _ _ => rfl)) (pv 1) (nomark _))))) (pss_one (ps_ret pe_bl)) pss_nil)
      (pss_cons (ps_fld (pv 0) (pe_ix ix_tup (pv 2) pe_int (fun _ _ => rfl)) rfl)
      (pss_cons (ps_expr (pe_meth (pe_fld (pv 0) rfl) T.cl_Timers T.mt_Timers_remove G_Timers_remove (hr.mono (by omega)) T.b_Timers_remove .nil pass0 (pa_cons (pe_ix ix_tup (pv 2) pe_int (fun _ _ => rfl)) pa_nil)))
      (pss_cons (ps_expr (pe_meth (pv 0) T.cl_Publisher T.mt_Publisher__fire G_Publisher__fire (hr.mono (by omega)) T.b_Publisher__fire .nil pass0 (pa_cons (pe_ix ix_tup (pv 2) pe_int (fun _ _ => rfl)) pa_nil)))
      (pss_one (ps_ret pe_bl)))))))), ?_⟩
    refine ⟨_, rfl, L.p, _, dx, _, _, rfl, hp, T.cl_Publisher, T.na_Publisher__timers, zip_look (i := 7) (pks_nd) rfl rfl, L.ta, dxt, _, rfl, hta, zip_none (by decide +kernel), own, L.ta, L.td, s0.tms, rfl, ⟨X.tmr, X.att⟩, Nat.le_trans hg.tlen (by decide), fun H1 v s1 hv => ?_⟩
    have X1 := X.same s1
    have hp1 := s1 _ _ hp
    cases hf : tfirst s0.tms with
    | none =>
      rw [hf] at hv
      obtain rfl : v = .non := hv
      have ed : s0.dueBy last = false := by
        unfold S.dueBy
        rw [hf]
      rw [ed] at kk
      exact ⟨_, rfl, rfl, _, rfl, ifY rfl (iteT (kk H1 ⟨op, sd, pg, fv, vv, X1⟩ (fr_same s1)))⟩
    | some dk =>
      obtain ⟨d, k⟩ := dk
      rw [hf] at hv
      obtain ⟨fp, b, rfl, hfp, hk⟩ := hv
      refine ⟨_, rfl, rfl, _, rfl, ifN rfl ⟨_, rfl, _, _, _, _, rfl, rfl, hfp.sq, at0, _, rfl, _, _, rfl, rfl, _, rfl, ?_⟩⟩
      have ed : s0.dueBy last = decide (d ≤ last) := by
        unfold S.dueBy
        rw [hf]
      by_cases hd : d ≤ last
      · rw [ed, decide_eq_true hd] at kk
        have et : s0.turn = S.fire (s0.fired d k) k := by
          unfold S.turn
          rw [hf] <;> rfl
        refine ifN (dF (by omega)) ⟨_, rfl, _, _, _, _, rfl, rfl, hfp.sq, at0, _, rfl, L.p, _, dx, _, rfl, hp1, T.cl_Publisher, T.na_Publisher__clock, Nat.lt_of_le_of_lt zip_len (by decide), ?_⟩
        have e3 : putF "_clock" (.int d) (pks.zip [.ref op, .int s0.clock, .ref sd, .ref pg, .int s0.count, .int s0.last, .ref L.ca, .ref L.ta, .ref L.jd, fv, oi s0.dirty, vv, .int s0.published, .int s0.made]) = pks.zip [.ref op, .int d, .ref sd, .ref pg, .int s0.count, .int s0.last, .ref L.ca, .ref L.ta, .ref L.jd, fv, oi s0.dirty, vv, .int s0.published, .int s0.made] := zip_put (i := 1) pks_nd rfl (lt14 (by decide))
        rw [e3]
        have X2 := X1.setp (s' := { s0 with clock := d }) (dx := dx) rfl rfl rfl X1.opt X1.src X1.pgs X1.frz X1.ver
        replace X2 : PubX K P w own L op sd pg fv vv { s0 with clock := d } (upd H1 L.p (.ins (He.ga K "Publisher") dx (pks.zip [.ref op, .int d, .ref sd, .ref pg, .int s0.count, .int s0.last, .ref L.ca, .ref L.ta, .ref L.jd, fv, oi s0.dirty, vv, .int s0.published, .int s0.made]))) := X2
        have bt2 : But L.p H1 (upd H1 L.p (.ins (He.ga K "Publisher") dx (pks.zip [.ref op, .int d, .ref sd, .ref pg, .int s0.count, .int s0.last, .ref L.ca, .ref L.ta, .ref L.jd, fv, oi s0.dirty, vv, .int s0.published, .int s0.made]))) := but_upd
        have tk2 := but_tk bt2 hp1 (fun _ z => nomatch z)
        have fr2 : Fr own H _ := (fr_same s1).trans (fr_but bt2 hp1 (fun _ z => nomatch z) X.ownp)
        have hfp2 := hfp.keep tk2
        have hk2 := hk.keep tk2
        have hp2 := upd_same (H := H1) (a := L.p) (o := .ins (He.ga K "Publisher") dx (pks.zip [.ref op, .int d, .ref sd, .ref pg, .int s0.count, .int s0.last, .ref L.ca, .ref L.ta, .ref L.jd, fv, oi s0.dirty, vv, .int s0.published, .int s0.made]))
        generalize upd H1 L.p (.ins (He.ga K "Publisher") dx (pks.zip [.ref op, .int d, .ref sd, .ref pg, .int s0.count, .int s0.last, .ref L.ca, .ref L.ta, .ref L.jd, fv, oi s0.dirty, vv, .int s0.published, .int s0.made])) = H2 at *
        obtain ⟨dxt2, hta2⟩ := X2.tmr
        refine ⟨_, rfl, L.p, _, dx, _, _, rfl, hp2, T.cl_Publisher, T.na_Publisher__timers, zip_look (i := 7) (pks_nd) rfl rfl, L.ta, dxt2, _, rfl, hta2, zip_none (by decide +kernel), _, rfl, _, _, _, _, rfl, rfl, hfp2.sq, at1, own, L.ta, L.td, b, _, k, rfl, ⟨X2.tmr, X2.att⟩, hk2, fun H3 x3 bt3 tt3 => ?_⟩
        obtain ⟨hto, xs, htd, _⟩ := X2.att
        have X3 := X2.sett bt3 tt3
        have tk3 := but_tk bt3 htd (fun _ z => nomatch z)
        have fr3 := fr2.trans (fr_but bt3 htd (fun _ z => nomatch z) hto)
        have hg3 := hg.fired hf
        obtain ⟨hm, _⟩ := tfirst_some hf
        have ht := hg.tim _ hm
        have hpre : FirePre (s0.fired d k) k := by
          cases k with
          | pause => exact True.intro
          | wait => exact True.intro
          | att n =>
            obtain ⟨j, a1, a2⟩ := ht
            exact ⟨j, a1, a2, fun p hp => (mem_adrop hp).2⟩
          | del n =>
            obtain ⟨j, a1, a2⟩ := ht
            exact ⟨j, a1, a2, fun p hp => (mem_adrop hp).2⟩
        have hko : KeyOk k := by
          cases k with
          | pause => exact True.intro
          | wait => exact True.intro
          | att n =>
            obtain ⟨j, a1, a2⟩ := ht
            exact ln_sok (aget_LN hg.jks a1)
          | del n =>
            obtain ⟨j, a1, a2⟩ := ht
            exact ln_sok (aget_LN hg.jks a1)
        obtain ⟨dx3, hp3⟩ := X3.pub
        refine ⟨_, rfl, L.p, dx3, _, rfl, hp3, zip_none (by decide +kernel), _, rfl, _, _, _, _, rfl, rfl, (hfp2.keep tk3).sq, at1, own, L, s0.fired d k, b, k, rfl, ⟨op, sd, pg, fv, vv, X3⟩, hg3, hk2.keep tk3, hko, hpre, fun H4 P4 fr4 => ?_⟩
        refine kk H4 ?_ (fr3.trans fr4)
        rw [if_pos rfl, et]
        exact P4
      · rw [ed, decide_eq_false hd] at kk
        exact ifY (dT (by omega)) (kk H1 ⟨op, sd, pg, fv, vv, X1⟩ (fr_same s1))
def spTicks (K : PySem.W.Frag) (P : Program) (w : World) : Sp := fun vs H Q _ => ∃ (own : Addr → Prop) (L : Lay) (s : S) (t : Int), vs = [.ref L.p, .int t] ∧ Pub K P w own L s H ∧ 0 ≤ t ∧ t ≤ 10000 ∧ s.clock + t ≤ 9999999 ∧ Q .non H
theorem ok_ticks (T : Txt w K mg) : FnOk P w K mg base CX0 1 (He.ma K (He.ga K "Publisher") "check_ticks") (fd_Publisher_check_ticks K) ["self", "ticks"] (spTicks K P w) := by
  refine T.f_Publisher_check_ticks.ok sc_Publisher_check_ticks (fun vs H Q E h => ?_) (fun cdv A outer s H vs Q E hr h => ?_)
  · obtain ⟨a, b, c, d, rfl, _⟩ := h
    rfl
  · obtain ⟨own, L, s0, t, rfl, ⟨op, sd, pg, fv, vv, X⟩, h1, h2, h3, kk⟩ := h
    have hu := hu_of hr
    obtain ⟨dx, hp⟩ := X.pub
    refine ⟨_, PSs.nox ((pss_one (ps_if (PW.pt (pw_or (pt_not (pt_chain op_le op_le pe_int (pv 1) (pe_gi T.i_TICKS_MOST))) (pw_or1 (pt_cmpR op_gt (pe_op op_add (pe_fld (pv 0) rfl) (pv 1)) (pe_gi T.i_CLOCK_MOST) (nomark _))))) (pss_one ps_never) pss_nil))), ?_⟩
    refine ⟨_, rfl, _, _, rfl, rfl, _, rfl, ifY (dT h1) ⟨_, _, rfl, rfl, _, rfl, ?_⟩⟩
    refine ifN (by rw [dT h2] <;> rfl) ⟨_, rfl, L.p, _, dx, _, _, rfl, hp, T.cl_Publisher, T.na_Publisher__clock, zip_look (i := 1) (pks_nd) rfl rfl, _, rfl, _, _, rfl, rfl, _, _, rfl, rfl, _, rfl, ifN (dF (by omega)) kk⟩
end
end L2.TP
/-! The plain law of advance; advance walked. -/
namespace L2.TP
open PySem PySem.Spec PyProof.Rows L2
theorem nodup_of_map {α β : Type} {f : α → β} : ∀ {l : List α}, (l.map f).Nodup → l.Nodup
  | [], _ => List.nodup_nil
  | a :: l, h => by
    obtain ⟨n1, n2⟩ := List.nodup_cons.mp h
    exact List.nodup_cons.mpr ⟨fun hm => n1 (List.mem_map_of_mem hm), nodup_of_map n2⟩
def S.cnt (s : S) : Nat := (s.tms.filter fun p => decide (p.2 = s.clock)).length
def S.mes (s : S) (last : Int) : Nat := (last - s.clock).toNat * 20 + s.cnt
theorem mes_lt {s : S} (h : Gd s) {last : Int} (hd : s.dueBy last = true) : s.turn.mes last < s.mes last := by
  unfold S.dueBy at hd
  cases e : tfirst s.tms with
  | none => rw [e] at hd; cases hd
  | some dk =>
    obtain ⟨d, k⟩ := dk
    rw [e] at hd
    replace hd : d ≤ last := of_decide_eq_true hd
    have et : s.turn = S.fire (s.fired d k) k := by
      unfold S.turn
      rw [e] <;> rfl
    obtain ⟨h1, h2⟩ := h.fire e
    obtain ⟨hm, _⟩ := tfirst_some e
    have hdc := h.due _ hm
    replace hdc : s.clock ≤ d := hdc
    have hc : (S.fire (s.fired d k) k).clock = d := h2.clock
    rw [et]
    unfold S.mes S.cnt
    rw [hc]
    have sub : ∀ p ∈ (S.fire (s.fired d k) k).tms.filter (fun p => decide (p.2 = d)), p ∈ adrop s.tms k ∧ p.2 = d := fun p hp => by
      obtain ⟨a, b⟩ := List.mem_filter.mp hp
      have b2 : p.2 = d := of_decide_eq_true b
      rcases h2.tms p a with q | q
      · exact ⟨q, b2⟩
      · replace q : d < p.2 := q
        omega
    have nd : ((S.fire (s.fired d k) k).tms.filter (fun p => decide (p.2 = d))).Nodup := (nodup_of_map h1.tnd).sublist List.filter_sublist
    by_cases hq : d = s.clock
    · have z := nodup_le _ ((s.tms.filter fun p => decide (p.2 = s.clock)).erase (k, d)) nd fun p hp => by
        obtain ⟨a, b⟩ := sub p hp
        obtain ⟨a1, a2⟩ := mem_adrop a
        refine (List.mem_erase_of_ne (fun z : p = (k, d) => a2 (by rw [z]))).mpr (List.mem_filter.mpr ⟨a1, decide_eq_true (b.trans hq)⟩)
      have hmem : (k, d) ∈ s.tms.filter fun p => decide (p.2 = s.clock) := List.mem_filter.mpr ⟨hm, decide_eq_true hq⟩
      rw [List.length_erase_of_mem hmem] at z
      have := List.length_pos_of_mem hmem
      rw [hq] at z ⊢
      omega
    · have z : ((S.fire (s.fired d k) k).tms.filter (fun p => decide (p.2 = d))).length ≤ 18 := Nat.le_trans (List.length_filter_le _ _) h1.tlen
      omega
/-- all turns up to last have been taken -/
def R (last : Int) (s t : S) : Prop := ∃ k, t = turns k last s ∧ t.dueBy last = false
theorem turns_fin {last : Int} {s : S} (h : s.dueBy last = false) : ∀ k, turns k last s = s
  | 0 => rfl
  | k + 1 => by
    rw [turns, h]
    exact if_neg Bool.false_ne_true
theorem R.fin {last : Int} {s : S} (h : s.dueBy last = false) : R last s s := ⟨0, rfl, h⟩
theorem R.uniq {last : Int} : ∀ {s t u : S}, R last s t → R last s u → t = u := by
  have go : ∀ (k : Nat) (s t u : S) (j : Nat), t = turns k last s → t.dueBy last = false → u = turns j last s → u.dueBy last = false → t = u := by
    intro k
    induction k with
    | zero =>
      intro s t u j ht hf hu _
      have e : t = s := ht
      subst e
      rw [turns_fin hf] at hu
      exact hu.symm
    | succ k ih =>
      intro s t u j ht hf hu hg
      cases hd : s.dueBy last with
      | false =>
        rw [turns_fin hd] at ht hu
        rw [ht, hu]
      | true =>
        cases j with
        | zero =>
          have e : u = s := hu
          subst e
          rw [hd] at hg
          cases hg
        | succ j =>
          rw [turns, hd, if_pos rfl] at ht hu
          exact ih _ _ _ j ht hf hu hg
  rintro s t u ⟨k, h1, h2⟩ ⟨j, h3, h4⟩
  exact go k s t u j h1 h2 h3 h4
theorem R.step {last : Int} {s t : S} (hd : s.dueBy last = true) : R last s.turn t ↔ R last s t := by
  constructor
  · rintro ⟨k, h1, h2⟩
    exact ⟨k + 1, by rw [turns, hd, if_pos rfl]; exact h1, h2⟩
  · rintro ⟨k, h1, h2⟩
    cases k with
    | zero =>
      have e : t = s := h1
      subst e
      rw [hd] at h2
      cases h2
    | succ k =>
      rw [turns, hd, if_pos rfl] at h1
      exact ⟨k, h1, h2⟩
theorem R.ex {last : Int} : ∀ (m : Nat) {s : S}, Gd s → s.mes last ≤ m → ∃ t, R last s t ∧ Gd t
  | 0, s, h, hm => by
    cases hd : s.dueBy last with
    | false => exact ⟨s, R.fin hd, h⟩
    | true =>
      have := mes_lt h hd
      omega
  | m + 1, s, h, hm => by
    cases hd : s.dueBy last with
    | false => exact ⟨s, R.fin hd, h⟩
    | true =>
      have z := mes_lt h hd
      obtain ⟨t, h1, h2⟩ := R.ex (last := last) m h.turn (by omega)
      exact ⟨t, (R.step hd).mp h1, h2⟩
/-- the clock is not looked at before a turn -/
def S.at (s : S) (c : Int) : S := { s with clock := c }
theorem at_due {s : S} {c last : Int} : (s.at c).dueBy last = s.dueBy last := rfl
theorem at_turn {s : S} {c last : Int} (h : s.dueBy last = true) : (s.at c).turn = s.turn := by
  unfold S.dueBy at h
  unfold S.turn
  show (match tfirst s.tms with
    | none => s.at c
    | some (d, k) => S.fire { s.at c with clock := d, tms := adrop s.tms k } k) = _
  cases e : tfirst s.tms with
  | none => rw [e] at h; cases h
  | some dk => rfl
theorem due_mono {s : S} {a b : Int} (hab : a ≤ b) (h : s.dueBy a = true) : s.dueBy b = true := by
  unfold S.dueBy at *
  cases e : tfirst s.tms with
  | none => rw [e] at h; cases h
  | some dk =>
    rw [e] at h
    have z : dk.1 ≤ a := of_decide_eq_true h
    exact decide_eq_true (show dk.1 ≤ b by omega)
/-- advance to a, then to b -/
theorem R.pieces {a b c : Int} (hab : a ≤ b) : ∀ {s t u : S}, R a s t → R b (t.at c) u → ∀ {v : S}, R b s v → v.at b = u.at b := by
  have go : ∀ (k : Nat) (s t u v : S), t = turns k a s → t.dueBy a = false → R b (t.at c) u → R b s v → v.at b = u.at b := by
    intro k
    induction k with
    | zero =>
      intro s t u v ht hf hu hv
      have e : t = s := ht
      subst e
      cases hd : t.dueBy b with
      | false =>
        have e1 := R.uniq hv (R.fin hd)
        have e2 := R.uniq hu (R.fin (s := t.at c) hd)
        rw [e1, e2] <;> rfl
      | true =>
        have hu2 := (R.step (s := t.at c) hd).mpr hu
        rw [at_turn hd] at hu2
        rw [R.uniq hu2 ((R.step hd).mpr hv)]
    | succ k ih =>
      intro s t u v ht hf hu hv
      cases hd : s.dueBy a with
      | false =>
        rw [turns_fin hd] at ht
        exact ih s t u v (by rw [turns_fin hd]; exact ht) hf hu hv
      | true =>
        rw [turns, hd, if_pos rfl] at ht
        exact ih s.turn t u v ht hf hu ((R.step (due_mono hab hd)).mpr hv)
  rintro s t u ⟨k, h1, h2⟩ hu v hv
  exact go k s t u v h1 h2 hu hv
theorem Gd.at_ {s : S} (h : Gd s) {c : Int} (hd : ∀ p ∈ s.tms, c ≤ p.2) : Gd (s.at c) :=
  { opt := h.opt, src := h.src, pgs := h.pgs, cch := h.cch, cks := h.cks, jks := h.jks, jbs := h.jbs, frz := h.frz, tnd := h.tnd, tim := h.tim, due := hd, ver := h.ver }
theorem fin_due {s : S} {last : Int} (h : s.dueBy last = false) : ∀ p ∈ s.tms, last < p.2 := by
  unfold S.dueBy at h
  cases e : tfirst s.tms with
  | none =>
    intro p hp
    rw [tfirst_none e] at hp
    exact nomatch hp
  | some dk =>
    obtain ⟨d, k⟩ := dk
    rw [e] at h
    have z : ¬ d ≤ last := of_decide_eq_false h
    intro p hp
    have := (tfirst_some e).2 p hp
    omega
theorem R.gd {s t : S} {last : Int} (h : Gd t) (hr : R last s t) : Gd (t.at last) := h.at_ fun p hp => Int.le_of_lt (fin_due hr.choose_spec.2 p hp)
section
variable {P : Program} {w : World} {K : PySem.W.Frag} {mg : Str → Option Value} {base : Heap} {H H' : Hp}
def spAdv (K : PySem.W.Frag) (P : Program) (w : World) : Sp := fun vs H Q _ => ∃ (own : Addr → Prop) (L : Lay) (s : S) (t : Int), vs = [.ref L.p, .int t] ∧ Pub K P w own L s H ∧ Gd s ∧ 0 ≤ t ∧ t ≤ 10000 ∧ s.clock + t ≤ 9999999 ∧
  ∀ H' u, R (s.clock + t) s u → Gd u → Pub K P w own L (u.at (s.clock + t)) H' → Fr own H H' → Q (.int (s.clock + t)) H'
theorem ok_adv (T : Txt w K mg) : FnOk P w K mg base CX0 16 (He.ma K (He.ga K "Publisher") "advance") (fd_Publisher_advance K) ["self", "ticks"] (spAdv K P w) := by
  have G_Publisher_check_ticks := ok_ticks (P := P) (base := base) T
  have G_Publisher_turn := ok_turn (P := P) (base := base) T
  refine T.f_Publisher_advance.ok sc_Publisher_advance (fun vs H Q E h => ?_) (fun cdv A outer s H vs Q E hr h => ?_)
  · obtain ⟨a, b, c, d, rfl, _⟩ := h
    rfl
  · obtain ⟨own, L, s0, t, rfl, PA, hg, h1, h2, h3, kk⟩ := h
    have hu := hu_of hr
    obtain ⟨op, sd, pg, fv, vv, X⟩ := id PA
    obtain ⟨dx, hp⟩ := X.pub
    refine ⟨_, PSs.nox ((pss_cons (ps_expr (pe_meth (pv 0) T.cl_Publisher T.mt_Publisher_check_ticks G_Publisher_check_ticks (hr.mono (by omega)) T.b_Publisher_check_ticks .nil pass0 (pa_cons (pv 1) pa_nil)))
      (pss_cons (ps_set (i := 2) sc_Publisher_advance.nd rfl (.inl rfl) (pe_op op_add (pe_fld (pv 0) rfl) (pv 1)))
      (pss_cons (ps_set (i := 3) sc_Publisher_advance.nd rfl (.inl rfl) (pe_meth (pv 0) T.cl_Publisher T.mt_Publisher_turn G_Publisher_turn (hr.mono (by omega)) T.b_Publisher_turn .nil pass0 (pa_cons (pv 2) pa_nil)))
      (pss_cons (ps_while PassesOwn.never (pt_val (pv 3)) (pss_one (ps_set (i := 3) sc_Publisher_advance.nd rfl (.inl rfl) (pe_meth (pv 0) T.cl_Publisher T.mt_Publisher_turn G_Publisher_turn (hr.mono (by omega)) T.b_Publisher_turn .nil pass0 (pa_cons (pv 2) pa_nil)))))
      (pss_cons (ps_fld (pv 0) (pv 2) rfl)
      (pss_one (ps_ret (pv 2))))))))), ?_⟩
    refine ⟨_, rfl, L.p, dx, _, rfl, hp, zip_none (by decide +kernel), _, rfl, own, L, s0, t, rfl, PA, h1, h2, h3, ?_⟩
    refine ⟨_, rfl, L.p, _, dx, _, _, rfl, hp, T.cl_Publisher, T.na_Publisher__clock, zip_look (i := 1) (pks_nd) rfl rfl, _, rfl, _, _, rfl, rfl, ?_⟩
    dsimp only [gName, List.set, start]
    generalize s0.clock + t = last at *
    refine ⟨_, rfl, L.p, dx, _, rfl, hp, zip_none (by decide +kernel), _, rfl, own, L, s0, last, rfl, PA, hg, fun H1 P1 fr1 => ?_⟩
    have link : ∀ s : S, Gd s → Gd (if s.dueBy last = true then s.turn else s) ∧ (∀ u, R last (if s.dueBy last = true then s.turn else s) u ↔ R last s u) ∧ (s.dueBy last = false → (if s.dueBy last = true then s.turn else s).dueBy last = false) := fun s hgs => by
      cases hd : s.dueBy last with
      | true =>
        rw [if_pos rfl]
        exact ⟨hgs.turn, fun u => R.step hd, (fun z => nomatch z)⟩
      | false =>
        rw [if_neg Bool.false_ne_true]
        exact ⟨hgs, fun u => Iff.rfl, fun _ => hd⟩
    refine ⟨fun m σ H2 => ∃ (s : S) (b : Bool), σ = [some (.ref L.p), some (.int t), some (.int last), some (.bl b)] ∧ Pub K P w own L s H2 ∧ Gd s ∧ Fr own H H2 ∧ (∀ u, R last s u ↔ R last s0 u) ∧ (b = false → s.dueBy last = false) ∧ m = 2 * s.mes last + (if b = true then 1 else 0),
      ⟨_, _, _, rfl, P1, (link s0 hg).1, fr1, (link s0 hg).2.1, (link s0 hg).2.2, rfl⟩, ?_⟩
    rintro m σ H2 ⟨s, b, rfl, P2, hg2, fr2, hR, hb, rfl⟩
    refine ⟨_, rfl, b, rfl, ?_⟩
    cases b with
    | true =>
      obtain ⟨op2, sd2, pg2, fv2, vv2, X2⟩ := id P2
      obtain ⟨dx2, hp2⟩ := X2.pub
      refine ifY rfl ⟨_, fun _ _ h => h, ⟨_, rfl, L.p, dx2, _, rfl, hp2, zip_none (by decide +kernel), _, rfl, own, L, s, last, rfl, P2, hg2, fun H3 P3 fr3 => ?_⟩⟩
      refine ⟨_, ?_, _, _, rfl, P3, (link s hg2).1, fr2.trans fr3, fun u => ((link s hg2).2.1 u).trans (hR u), (link s hg2).2.2, rfl⟩
      rw [if_pos rfl]
      cases hd : s.dueBy last with
      | true =>
        rw [if_pos rfl, if_pos rfl]
        have := mes_lt hg2 hd
        omega
      | false =>
        rw [if_neg Bool.false_ne_true, if_neg Bool.false_ne_true]
        omega
    | false =>
      refine ifN rfl ?_
      obtain ⟨op2, sd2, pg2, fv2, vv2, X2⟩ := id P2
      obtain ⟨dx2, hp2⟩ := X2.pub
      refine ⟨_, rfl, _, rfl, L.p, _, dx2, _, rfl, hp2, T.cl_Publisher, T.na_Publisher__clock, Nat.lt_of_le_of_lt zip_len (by decide), ?_⟩
      have e3 : putF "_clock" (.int last) (pks.zip [.ref op2, .int s.clock, .ref sd2, .ref pg2, .int s.count, .int s.last, .ref L.ca, .ref L.ta, .ref L.jd, fv2, oi s.dirty, vv2, .int s.published, .int s.made]) = pks.zip [.ref op2, .int last, .ref sd2, .ref pg2, .int s.count, .int s.last, .ref L.ca, .ref L.ta, .ref L.jd, fv2, oi s.dirty, vv2, .int s.published, .int s.made] := zip_put (i := 1) pks_nd rfl (lt14 (by decide))
      rw [e3]
      have X3 := X2.setp (s' := s.at last) (dx := dx2) rfl rfl rfl X2.opt X2.src X2.pgs X2.frz X2.ver
      have hd := hb rfl
      refine ⟨_, rfl, kk _ s ((hR s).mp (R.fin hd)) hg2 ⟨op2, sd2, pg2, fv2, vv2, X3⟩ (fr2.trans (fr_but but_upd hp2 (fun _ z => nomatch z) X2.ownp))⟩
end
end L2.TP
/-! Publisher's getters. -/
namespace L2.TP
open PySem PySem.Spec PyProof.Rows L2
section
variable {P : Program} {w : World} {K : PySem.W.Frag} {mg : Str → Option Value} {base : Heap} {H H' : Hp}
/-- a getter of a number -/
def spGet (K : PySem.W.Frag) (P : Program) (w : World) (f : S → V) : Sp := fun vs H Q _ => ∃ (own : Addr → Prop) (L : Lay) (s : S), vs = [.ref L.p] ∧ Pub K P w own L s H ∧ Q (f s) H
theorem ok_clock (T : Txt w K mg) : FnOk P w K mg base CX0 1 (He.ma K (He.ga K "Publisher") "clock") (fd_Publisher_clock K) ["self"] (spGet K P w fun s => .int s.clock) := by
  refine T.f_Publisher_clock.ok sc_Publisher_clock (fun vs H Q E h => ?_) (fun cdv A outer s H vs Q E hr h => ?_)
  · obtain ⟨a, b, c, rfl, _⟩ := h
    rfl
  · obtain ⟨own, L, s0, rfl, ⟨op, sd, pg, fv, vv, X⟩, kk⟩ := h
    obtain ⟨dx, hp⟩ := X.pub
    refine ⟨_, PSs.nox ((pss_one (ps_ret (pe_fld (pv 0) rfl)))), ?_⟩
    exact ⟨_, rfl, L.p, _, dx, _, _, rfl, hp, T.cl_Publisher, T.na_Publisher__clock, zip_look (i := 1) (pks_nd) rfl rfl, kk⟩
theorem ok_count (T : Txt w K mg) : FnOk P w K mg base CX0 1 (He.ma K (He.ga K "Publisher") "count") (fd_Publisher_count K) ["self"] (spGet K P w fun s => .int s.count) := by
  refine T.f_Publisher_count.ok sc_Publisher_count (fun vs H Q E h => ?_) (fun cdv A outer s H vs Q E hr h => ?_)
  · obtain ⟨a, b, c, rfl, _⟩ := h
    rfl
  · obtain ⟨own, L, s0, rfl, ⟨op, sd, pg, fv, vv, X⟩, kk⟩ := h
    obtain ⟨dx, hp⟩ := X.pub
    refine ⟨_, PSs.nox ((pss_one (ps_ret (pe_fld (pv 0) rfl)))), ?_⟩
    exact ⟨_, rfl, L.p, _, dx, _, _, rfl, hp, T.cl_Publisher, T.na_Publisher__count, zip_look (i := 4) (pks_nd) rfl rfl, kk⟩
theorem ok_published (T : Txt w K mg) : FnOk P w K mg base CX0 1 (He.ma K (He.ga K "Publisher") "published") (fd_Publisher_published K) ["self"] (spGet K P w fun s => .int s.published) := by
  refine T.f_Publisher_published.ok sc_Publisher_published (fun vs H Q E h => ?_) (fun cdv A outer s H vs Q E hr h => ?_)
  · obtain ⟨a, b, c, rfl, _⟩ := h
    rfl
  · obtain ⟨own, L, s0, rfl, ⟨op, sd, pg, fv, vv, X⟩, kk⟩ := h
    obtain ⟨dx, hp⟩ := X.pub
    refine ⟨_, PSs.nox ((pss_one (ps_ret (pe_fld (pv 0) rfl)))), ?_⟩
    exact ⟨_, rfl, L.p, _, dx, _, _, rfl, hp, T.cl_Publisher, T.na_Publisher__published, zip_look (i := 12) (pks_nd) rfl rfl, kk⟩
theorem ok_made (T : Txt w K mg) : FnOk P w K mg base CX0 1 (He.ma K (He.ga K "Publisher") "attempts_made") (fd_Publisher_attempts_made K) ["self"] (spGet K P w fun s => .int s.made) := by
  refine T.f_Publisher_attempts_made.ok sc_Publisher_attempts_made (fun vs H Q E h => ?_) (fun cdv A outer s H vs Q E hr h => ?_)
  · obtain ⟨a, b, c, rfl, _⟩ := h
    rfl
  · obtain ⟨own, L, s0, rfl, ⟨op, sd, pg, fv, vv, X⟩, kk⟩ := h
    obtain ⟨dx, hp⟩ := X.pub
    refine ⟨_, PSs.nox ((pss_one (ps_ret (pe_fld (pv 0) rfl)))), ?_⟩
    exact ⟨_, rfl, L.p, _, dx, _, _, rfl, hp, T.cl_Publisher, T.na_Publisher__attempts_made, zip_look (i := 13) (pks_nd) rfl rfl, kk⟩
theorem ok_dirty (T : Txt w K mg) : FnOk P w K mg base CX0 1 (He.ma K (He.ga K "Publisher") "dirty_since") (fd_Publisher_dirty_since K) ["self"] (spGet K P w fun s => oi s.dirty) := by
  refine T.f_Publisher_dirty_since.ok sc_Publisher_dirty_since (fun vs H Q E h => ?_) (fun cdv A outer s H vs Q E hr h => ?_)
  · obtain ⟨a, b, c, rfl, _⟩ := h
    rfl
  · obtain ⟨own, L, s0, rfl, ⟨op, sd, pg, fv, vv, X⟩, kk⟩ := h
    obtain ⟨dx, hp⟩ := X.pub
    refine ⟨_, PSs.nox ((pss_one (ps_ret (pe_fld (pv 0) rfl)))), ?_⟩
    exact ⟨_, rfl, L.p, _, dx, _, _, rfl, hp, T.cl_Publisher, T.na_Publisher__dirty_since, zip_look (i := 10) (pks_nd) rfl rfl, kk⟩
theorem ok_version (T : Txt w K mg) : FnOk P w K mg base CX0 1 (He.ma K (He.ga K "Publisher") "version") (fd_Publisher_version K) ["self"] (fun vs H Q _ => ∃ (own : Addr → Prop) (L : Lay) (s : S), vs = [.ref L.p] ∧ Pub K P w own L s H ∧ ∀ v, Dt K H v (encV s.ver) → Q v H) := by
  refine T.f_Publisher_version.ok sc_Publisher_version (fun vs H Q E h => ?_) (fun cdv A outer s H vs Q E hr h => ?_)
  · obtain ⟨a, b, c, rfl, _⟩ := h
    rfl
  · obtain ⟨own, L, s0, rfl, ⟨op, sd, pg, fv, vv, X⟩, kk⟩ := h
    obtain ⟨dx, hp⟩ := X.pub
    refine ⟨_, PSs.nox ((pss_one (ps_ret (pe_fld (pv 0) rfl)))), ?_⟩
    exact ⟨_, rfl, L.p, _, dx, _, _, rfl, hp, T.cl_Publisher, T.na_Publisher__version, zip_look (i := 11) (pks_nd) rfl rfl, kk _ X.ver⟩
theorem ok_pages (T : Txt w K mg) : FnOk P w K mg base CX0 1 (He.ma K (He.ga K "Publisher") "pages") (fd_Publisher_pages K) ["self"] (fun vs H Q _ => ∃ (own : Addr → Prop) (L : Lay) (s : S), vs = [.ref L.p] ∧ Pub K P w own L s H ∧ ∀ a, SqU K H a (s.pages.map V.str) → Q (.ref a) H) := by
  refine T.f_Publisher_pages.ok sc_Publisher_pages (fun vs H Q E h => ?_) (fun cdv A outer s H vs Q E hr h => ?_)
  · obtain ⟨a, b, c, rfl, _⟩ := h
    rfl
  · obtain ⟨own, L, s0, rfl, ⟨op, sd, pg, fv, vv, X⟩, kk⟩ := h
    obtain ⟨dx, hp⟩ := X.pub
    refine ⟨_, PSs.nox ((pss_one (ps_ret (pe_fld (pv 0) rfl)))), ?_⟩
    exact ⟨_, rfl, L.p, _, dx, _, _, rfl, hp, T.cl_Publisher, T.na_Publisher__pages, zip_look (i := 3) (pks_nd) rfl rfl, kk _ X.pgs⟩
def S.stateN (s : S) : Str := if s.frz.isSome then "frozen" else if (aget s.tms .pause).isSome then "pausing" else if s.dirty.isSome then "rendering" else "idle"
theorem ok_state (T : Txt w K mg) : FnOk P w K mg base CX0 2 (He.ma K (He.ga K "Publisher") "state") (fd_Publisher_state K) ["self"] (spGet K P w fun s => .str s.stateN) := by
  have G_Timers_due := ok_timers_due (P := P) (base := base) T
  refine T.f_Publisher_state.ok sc_Publisher_state (fun vs H Q E h => ?_) (fun cdv A outer s H vs Q E hr h => ?_)
  · obtain ⟨a, b, c, rfl, _⟩ := h
    rfl
  · obtain ⟨own, L, s0, rfl, ⟨op, sd, pg, fv, vv, X⟩, kk⟩ := h
    obtain ⟨dx, hp⟩ := X.pub
    obtain ⟨dxt, hta⟩ := X.tmr
    refine ⟨_, PSs.nox ((pss_cons (ps_if (pt_cmpR op_notN (pe_fld (pv 0) rfl) pe_non (nomark _)) (pss_one (ps_ret pe_str)) pss_nil)
      (pss_cons (ps_if (pt_cmpR op_notN (pe_meth (pe_fld (pv 0) rfl) T.cl_Timers T.mt_Timers_due G_Timers_due (hr.mono (by omega)) T.b_Timers_due .nil pass0 (pa_cons (pe_gr T.g_PAUSE) pa_nil)) pe_non (nomark _)) (pss_one (ps_ret pe_str)) pss_nil)
      (pss_one (ps_ret (pe_ifExp (pt_cmpR op_isN (pe_fld (pv 0) rfl) pe_non (nomark _)) pe_str pe_str)))))), ?_⟩
    refine ⟨_, rfl, L.p, _, dx, _, _, rfl, hp, T.cl_Publisher, T.na_Publisher__frozen, zip_look (i := 9) (pks_nd) rfl rfl, rfl, _, rfl, ?_⟩
    rw [frz_some X.frz]
    replace kk : Q (.str s0.stateN) H := kk
    unfold S.stateN at kk
    cases h1 : s0.frz.isSome with
    | true =>
      rw [h1] at kk
      exact ifY rfl kk
    | false =>
      rw [h1] at kk
      refine ifN rfl ⟨_, rfl, L.p, _, dx, _, _, rfl, hp, T.cl_Publisher, T.na_Publisher__timers, zip_look (i := 7) (pks_nd) rfl rfl, L.ta, dxt, _, rfl, hta, zip_none (by decide +kernel), own, L.ta, L.td, _, s0.tms, .pause, rfl, ⟨X.tmr, X.att⟩, key_pause T, rfl, _, rfl, ?_⟩
      rw [oi_some]
      cases h2 : (aget s0.tms .pause).isSome with
      | true =>
        rw [h2] at kk
        exact ifY rfl kk
      | false =>
        rw [h2] at kk
        refine ifN rfl ⟨_, rfl, L.p, _, dx, _, _, rfl, hp, T.cl_Publisher, T.na_Publisher__dirty_since, zip_look (i := 10) (pks_nd) rfl rfl, rfl, _, rfl, ?_⟩
        cases h3 : s0.dirty with
        | none =>
          rw [h3] at kk
          exact ifY rfl kk
        | some d =>
          rw [h3] at kk
          exact ifN rfl kk
def S.nextDue (s : S) : Option Int := (tfirst s.tms).map (·.1)
theorem ok_next_due (T : Txt w K mg) : FnOk P w K mg base CX0 2 (He.ma K (He.ga K "Publisher") "next_due") (fd_Publisher_next_due K) ["self"] (fun vs H Q _ => ∃ (own : Addr → Prop) (L : Lay) (s : S), vs = [.ref L.p] ∧ Pub K P w own L s H ∧ Gd s ∧ ∀ H', Same H H' → Q (oi s.nextDue) H') := by
  have G_Timers_first := ok_timers_first (P := P) (base := base) T
  refine T.f_Publisher_next_due.ok sc_Publisher_next_due (fun vs H Q E h => ?_) (fun cdv A outer s H vs Q E hr h => ?_)
  · obtain ⟨a, b, c, rfl, _⟩ := h
    rfl
  · obtain ⟨own, L, s0, rfl, ⟨op, sd, pg, fv, vv, X⟩, hg, kk⟩ := h
    obtain ⟨dx, hp⟩ := X.pub
    obtain ⟨dxt, hta⟩ := X.tmr
    refine ⟨_, PSs.nox ((pss_cons (ps_set (i := 1) sc_Publisher_next_due.nd rfl (.inl rfl) (pe_meth0 (pe_fld (pv 0) rfl) T.cl_Timers T.mt_Timers_first G_Timers_first (hr.mono (by omega)) T.b_Timers_first .nil pass0))
      (pss_one (ps_ret (pe_ifExp (pt_cmpR op_isN (pv 1) pe_non (nomark _)) pe_non (pe_ix ix_tup (pv 1) pe_int (fun _ _ => rfl))))))), ?_⟩
    refine ⟨_, rfl, L.p, _, dx, _, _, rfl, hp, T.cl_Publisher, T.na_Publisher__timers, zip_look (i := 7) (pks_nd) rfl rfl, L.ta, dxt, _, rfl, hta, zip_none (by decide +kernel), own, L.ta, L.td, s0.tms, rfl, ⟨X.tmr, X.att⟩, Nat.le_trans hg.tlen (by decide), fun H1 v s1 hv => ?_⟩
    unfold S.nextDue at kk
    cases hf : tfirst s0.tms with
    | none =>
      rw [hf] at hv kk
      obtain rfl : v = .non := hv
      exact ⟨_, rfl, rfl, _, rfl, ifY rfl (kk H1 s1)⟩
    | some dk =>
      obtain ⟨d, k⟩ := dk
      rw [hf] at hv kk
      obtain ⟨fp, b, rfl, hfp, hk⟩ := hv
      exact ⟨_, rfl, rfl, _, rfl, ifN rfl ⟨_, rfl, _, _, _, _, rfl, rfl, hfp.sq, at0, kk H1 s1⟩⟩
end
end L2.TP
/-! Publisher's getters that make lists. -/
namespace L2.TP
open PySem PySem.Spec PyProof.Rows L2
section
variable {P : Program} {w : World} {K : PySem.W.Frag} {mg : Str → Option Value} {base : Heap} {H H' : Hp}
def srcRow (src : Src) (n : Str) : PyData := .tuple [.str n, .str ((aget src n).getD "")]
def S.srcD (s : S) : PyData := .tuple ((srt (s.src.map (·.1))).map (srcRow s.src))
theorem srt_mem {l : List Str} {n : Str} (h : n ∈ srt l) : n ∈ l := (srt_perm l).mem_iff.mp h
theorem key_get {α : Type} {l : List (Str × α)} {n : Str} (h : n ∈ srt (l.map (·.1))) : ∃ a, aget l n = some a := by
  have z := ahas_mem.mpr (srt_mem h)
  rw [ahas_get] at z
  exact Option.isSome_iff_exists.mp z
theorem ok_sources (T : Txt w K mg) : FnOk P w K mg base CX0 1 (He.ma K (He.ga K "Publisher") "sources") (fd_Publisher_sources K) ["self"] (fun vs H Q _ => ∃ (own : Addr → Prop) (L : Lay) (s : S), vs = [.ref L.p] ∧ Pub K P w own L s H ∧ Gd s ∧ ∀ H' v, Same H H' → Dt K H' v s.srcD → Q v H') := by
  refine T.f_Publisher_sources.ok sc_Publisher_sources (fun vs H Q E h => ?_) (fun cdv A outer s H vs Q E hr h => ?_)
  · obtain ⟨a, b, c, rfl, _⟩ := h
    rfl
  · obtain ⟨own, L, s0, rfl, ⟨op, sd, pg, fv, vv, X⟩, hg, kk⟩ := h
    have hu := hu_of hr
    obtain ⟨dx, hp⟩ := X.pub
    obtain ⟨_, kvs, hsd, hsr⟩ := X.src
    refine ⟨_, PSs.nox ((pss_one (ps_ret (pe_callTy call_tuple_of (by rfl) T.z_tuple (by decide +kernel) (pa_cons (pe_lc (own := [("name", 1)]) (g := gName 1) rfl sc_Publisher_sources.nd (pi_list (pe_callB (cr_sortD rfl) (by rfl) T.z_sorted (by decide +kernel) (pa_cons (pe_fld (pv 0) rfl) pa_nil))) (blkOk_by (own := [("name", 1)]) (N := ["self", "name"]) (sc := defScope s_Publisher_sources) (by decide +kernel)) (fun _ _ _ _ _ => (pg_name (i := 1) sc_Publisher_sources.nd rfl (.inl rfl))) (fun _ _ _ _ _ => pts_nil) (fun _ _ _ _ _ => (pe_tup (pa_cons (pv 1) (pa_cons (pe_dget hu (pe_fldK (K := K) rfl (pv 0) rfl) (pv 1) (fun _ _ => rfl)) pa_nil))))) pa_nil))))), ?_⟩
    refine ⟨_, rfl, L.p, _, dx, _, _, rfl, hp, T.cl_Publisher, T.na_Publisher__sources, zip_look (i := 2) (pks_nd) rfl rfl, sd, kvs, s0.src.map (·.1), rfl, .of hsd, hsr.keys, fun l hl => ?_⟩
    have s1 := same_new hl (o := .lst ((srt (s0.src.map (·.1))).map V.str))
    have hl1 := upd_same (H := H) (a := l) (o := .lst ((srt (s0.src.map (·.1))).map V.str))
    have hlen : (srt (s0.src.map (·.1))).length ≤ 8 := by
      rw [srt_len, List.length_map]
      exact hg.src.1.len
    generalize upd H l (.lst ((srt (s0.src.map (·.1))).map V.str)) = H1 at *
    refine ⟨l, rfl, ⟨_, sqL_of hl1⟩, fun D hD => lc_data (K := K) (srt (s0.src.map (·.1))) (srcRow s0.src) (by omega) hD (fun i m H2 hi s2 => ?_) fun H2 acc s2 hd2 hacc => ?_⟩
    · have hxi : ((srt (s0.src.map (·.1))).map V.str)[i]? = some (.str m) := by rw [List.getElem?_map, hi] <;> rfl
      have hq := sqL_of (K := K) (s2 _ _ hl1)
      refine ⟨itl_go hq hxi, fun x H3 hy Kt kt => ?_⟩
      obtain ⟨rfl, rfl⟩ := itl_yld hq hxi hy
      obtain ⟨t, ht⟩ := key_get (List.mem_of_getElem? hi)
      obtain ⟨_, zz⟩ := hsr.get m
      obtain ⟨v, hv, rfl⟩ := zz t ht
      have s12 := s1.trans s2
      have hp3 := s12 _ _ hp
      have hsd3 := s12 _ _ hsd
      refine ⟨rfl, _, rfl, _, rfl, L.p, _, dx, _, _, rfl, hp3, T.cl_Publisher, T.na_Publisher__sources, zip_look (i := 2) (pks_nd) rfl rfl, _, rfl, sd, _, rfl, .inl ⟨kvs, .inr m, .of hsd3, rfl, hv.symm⟩, le2, fun q hq => kt _ _ (same_new hq) ?_⟩
      unfold srcRow
      rw [ht]
      exact .tup upd_same (.cons .str (.cons .str .nil))
    · refine ⟨itl_stop (sqL_of (s2 _ _ hl1)) (by rw [List.length_map]; exact Nat.le_refl _), D, acc, rfl, .inl ⟨sqL_of hd2, fun q hq => ?_⟩⟩
      exact kk _ _ ((s1.trans s2).trans (same_new hq)) (.tup upd_same (hacc.keep (Same.tk (same_new hq))))
def encI : Option Int → PyData
  | none => .none
  | some i => .int i
theorem oi_dt {o : Option Int} : Dt K H (oi o) (encI o) := by
  cases o with
  | none => exact .non
  | some i => exact .int
def rowDue (t : Tms) (n : Str) : Option Int := (aget t (.att n)).or (aget t (.del n))
def jobRow (s : S) (n : Str) : PyData := match aget s.jobs n with
  | some j => .tuple [.str n, .str j.state.enc, .int j.attempt, encI (rowDue s.tms n)]
  | none => .none
theorem ok_job_row (T : Txt w K mg) : FnOk P w K mg base CX0 2 (He.ma K (He.ga K "Publisher") "_job_row") (fd_Publisher__job_row K) ["self", "name"] (fun vs H Q _ => ∃ (own : Addr → Prop) (L : Lay) (s : S) (n : Str), vs = [.ref L.p, .str n] ∧ Pub K P w own L s H ∧ (∃ j, aget s.jobs n = some j) ∧ ∀ H' v, Same H H' → Dt K H' v (jobRow s n) → Q v H') := by
  have G_Timers_due := ok_timers_due (P := P) (base := base) T
  refine T.f_Publisher__job_row.ok sc_Publisher__job_row (fun vs H Q E h => ?_) (fun cdv A outer s H vs Q E hr h => ?_)
  · obtain ⟨a, b, c, d, rfl, _⟩ := h
    rfl
  · obtain ⟨own, L, s0, n, rfl, ⟨op, sd, pg, fv, vv, X⟩, ⟨j, hj⟩, kk⟩ := h
    have hu := hu_of hr
    obtain ⟨dx, hp⟩ := X.pub
    obtain ⟨hjo, kvs, hjd, hjr, hjn⟩ := X.atj
    obtain ⟨_, zz⟩ := hjr.get n
    obtain ⟨v, hv, ja, fl, rfl, hjao, ⟨dxj, hja⟩, hfl⟩ := zz j hj
    obtain ⟨dxt, hta⟩ := X.tmr
    refine ⟨_, PSs.nox ((pss_cons (ps_set (i := 2) sc_Publisher__job_row.nd rfl (.inl rfl) (pe_dget hu (pe_fld (pv 0) rfl) (pv 1) (fun _ _ => rfl)))
      (pss_cons (ps_set (i := 3) sc_Publisher__job_row.nd rfl (.inl rfl) (pe_meth (pe_fld (pv 0) rfl) T.cl_Timers T.mt_Timers_due G_Timers_due (hr.mono (by omega)) T.b_Timers_due .nil pass0 (pa_cons (pe_tup (pa_cons pe_str (pa_cons (pv 1) pa_nil))) pa_nil)))
      (C8.pss_cut (ps_if (pt_cmpR op_isN (pv 3) pe_non (nomark _)) (pss_one (ps_set (i := 3) sc_Publisher__job_row.nd rfl (.inl rfl) (pe_meth (pe_fld (pv 0) rfl) T.cl_Timers T.mt_Timers_due G_Timers_due (hr.mono (by omega)) T.b_Timers_due .nil pass0 (pa_cons (pe_tup (pa_cons pe_str (pa_cons (pv 1) pa_nil))) pa_nil)))) pss_nil)
      (pss_one (ps_ret (pe_tup (pa_cons (pv 1) (pa_cons (pe_fld (pv 2) rfl) (pa_cons (pe_fld (pv 2) rfl) (pa_cons (pv 3) pa_nil))))))))))), ?_⟩
    refine ⟨_, rfl, L.p, _, dx, _, _, rfl, hp, T.cl_Publisher, T.na_Publisher__jobs, zip_look (i := 8) (pks_nd) rfl rfl, _, rfl, L.jd, _, rfl, .inl ⟨kvs, .inr n, .of hjd, rfl, hv.symm⟩, ?_⟩
    refine ⟨_, rfl, L.p, _, dx, _, _, rfl, hp, T.cl_Publisher, T.na_Publisher__timers, zip_look (i := 7) (pks_nd) rfl rfl, L.ta, dxt, _, rfl, hta, zip_none (by decide +kernel), _, rfl, le2, fun q1 hq1 => ?_⟩
    have s1 := same_new hq1 (o := .tup [.str "attempt", .str n])
    have X1 := X.same s1
    refine ⟨own, L.ta, L.td, q1, s0.tms, .att n, rfl, ⟨X1.tmr, X1.att⟩, key_att upd_same, ?_⟩
    refine ⟨fun σ' H2 => Same H H2 ∧ σ' = [some (.ref L.p), some (.str n), some (.ref ja), some (oi (rowDue s0.tms n))], ?_, ?_⟩
    · refine ⟨_, rfl, rfl, _, rfl, ?_⟩
      unfold rowDue
      cases h1 : aget s0.tms (.att n) with
      | some d => exact ifN rfl ⟨s1, rfl⟩
      | none =>
        have hp1 := s1 _ _ hp
        obtain ⟨dxt1, hta1⟩ := X1.tmr
        refine ifY rfl ⟨_, rfl, L.p, _, dx, _, _, rfl, hp1, T.cl_Publisher, T.na_Publisher__timers, zip_look (i := 7) (pks_nd) rfl rfl, L.ta, dxt1, _, rfl, hta1, zip_none (by decide +kernel), _, rfl, le2, fun q2 hq2 => ?_⟩
        have s2 := same_new hq2 (o := .tup [.str "delay", .str n])
        have X2 := X1.same s2
        exact ⟨own, L.ta, L.td, q2, s0.tms, .del n, rfl, ⟨X2.tmr, X2.att⟩, key_del upd_same, s1.trans s2, rfl⟩
    · rintro σ' H2 ⟨s2, rfl⟩
      have hja2 := s2 _ _ hja
      refine ⟨_, rfl, _, rfl, ja, _, dxj, _, _, rfl, hja2, T.cl_Job, T.na_Job_state, zip_look (i := 3) (jks_nd) rfl rfl, _, rfl, ja, _, dxj, _, _, rfl, hja2, T.cl_Job, T.na_Job_attempt, zip_look (i := 2) (jks_nd) rfl rfl, _, rfl, le4, fun q hq => ?_⟩
      refine kk _ _ (s2.trans (same_new hq)) ?_
      unfold jobRow
      rw [hj]
      exact .tup upd_same (.cons .str (.cons .str (.cons .int (.cons oi_dt .nil))))
def S.jobsD (s : S) : List PyData := (srt (s.jobs.map (·.1))).map (jobRow s)
theorem ok_jobs (T : Txt w K mg) : FnOk P w K mg base CX0 3 (He.ma K (He.ga K "Publisher") "jobs") (fd_Publisher_jobs K) ["self"] (fun vs H Q _ => ∃ (own : Addr → Prop) (L : Lay) (s : S), vs = [.ref L.p] ∧ Pub K P w own L s H ∧ Gd s ∧ ∀ H' l us, Same H H' → H' l = some (.lst us) → DtAll K H' us s.jobsD → Q (.ref l) H') := by
  have G_Publisher__job_row := ok_job_row (P := P) (base := base) T
  refine T.f_Publisher_jobs.ok sc_Publisher_jobs (fun vs H Q E h => ?_) (fun cdv A outer s H vs Q E hr h => ?_)
  · obtain ⟨a, b, c, rfl, _⟩ := h
    rfl
  · obtain ⟨own, L, s0, rfl, PA, hg, kk⟩ := h
    have hu := hu_of hr
    obtain ⟨op, sd, pg, fv, vv, X⟩ := id PA
    obtain ⟨dx, hp⟩ := X.pub
    obtain ⟨hjo, kvs, hjd, hjr, hjn⟩ := X.atj
    refine ⟨_, PSs.nox ((pss_one (ps_ret (pe_lc (own := [("name", 1)]) (g := gName 1) rfl sc_Publisher_jobs.nd (pi_list (pe_callB (cr_sortD rfl) (by rfl) T.z_sorted (by decide +kernel) (pa_cons (pe_fld (pv 0) rfl) pa_nil))) (blkOk_by (own := [("name", 1)]) (N := ["self", "name"]) (sc := defScope s_Publisher_jobs) (by decide +kernel)) (fun _ _ _ _ _ => (pg_name (i := 1) sc_Publisher_jobs.nd rfl (.inl rfl))) (fun _ _ _ _ _ => pts_nil) (fun _ _ _ _ _ => (pe_meth (pv 0) T.cl_Publisher T.mt_Publisher__job_row G_Publisher__job_row (hr.mono (by omega)) T.b_Publisher__job_row .nil pass0 (pa_cons (pv 1) pa_nil))))))), ?_⟩
    refine ⟨_, rfl, L.p, _, dx, _, _, rfl, hp, T.cl_Publisher, T.na_Publisher__jobs, zip_look (i := 8) (pks_nd) rfl rfl, L.jd, kvs, s0.jobs.map (·.1), rfl, .of hjd, hjr.keys, fun l hl => ?_⟩
    have s1 := same_new hl (o := .lst ((srt (s0.jobs.map (·.1))).map V.str))
    have hl1 := upd_same (H := H) (a := l) (o := .lst ((srt (s0.jobs.map (·.1))).map V.str))
    have hlen : (srt (s0.jobs.map (·.1))).length ≤ 8 := by
      rw [srt_len, List.length_map]
      exact hg.jks.len
    generalize upd H l (.lst ((srt (s0.jobs.map (·.1))).map V.str)) = H1 at *
    refine ⟨l, rfl, ⟨_, sqL_of hl1⟩, fun D hD => lc_data (K := K) (srt (s0.jobs.map (·.1))) (jobRow s0) (by omega) hD (fun i m H2 hi s2 => ?_) fun H2 acc s2 hd2 hacc => ?_⟩
    · have hxi : ((srt (s0.jobs.map (·.1))).map V.str)[i]? = some (.str m) := by rw [List.getElem?_map, hi] <;> rfl
      have hq := sqL_of (K := K) (s2 _ _ hl1)
      refine ⟨itl_go hq hxi, fun x H3 hy Kt kt => ?_⟩
      obtain ⟨rfl, rfl⟩ := itl_yld hq hxi hy
      have s12 := s1.trans s2
      exact ⟨rfl, _, rfl, L.p, dx, _, rfl, s12 _ _ hp, zip_none (by decide +kernel), _, rfl, own, L, s0, m, rfl, PA.same s12, key_get (List.mem_of_getElem? hi), fun H4 v s4 hv => kt _ _ s4 hv⟩
    · exact ⟨itl_stop (sqL_of (s2 _ _ hl1)) (by rw [List.length_map]; exact Nat.le_refl _), kk _ D acc (s1.trans s2) hd2 hacc⟩
theorem ok_req (T : Txt w K mg) : FnOk P w K mg base CX0 8 (He.ma K (He.ga K "Publisher") "required") (fd_Publisher_required K) ["self"] (fun vs H Q _ => ∃ (own : Addr → Prop) (L : Lay) (s : S), vs = [.ref L.p] ∧ Pub K P w own L s H ∧ Gd s ∧ ∀ H' l, Same H H' → H' l = some (.lst (s.snap.required.map V.str)) → Q (.ref l) H') := by
  have G_Publisher__snapshot := ok_snapshot (P := P) (base := base) T
  have G_Snapshot_required := ok_required (P := P) (base := base) T
  refine T.f_Publisher_required.ok sc_Publisher_required (fun vs H Q E h => ?_) (fun cdv A outer s H vs Q E hr h => ?_)
  · obtain ⟨a, b, c, rfl, _⟩ := h
    rfl
  · obtain ⟨own, L, s0, rfl, PA, hg, kk⟩ := h
    have hu := hu_of hr
    obtain ⟨op, sd, pg, fv, vv, X⟩ := id PA
    obtain ⟨dx, hp⟩ := X.pub
    refine ⟨_, PSs.nox ((pss_one (ps_ret (pe_meth0 (pe_meth0 (pv 0) T.cl_Publisher T.mt_Publisher__snapshot G_Publisher__snapshot (hr.mono (by omega)) T.b_Publisher__snapshot .nil pass0) T.cl_Snapshot T.mt_Snapshot_required G_Snapshot_required (hr.mono (by omega)) T.b_Snapshot_required .nil pass0)))), ?_⟩
    refine ⟨_, rfl, L.p, dx, _, rfl, hp, zip_none (by decide +kernel), own, L, s0, rfl, PA, hg, fun H1 sa s1 SA => ?_⟩
    obtain ⟨_, _, _, _, XS⟩ := id SA
    obtain ⟨dxs, hsa⟩ := XS.ins
    obtain ⟨z1, z2⟩ := hg.snap.small hg
    exact ⟨sa, dxs, _, rfl, hsa, zip_none (by decide +kernel), _, sa, _, rfl, SA, hg.snap.ok, by omega, by omega, fun H2 l s2 hln hl => kk H2 l (s1.trans s2) hl⟩
end
end L2.TP
/-! len(set(xs)) of distinct texts. -/
namespace L2.TP
open PySem PySem.Spec PyProof.Rows L2
abbrev nS (led : Bool) : Obj := { cls := .type "set", dict := none, data := .set #[] 0 (.fresh 0 0 led) }
section
variable {P : Program} {w : World} {A : Around}
/-- the texts that have come in -/
def inT (xs : List Str) (i : Nat) (k : Str) : Bool := (xs.take i).any (· == k)
theorem inT_next {xs : List Str} {i : Nat} {x k : Str} (h : xs[i]? = some x) : (inT xs i k || decide (k = x)) = inT xs (i + 1) k := by
  unfold inT
  rw [take_next h, List.any_append]
  congr 1
  by_cases e : k = x
  · simp [e]
  · have e2 : (x == k) = false := beq_eq_false_iff_ne.mpr fun z => e z.symm
    simp [e, e2]
theorem inT_new {xs : List Str} (nd : xs.Nodup) {i : Nat} {x : Str} (h : xs[i]? = some x) : inT xs i x = false := by
  unfold inT
  rw [List.any_eq_false]
  intro y hy
  have e : xs = xs.take i ++ x :: xs.drop (i + 1) := by
    have := List.take_append_drop i xs
    rw [List.drop_eq_getElem?_toList_append, h] at this
    exact this.symm
  rw [e] at nd
  obtain ⟨_, _, n3⟩ := List.nodup_append.mp nd
  have z := n3 y hy x List.mem_cons_self
  simpa using z
theorem add_texts {R : Result → Shared → Prop} {I : Addr} {fp wr : List Addr} {G : Array GenState → Array GenState → Prop} {n : Nat} {Pv : Nat → Value → Prop} {St : Nat → Shared → Prop} (W : WalksS P w A.in1 I fp wr G n Pv St) (S : Addr) (hSf : S ∉ fp) (xs : List Str) (nd : xs.Nodup)
    (hn : n = xs.length) (hb : xs.length ≤ 1000) (hval : ∀ i v, Pv i v → ∃ x t, xs[i]? = some x ∧ v = .str x t) :
    ∀ (k i : Nat) (s : Shared), n - i = k → i ≤ n → St i s → s.heap.SetOf (strKind P w) S (inT xs i) i →
      (∀ s', Moved (S :: wr) G s s' → s'.heap.SetOf (strKind P w) S (inT xs n) n → R (.ok (.ret .none)) s') →
      codeAny (model P w) A (.builtin "set.update.loop" ⟨[.ref S, .ref I], []⟩) R s := by
  have out : S ∉ wr := fun h => hSf (W.sub _ h)
  have more : ∀ b ∈ wr, b ∈ S :: wr := fun b q => List.mem_cons_of_mem _ q
  have stay : ∀ {s s' : Shared} {i c}, Moved wr G s s' → s.heap.SetOf (strKind P w) S (inT xs i) c → s'.heap.SetOf (strKind P w) S (inT xs i) c := fun m ⟨o, es, ep, t, ho, r⟩ => ⟨o, es, ep, t, m.heap S _ out ho, r⟩
  intro k
  induction k with
  | zero =>
    intro i s hk hi hst hS goal
    obtain rfl : i = n := by omega
    refine codeAny_builtin F.entry_set_update_loop ?_
    rw [Around.under_plainId F.plain_set_update_loop _]
    show wpAny _ A.in1 (pyNext (.ref I) >>= _) _ _ s
    exact wpAny_bind (W.done s _ _ hst fun s' m => wpAny_pure (goal s' (m.mono more) (stay m hS)))
  | succ k ih =>
    intro i s hk hi hst hS goal
    have lt : i < n := by omega
    refine codeAny_builtin F.entry_set_update_loop ?_
    rw [Around.under_plainId F.plain_set_update_loop _]
    show wpAny _ A.in1 (pyNext (.ref I) >>= _) _ _ s
    refine wpAny_bind (W.item i s _ _ lt hst fun v s' hv hst2 m => ?_)
    obtain ⟨x, t, hx, rfl⟩ := hval i v hv
    have hS2 : s'.heap.SetOf (strKind P w) S (inT xs i) i := stay m hS
    show wpAny _ A.in1 (holding [Value.str x t] (setAdd S (.str x t)) >>= _) _ _ s'
    refine wpAny_bind (wpAny_holding ?_)
    unfold setAdd
    refine wpAny_holding (wpAny_bind ((strKind P w).pyHash (k := x) (strKind_is _ _ _ _) ?_))
    refine wpAny_setAddHashed_of (knd := strKind P w) (s := { s' with toks := s'.toks + 1 }) (strKind_is _ _ _ _) rfl hS2 (by unfold scanBound; omega) fun h2 sb S2 => ?_
    have S3 : h2.SetOf (strKind P w) S (inT xs (i + 1)) (i + 1) := SetOf_congr S2 (fun k => inT_next hx) (by rw [inT_new nd hx] <;> rfl)
    refine wpAny_pure ⟨plainId_quiet F.plain_set_update_loop _, ih (i + 1) _ (by omega) lt (W.frame _ s' _ _ hst2 (Nat.le_succ _) fun b q o e => ?_) S3 fun s3 m3 hS3 => ?_⟩
    · rw [sb.2 b fun z : b = S => hSf (z ▸ q)]
      exact e
    · refine goal s3 (Moved.trans W.gtrans ((m.mono more).then_heap (Nat.le_succ _) fun b o q e => ?_) m3) hS3
      rw [sb.2 b fun z : b = S => q (z ▸ List.mem_cons_self)]
      exact e
end
section
variable {P : Program} {w : World} {A : Around} {E : Value → Shared → Prop} {s : Shared}
set_option maxHeartbeats 8000000 in
theorem set_of_texts {l : Addr} {items : Array Value} {xs : List Str} {Q : Value → Shared → Prop} (hh : A.handled = none) (hl : s.heap.IsTuple l items) (hi : StrsAre items.toList xs) (nd : xs.Nodup) (hb : xs.length ≤ 1000)
    (goal : ∀ (h2 : Heap) (tk : Nat), h2.SetOf (strKind P w) s.heap.objs.size (inT xs xs.length) xs.length → (∀ b o, b < s.heap.objs.size → s.heap.get? b = some o → h2.get? b = some o) → Q (.ref s.heap.objs.size) { s with heap := h2, toks := tk }) :
    wpAny (model P w) A (call (.type "set") [.ref l]) Q E s := by
  obtain ⟨c, tl, hmro⟩ := PySem.F.called_set.mro
  have hmade := PySem.F.called_set.made
  have hsub := PySem.F.called_set.sub
  refine wpAny_call (codeAny_of_tree ?_)
  show wpAny _ _ (callAny (.type "set") _) _ _ _
  refine wpAny_pure ⟨Code.quiet_builtin _ (by decide +kernel), codeAny_builtin PySem.F.entry_type_call ?_⟩
  rw [Around.under_plain (weight_type_call_type "set" [.ref l] []) rfl]
  have h1 := PySem.F.called_set.notType
  have h2 := PySem.F.called_set.canCreate
  have hct := PySem.F.typeCall_set_1 (.ref l)
  repeat (any_goals (first | assumption | wp_step))
  refine codeAny_mono (code_set_new_1 (.ref l) (E := E) (Q₁ := fun obj s1 => ∃ led, obj = .ref s.heap.objs.size ∧ s1 = { s with heap := s.heap.push (nS led) }) fun led => ⟨led, rfl, rfl⟩) fun r s1 hr => ?_
  cases r with
  | error e => exact hr
  | ok fl =>
    cases fl with
    | ret obj =>
      obtain ⟨led, rfl, rfl⟩ := hr
      have hS : (s.heap.push (nS led)).get? s.heap.objs.size = some (nS led) := Heap.get?_push_size _ rfl
      have hT : Shared.TypeIs { s with heap := s.heap.push (nS led) } (.ref s.heap.objs.size) "set" := ⟨_, hS, rfl⟩
      have hli := PySem.F.called_set.init.lookup
      have hbi := PySem.F.called_set.init.bind (.ref s.heap.objs.size)
      repeat (any_goals (first | assumption | wp_step))
      refine codeAny_mono (codeAny_call_builtin (R := wants (fun r s2 => r = .none ∧ ∃ h2 tk, s2 = { s with heap := h2, toks := tk } ∧ h2.SetOf (strKind P w) s.heap.objs.size (inT xs xs.length) xs.length ∧ ∀ b o, b < s.heap.objs.size → s.heap.get? b = some o → h2.get? b = some o) E)
        PySem.F.called_set.init.plain PySem.F.entry_set_init (check_set_init_1 hT ?_)) fun r2 s2 hr2 => ?_
      · obtain ⟨ol, hol, hcl, nl, hdl⟩ := hl
        obtain ⟨ocls, odict, odata, oslots⟩ := ol
        simp only at hcl hdl
        subst hcl; subst hdl
        have hol2 : (s.heap.push (nS led)).get? l = some { cls := .type "tuple", dict := odict, data := .seq items nl, slots := oslots } := Heap.get?_push_of_some _ hol
        have hsls := PySem.F.sub_tuple_set
        have hslf := PySem.F.sub_tuple_frozenset
        have hne : (Value.type "tuple" == Value.type "dict") = false := by decide
        have hl1 : (s.heap.push (nS led)).IsTuple l items := ⟨_, hol2, rfl, nl, rfl⟩
        unfold Builtin.«set.__init__» noKeywords Builtin.Frozenset.updateFrom
        generalize hPI : pyIter = PI
        wp_walk
        subst hPI
        refine wpAny_pyIter_tuple hl1 (wpAny_bind (wpAny_runValue ?_))
        have lls : l < s.heap.objs.size := Heap.lt_size hol
        have hh3 : A.in1.in1.in1.handled = none := by simp [hh]
        have neI : l ≠ (s.heap.push (nS led)).objs.size := by
          rw [Heap.size_push]
          exact Nat.ne_of_lt (Nat.lt_succ_of_lt lls)
        have free : s.heap.objs.size ∉ [(s.heap.push (nS led)).objs.size, l] := by
          rw [Heap.size_push]
          simp only [List.mem_cons, List.not_mem_nil, or_false, not_or]
          exact ⟨Nat.ne_of_lt (Nat.lt_succ_self _), Nat.ne_of_gt lls⟩
        have isz : items.size = xs.length := by rw [← Array.length_toList, StrsAre.len_eq hi]
        have hval : ∀ (i : Nat) (v : Value), items[i]? = some v → ∃ x t, xs[i]? = some x ∧ v = .str x t := fun i v hv => by
          have lt : i < xs.length := by
            rw [← isz]
            exact (Array.getElem?_eq_some_iff.mp hv).1
          obtain ⟨t, e⟩ := SS.strs_at hi i v (by rw [Array.getElem?_toList]; exact hv)
          refine ⟨xs[i], t, List.getElem?_eq_getElem lt, ?_⟩
          rw [e, List.getD_eq_getElem?_getD, List.getElem?_eq_getElem lt] <;> rfl
        refine add_texts ((Walks.tuple hh3 _ l neI items).toS) s.heap.objs.size free xs nd isz hb hval (items.size - 0) 0 _ (by omega) (Nat.zero_le _) ⟨⟨_, Heap.get?_push_size _ rfl, rfl, rfl⟩, (hl1.push _)⟩ ?start ?fin
        case start =>
          have at_ : ((s.heap.push (nS led)).push { cls := .type "tuple_iterator", data := .fields #[.ref l, .int 0 0] }).get? s.heap.objs.size = some (nS led) := Heap.get?_push_of_some _ hS
          exact SetOf_congr ((setObjOf_fresh (knd := strKind P w) led).setOf at_ (by unfold scanBound; omega)) (fun _ => rfl) rfl
        case fin =>
          intro s3 m S3
          rw [isz] at S3
          obtain ⟨h3, g3, d3, t3, o3⟩ := s3
          obtain rfl : g3 = s.gens := m.gens
          obtain rfl : d3 = s.drawn := m.drawn
          obtain rfl : o3 = s.os := m.os
          show wpAny _ _ _ _ _ _
          refine wpAny_pure ?_
          show wpAny _ _ (ret Value.none) _ _ _
          refine wpAny_pure ⟨rfl, h3, t3, rfl, S3, fun b o lb e => ?_⟩
          have ne2 : b ≠ (s.heap.push (nS led)).objs.size := by
            rw [Heap.size_push]
            exact Nat.ne_of_lt (Nat.lt_succ_of_lt lb)
          refine m.heap b o ?_ (Heap.get?_push_of_some _ (Heap.get?_push_of_some _ e))
          simp only [List.mem_cons, List.not_mem_nil, or_false, not_or]
          exact ⟨Nat.ne_of_lt lb, ne2⟩
      · cases r2 with
        | error e => exact hr2
        | ok fl2 =>
          cases fl2 with
          | ret r =>
            obtain ⟨rfl, h3, tk, rfl, S3, keep⟩ := hr2
            repeat (any_goals (first | assumption | wp_step))
            exact goal _ _ S3 keep
          | _ => exact hr2.elim
    | _ => exact hr.elim
end
section
variable {X : Cx}
def tLenSetS (K : PySem.W.Frag) (ta : TE) : TE := fun σ H Q => ta σ H fun x H1 => ∃ (l : Addr) (xs : List Str), x = .ref l ∧ SqT K H1 l (xs.map V.str) ∧ xs.length ≤ 1000 ∧ xs.Nodup ∧ Q (.int xs.length) H1
theorem pe_lenSetS {a : Expr} {ta : TE} {p p2 q pos : Pos} (hc : X.calm = true) (hg : Gl X "len") (hm : X.mg "len" = none) (hg2 : Gl X "set") (hm2 : X.mg "set" = none) (ha : PE X a ta) (na : starEach [a] X.env = (false, eval a X.env) :: starEach [] X.env := by rfl) :
    PE X (.Call (.Name "len" p) [.Call (.Name "set" p2) [a] [] q] [] pos) (tLenSetS X.K ta) := by
  refine ⟨fun pins s σ H Q I h => Call_ (ld_blt I hg hm boot_len (callWith_builtin1 (args_cons ?_ rfl) rfl rfl))⟩
  refine Call_ (ld_blt I hg2 hm2 boot_set (callWith_type1 (args_cons (thn (ha.run pins s σ H _ I h) fun v s1 ⟨x, H1, I1, r1, l, xs, ex, hq, hb, nd, q1⟩ => args_nil ?_) na) na rfl))
  subst ex
  cases r1
  obtain ⟨its, r, pl, hz⟩ := I1.tuple hq
  refine set_of_texts (I1.ok.hd hc) pl (by simpa using strsAre_of r) nd hb fun h2 tk hS hk => args_nil ?_
  obtain ⟨o, es, ep, t, ho, hex, hd, _, _, _, hf, hn⟩ := hS
  have I2 : Inv X pins σ H1 { s1 with heap := h2, toks := tk } := I1.kept fun b o e => hk b o (Heap.lt_size e) e
  exact call_len_set ho hex hd hf (by rw [hn] <;> omega) ⟨.int xs.length, H1, I2.tok _, ⟨_, by rw [hn]⟩, q1⟩
end
end L2.TP
/-! Edits: check_edit, apply_edit. -/
namespace L2.TP
open PySem PySem.Spec PyProof.Rows L2
section
variable {P : Program} {w : World} {K : PySem.W.Frag} {mg : Str → Option Value} {base : Heap} {H H' : Hp}
def spArePages (K : PySem.W.Frag) : Sp := fun vs H Q _ => ∃ (p : Addr) (ps : List Str), vs = [.ref p] ∧ SqU K H p (ps.map V.str) ∧ PgG ps ∧ ps.length ≤ 6 ∧ ∀ H', Same H H' → Q (.bl true) H'
theorem ok_are_pages (T : Txt w K mg) : FnOk P w K mg base CX0 2 (He.ga K "are_pages") (fd_are_pages K) ["names"] (spArePages K) := by
  have G_is_name := ok_is_name (P := P) (base := base) T
  refine T.f_are_pages.ok sc_are_pages (fun vs H Q E h => ?_) (fun cdv A outer s H vs Q E hr h => ?_)
  · obtain ⟨a, b, rfl, _⟩ := h
    rfl
  · obtain ⟨p, ps, rfl, hp, hg, hl, kk⟩ := h
    have hu := hu_of hr
    refine ⟨_, PSs.nox ((pss_one (ps_ret (pe_and (pe_cmpR op_le (pe_callB call_len_seq (by rfl) T.z_len PySem.boot_len (pa_cons (pv 0) pa_nil)) (pe_gi T.i_PAGES_MOST) (nomark _)) (pe_and (pe_cmpR op_eq (pe_lenSetS rfl (by rfl) T.z_len (by rfl) T.z_set (pv 0)) (pe_callB call_len_seq (by rfl) T.z_len PySem.boot_len (pa_cons (pv 0) pa_nil)) (nomark _)) (pe_one (pe_callB (cr_all rfl) (by rfl) T.z_all (by decide +kernel) (pa_cons (pe_lc (own := [("name", 1)]) (g := gName 1) rfl sc_are_pages.nd (pi_tup (pv 0)) (blkOk_by (own := [("name", 1)]) (N := ["names", "name"]) (sc := defScope s_are_pages) (by decide +kernel)) (fun _ _ _ _ _ => (pg_name (i := 1) sc_are_pages.nd rfl (.inl rfl))) (fun _ _ _ _ _ => pts_nil) (fun _ _ _ _ _ => (pe_call G_is_name (hr.mono (by omega)) (by rfl) T.g_is_name T.f_is_name.kp T.b_is_name .nil pass0 (pa_cons (pv 1) pa_nil)))) pa_nil)))))))), ?_⟩
    have hlen : (ps.map V.str).length = ps.length := List.length_map ..
    refine ⟨_, rfl, p, _, rfl, .inr hp.sq, _, _, rfl, rfl, _, rfl, ifY (dT (by rw [hlen]; omega)) ?_⟩
    refine ⟨_, rfl, p, ps, rfl, hp.sq, by omega, hg.1, _, rfl, p, _, rfl, .inr hp.sq, rfl, _, rfl, ifY (dT (by rw [hlen])) ?_⟩
    refine ⟨_, rfl, p, rfl, ⟨_, hp.sq⟩, fun D hD => lc_map ps (fun n => V.bl (isName n)) (by omega) hD (fun i n H2 hi s2 => ?_) fun H2 s2 hd2 => ?_⟩
    · have hq := (hp.keep (Same.tk s2)).sq
      have hxi : (ps.map V.str)[i]? = some (.str n) := by rw [List.getElem?_map, hi] <;> rfl
      refine ⟨itt_go hq hxi, fun x H3 hy Kt kt => ?_⟩
      obtain ⟨rfl, rfl⟩ := itt_yld hq hxi hy
      have hn6 : n.length ≤ 100000 := by
        have z := ln_name n (hg.2 n (List.mem_of_getElem? hi))
        unfold isName at z
        have z2 := of_decide_eq_true (Bool.and_eq_true_iff.mp (Bool.and_eq_true_iff.mp z).1).2
        omega
      exact ⟨rfl, _, rfl, n, rfl, hn6, fun H4 s4 => kt _ s4⟩
    · refine ⟨itt_stop (hp.keep (Same.tk s2)).sq (by omega), D, ps.map isName, rfl, .inl (.inl (hd2.trans (by rw [List.map_map] <;> rfl))), ?_⟩
      have e : (ps.map isName).all id = true := by
        rw [List.all_map]
        exact List.all_eq_true.mpr fun n hn => ln_name n (hg.2 n hn)
      rw [e]
      exact kk _ s2
inductive Ed where
  | set (n t : Str)
  | rem (n : Str)
  | pgs (ps : List Str)
def Ed.Ok : Ed → Prop
  | .set n t => n ∈ LN ∧ isText t = true ∧ SOk t
  | .rem n => n ∈ LN
  | .pgs ps => PgG ps ∧ ps.length ≤ 6
def EdAt (K : PySem.W.Frag) (H : Hp) (e : Addr) : Ed → Prop
  | .set n t => SqU K H e [.str "set", .str n, .str t]
  | .rem n => SqU K H e [.str "remove", .str n]
  | .pgs ps => ∃ p, SqU K H e [.str "pages", .ref p] ∧ SqU K H p (ps.map V.str)
theorem EdAt.keep {e : Addr} : ∀ {x : Ed}, EdAt K H e x → TK' H H' → EdAt K H' e x
  | .set _ _, h, tk => SqU.keep h tk
  | .rem _, h, tk => SqU.keep h tk
  | .pgs _, ⟨p, h1, h2⟩, tk => ⟨p, h1.keep tk, h2.keep tk⟩
theorem text_len {t : Str} (h : isText t = true) : t.length ≤ 60 := of_decide_eq_true (Bool.and_eq_true_iff.mp h).1
theorem name_len {n : Str} (h : n ∈ LN) : n.length ≤ 6 := by
  have z := ln_name n h
  unfold isName at z
  exact of_decide_eq_true (Bool.and_eq_true_iff.mp (Bool.and_eq_true_iff.mp z).1).2
def spCheck (K : PySem.W.Frag) : Sp := fun vs H Q _ => ∃ (e : Addr) (x : Ed), vs = [.ref e] ∧ EdAt K H e x ∧ x.Ok ∧ ∀ H', Same H H' → Q .non H'
theorem ok_check (T : Txt w K mg) : FnOk P w K mg base CX0 3 (He.ga K "check_edit") (fd_check_edit K) ["edit"] (spCheck K) := by
  have G_is_name := ok_is_name (P := P) (base := base) T
  have G_is_text := ok_is_text (P := P) (base := base) T
  have G_are_pages := ok_are_pages (P := P) (base := base) T
  refine T.f_check_edit.ok sc_check_edit (fun vs H Q E h => ?_) (fun cdv A outer s H vs Q E hr h => ?_)
  · obtain ⟨a, b, rfl, _⟩ := h
    rfl
  · obtain ⟨e, x, rfl, he, hx, kk⟩ := h
    have hu := hu_of hr
    refine ⟨_, PSs.nox ((pss_cons (ps_if (pt_cmpR op_eq (pe_ix ix_tup (pv 0) pe_int (fun _ _ => rfl)) pe_str (nomark _)) (pss_cons (ps_if (pt_not (pt_val (pe_call G_are_pages (hr.mono (by omega)) (by rfl) T.g_are_pages T.f_are_pages.kp T.b_are_pages .nil pass0 (pa_cons (pe_ix ix_tup (pv 0) pe_int (fun _ _ => rfl)) pa_nil)))) (pss_one ps_never) pss_nil)
      (pss_one ps_retN)) pss_nil)
      (pss_cons (ps_if (pt_not (pt_val (pe_call G_is_name (hr.mono (by omega)) (by rfl) T.g_is_name T.f_is_name.kp T.b_is_name .nil pass0 (pa_cons (pe_ix ix_tup (pv 0) pe_int (fun _ _ => rfl)) pa_nil)))) (pss_one ps_never) pss_nil)
      (pss_one (ps_if (PW.pt (pw_and (pt_cmpR op_eq (pe_ix ix_tup (pv 0) pe_int (fun _ _ => rfl)) pe_str (nomark _)) (pw_and1 (pt_not (pt_val (pe_call G_is_text (hr.mono (by omega)) (by rfl) T.g_is_text T.f_is_text.kp T.b_is_text .nil pass0 (pa_cons (pe_ix ix_tup (pv 0) pe_int (fun _ _ => rfl)) pa_nil))))))) (pss_one ps_never) pss_nil))))), ?_⟩
    have n1 : ¬ V.str ("set" : Str) = V.str ("pages" : Str) := by decide +kernel
    have n2 : ¬ V.str ("remove" : Str) = V.str ("pages" : Str) := by decide +kernel
    have n3 : ¬ V.str ("remove" : Str) = V.str ("set" : Str) := by decide +kernel
    cases x with
    | pgs ps =>
      obtain ⟨p, h1, h2⟩ := he
      refine ⟨_, rfl, _, _, _, _, rfl, rfl, h1.sq, at0, rfl, _, rfl, ifY (dT rfl) ⟨_, rfl, _, _, _, _, rfl, rfl, h1.sq, at1, p, ps, rfl, h2, hx.1, hx.2, fun H1 s1 => ⟨_, rfl, ifN rfl (kk _ s1)⟩⟩⟩
    | rem n =>
      have h1 : SqU K H e [.str "remove", .str n] := he
      refine ⟨_, rfl, _, _, _, _, rfl, rfl, h1.sq, at0, rfl, _, rfl, ifN (dF n2) ⟨_, rfl, _, _, _, _, rfl, rfl, h1.sq, at1, n, rfl, Nat.le_trans (name_len hx) (by decide), fun H1 s1 => ⟨_, rfl, ?_⟩⟩⟩
      rw [ln_name n hx]
      exact ifN rfl ⟨_, rfl, _, _, _, _, rfl, rfl, (h1.keep (Same.tk s1)).sq, at0, rfl, _, rfl, ifN (dF n3) (iteF (kk _ s1))⟩
    | set n t =>
      have h1 : SqU K H e [.str "set", .str n, .str t] := he
      refine ⟨_, rfl, _, _, _, _, rfl, rfl, h1.sq, at0, rfl, _, rfl, ifN (dF n1) ⟨_, rfl, _, _, _, _, rfl, rfl, h1.sq, at1, n, rfl, Nat.le_trans (name_len hx.1) (by decide), fun H1 s1 => ⟨_, rfl, ?_⟩⟩⟩
      rw [ln_name n hx.1]
      refine ifN rfl ⟨_, rfl, _, _, _, _, rfl, rfl, (h1.keep (Same.tk s1)).sq, at0, rfl, _, rfl, ifY (dT rfl) ⟨_, rfl, _, _, _, _, rfl, rfl, (h1.keep (Same.tk s1)).sq, at2, t, rfl, Nat.le_trans (text_len hx.2.1) (by decide), _, rfl, ?_⟩⟩
      rw [hx.2.1]
      exact ifN rfl (kk _ s1)
def encS (ps : List Str) : PyData := .tuple (ps.map .str)
def applyEd (src : Src) (pages : List Str) : Ed → Option (Src × List Str)
  | .pgs ps => if PyData.eqv (encS ps) (encS pages) then none else some (src, ps)
  | .rem n => if ahas src n then some (adrop src n, pages) else none
  | .set n t => if aget src n = some t then none else some (aput src n t, pages)
theorem lo_s {ps : List Str} (h : PgG ps) : Lo 1 (encS ps) := .tup (.map ps fun n hn => .str (ln_sok (h.2 n hn)))
theorem dt_s {a : Addr} {ps : List Str} (h : SqU K H a (ps.map V.str)) : Dt K H (.ref a) (encS ps) := .ofU h (DtAll.of_strs ps)
def spApply (K : PySem.W.Frag) : Sp := fun vs H Q _ => ∃ (sd pg e : Addr) (src : Src) (pages : List Str) (x : Ed) (kvs : List (L2.Key × V)), vs = [.ref sd, .ref pg, .ref e] ∧ H sd = some (.dK kvs) ∧ DR (fun v t => v = .str t) kvs src ∧ SqU K H pg (pages.map V.str) ∧ SrcG src ∧ PgG pages ∧ EdAt K H e x ∧ x.Ok ∧
  (applyEd src pages x = none → ∀ H', Same H H' → Q .non H') ∧
  ∀ src' pages', applyEd src pages x = some (src', pages') → ∀ H' t sd' pg' kvs', Same H H' → SqU K H' t [.ref sd', .ref pg'] → H' sd' = some (.dK kvs') → DR (fun v t => v = .str t) kvs' src' → (sd' = sd ∨ H sd' = none) → SqU K H' pg' (pages'.map V.str) → Q (.ref t) H'
theorem ok_apply (T : Txt w K mg) : FnOk P w K mg base CX0 1 (He.ga K "apply_edit") (fd_apply_edit K) ["sources", "pages", "edit"] (spApply K) := by
  refine T.f_apply_edit.ok sc_apply_edit (fun vs H Q E h => ?_) (fun cdv A outer s H vs Q E hr h => ?_)
  · obtain ⟨a, b, c, d, e, f, g, rfl, _⟩ := h
    rfl
  · obtain ⟨sd, pg, e, src, pages, x, kvs, rfl, hsd, hsr, hpg, hsg, hpgg, he, hx, k1, k2⟩ := h
    have hu := hu_of hr
    refine ⟨_, PSs.nox ((pss_cons (ps_if (pt_cmpR op_eq (pe_ix ix_tup (pv 2) pe_int (fun _ _ => rfl)) pe_str (nomark _)) (pss_one (ps_ret (pe_ifExp (pt_cmpR (op_eqD hr.units) (pe_callTy call_tuple_of (by rfl) T.z_tuple (by decide +kernel) (pa_cons (pe_ix ix_tup (pv 2) pe_int (fun _ _ => rfl)) pa_nil)) (pv 1) (nomark _)) pe_non (pe_tup (pa_cons (pv 0) (pa_cons (pe_callTy call_tuple_of (by rfl) T.z_tuple (by decide +kernel) (pa_cons (pe_ix ix_tup (pv 2) pe_int (fun _ _ => rfl)) pa_nil)) pa_nil)))))) pss_nil)
      (pss_cons (ps_set (i := 3) sc_apply_edit.nd rfl (.inl rfl) (pe_callTy call_dictD (by rfl) T.z_dict (by decide +kernel) (pa_cons (pv 0) pa_nil)))
      (pss_cons (ps_if (pt_cmpR op_eq (pe_ix ix_tup (pv 2) pe_int (fun _ _ => rfl)) pe_str (nomark _)) (pss_cons (ps_if (pt_cmpR op_isN (pe_dpop2 (pv 3) (pe_ix ix_tup (pv 2) pe_int (fun _ _ => rfl)) pe_non ⟨rfl, rfl, rfl, rfl⟩) pe_non (nomark _)) (pss_one (ps_ret pe_non)) pss_nil)
      (pss_one (ps_ret (pe_tup (pa_cons (pv 3) (pa_cons (pv 1) pa_nil)))))) pss_nil)
      (pss_cons (ps_if (pt_cmpR op_eq (pe_dget1 hu (pv 3) (pe_ix ix_tup (pv 2) pe_int (fun _ _ => rfl)) ⟨rfl, rfl, rfl, rfl⟩) (pe_ix ix_tup (pv 2) pe_int (fun _ _ => rfl)) (nomark _)) (pss_one (ps_ret pe_non)) pss_nil)
      (pss_cons (ps_if (PW.pt (pw_and (pt_cmp (pc_dnotin hu (pe_ix ix_tup (pv 2) pe_int (fun _ _ => rfl)) (pv 3)) rfl) (pw_and1 (pt_cmpR op_eq (pe_callB call_lenD (by rfl) T.z_len PySem.boot_len (pa_cons (pv 3) pa_nil)) (pe_gi T.i_SOURCES_MOST) (nomark _))))) (pss_one ps_never) pss_nil)
      (pss_cons (ps_dput hu (pv 3) (pe_ix ix_tup (pv 2) pe_int (fun _ _ => rfl)) (pe_ix ix_tup (pv 2) pe_int (fun _ _ => rfl)) rfl)
      (pss_one (ps_ret (pe_tup (pa_cons (pv 3) (pa_cons (pv 1) pa_nil)))))))))))), ?_⟩
    have n1 : ¬ V.str ("set" : Str) = V.str ("pages" : Str) := by decide +kernel
    have n2 : ¬ V.str ("remove" : Str) = V.str ("pages" : Str) := by decide +kernel
    have n3 : ¬ V.str ("set" : Str) = V.str ("remove" : Str) := by decide +kernel
    cases x with
    | pgs ps =>
      obtain ⟨p, h1, h2⟩ := he
      refine ⟨_, rfl, _, _, _, _, rfl, rfl, h1.sq, at0, rfl, _, rfl, ifY (dT rfl) ?_⟩
      refine ⟨_, rfl, _, _, _, _, rfl, rfl, h1.sq, at1, p, _, rfl, .inr ⟨h2.sq, _, rfl, encS ps, encS pages, (dt_s h2).dp, (dt_s hpg).dp, (lo_s hx.1).shaped (by decide), (lo_s hpgg).shaped (by decide), _, rfl, ?_⟩⟩
      cases hv : PyData.eqv (encS ps) (encS pages) with
      | true => exact ifY rfl (k1 (by simp [applyEd, hv]) _ (Same.refl _))
      | false =>
        refine ifN rfl ⟨_, rfl, _, rfl, _, _, _, _, rfl, rfl, h1.sq, at1, p, _, rfl, .inr ⟨h2.sq, le2, fun t ht => ?_⟩⟩
        have s1 := same_new ht (o := .tup [.ref sd, .ref p])
        exact k2 src ps (by simp [applyEd, hv]) _ t sd p kvs s1 (squ_of upd_same) (s1 _ _ hsd) hsr (.inl rfl) (h2.keep (Same.tk s1))
    | rem n =>
      have h1 : SqU K H e [.str "remove", .str n] := he
      refine ⟨_, rfl, _, _, _, _, rfl, rfl, h1.sq, at0, rfl, _, rfl, ifN (dF n2) ⟨_, rfl, sd, kvs, rfl, .of hsd, fun q hq => ?_⟩⟩
      have s1 := same_new hq (o := .dK kvs)
      have h2 := h1.keep (Same.tk s1)
      have hq1 := upd_same (H := H) (a := q) (o := .dK kvs)
      refine ⟨_, rfl, _, _, _, _, rfl, rfl, h2.sq, at0, rfl, _, rfl, ifY (dT rfl) ⟨_, rfl, q, rfl, .inl ⟨_, .of hq1⟩, _, rfl, _, _, _, _, rfl, rfl, h2.sq, at1, kvs, .inr n, hq1, rfl, fun v hv => ⟨rfl, _, rfl, ?_⟩, fun hv => ⟨rfl, _, rfl, ?_⟩⟩⟩
      · obtain ⟨z1, z2⟩ := hsr.get n
        cases ha : aget src n with
        | none =>
          rw [z1 ha] at hv
          cases hv
        | some tx =>
          obtain ⟨v', hv', rfl⟩ := z2 tx ha
          obtain rfl := Option.some.inj (hv'.symm.trans hv)
          rw [upd2]
          refine ifN rfl ⟨_, rfl, _, rfl, le2, fun t ht => ?_⟩
          have s3 := same_new ht (o := .tup [.ref q, .ref pg])
          have s2 : Same H (upd H q (.dK (dropK kvs (.inr n)))) := same_new hq
          exact k2 (adrop src n) pages (by simp [applyEd, ahas_get, ha]) _ t q pg _ (s2.trans s3) (squ_of upd_same) (s3 _ _ upd_same) (hsr.drop n) (.inr hq) (hpg.keep (Same.tk (s2.trans s3)))
      · have ha : aget src n = none := by
          obtain ⟨z1, z2⟩ := hsr.get n
          cases ha : aget src n with
          | none => rfl
          | some tx =>
            obtain ⟨v', hv', rfl⟩ := z2 tx ha
            rw [hv] at hv'
            cases hv'
        exact ifY rfl (k1 (by simp [applyEd, ahas_get, ha]) _ s1)
    | set n tx =>
      have h1 : SqU K H e [.str "set", .str n, .str tx] := he
      refine ⟨_, rfl, _, _, _, _, rfl, rfl, h1.sq, at0, rfl, _, rfl, ifN (dF n1) ⟨_, rfl, sd, kvs, rfl, .of hsd, fun q hq => ?_⟩⟩
      have s1 := same_new hq (o := .dK kvs)
      have h2 := h1.keep (Same.tk s1)
      have hq1 := upd_same (H := H) (a := q) (o := .dK kvs)
      refine ⟨_, rfl, _, _, _, _, rfl, rfl, h2.sq, at0, rfl, _, rfl, ifN (dF n3) ?_⟩
      refine ⟨_, rfl, q, rfl, .inl ⟨_, .of hq1⟩, _, rfl, _, _, _, _, rfl, rfl, h2.sq, at1, _, .inl ⟨kvs, .inr n, .of hq1, rfl, rfl⟩, ?_⟩
      rw [src_get hsr]
      refine ⟨_, rfl, _, _, _, _, rfl, rfl, h2.sq, at2, scal_ov _ _, _, rfl, ?_⟩
      rw [ov_eq]
      by_cases ha : aget src n = some tx
      · exact ifY (dT ha) (k1 (by simp [applyEd, ha]) _ s1)
      · refine ifN (dF ha) ?_
        dsimp only [tNext, tSeq]
        refine ifS_an (b := false) (fun Q2 q2 => ?_) (ifN rfl ?_)
        · refine ⟨_, rfl, _, _, _, _, rfl, rfl, h2.sq, at1, _, rfl, q, _, rfl, .inl ⟨kvs, .inr n, .of hq1, rfl, rfl⟩, _, rfl, ?_⟩
          cases hh : (valV kvs (.inr n)).isSome with
          | true => exact ifN rfl q2
          | false =>
            refine ifY rfl ⟨_, rfl, q, kvs, rfl, hq1, rfl, _, rfl, ?_⟩
            have hl8 : kvs.length ≤ 8 := by
              rw [hsr.len]
              exact hsg.1.len
            have e : decide (V.int (kvs.length : Nat) = V.int 12) = false := dF fun z => by
              have z2 := V.int.inj z
              omega
            rw [e]
            exact q2
        · refine ⟨_, rfl, _, _, _, _, rfl, rfl, h2.sq, at2, _, rfl, _, rfl, _, _, _, _, rfl, rfl, h2.sq, at1, q, _, rfl, .inl ⟨kvs, .inr n, hq1, rfl, ?_, rfl⟩, ?_⟩
          · rw [hsr.len]
            exact small5' (Nat.le_trans hsg.1.len (by decide))
          · rw [upd2]
            refine ⟨_, rfl, _, rfl, le2, fun t ht => ?_⟩
            have s3 := same_new ht (o := .tup [.ref q, .ref pg])
            have s2 : Same H (upd H q (.dK (putK kvs (.inr n) (.str tx)))) := same_new hq
            exact k2 (aput src n tx) pages (by simp [applyEd, ha]) _ t q pg _ (s2.trans s3) (squ_of upd_same) (s3 _ _ upd_same) (hsr.put n rfl) (.inr hq) (hpg.keep (Same.tk (s2.trans s3)))
end
end L2.TP
/-! would_edit, make, touch, edit. -/
namespace L2.TP
open PySem PySem.Spec PyProof.Rows L2
section
variable {P : Program} {w : World} {K : PySem.W.Frag} {mg : Str → Option Value} {base : Heap} {H H' : Hp}
def spWould (K : PySem.W.Frag) (P : Program) (w : World) : Sp := fun vs H Q _ => ∃ (own : Addr → Prop) (L : Lay) (s : S) (e : Addr) (x : Ed), vs = [.ref L.p, .ref e] ∧ Pub K P w own L s H ∧ Gd s ∧ EdAt K H e x ∧ x.Ok ∧ ∀ H', Same H H' → Q (.bl (applyEd s.src s.pages x).isSome) H'
theorem ok_would (T : Txt w K mg) : FnOk P w K mg base CX0 4 (He.ma K (He.ga K "Publisher") "would_edit") (fd_Publisher_would_edit K) ["self", "edit"] (spWould K P w) := by
  have G_check_edit := ok_check (P := P) (base := base) T
  have G_apply_edit := ok_apply (P := P) (base := base) T
  refine T.f_Publisher_would_edit.ok sc_Publisher_would_edit (fun vs H Q E h => ?_) (fun cdv A outer s H vs Q E hr h => ?_)
  · obtain ⟨a, b, c, d, e, rfl, _⟩ := h
    rfl
  · obtain ⟨own, L, s0, e, x, rfl, ⟨op, sd, pg, fv, vv, X⟩, hg, he, hx, kk⟩ := h
    have hu := hu_of hr
    obtain ⟨dx, hp⟩ := X.pub
    refine ⟨_, PSs.nox ((pss_cons (ps_expr (pe_call G_check_edit (hr.mono (by omega)) (by rfl) T.g_check_edit T.f_check_edit.kp T.b_check_edit .nil pass0 (pa_cons (pv 1) pa_nil)))
      (pss_one (ps_ret (pe_cmpR op_notN (pe_call G_apply_edit (hr.mono (by omega)) (by rfl) T.g_apply_edit T.f_apply_edit.kp T.b_apply_edit .nil pass0 (pa_cons (pe_fld (pv 0) rfl) (pa_cons (pe_fld (pv 0) rfl) (pa_cons (pv 1) pa_nil)))) pe_non (nomark _)))))), ?_⟩
    refine ⟨_, rfl, e, x, rfl, he, hx, fun H1 s1 => ?_⟩
    have X1 := X.same s1
    have hp1 := s1 _ _ hp
    obtain ⟨_, kvs, hsd, hsr⟩ := X1.src
    refine ⟨_, rfl, L.p, _, dx, _, _, rfl, hp1, T.cl_Publisher, T.na_Publisher__sources, zip_look (i := 2) (pks_nd) rfl rfl, _, rfl, L.p, _, dx, _, _, rfl, hp1, T.cl_Publisher, T.na_Publisher__pages, zip_look (i := 3) (pks_nd) rfl rfl, _, rfl, sd, pg, e, s0.src, s0.pages, x, kvs, rfl, hsd, hsr, X1.pgs, hg.src, hg.pgs, he.keep (Same.tk s1), hx, fun ha H2 s2 => ?_, fun src' pages' ha H2 t sd' pg' kvs' s2 _ _ _ _ _ => ?_⟩
    · rw [ha] at kk
      exact ⟨rfl, kk H2 (s1.trans s2)⟩
    · rw [ha] at kk
      exact ⟨rfl, kk H2 (s1.trans s2)⟩
def S.made2 (s : S) (src : Src) (pages : List Str) : S := { s with src := src, pages := pages, count := s.count + 1, last := s.clock }
def spMake (K : PySem.W.Frag) (P : Program) (w : World) : Sp := fun vs H Q _ => ∃ (own : Addr → Prop) (L : Lay) (s : S) (e : Addr) (x : Ed) (src : Src) (pages : List Str), vs = [.ref L.p, .ref e] ∧ Pub K P w own L s H ∧ Gd s ∧ EdAt K H e x ∧ x.Ok ∧ applyEd s.src s.pages x = some (src, pages) ∧
  ∀ H', Pub K P w own L (s.made2 src pages) H' → Fr own H H' → Q .non H'
theorem ok_make (T : Txt w K mg) : FnOk P w K mg base CX0 2 (He.ma K (He.ga K "Publisher") "_make") (fd_Publisher__make K) ["self", "edit"] (spMake K P w) := by
  have G_apply_edit := ok_apply (P := P) (base := base) T
  refine T.f_Publisher__make.ok sc_Publisher__make (fun vs H Q E h => ?_) (fun cdv A outer s H vs Q E hr h => ?_)
  · obtain ⟨a, b, c, d, e, f, g, rfl, _⟩ := h
    rfl
  · obtain ⟨own, L, s0, e, x, src, pages, rfl, ⟨op, sd, pg, fv, vv, X⟩, hg, he, hx, ha, kk⟩ := h
    have hu := hu_of hr
    obtain ⟨dx, hp⟩ := X.pub
    obtain ⟨hso, kvs, hsd, hsr⟩ := X.src
    refine ⟨_, PSs.nox ((pss_cons (ps_asg (pe_call G_apply_edit (hr.mono (by omega)) (by rfl) T.g_apply_edit T.f_apply_edit.kp T.b_apply_edit .nil pass0 (pa_cons (pe_fld (pv 0) rfl) (pa_cons (pe_fld (pv 0) rfl) (pa_cons (pv 1) pa_nil)))) (pg_tup (by rfl) (pgs_cons (pg_fld (pv 0)) (pgs_cons (pg_fld (pv 0)) pgs_nil))))
      (pss_cons (ps_fld (pv 0) (pe_op op_add (pe_fld (pv 0) rfl) pe_int) rfl)
      (pss_one (ps_fld (pv 0) (pe_fld (pv 0) rfl) rfl))))), ?_⟩
    refine ⟨_, rfl, L.p, _, dx, _, _, rfl, hp, T.cl_Publisher, T.na_Publisher__sources, zip_look (i := 2) (pks_nd) rfl rfl, _, rfl, L.p, _, dx, _, _, rfl, hp, T.cl_Publisher, T.na_Publisher__pages, zip_look (i := 3) (pks_nd) rfl rfl, _, rfl, sd, pg, e, s0.src, s0.pages, x, kvs, rfl, hsd, hsr, X.pgs, hg.src, hg.pgs, he, hx, fun hn => ?_, fun src' pages' ha' H2 t sd' pg' kvs' s2 ht hsd' hsr' hor hpg' => ?_⟩
    · rw [hn] at ha
      cases ha
    · rw [ha] at ha'
      obtain ⟨rfl, rfl⟩ := Prod.mk.inj (Option.some.inj ha')
      have X2 := X.same s2
      have hp2 := s2 _ _ hp
      have hso' : L.out own sd' := by
        rcases hor with q | q
        · rw [q]; exact hso
        · exact out_fresh X q
      refine ⟨_, _, rfl, ht.sq, rfl, _, _, rfl, _, rfl, L.p, _, dx, _, rfl, hp2, T.cl_Publisher, T.na_Publisher__sources, Nat.lt_of_le_of_lt zip_len (by decide), ?_⟩
      have e1 : putF "_sources" (.ref sd') (pks.zip [.ref op, .int s0.clock, .ref sd, .ref pg, .int s0.count, .int s0.last, .ref L.ca, .ref L.ta, .ref L.jd, fv, oi s0.dirty, vv, .int s0.published, .int s0.made]) = pks.zip [.ref op, .int s0.clock, .ref sd', .ref pg, .int s0.count, .int s0.last, .ref L.ca, .ref L.ta, .ref L.jd, fv, oi s0.dirty, vv, .int s0.published, .int s0.made] := zip_put (i := 2) pks_nd rfl (lt14 (by decide))
      rw [e1]
      refine ⟨_, _, rfl, _, rfl, L.p, _, dx, _, rfl, upd_same, T.cl_Publisher, T.na_Publisher__pages, Nat.lt_of_le_of_lt zip_len (by decide), rfl, ?_⟩
      have e2 : putF "_pages" (.ref pg') (pks.zip [.ref op, .int s0.clock, .ref sd', .ref pg, .int s0.count, .int s0.last, .ref L.ca, .ref L.ta, .ref L.jd, fv, oi s0.dirty, vv, .int s0.published, .int s0.made]) = pks.zip [.ref op, .int s0.clock, .ref sd', .ref pg', .int s0.count, .int s0.last, .ref L.ca, .ref L.ta, .ref L.jd, fv, oi s0.dirty, vv, .int s0.published, .int s0.made] := zip_put (i := 3) pks_nd rfl (lt14 (by decide))
      rw [e2, upd2]
      have hp3 := upd_same (H := H2) (a := L.p) (o := .ins (He.ga K "Publisher") dx (pks.zip [.ref op, .int s0.clock, .ref sd', .ref pg', .int s0.count, .int s0.last, .ref L.ca, .ref L.ta, .ref L.jd, fv, oi s0.dirty, vv, .int s0.published, .int s0.made]))
      refine ⟨_, rfl, L.p, _, dx, _, _, rfl, hp3, T.cl_Publisher, T.na_Publisher__count, zip_look (i := 4) (pks_nd) rfl rfl, _, _, rfl, rfl, _, rfl, L.p, _, dx, _, rfl, hp3, T.cl_Publisher, T.na_Publisher__count, Nat.lt_of_le_of_lt zip_len (by decide), ?_⟩
      have e3 : putF "_count" (.int (s0.count + 1)) (pks.zip [.ref op, .int s0.clock, .ref sd', .ref pg', .int s0.count, .int s0.last, .ref L.ca, .ref L.ta, .ref L.jd, fv, oi s0.dirty, vv, .int s0.published, .int s0.made]) = pks.zip [.ref op, .int s0.clock, .ref sd', .ref pg', .int (s0.count + 1), .int s0.last, .ref L.ca, .ref L.ta, .ref L.jd, fv, oi s0.dirty, vv, .int s0.published, .int s0.made] := zip_put (i := 4) pks_nd rfl (lt14 (by decide))
      rw [e3, upd2]
      have hp4 := upd_same (H := H2) (a := L.p) (o := .ins (He.ga K "Publisher") dx (pks.zip [.ref op, .int s0.clock, .ref sd', .ref pg', .int (s0.count + 1), .int s0.last, .ref L.ca, .ref L.ta, .ref L.jd, fv, oi s0.dirty, vv, .int s0.published, .int s0.made]))
      refine ⟨_, rfl, L.p, _, dx, _, _, rfl, hp4, T.cl_Publisher, T.na_Publisher__clock, zip_look (i := 1) (pks_nd) rfl rfl, _, rfl, L.p, _, dx, _, rfl, hp4, T.cl_Publisher, T.na_Publisher__last_edit, Nat.lt_of_le_of_lt zip_len (by decide), ?_⟩
      have e4 : putF "_last_edit" (.int s0.clock) (pks.zip [.ref op, .int s0.clock, .ref sd', .ref pg', .int (s0.count + 1), .int s0.last, .ref L.ca, .ref L.ta, .ref L.jd, fv, oi s0.dirty, vv, .int s0.published, .int s0.made]) = pks.zip [.ref op, .int s0.clock, .ref sd', .ref pg', .int (s0.count + 1), .int s0.clock, .ref L.ca, .ref L.ta, .ref L.jd, fv, oi s0.dirty, vv, .int s0.published, .int s0.made] := zip_put (i := 5) pks_nd rfl (lt14 (by decide))
      rw [e4, upd2]
      have X3 := X2.setp (s' := s0.made2 src pages) (dx := dx) rfl rfl rfl X2.opt ⟨hso', kvs', hsd', hsr'⟩ hpg' X2.frz X2.ver
      exact kk _ ⟨op, sd', pg', fv, vv, X3⟩ ((fr_same s2).trans (fr_but but_upd hp2 (fun _ z => nomatch z) X.ownp))
def S.touch1 (s : S) : S := if s.dirty.isSome then s else { s with dirty := some s.clock, tms := tput s.tms .wait (s.clock + s.o.wait) }
def S.touch (s : S) : S := { s.touch1 with tms := tput s.touch1.tms .pause (s.touch1.clock + s.touch1.o.pause) }
theorem Gd.dirt {s : S} (h : Gd s) (d : Option Int) : Gd { s with dirty := d } :=
  { opt := h.opt, src := h.src, pgs := h.pgs, cch := h.cch, cks := h.cks, jks := h.jks, jbs := h.jbs, frz := h.frz, tnd := h.tnd, tim := h.tim, due := h.due, ver := h.ver }
theorem Gd.touch1 {s : S} (h : Gd s) : Gd s.touch1 := by
  unfold S.touch1
  split
  · exact h
  · exact ((h.dirt (some s.clock)).put (k := .wait) (d := s.clock + s.o.wait) (.inr rfl) (by have := h.opt.w1; show s.clock < _; omega)).1
theorem Gd.touch {s : S} (h : Gd s) : Gd s.touch := (h.touch1.put (k := .pause) (d := s.touch1.clock + s.touch1.o.pause) (.inl rfl) (by have := h.touch1.opt.p1; omega)).1
theorem ok_touch (T : Txt w K mg) : FnOk P w K mg base CX0 2 (He.ma K (He.ga K "Publisher") "_touch") (fd_Publisher__touch K) ["self"] (spM K P w (fun _ => True) S.touch) := by
  have G_Timers_put := ok_timers_put (P := P) (base := base) T
  refine T.f_Publisher__touch.ok sc_Publisher__touch (fun vs H Q E h => ?_) (fun cdv A outer s H vs Q E hr h => ?_)
  · obtain ⟨a, b, c, rfl, _⟩ := h
    rfl
  · obtain ⟨own, L, s0, rfl, ⟨op, sd, pg, fv, vv, X⟩, hg, _, kk⟩ := h
    have hu := hu_of hr
    obtain ⟨dx, hp⟩ := X.pub
    have hg1 := hg.touch1
    refine ⟨_, PSs.nox ((C8.pss_cut (ps_if (pt_cmpR op_isN (pe_fld (pv 0) rfl) pe_non (nomark _)) (pss_cons (ps_fld (pv 0) (pe_fld (pv 0) rfl) rfl)
      (pss_one (ps_expr (pe_meth (pe_fld (pv 0) rfl) T.cl_Timers T.mt_Timers_put G_Timers_put (hr.mono (by omega)) T.b_Timers_put .nil pass0 (pa_cons (pe_gr T.g_WAIT) (pa_cons (pe_op op_add (pe_fld (pv 0) rfl) (pe_ix ix_tup (pe_fld (pv 0) rfl) pe_int (fun _ _ => rfl))) pa_nil)))))) pss_nil)
      (pss_one (ps_expr (pe_meth (pe_fld (pv 0) rfl) T.cl_Timers T.mt_Timers_put G_Timers_put (hr.mono (by omega)) T.b_Timers_put .nil pass0 (pa_cons (pe_gr T.g_PAUSE) (pa_cons (pe_op op_add (pe_fld (pv 0) rfl) (pe_ix ix_tup (pe_fld (pv 0) rfl) pe_int (fun _ _ => rfl))) pa_nil))))))), ?_⟩
    refine ⟨fun σ' H1 => σ' = [some (.ref L.p)] ∧ PubX K P w own L op sd pg fv vv s0.touch1 H1 ∧ Fr own H H1, ?_, ?_⟩
    · refine ⟨_, rfl, L.p, _, dx, _, _, rfl, hp, T.cl_Publisher, T.na_Publisher__dirty_since, zip_look (i := 10) (pks_nd) rfl rfl, rfl, _, rfl, ?_⟩
      cases hd : s0.dirty with
      | some d =>
        have e : s0.touch1 = s0 := by
          unfold S.touch1
          rw [hd] <;> rfl
        rw [e]
        exact ifN rfl ⟨rfl, X, Fr.refl _ _⟩
      | none =>
        have e : s0.touch1 = { s0 with dirty := some s0.clock, tms := tput s0.tms .wait (s0.clock + s0.o.wait) } := by
          unfold S.touch1
          rw [hd] <;> rfl
        rw [e]
        refine ifY rfl ⟨_, rfl, L.p, _, dx, _, _, rfl, hp, T.cl_Publisher, T.na_Publisher__clock, zip_look (i := 1) (pks_nd) rfl rfl, _, rfl, L.p, _, dx, _, rfl, hp, T.cl_Publisher, T.na_Publisher__dirty_since, Nat.lt_of_le_of_lt zip_len (by decide), ?_⟩
        have e4 : putF "_dirty_since" (.int s0.clock) (pks.zip [.ref op, .int s0.clock, .ref sd, .ref pg, .int s0.count, .int s0.last, .ref L.ca, .ref L.ta, .ref L.jd, fv, oi s0.dirty, vv, .int s0.published, .int s0.made]) = pks.zip [.ref op, .int s0.clock, .ref sd, .ref pg, .int s0.count, .int s0.last, .ref L.ca, .ref L.ta, .ref L.jd, fv, .int s0.clock, vv, .int s0.published, .int s0.made] := zip_put (i := 10) pks_nd rfl (lt14 (by decide))
        rw [e4]
        have X1 := X.setp (s' := { s0 with dirty := some s0.clock }) (dx := dx) rfl rfl rfl X.opt X.src X.pgs X.frz X.ver
        have hp1 := upd_same (H := H) (a := L.p) (o := .ins (He.ga K "Publisher") dx (pks.zip [.ref op, .int s0.clock, .ref sd, .ref pg, .int s0.count, .int s0.last, .ref L.ca, .ref L.ta, .ref L.jd, fv, .int s0.clock, vv, .int s0.published, .int s0.made]))
        have fr1 : Fr own H (upd H L.p (.ins (He.ga K "Publisher") dx (pks.zip [.ref op, .int s0.clock, .ref sd, .ref pg, .int s0.count, .int s0.last, .ref L.ca, .ref L.ta, .ref L.jd, fv, .int s0.clock, vv, .int s0.published, .int s0.made]))) := fr_but but_upd hp (fun _ z => nomatch z) X.ownp
        obtain ⟨dxt, hta⟩ := X1.tmr
        refine ⟨_, rfl, L.p, _, dx, _, _, rfl, hp1, T.cl_Publisher, T.na_Publisher__timers, zip_look (i := 7) (pks_nd) rfl rfl, L.ta, dxt, _, rfl, hta, zip_none (by decide +kernel), _, rfl, L.p, _, dx, _, _, rfl, hp1, T.cl_Publisher, T.na_Publisher__clock, zip_look (i := 1) (pks_nd) rfl rfl, _, rfl, L.p, _, dx, _, _, rfl, hp1, T.cl_Publisher, T.na_Publisher__options, zip_look (i := 0) (pks_nd) rfl rfl, _, _, _, _, rfl, rfl, X1.opt.sq, Opt.at6, _, _, rfl, rfl, ?_⟩
        refine ⟨own, L.ta, L.td, _, s0.tms, .wait, s0.clock + s0.o.wait, rfl, ⟨X1.tmr, X1.att⟩, key_wait T, Nat.le_trans hg.tlen (by decide), fun H2 bt2 tt2 => ?_⟩
        obtain ⟨hto, xs, htd, _⟩ := X1.att
        exact ⟨rfl, X1.sett bt2 tt2, fr1.trans (fr_but bt2 htd (fun _ z => nomatch z) hto)⟩
    · rintro σ' H1 ⟨rfl, X1, fr1⟩
      obtain ⟨dx1, hp1⟩ := X1.pub
      obtain ⟨dxt, hta⟩ := X1.tmr
      refine ⟨_, rfl, L.p, _, dx1, _, _, rfl, hp1, T.cl_Publisher, T.na_Publisher__timers, zip_look (i := 7) (pks_nd) rfl rfl, L.ta, dxt, _, rfl, hta, zip_none (by decide +kernel), _, rfl, L.p, _, dx1, _, _, rfl, hp1, T.cl_Publisher, T.na_Publisher__clock, zip_look (i := 1) (pks_nd) rfl rfl, _, rfl, L.p, _, dx1, _, _, rfl, hp1, T.cl_Publisher, T.na_Publisher__options, zip_look (i := 0) (pks_nd) rfl rfl, _, _, _, _, rfl, rfl, X1.opt.sq, Opt.at5, _, _, rfl, rfl, ?_⟩
      refine ⟨own, L.ta, L.td, _, s0.touch1.tms, .pause, s0.touch1.clock + s0.touch1.o.pause, rfl, ⟨X1.tmr, X1.att⟩, key_pause T, Nat.le_trans hg1.tlen (by decide), fun H2 bt2 tt2 => ?_⟩
      obtain ⟨hto, xs, htd, _⟩ := X1.att
      exact kk H2 ⟨op, sd, pg, fv, vv, X1.sett bt2 tt2⟩ (fr1.trans (fr_but bt2 htd (fun _ z => nomatch z) hto))
theorem adrop_srcg {src : Src} (h : SrcG src) (n : Str) : SrcG (adrop src n) := ⟨h.1.filter _, fun p hp => h.2 p (mem_adrop hp).1⟩
theorem aput_mem_k {α : Type} {m : List (Str × α)} {k : Str} {x : α} {p : Str × α} (h : p ∈ aput m k x) : p ∈ m ∨ p = (k, x) := by
  unfold aput at h
  split at h
  · obtain ⟨q, hq, e⟩ := List.mem_map.mp h
    by_cases h2 : q.1 = k
    · rw [if_pos h2] at e
      exact .inr (by rw [← e, h2])
    · rw [if_neg h2] at e
      exact .inl (e ▸ hq)
  · exact mem_app_one h
theorem apply_g {src src' : Src} {pages pages' : List Str} {x : Ed} (h : SrcG src) (hp : PgG pages) (hx : x.Ok) (e : applyEd src pages x = some (src', pages')) : SrcG src' ∧ PgG pages' := by
  cases x with
  | pgs ps =>
    unfold applyEd at e
    obtain ⟨_, e2⟩ := iteNS e
    obtain ⟨rfl, rfl⟩ := Prod.mk.inj e2
    exact ⟨h, hx.1⟩
  | rem n =>
    unfold applyEd at e
    obtain ⟨_, e2⟩ := iteSN e
    obtain ⟨rfl, rfl⟩ := Prod.mk.inj e2
    exact ⟨adrop_srcg h n, hp⟩
  | set n t =>
    replace e : (if aget src n = some t then none else some (aput src n t, pages)) = some (src', pages') := e
    by_cases q : aget src n = some t
    · rw [if_pos q] at e
      cases e
    · rw [if_neg q] at e
      obtain ⟨rfl, rfl⟩ := Prod.mk.inj (Option.some.inj e)
      refine ⟨⟨h.1.put hx.1, fun p hp => ?_⟩, hp⟩
      rcases aput_mem_k hp with q | q
      · exact h.2 p q
      · rw [q]
        exact ⟨text_len hx.2.1, ln_sok hx.1, hx.2.2⟩
theorem Gd.made2 {s : S} (h : Gd s) {src : Src} {pages : List Str} (h1 : SrcG src) (h2 : PgG pages) : Gd (s.made2 src pages) :=
  { opt := h.opt, src := h1, pgs := h2, cch := h.cch, cks := h.cks, jks := h.jks, jbs := h.jbs, frz := h.frz, tnd := h.tnd, tim := h.tim, due := h.due, ver := h.ver }
def S.dirted (s : S) : S := if s.frz.isSome then (if s.dirty.isSome then s else { s with dirty := some s.clock }) else s.touch
theorem Gd.dirted {s : S} (h : Gd s) : Gd s.dirted := by
  unfold S.dirted
  split
  · split
    · exact h
    · exact h.dirt _
  · exact h.touch
def S.edited (s : S) (x : Ed) : S := match applyEd s.src s.pages x with
  | none => s
  | some (src, pages) => (s.made2 src pages).dirted.prog
theorem Gd.edited {s : S} (h : Gd s) {x : Ed} (hx : x.Ok) : Gd (s.edited x) := by
  unfold S.edited
  cases e : applyEd s.src s.pages x with
  | none => exact h
  | some p =>
    obtain ⟨h1, h2⟩ := apply_g h.src h.pgs hx e
    exact (gp_prog _ (h.made2 h1 h2).dirted).1
def spEdit (K : PySem.W.Frag) (P : Program) (w : World) : Sp := fun vs H Q _ => ∃ (own : Addr → Prop) (L : Lay) (s : S) (e : Addr) (x : Ed), vs = [.ref L.p, .ref e] ∧ Pub K P w own L s H ∧ Gd s ∧ EdAt K H e x ∧ x.Ok ∧ ∀ H', Pub K P w own L (s.edited x) H' → Fr own H H' → Q (.bl (applyEd s.src s.pages x).isSome) H'
theorem ok_edit (T : Txt w K mg) : FnOk P w K mg base CX0 13 (He.ma K (He.ga K "Publisher") "edit") (fd_Publisher_edit K) ["self", "edit"] (spEdit K P w) := by
  have G_Publisher_would_edit := ok_would (P := P) (base := base) T
  have G_Publisher__make := ok_make (P := P) (base := base) T
  have G_Publisher__touch := ok_touch (P := P) (base := base) T
  have G_Publisher__progress := ok_prog1 (P := P) (base := base) T
  refine T.f_Publisher_edit.ok sc_Publisher_edit (fun vs H Q E h => ?_) (fun cdv A outer s H vs Q E hr h => ?_)
  · obtain ⟨a, b, c, d, e, rfl, _⟩ := h
    rfl
  · obtain ⟨own, L, s0, e, x, rfl, PA, hg, he, hx, kk⟩ := h
    have hu := hu_of hr
    obtain ⟨op, sd, pg, fv, vv, X⟩ := id PA
    obtain ⟨dx, hp⟩ := X.pub
    refine ⟨_, PSs.nox ((pss_cons (ps_if (pt_not (pt_val (pe_meth (pv 0) T.cl_Publisher T.mt_Publisher_would_edit G_Publisher_would_edit (hr.mono (by omega)) T.b_Publisher_would_edit .nil pass0 (pa_cons (pv 1) pa_nil)))) (pss_one (ps_ret pe_bl)) pss_nil)
      (pss_cons (ps_expr (pe_meth (pv 0) T.cl_Publisher T.mt_Publisher__make G_Publisher__make (hr.mono (by omega)) T.b_Publisher__make .nil pass0 (pa_cons (pv 1) pa_nil)))
      (C8.pss_cut (ps_if (pt_cmpR op_isN (pe_fld (pv 0) rfl) pe_non (nomark _)) (pss_one (ps_expr (pe_meth0 (pv 0) T.cl_Publisher T.mt_Publisher__touch G_Publisher__touch (hr.mono (by omega)) T.b_Publisher__touch .nil pass0))) (pss_one (ps_if (pt_cmpR op_isN (pe_fld (pv 0) rfl) pe_non (nomark _)) (pss_one (ps_fld (pv 0) (pe_fld (pv 0) rfl) rfl)) pss_nil)))
      (pss_cons (ps_expr (pe_meth0 (pv 0) T.cl_Publisher T.mt_Publisher__progress G_Publisher__progress (hr.mono (by omega)) T.b_Publisher__progress .nil pass0))
      (pss_one (ps_ret pe_bl))))))), ?_⟩
    refine ⟨_, rfl, L.p, dx, _, rfl, hp, zip_none (by decide +kernel), _, rfl, own, L, s0, e, x, rfl, PA, hg, he, hx, fun H1 s1 => ⟨_, rfl, ?_⟩⟩
    have P1 := PA.same s1
    cases ha : applyEd s0.src s0.pages x with
    | none =>
      have ee : s0.edited x = s0 := by
        unfold S.edited
        rw [ha]
      rw [ee, ha] at kk
      exact ifY rfl (kk H1 P1 (fr_same s1))
    | some sp =>
      obtain ⟨src, pages⟩ := sp
      have ee : s0.edited x = (s0.made2 src pages).dirted.prog := by
        unfold S.edited
        rw [ha]
      rw [ee, ha] at kk
      obtain ⟨a1, a2⟩ := apply_g hg.src hg.pgs hx ha
      have hg2 := hg.made2 a1 a2
      refine ifN rfl ⟨_, rfl, L.p, dx, _, rfl, s1 _ _ hp, zip_none (by decide +kernel), _, rfl, own, L, s0, e, x, src, pages, rfl, P1, hg, he.keep (Same.tk s1), hx, ha, fun H2 P2 fr2 => ?_⟩
      have fr02 := (fr_same s1).trans fr2
      obtain ⟨op2, sd2, pg2, fv2, vv2, X2⟩ := id P2
      obtain ⟨dx2, hp2⟩ := X2.pub
      have hgd := hg2.dirted
      generalize s0.made2 src pages = s2 at *
      refine ⟨fun σ' H3 => σ' = [some (.ref L.p), some (.ref e)] ∧ Pub K P w own L s2.dirted H3 ∧ Fr own H H3, ?_, ?_⟩
      · refine ⟨_, rfl, L.p, _, dx2, _, _, rfl, hp2, T.cl_Publisher, T.na_Publisher__frozen, zip_look (i := 9) (pks_nd) rfl rfl, rfl, _, rfl, ?_⟩
        have hz := frz_some X2.frz
        unfold S.dirted
        cases hf : s2.frz.isSome with
        | false =>
          rw [hf] at hz
          have hfn : decide (fv2 = .non) = true := by
            cases q : decide (fv2 = .non) with
            | true => rfl
            | false => rw [q] at hz; cases hz
          refine ifY hfn ⟨_, rfl, L.p, dx2, _, rfl, hp2, zip_none (by decide +kernel), own, L, s2, rfl, P2, hg2, True.intro, fun H3 P3 fr3 => ⟨rfl, P3, fr02.trans fr3⟩⟩
        | true =>
          rw [hf] at hz
          have hfn : decide (fv2 = .non) = false := by
            cases q : decide (fv2 = .non) with
            | false => rfl
            | true => rw [q] at hz; cases hz
          refine ifN hfn ⟨_, rfl, L.p, _, dx2, _, _, rfl, hp2, T.cl_Publisher, T.na_Publisher__dirty_since, zip_look (i := 10) (pks_nd) rfl rfl, rfl, _, rfl, ?_⟩
          cases hd : s2.dirty with
          | some d => exact ifN rfl ⟨rfl, P2, fr02⟩
          | none =>
            rw [hd] at hp2
            refine ifY rfl ⟨_, rfl, L.p, _, dx2, _, _, rfl, hp2, T.cl_Publisher, T.na_Publisher__clock, zip_look (i := 1) (pks_nd) rfl rfl, _, rfl, L.p, _, dx2, _, rfl, hp2, T.cl_Publisher, T.na_Publisher__dirty_since, Nat.lt_of_le_of_lt zip_len (by decide), ?_⟩
            have e4 : putF "_dirty_since" (.int s2.clock) (pks.zip [.ref op2, .int s2.clock, .ref sd2, .ref pg2, .int s2.count, .int s2.last, .ref L.ca, .ref L.ta, .ref L.jd, fv2, oi none, vv2, .int s2.published, .int s2.made]) = pks.zip [.ref op2, .int s2.clock, .ref sd2, .ref pg2, .int s2.count, .int s2.last, .ref L.ca, .ref L.ta, .ref L.jd, fv2, .int s2.clock, vv2, .int s2.published, .int s2.made] := zip_put (i := 10) pks_nd rfl (lt14 (by decide))
            rw [e4]
            have X3 := X2.setp (s' := { s2 with dirty := some s2.clock }) (dx := dx2) rfl rfl rfl X2.opt X2.src X2.pgs X2.frz X2.ver
            exact ⟨rfl, ⟨op2, sd2, pg2, fv2, vv2, X3⟩, fr02.trans (fr_but but_upd hp2 (fun _ z => nomatch z) X2.ownp)⟩
      · rintro σ' H3 ⟨rfl, P3, fr3⟩
        obtain ⟨op3, sd3, pg3, fv3, vv3, X3⟩ := id P3
        obtain ⟨dx3, hp3⟩ := X3.pub
        exact ⟨_, rfl, L.p, dx3, _, rfl, hp3, zip_none (by decide +kernel), own, L, _, rfl, P3, hgd, pr1 _ _, fun H4 P4 fr4 => kk H4 P4 (fr3.trans fr4)⟩
end
end L2.TP
/-! zip of three tuples. -/
namespace L2.TP
open PySem PySem.Spec PyProof.Rows L2
def It3 (K : PySem.W.Frag) (a b c : Addr) : It :=
  ⟨fun i H => ∃ (xs ys zs : List V) (x y z : V), (SqT K H a xs ∧ SqT K H b ys ∧ SqT K H c zs) ∧ xs[i]? = some x ∧ ys[i]? = some y ∧ zs[i]? = some z ∧ i < xs.length,
    fun i H v H' => ∃ T x y z, v = .ref T ∧ H T = none ∧ H' = upd H T (.tup [x, y, z]) ∧ (∀ xs, SqT K H a xs → xs[i]? = some x) ∧ (∀ ys, SqT K H b ys → ys[i]? = some y) ∧ ∀ zs, SqT K H c zs → zs[i]? = some z,
    fun i H => ∃ xs ys zs : List V, (SqT K H a xs ∧ SqT K H b ys ∧ SqT K H c zs) ∧ xs.length = i ∧ ys.length = i ∧ zs.length = i⟩
theorem turn3 {P : Program} {w : World} {K : PySem.W.Frag} {elts : List Expr} {kk : Nat} {tpos : Pos} {a b c z TI TO i1 i2 i3 : Addr} (S : ZipSep3 z TI TO i1 i2 i3 [i1, a] [i2, b] [i3, c]) (n1 : a ≠ i1) (n2 : b ≠ i2) (n3 : c ≠ i3) (nz : i1 ≠ z ∧ i2 ≠ z ∧ i3 ≠ z) :
    Turn P w K (.Tuple elts kk tpos) (It3 K a b c) [z, TI, TO, i1, i2, i3] z (fun i h => IsZip h z TI TO .none ∧ IsTupOf3 h TI (.ref i1) (.ref i2) (.ref i3) ∧ (∃ x y u, IsTupOf3 h TO x y u) ∧ h.IsTupleIter i1 a i ∧ h.IsTupleIter i2 b i ∧ h.IsTupleIter i3 c i) where
  mem := by simp
  obj := fun i h st d hd => by
    obtain ⟨hz, hTI, ⟨x, y, u, hTO⟩, ⟨o1, e1, _, d1⟩, ⟨o2, e2, _, d2⟩, ⟨o3, e3, _, d3⟩⟩ := st
    have m : d = z ∨ d = TI ∨ d = TO ∨ d = i1 ∨ d = i2 ∨ d = i3 := by simpa using hd
    rcases m with q | q | q | q | q | q
    · rw [q]
      exact ⟨_, hz, (fun v e => nomatch e)⟩
    · rw [q]
      exact ⟨_, hTI, (fun v e => nomatch e)⟩
    · rw [q]
      exact ⟨_, hTO, (fun v e => nomatch e)⟩
    · rw [q]
      refine ⟨o1, e1, fun v e => ?_⟩
      rw [d1] at e
      cases e
    · rw [q]
      refine ⟨o2, e2, fun v e => ?_⟩
      rw [d2] at e
      cases e
    · rw [q]
      refine ⟨o3, e3, fun v e => ?_⟩
      rw [d3] at e
      cases e
  keep := fun i h h' st k => by
    obtain ⟨hz, hTI, ⟨x, y, u, hTO⟩, h1, h2, h3⟩ := st
    exact ⟨k z (by simp) _ hz, k TI (by simp) _ hTI, ⟨x, y, u, k TO (by simp) _ hTO⟩, h1.at fun o q => k i1 (by simp) o q, h2.at fun o q => k i2 (by simp) o q, h3.at fun o q => k i3 (by simp) o q⟩
  item := by
    intro X hP hw hK hc i pins s σ H E I hf st hg
    subst hP hw hK
    obtain ⟨hz, hTI, ⟨x0, y0, u0, hTO⟩, h1, h2, h3⟩ := st
    obtain ⟨xs, ys, zs, x, y, u, ⟨qa, qb, qc⟩, hx, hy, hu, _⟩ := hg
    obtain ⟨ia, ra, pa, _⟩ := I.tuple qa
    obtain ⟨ib, rb, pb, _⟩ := I.tuple qb
    obtain ⟨ic, rc, pc, _⟩ := I.tuple qc
    obtain ⟨va, ea, fa⟩ := ra.get hx
    obtain ⟨vb, eb, fb⟩ := rb.get hy
    obtain ⟨vc, ec, fc⟩ := rc.get hu
    have zl : z < s.heap.objs.size := Heap.lt_size hz
    have hh : X.A.in1.handled = none := by simp [I.ok.hd hc]
    have la : i < ia.toArray.size := (Array.getElem?_eq_some_iff.mp (by simpa using ea)).1
    have lb : i < ib.toArray.size := (Array.getElem?_eq_some_iff.mp (by simpa using eb)).1
    have lc : i < ic.toArray.size := (Array.getElem?_eq_some_iff.mp (by simpa using ec)).1
    refine wpAny_pyNext_zipD3_item S (Draws.tuple hh i1 a n1 ia.toArray) (Draws.tuple hh i2 b n2 ib.toArray) (Draws.tuple hh i3 c n3 ic.toArray) hz hTI hTO ⟨h1, pa⟩ ⟨h2, pb⟩ ⟨h3, pc⟩ la lb lc fun x1 x2 x3 h' tk e1 e2 e3 z' TO' s1 s2 s3 hT hsz hk => ?_
    obtain rfl : va = x1 := Option.some.inj ((show ia.toArray[i]? = some va by simpa using ea).symm.trans e1)
    obtain rfl : vb = x2 := Option.some.inj ((show ib.toArray[i]? = some vb by simpa using eb).symm.trans e2)
    obtain rfl : vc = x3 := Option.some.inj ((show ic.toArray[i]? = some vc by simpa using ec).symm.trans e3)
    refine ⟨_, rfl, wpAny_letOwnedTupleGo_zip (s := { s with heap := h', toks := tk }) z' fun hp2 z2 sb => ?_⟩
    have hT2 := (sb.2 _ (Nat.ne_of_gt zl)).trans hT
    have new : ObjOk X.prog X.w (upd H s.heap.objs.size (.tup [x, y, u])) hp2 s.heap.objs.size (.tup [x, y, u]) := ⟨(by show 3 ≤ sizeLine; decide), [va, vb, vc], .cons fa (.cons fb (.cons fc .nil)), ⟨_, hT2, rfl, _, rfl⟩⟩
    have I1 : Inv X pins σ (upd H s.heap.objs.size (.tup [x, y, u])) { s with heap := hp2, toks := tk } :=
      I.turnedNew (t' := tk) (ch := [z, TI, TO, i1, i2, i3]) (fun d o hb q => (sb.2 d fun e => hb (by simp [e])).trans (hk d o (fun e => hb (by simp [e])) (fun e => hb (by simp [e])) (fun e => hb (by simp [e])) (fun e => hb (by simp [e])) (fun e => hb (by simp [e])) q)) hf (Nat.le_refl _) new
    refine ⟨.ref s.heap.objs.size, _, I1, rfl, ⟨_, x, y, u, rfl, I.hok.fresh (Nat.le_refl _), rfl, fun l hl => by rw [I.tuple_inj hl qa]; exact hx, fun l hl => by rw [I.tuple_inj hl qb]; exact hy, fun l hl => by rw [I.tuple_inj hl qc]; exact hu⟩, ⟨z2, ?_, ⟨va, vb, vc, ?_⟩, ?_, ?_, ?_⟩, fun d hd => ?_⟩
    · exact (sb.2 _ S.TIz).trans (hk _ _ S.TIz S.TITO S.TIi1 S.TIi2 S.TIi3 hTI)
    · exact (sb.2 _ S.TOz).trans TO'
    · exact s1.1.at fun o q => (sb.2 _ nz.1).trans q
    · exact s2.1.at fun o q => (sb.2 _ nz.2.1).trans q
    · exact s3.1.at fun o q => (sb.2 _ nz.2.2).trans q
    · have m : d = z ∨ d = TI ∨ d = TO ∨ d = i1 ∨ d = i2 ∨ d = i3 := by simpa using hd
      have lt : d < s.heap.objs.size := by
        rcases m with q | q | q | q | q | q
        · exact q ▸ zl
        · exact q ▸ Heap.lt_size hTI
        · exact q ▸ Heap.lt_size hTO
        · obtain ⟨_, e9, _⟩ := h1
          rw [q]
          exact Heap.lt_size e9
        · obtain ⟨_, e9, _⟩ := h2
          rw [q]
          exact Heap.lt_size e9
        · obtain ⟨_, e9, _⟩ := h3
          rw [q]
          exact Heap.lt_size e9
      rw [upd_ne (Nat.ne_of_lt lt)]
      exact (hf d hd).1
  done := by
    intro X hP hw hK hc i pins s σ H E I hf st hg
    subst hP hw hK
    obtain ⟨hz, hTI, ⟨x0, y0, u0, hTO⟩, h1, h2, h3⟩ := st
    obtain ⟨xs, ys, zs, ⟨qa, qb, qc⟩, ea, eb, ec⟩ := hg
    obtain ⟨ia, ra, pa, _⟩ := I.tuple qa
    obtain ⟨ib, rb, pb, _⟩ := I.tuple qb
    obtain ⟨ic, rc, pc, _⟩ := I.tuple qc
    have hh : X.A.in1.handled = none := by simp [I.ok.hd hc]
    have la : ia.toArray.size = i := by rw [List.size_toArray, ← ra.length, ea]
    have lb : ib.toArray.size = i := by rw [List.size_toArray, ← rb.length, eb]
    have lc : ic.toArray.size = i := by rw [List.size_toArray, ← rc.length, ec]
    exact wpAny_pyNext_zipD3_end S (Draws.tuple hh i1 a n1 ia.toArray) (Draws.tuple hh i2 b n2 ib.toArray) (Draws.tuple hh i3 c n3 ic.toArray) hz hTI hTO ⟨h1, pa⟩ ⟨h2, pb⟩ ⟨h3, pc⟩ (by omega) (by omega) (by omega) (.inl la.symm) fun h' tk hk => ⟨rfl, I.turnedL (t' := tk) (ch := [z, TI, TO, i1, i2, i3]) (fun d o hb q =>
      hk d o (fun e => hb (by simp [e])) (fun e => hb (by simp [e])) (fun e => hb (by simp [e])) (fun e => hb (by simp [e])) (fun e => hb (by simp [e])) q) hf⟩
  self := fun A i s Q E st h => wpAny_pyIter_zip st.1 h
def iZip3 (K : PySem.W.Frag) (ta : TA) : TI := fun σ H R => ta σ H fun vs H1 => ∃ a b c xs ys zs, vs = [.ref a, .ref b, .ref c] ∧ SqT K H1 a xs ∧ SqT K H1 b ys ∧ SqT K H1 c zs ∧ R (It3 K a b c) H1
theorem pi_zip3 {X : Cx} {e1 e2 e3 : Expr} {ta : TA} {p pos tpos : Pos} {elts : List Expr} {kk : Nat} (hg : Gl X "zip") (hm : X.mg "zip" = none) (ha : PA X [e1, e2, e3] ta)
    (hs : starEach [e1, e2, e3] X.env = (false, eval e1 X.env) :: starEach [e2, e3] X.env := by rfl) (hpl : (backTo pos (starEach [e2, e3] X.env)).any (·.1) = false := by rfl) :
    PI X (.Tuple elts kk tpos) (.Call (.Name "zip" p) [e1, e2, e3] [] pos) (iZip3 X.K ta) := by
  refine ⟨fun pins s σ H R I h => ?_⟩
  refine Call_ (ld_blt I hg hm boot_zip (callWith_type1 (thn (ha.run pos pins s σ H _ I h) fun us s1 ⟨vs, H1, I1, r1, a, b, c, xs, ys, zs, ex, qa, qb, qc, q⟩ => ?_) hs hpl))
  subst ex
  cases r1 with
  | cons r rr =>
    cases rr with
    | cons r' rr =>
      cases rr with
      | cons r'' rr =>
        cases rr
        cases r
        cases r'
        cases r''
        obtain ⟨ia, ra, pa, _⟩ := I1.tuple qa
        obtain ⟨ib, rb, pb, _⟩ := I1.tuple qb
        obtain ⟨ic, rc, pc, _⟩ := I1.tuple qc
        have lt : ∀ {d its}, s1.heap.IsTuple d its → d < s1.heap.objs.size := fun ⟨o, ho, _⟩ => Heap.lt_size ho
        refine zip_begins3 (begins_tuple a ia.toArray) (begins_tuple b ib.toArray) (begins_tuple c ic.toArray) pa pb pc fun h' hz hTI hTO h1 h2 h3 hsz hk => wpAny_pyIter_zip hz ?_
        have I2 : Inv X pins σ H1 { s1 with heap := h' } := I1.kept (t' := s1.toks) hk
        have S := zip_sep3 (N := s1.heap.objs.size) (fp1 := [a]) (fp2 := [b]) (fp3 := [c]) (fun d hd => by rw [List.mem_singleton.mp hd]; exact lt pa) (fun d hd => by rw [List.mem_singleton.mp hd]; exact lt pb) (fun d hd => by rw [List.mem_singleton.mp hd]; exact lt pc)
        have far : ∀ {d} (k : Nat), d < s1.heap.objs.size → d ≠ s1.heap.objs.size + k := fun k l => Nat.ne_of_lt (Nat.lt_of_lt_of_le l (Nat.le_add_right _ _))
        have ne5 : ∀ k : Nat, k < 5 → s1.heap.objs.size + k ≠ s1.heap.objs.size + 5 := fun k l => by omega
        refine ⟨s1.heap.objs.size + 5, [s1.heap.objs.size + 5, s1.heap.objs.size + 3, s1.heap.objs.size + 4, s1.heap.objs.size, s1.heap.objs.size + 1, s1.heap.objs.size + 2], _, _, H1, rfl, I2, turn3 S (far 0 (lt pa)) (far 1 (lt pb)) (far 2 (lt pc)) ⟨ne5 0 (by decide), ne5 1 (by decide), ne5 2 (by decide)⟩, ⟨hz, hTI, ⟨_, _, _, hTO⟩, ⟨_, h1, rfl, rfl⟩, ⟨_, h2, rfl, rfl⟩, ⟨_, h3, rfl, rfl⟩⟩, fun d hd => ?_, q⟩
        have le : s1.heap.objs.size ≤ d := by
          have m : d = s1.heap.objs.size + 5 ∨ d = s1.heap.objs.size + 3 ∨ d = s1.heap.objs.size + 4 ∨ d = s1.heap.objs.size ∨ d = s1.heap.objs.size + 1 ∨ d = s1.heap.objs.size + 2 := by simpa using hd
          rcases m with z | z | z | z | z | z
          · rw [z]
            exact Nat.le_add_right _ _
          · rw [z]
            exact Nat.le_add_right _ _
          · rw [z]
            exact Nat.le_add_right _ _
          · rw [z]
            exact Nat.le_refl _
          · rw [z]
            exact Nat.le_add_right _ _
          · rw [z]
            exact Nat.le_add_right _ _
        exact I1.fpOk le (I1.hok.fresh le)
end L2.TP
/-! check_options. -/
namespace L2.TP
open PySem PySem.Spec PyProof.Rows L2
section
variable {P : Program} {w : World} {K : PySem.W.Frag} {mg : Str → Option Value} {base : Heap} {H H' : Hp}
def Opt.ints (o : Opt) : List Int := [o.together, o.unit, o.attempts, o.delay, o.delayMost, o.pause, o.wait]
def leasts : List Int := [1, 1, 1, 1, 1, 1, 1]
def mosts : List Int := [3, 100, 4, 100, 400, 200, 2000]
theorem opt_rng {o : Opt} (h : o.Ok) : ∀ i < 7, leasts.getD i 0 ≤ o.ints.getD i 0 ∧ o.ints.getD i 0 ≤ mosts.getD i 0
  | 0, _ => ⟨h.t1, h.t2⟩
  | 1, _ => ⟨h.u1, h.u2⟩
  | 2, _ => ⟨h.a1, h.a2⟩
  | 3, _ => ⟨h.d1, h.d2⟩
  | 4, _ => ⟨h.m1, h.m2⟩
  | 5, _ => ⟨h.p1, h.p2⟩
  | 6, _ => ⟨h.w1, h.w2⟩
  | n + 7, h => by omega
def spCheckO (K : PySem.W.Frag) : Sp := fun vs H Q _ => ∃ (p : Addr) (o : Opt), vs = [.ref p] ∧ SqU K H p o.vals ∧ o.Ok ∧ ∀ H', Same H H' → Q .non H'
theorem map_getI {l : List Int} {i : Nat} (h : i < l.length) : (l.map V.int)[i]? = some (.int (l.getD i 0)) := by
  rw [List.getElem?_map, List.getElem?_eq_getElem h, List.getD_eq_getElem?_getD, List.getElem?_eq_getElem h] <;> rfl
theorem ok_check_options (T : Txt w K mg) : FnOk P w K mg base CX0 1 (He.ga K "check_options") (fd_check_options K) ["options"] (spCheckO K) := by
  refine T.f_check_options.ok sc_check_options (fun vs H Q E h => ?_) (fun cdv A outer s H vs Q E hr h => ?_)
  · obtain ⟨a, b, rfl, _⟩ := h
    rfl
  · obtain ⟨p, o, rfl, hp, ho, kk⟩ := h
    have hu := hu_of hr
    refine ⟨_, PSs.nox ((pss_cons (ps_if (pt_cmpR op_ne (pe_callB call_len_seq (by rfl) T.z_len PySem.boot_len (pa_cons (pv 0) pa_nil)) (pe_callB call_len_seq (by rfl) T.z_len PySem.boot_len (pa_cons (pe_gr T.g_MOST) pa_nil)) (nomark _)) (pss_one ps_never) pss_nil)
      (pss_one (ps_for PassesOwn.never rfl (pi_zip3 rfl T.z_zip (pa_cons (pv 0) (pa_cons (pe_gr T.g_LEAST) (pa_cons (pe_gr T.g_MOST) pa_nil)))) (pg_tup (by rfl) (pgs_cons (pg_name (i := 1) sc_check_options.nd rfl (.inl rfl)) (pgs_cons (pg_name (i := 2) sc_check_options.nd rfl (.inl rfl)) (pgs_cons (pg_name (i := 3) sc_check_options.nd rfl (.inl rfl)) pgs_nil)))) (pss_one (ps_if (pt_not (pt_chain op_le op_le (pv 2) (pv 1) (pv 3))) (pss_one ps_never) pss_nil)))))), ?_⟩
    have q1 : ∀ {H2}, Same H H2 → SqT K H2 p (o.ints.map V.int) := fun s => (hp.keep (Same.tk s)).sq
    have q2 : ∀ {H2 : Hp}, SqT K H2 (He.ga K "LEAST") (leasts.map V.int) := fun {H2} => T.t_LEAST H2
    have q3 : ∀ {H2 : Hp}, SqT K H2 (He.ga K "MOST") (mosts.map V.int) := fun {H2} => T.t_MOST H2
    refine ⟨_, rfl, p, _, rfl, .inr (q1 (Same.refl H)), _, _, rfl, .inr q3, rfl, _, rfl, ifN rfl ?_⟩
    refine ⟨_, rfl, p, _, _, _, _, _, rfl, q1 (Same.refl H), q2, q3, for_any (n := 7) (fun i σ H2 => Same H H2 ∧ ∃ a b c, σ = [some (.ref p), a, b, c]) ⟨Same.refl _, _, _, _, rfl⟩ (fun i σ H2 hi pv => ?_) fun σ H2 pv => ?_⟩
    · obtain ⟨s2, a, b, c, rfl⟩ := pv
      have l1 := map_getI (l := o.ints) (i := i) hi
      have l2 := map_getI (l := leasts) (i := i) hi
      have l3 := map_getI (l := mosts) (i := i) hi
      refine ⟨⟨_, _, _, _, _, _, ⟨q1 s2, q2, q3⟩, l1, l2, l3, hi⟩, fun x H3 hy => ?_⟩
      obtain ⟨T', x1, x2, x3, rfl, hT, rfl, e1, e2, e3⟩ := hy
      obtain rfl : .int (o.ints.getD i 0) = x1 := Option.some.inj (l1.symm.trans (e1 _ (q1 s2)))
      obtain rfl : .int (leasts.getD i 0) = x2 := Option.some.inj (l2.symm.trans (e2 _ q2))
      obtain rfl : .int (mosts.getD i 0) = x3 := Option.some.inj (l3.symm.trans (e3 _ q3))
      obtain ⟨r1, r2⟩ := opt_rng ho i hi
      refine ⟨_, _, rfl, sqT_of upd_same, rfl, _, _, rfl, _, _, rfl, _, _, rfl, rfl, ?_⟩
      refine ⟨_, rfl, _, rfl, _, _, rfl, rfl, _, rfl, ifY (dT r1) ⟨_, rfl, _, _, rfl, rfl, _, rfl, ?_⟩⟩
      refine ifN (by rw [dT r2] <;> rfl) ⟨s2.trans (same_new hT), _, _, _, rfl⟩
    · obtain ⟨s2, a, b, c, rfl⟩ := pv
      exact ⟨⟨_, _, _, ⟨q1 s2, q2, q3⟩, rfl, rfl, rfl⟩, kk _ s2⟩
end
end L2.TP
/-! Publisher's maker. -/
namespace L2.TP
open PySem PySem.Spec PyProof.Rows L2
section
variable {P : Program} {w : World} {K : PySem.W.Frag} {mg : Str → Option Value} {base : Heap} {H H' : Hp}
theorem init_step {Hk : Hp} {x C dx : Addr} {vs : List V} {f : Str} {v : V} {n : Nat} (h : Hk x = some (.ins C dx (pks.zip vs))) (hn : vs.length = n) (h1 : f ∉ pks.take n) (h2 : pks[n]? = some f) :
    ∃ H', upd Hk x (.ins C dx (putF f v (pks.zip vs))) = H' ∧ But x Hk H' ∧ H' x = some (.ins C dx (pks.zip (vs ++ [v]))) := by
  subst hn
  refine ⟨_, rfl, but_upd, ?_⟩
  rw [upd_same, zip_new h1 h2]
def S.init (o : Opt) : S := { o := o, clock := 0, src := [], pages := [], count := 0, last := 0, cache := [], tms := [], jobs := [], frz := none, dirty := none, ver := ⟨0, 0, 0, [], []⟩, published := 0, made := 0 }
def spInit (K : PySem.W.Frag) (P : Program) (w : World) : Sp := fun vs H Q _ => ∃ (own : Addr → Prop) (x dx op : Addr) (o : Opt), vs = [.ref x, .ref op, .int 0] ∧ H x = some (.ins (He.ga K "Publisher") dx (pks.zip [])) ∧ SqU K H op o.vals ∧ o.Ok ∧ own x ∧ (∀ b, H b = none → own b) ∧
  ∀ H' L, L.p = x → Pub K P w own L (S.init o) H' → But x H H' → Q .non H'
theorem ok_init (T : Txt w K mg) : FnOk P w K mg base CX0 3 (He.ma K (He.ga K "Publisher") "__init__") (fd_Publisher___init__ K) ["self", "options", "clock"] (spInit K P w) := by
  have G_check_options := ok_check_options (P := P) (base := base) T
  have G_Cache___init__ := ok_cache_init (P := P) (base := base) T
  have G_Timers___init__ := ok_timers_init (P := P) (base := base) T
  refine T.f_Publisher___init__.ok sc_Publisher___init__ (fun vs H Q E h => ?_) (fun cdv A outer s H vs Q E hr h => ?_)
  · obtain ⟨a, b, c, d, e, rfl, _⟩ := h
    rfl
  · obtain ⟨own, x, dx, op, o, rfl, hx, hop, ho, hox, hfr, kk⟩ := h
    have hu := hu_of hr
    refine ⟨_, PSs.nox ((pss_cons (ps_expr (pe_call G_check_options (hr.mono (by omega)) (by rfl) T.g_check_options T.f_check_options.kp T.b_check_options .nil pass0 (pa_cons (pv 1) pa_nil)))
      (pss_cons (ps_fld (pv 0) (pe_callTy call_tuple_of (by rfl) T.z_tuple (by decide +kernel) (pa_cons (pv 1) pa_nil)) rfl)
      (pss_cons (ps_fld (pv 0) (pv 2) rfl)
      (pss_cons (ps_fld (pv 0) pe_dnewK rfl)
      (pss_cons (ps_fld (pv 0) (pe_tup pa_nil) rfl)
      (pss_cons (ps_fld (pv 0) pe_int rfl)
      (pss_cons (ps_fld (pv 0) (pv 2) rfl)
      (pss_cons (ps_fld (pv 0) (pe_make0 T.mk_Cache G_Cache___init__ (hr.mono (by omega)) rfl T.g_Cache T.b_Cache___init__ .nil pass0) rfl)
      (pss_cons (ps_fld (pv 0) (pe_make0 T.mk_Timers G_Timers___init__ (hr.mono (by omega)) rfl T.g_Timers T.b_Timers___init__ .nil pass0) rfl)
      (pss_cons (ps_fld (pv 0) pe_dnewK rfl)
      (pss_cons (ps_fld (pv 0) pe_non rfl)
      (pss_cons (ps_fld (pv 0) pe_non rfl)
      (pss_cons (ps_fld (pv 0) (pe_tup (pa_cons pe_int (pa_cons pe_int (pa_cons (pv 2) (pa_cons (pe_tup pa_nil) (pa_cons (pe_tup pa_nil) pa_nil)))))) rfl)
      (pss_cons (ps_fld (pv 0) pe_int rfl)
      (pss_one (ps_fld (pv 0) pe_int rfl))))))))))))))))), ?_⟩
    refine ⟨_, rfl, op, o, rfl, hop, ho, fun H0 s0 => ?_⟩
    have hx0 := s0 _ _ hx
    refine ⟨_, rfl, op, _, rfl, .inr ⟨(hop.keep (Same.tk s0)).sq, _, rfl, x, _, dx, _, rfl, hx0, T.cl_Publisher, T.na_Publisher__options, Nat.lt_of_le_of_lt zip_len (by decide), ?_⟩⟩
    obtain ⟨H1, e1, b1, hx1⟩ := init_step (n := 0) (f := "_options") (v := .ref op) hx0 rfl (by decide +kernel) rfl
    rw [e1]
    refine ⟨_, rfl, _, rfl, x, _, dx, _, rfl, hx1, T.cl_Publisher, T.na_Publisher__clock, Nat.lt_of_le_of_lt zip_len (by decide), ?_⟩
    obtain ⟨H2, e2, b2, hx2⟩ := init_step (n := 1) (f := "_clock") (v := .int 0) hx1 rfl (by decide +kernel) rfl
    rw [e2]
    intro sd hsd
    have ssd := same_new hsd (o := .dK [])
    have hxP2 := ssd _ _ hx2
    refine ⟨_, rfl, x, _, dx, _, rfl, hxP2, T.cl_Publisher, T.na_Publisher__sources, Nat.lt_of_le_of_lt zip_len (by decide), ?_⟩
    obtain ⟨H3, e3, b3, hx3⟩ := init_step (n := 2) (f := "_sources") (v := .ref sd) hxP2 rfl (by decide +kernel) rfl
    rw [e3]
    have atsd := b3 _ _ (ne_of_none' hsd hx2) (upd_same (H := H2) (a := sd) (o := .dK []))
    refine ⟨Nat.zero_le _, fun pg hpg => ?_⟩
    have spg := same_new hpg (o := .tup [])
    have hxP3 := spg _ _ hx3
    refine ⟨_, rfl, x, _, dx, _, rfl, hxP3, T.cl_Publisher, T.na_Publisher__pages, Nat.lt_of_le_of_lt zip_len (by decide), ?_⟩
    obtain ⟨H4, e4, b4, hx4⟩ := init_step (n := 3) (f := "_pages") (v := .ref pg) hxP3 rfl (by decide +kernel) rfl
    rw [e4]
    have atpg := b4 _ _ (ne_of_none' hpg hx3) (upd_same (H := H3) (a := pg) (o := .tup []))
    refine ⟨_, rfl, x, _, dx, _, rfl, hx4, T.cl_Publisher, T.na_Publisher__count, Nat.lt_of_le_of_lt zip_len (by decide), ?_⟩
    obtain ⟨H5, e5, b5, hx5⟩ := init_step (n := 4) (f := "_count") (v := .int 0) hx4 rfl (by decide +kernel) rfl
    rw [e5]
    refine ⟨_, rfl, _, rfl, x, _, dx, _, rfl, hx5, T.cl_Publisher, T.na_Publisher__last_edit, Nat.lt_of_le_of_lt zip_len (by decide), ?_⟩
    obtain ⟨H6, e6, b6, hx6⟩ := init_step (n := 5) (f := "_last_edit") (v := .int 0) hx5 rfl (by decide +kernel) rfl
    rw [e6]
    intro ca cax c1ca c2 c3
    refine ⟨ca, cax, rfl, upd_same, fun cd hcd => ⟨rfl, ?_⟩⟩
    have t1ca := same_make (C := He.ga K "Cache") c1ca c2 c3
    have t2ca := t1ca.trans (same_new hcd (o := .dK []))
    have sca := same_mut t2ca c1ca (o := .ins (He.ga K "Cache") cax [("_renderings", .ref cd)])
    have hxP6 := sca _ _ hx6
    have ncd : cd ≠ ca := ne_of_none' hcd upd_same
    refine ⟨_, rfl, x, _, dx, _, rfl, hxP6, T.cl_Publisher, T.na_Publisher__cache, Nat.lt_of_le_of_lt zip_len (by decide), ?_⟩
    obtain ⟨H7, e7, b7, hx7⟩ := init_step (n := 6) (f := "_cache") (v := .ref ca) hxP6 rfl (by decide +kernel) rfl
    rw [e7]
    have atca := b7 _ _ (ne_of_none' c1ca hx6) (upd_same (a := ca) (o := .ins (He.ga K "Cache") cax [("_renderings", .ref cd)]))
    have atcd := b7 _ _ (ne_of_none' (none_same t1ca hcd) hx6) (but_upd (a := ca) (o := .ins (He.ga K "Cache") cax [("_renderings", .ref cd)]) _ _ ncd (upd_same (a := cd) (o := .dK [])))
    intro ta tax c1ta c2 c3
    refine ⟨ta, tax, rfl, upd_same, fun td htd => ⟨rfl, ?_⟩⟩
    have t1ta := same_make (C := He.ga K "Timers") c1ta c2 c3
    have t2ta := t1ta.trans (same_new htd (o := tdO P w td []))
    have sta := same_mut t2ta c1ta (o := .ins (He.ga K "Timers") tax [("_due", .ref td)])
    have hxP7 := sta _ _ hx7
    have ntd : td ≠ ta := ne_of_none' htd upd_same
    refine ⟨_, rfl, x, _, dx, _, rfl, hxP7, T.cl_Publisher, T.na_Publisher__timers, Nat.lt_of_le_of_lt zip_len (by decide), ?_⟩
    obtain ⟨H8, e8, b8, hx8⟩ := init_step (n := 7) (f := "_timers") (v := .ref ta) hxP7 rfl (by decide +kernel) rfl
    rw [e8]
    have atta := b8 _ _ (ne_of_none' c1ta hx7) (upd_same (a := ta) (o := .ins (He.ga K "Timers") tax [("_due", .ref td)]))
    have attd := b8 _ _ (ne_of_none' (none_same t1ta htd) hx7) (but_upd (a := ta) (o := .ins (He.ga K "Timers") tax [("_due", .ref td)]) _ _ ntd (upd_same (a := td) (o := tdO P w td [])))
    intro jd hjd
    have sjd := same_new hjd (o := .dK [])
    have hxP8 := sjd _ _ hx8
    refine ⟨_, rfl, x, _, dx, _, rfl, hxP8, T.cl_Publisher, T.na_Publisher__jobs, Nat.lt_of_le_of_lt zip_len (by decide), ?_⟩
    obtain ⟨H9, e9, b9, hx9⟩ := init_step (n := 8) (f := "_jobs") (v := .ref jd) hxP8 rfl (by decide +kernel) rfl
    rw [e9]
    have atjd := b9 _ _ (ne_of_none' hjd hx8) (upd_same (H := H8) (a := jd) (o := .dK []))
    refine ⟨_, rfl, x, _, dx, _, rfl, hx9, T.cl_Publisher, T.na_Publisher__frozen, Nat.lt_of_le_of_lt zip_len (by decide), ?_⟩
    obtain ⟨H10, e10, b10, hx10⟩ := init_step (n := 9) (f := "_frozen") (v := .non) hx9 rfl (by decide +kernel) rfl
    rw [e10]
    refine ⟨_, rfl, x, _, dx, _, rfl, hx10, T.cl_Publisher, T.na_Publisher__dirty_since, Nat.lt_of_le_of_lt zip_len (by decide), ?_⟩
    obtain ⟨H11, e11, b11, hx11⟩ := init_step (n := 10) (f := "_dirty_since") (v := .non) hx10 rfl (by decide +kernel) rfl
    rw [e11]
    refine ⟨_, rfl, Nat.zero_le _, fun z1 hz1 => ⟨Nat.zero_le _, fun z2 hz2 => ⟨le5, fun z3 hz3 => ?_⟩⟩⟩
    have sz1 := same_new hz1 (o := .tup [])
    have sz2 := same_new hz2 (o := .tup [])
    have sz3 := same_new hz3 (o := .tup [.int 0, .int 0, .int 0, .ref z1, .ref z2])
    have sve := (sz1.trans sz2).trans sz3
    have hxP11 := sve _ _ hx11
    refine ⟨_, rfl, x, _, dx, _, rfl, hxP11, T.cl_Publisher, T.na_Publisher__version, Nat.lt_of_le_of_lt zip_len (by decide), ?_⟩
    obtain ⟨H12, e12, b12, hx12⟩ := init_step (n := 11) (f := "_version") (v := .ref z3) hxP11 rfl (by decide +kernel) rfl
    rw [e12]
    have hver : Dt K H12 (.ref z3) (encV ⟨0, 0, 0, [], []⟩) := by
      have tk := but_tk b12 hxP11 (fun _ z => nomatch z)
      refine .tup (tk _ _ upd_same) (.cons .int (.cons .int (.cons .int (.cons (.tup (tk _ _ (sz3 _ _ (sz2 _ _ upd_same))) .nil) (.cons (.tup (tk _ _ (sz3 _ _ upd_same)) .nil) .nil)))))
    refine ⟨_, rfl, x, _, dx, _, rfl, hx12, T.cl_Publisher, T.na_Publisher__published, Nat.lt_of_le_of_lt zip_len (by decide), ?_⟩
    obtain ⟨H13, e13, b13, hx13⟩ := init_step (n := 12) (f := "_published") (v := .int 0) hx12 rfl (by decide +kernel) rfl
    rw [e13]
    refine ⟨_, rfl, x, _, dx, _, rfl, hx13, T.cl_Publisher, T.na_Publisher__attempts_made, Nat.lt_of_le_of_lt zip_len (by decide), ?_⟩
    obtain ⟨H14, e14, b14, hx14⟩ := init_step (n := 13) (f := "_attempts_made") (v := .int 0) hx13 rfl (by decide +kernel) rfl
    rw [e14]
    have c2 : But x H1 H2 := b2
    have c3 : But x H2 H3 := (but_same ssd).trans b3
    have c4 : But x H3 H4 := (but_same spg).trans b4
    have c5 : But x H4 H5 := b5
    have c6 : But x H5 H6 := b6
    have c7 : But x H6 H7 := (but_same sca).trans b7
    have c8 : But x H7 H8 := (but_same sta).trans b8
    have c9 : But x H8 H9 := (but_same sjd).trans b9
    have c10 : But x H9 H10 := b10
    have c11 : But x H10 H11 := b11
    have c12 : But x H11 H12 := (but_same sve).trans b12
    have c13 : But x H12 H13 := b13
    have c14 : But x H13 H14 := b14
    have d14 : But x H14 H14 := But.refl _ _
    have d13 : But x H13 H14 := c14.trans d14
    have d12 : But x H12 H14 := c13.trans d13
    have d11 : But x H11 H14 := c12.trans d12
    have d10 : But x H10 H14 := c11.trans d11
    have d9 : But x H9 H14 := c10.trans d10
    have d8 : But x H8 H14 := c9.trans d9
    have d7 : But x H7 H14 := c8.trans d8
    have d6 : But x H6 H14 := c7.trans d7
    have d5 : But x H5 H14 := c6.trans d6
    have d4 : But x H4 H14 := c5.trans d5
    have d3 : But x H3 H14 := c4.trans d4
    have d2 : But x H2 H14 := c3.trans d3
    have d1 : But x H1 H14 := c2.trans d2
    have f1 : But x H H1 := (but_same s0).trans b1
    have f2 : But x H H2 := f1.trans c2
    have f3 : But x H H3 := f2.trans c3
    have f4 : But x H H4 := f3.trans c4
    have f5 : But x H H5 := f4.trans c5
    have f6 : But x H H6 := f5.trans c6
    have f7 : But x H H7 := f6.trans c7
    have f8 : But x H H8 := f7.trans c8
    have f9 : But x H H9 := f8.trans c9
    have f10 : But x H H10 := f9.trans c10
    have f11 : But x H H11 := f10.trans c11
    have f12 : But x H H12 := f11.trans c12
    have f13 : But x H H13 := f12.trans c13
    have f14 : But x H H14 := f13.trans c14
    have ns : ∀ {a o}, x = a → H x = some o → a = x := fun e _ => e.symm
    have osd : own sd := hfr _ (none_but f2 hx2 hsd)
    have oca : own ca := hfr _ (none_but f6 hx6 c1ca)
    have ocd : own cd := hfr _ (none_but f6 hx6 (none_same t1ca hcd))
    have ota : own ta := hfr _ (none_but f7 hx7 c1ta)
    have otd : own td := hfr _ (none_but f7 hx7 (none_same t1ta htd))
    have ojd : own jd := hfr _ (none_but f8 hx8 hjd)
    have xsd : sd ≠ x := ne_of_none' hsd hx2
    have xpg : pg ≠ x := ne_of_none' hpg hx3
    have xca : ca ≠ x := ne_of_none' c1ca hx6
    have xcd : cd ≠ x := ne_of_none' (none_same t1ca hcd) hx6
    have xta : ta ≠ x := ne_of_none' c1ta hx7
    have xtd : td ≠ x := ne_of_none' (none_same t1ta htd) hx7
    have xjd : jd ≠ x := ne_of_none' hjd hx8
    have sd6 : H6 sd = some (.dK []) := c6 _ _ xsd (c5 _ _ xsd (c4 _ _ xsd atsd))
    have sd8 : H8 sd = some (.dK []) := c8 _ _ xsd (c7 _ _ xsd sd6)
    have n1 : sd ≠ cd := ne_of_none sd6 (none_same t1ca hcd)
    have n2 : sd ≠ jd := ne_of_none sd8 hjd
    have n3 : cd ≠ jd := ne_of_none (c8 _ _ xcd atcd) hjd
    have hvx : Dt K H14 (.ref z3) (encV ⟨0, 0, 0, [], []⟩) := hver.keep (but_tk d12 hx12 (fun _ z => nomatch z))
    have tkH : TK' H H14 := but_tk f14 hx (fun _ z => nomatch z)
    have hpgx : SqU K H14 pg [] := squ_of (d4 _ _ xpg atpg)
    refine kk H14 ⟨x, ca, cd, ta, td, jd⟩ rfl ⟨op, sd, pg, .non, .ref z3, ?_⟩ f14
    exact { fresh := fun b q => hfr b (none_but f14 hx14 q), ne := n3, ownp := hox, pub := ⟨dx, hx14⟩, opt := hop.keep tkH, src := ⟨⟨osd, n1, n2⟩, [], d3 _ _ xsd atsd, .nil⟩, pgs := hpgx, oca := oca, cch := ⟨cax, d7 _ _ xca atca⟩,
            atc := ⟨ocd, [], d7 _ _ xcd atcd, .nil⟩, ota := ota, tmr := ⟨tax, d8 _ _ xta atta⟩, att := ⟨otd, [], d8 _ _ xtd attd, .nil⟩, atj := ⟨ojd, [], d9 _ _ xjd atjd, .nil, List.nodup_nil⟩, frz := rfl, ver := hvx }
end
end L2.TP
/-! The law's draws. -/
namespace L2.TP
open PySem PySem.Spec PyProof.Rows L2
section
variable {P : Program} {w : World} {K : PySem.W.Frag} {mg : Str → Option Value} {base : Heap} {H H' : Hp}
/-- the box: the digits, the place -/
def BoxAt (D : Addr → Prop) (H : Hp) (b : Addr) : Prop := ∃ (dl : Addr) (ds : List Int) (n : Nat), D dl ∧ H b = some (.lst [.ref dl, .int n]) ∧ H dl = some (.lst (ds.map V.int)) ∧ dl ≠ b ∧ ds.length ≤ 100000
theorem BoxAt.keep {D : Addr → Prop} {b : Addr} (h : BoxAt D H b) (k : ∀ a xs, H a = some (.lst xs) → H' a = some (.lst xs)) : BoxAt D H' b := by
  obtain ⟨dl, ds, n, h0, h1, h2, h3, h4⟩ := h
  exact ⟨dl, ds, n, h0, k _ _ h1, k _ _ h2, h3, h4⟩
theorem box_at {D : Addr → Prop} {b : Addr} (h : BoxAt D H b) : ∃ xs, H b = some (.lst xs) := let ⟨_, _, _, _, h1, _⟩ := h; ⟨_, h1⟩
def spDraw (K : PySem.W.Frag) : Sp := fun vs H Q _ => ∃ (D : Addr → Prop) (b : Addr) (m : Int), vs = [.ref b, .int m] ∧ BoxAt D H b ∧ 0 < m ∧ ∀ H' n, But b H H' → BoxAt D H' b → 0 ≤ n → n < m → Q (.int n) H'
theorem ok_draw (T : Txt w K mg) : FnOk P w K mg base CX0 1 (He.ga K "_law_draw") (fd__law_draw K) ["_law_box", "_law_many"] (spDraw K) := by
  refine T.f__law_draw.ok sc__law_draw (fun vs H Q E h => ?_) (fun cdv A outer s H vs Q E hr h => ?_)
  · obtain ⟨_, a, b, rfl, _⟩ := h
    rfl
  · obtain ⟨D, b, m, rfl, ⟨dl, ds, n, hD, h1, h2, h3, h4⟩, hm, kk⟩ := h
    have hu := hu_of hr
    refine ⟨_, PSs.nox ((pss_cons (ps_set (i := 2) sc__law_draw.nd rfl (.inl rfl) (pe_ix ix_list (pv 0) pe_int (fun _ _ => rfl)))
      (pss_cons (ps_asg (pe_op op_add (pv 2) pe_int) (pg_sub (pv 0) pe_int set_list))
      (pss_cons (ps_if (pt_cmpR op_lt (pv 2) (pe_callB call_len_seq (by rfl) T.z_len PySem.boot_len (pa_cons (pe_ix ix_list (pv 0) pe_int (fun _ _ => rfl)) pa_nil)) (nomark _)) (pss_one (ps_ret (pe_op op_mod (pe_callTy call_int1 (by rfl) T.z_int (by decide +kernel) (pa_cons (pe_ix ix_list (pe_ix ix_list (pv 0) pe_int (fun _ _ => rfl)) (pv 2) (fun _ _ => rfl)) pa_nil)) (pv 1)))) pss_nil)
      (pss_one (ps_ret (pe_op op_mod (pe_callTy call_int1 (by rfl) T.z_int (by decide +kernel) (pa_cons (pe_op op_add (pe_op op_mul (pv 2) pe_int) pe_int) pa_nil)) (pv 1)))))))), ?_⟩
    refine ⟨_, rfl, _, _, _, _, rfl, rfl, sqL_of h1, at1, ?_⟩
    refine ⟨_, rfl, _, _, rfl, rfl, _, rfl, b, _, 1, 1, rfl, rfl, h1, rfl, ?_⟩
    have b1 : But b H (upd H b (.lst [.ref dl, .int ((n : Int) + 1)])) := but_upd
    have hb1 := upd_same (H := H) (a := b) (o := .lst [.ref dl, .int ((n : Int) + 1)])
    have h2' := b1 _ _ h3 h2
    have hbox : BoxAt D (upd H b (.lst [.ref dl, .int ((n : Int) + 1)])) b := ⟨dl, ds, n + 1, hD, hb1, h2', h3, h4⟩
    refine ⟨_, rfl, _, rfl, _, _, _, _, rfl, rfl, sqL_of hb1, at0, dl, _, rfl, .inl (sqL_of h2'), _, _, rfl, rfl, _, rfl, ?_⟩
    have hlen : (ds.map V.int).length = ds.length := List.length_map ..
    by_cases hlt : n < ds.length
    · have hi : (ds.map V.int)[n]? = some (.int ds[n]) := by rw [List.getElem?_map, List.getElem?_eq_getElem hlt] <;> rfl
      refine ifY (dT (by rw [hlen]; omega)) ⟨_, rfl, _, _, _, _, rfl, rfl, sqL_of hb1, at0, _, rfl, _, _, _, _, rfl, rfl, sqL_of h2', atI_nat hi, .inl ⟨_, rfl, _, rfl, _, _, rfl, rfl, hm, ?_⟩⟩
      exact kk _ _ b1 hbox (Int.emod_nonneg _ (by omega)) (Int.emod_lt_of_pos _ hm)
    · refine ifN (dF (by rw [hlen]; omega)) ⟨_, rfl, _, _, rfl, rfl, .inr ⟨by decide, by decide⟩, _, _, rfl, rfl, .inl ⟨_, rfl, _, rfl, _, _, rfl, rfl, hm, ?_⟩⟩
      exact kk _ _ b1 hbox (Int.emod_nonneg _ (by omega)) (Int.emod_lt_of_pos _ hm)
/-- the k-th of a short list -/
theorem at_drawn {xs : List V} {n : Int} (h0 : 0 ≤ n) (h1 : n < xs.length) : ∃ v ∈ xs, atI xs n = some v := by
  obtain ⟨k, rfl⟩ := Int.eq_ofNat_of_zero_le h0
  have hk : k < xs.length := by omega
  exact ⟨xs[k], List.getElem_mem hk, atI_nat (List.getElem?_eq_getElem hk)⟩
def spName (K : PySem.W.Frag) : Sp := fun vs H Q _ => ∃ (D : Addr → Prop) (b : Addr), vs = [.ref b] ∧ BoxAt D H b ∧ ∀ H' n, But b H H' → BoxAt D H' b → n ∈ LN → Q (.str n) H'
theorem ok_name (T : Txt w K mg) : FnOk P w K mg base CX0 2 (He.ga K "_law_name") (fd__law_name K) ["_law_box"] (spName K) := by
  have G__law_draw := ok_draw (P := P) (base := base) T
  refine T.f__law_name.ok sc__law_name (fun vs H Q E h => ?_) (fun cdv A outer s H vs Q E hr h => ?_)
  · obtain ⟨_, a, rfl, _⟩ := h
    rfl
  · obtain ⟨D, b, rfl, hb, kk⟩ := h
    have hu := hu_of hr
    refine ⟨_, PSs.nox ((pss_one (ps_ret (pe_ix ix_list (pe_lst (pa_cons pe_str (pa_cons pe_str (pa_cons pe_str (pa_cons pe_str (pa_cons pe_str (pa_cons pe_str (pa_cons pe_str (pa_cons pe_str pa_nil))))))))) (pe_call G__law_draw (hr.mono (by omega)) (by rfl) T.g__law_draw T.f__law_draw.kp T.b__law_draw .nil pass0 (pa_cons (pv 0) (pa_cons pe_int pa_nil))) (fun _ _ => rfl))))), ?_⟩
    refine ⟨small5 (by decide +kernel), fun l hl => ⟨_, rfl, ?_⟩⟩
    have s1 := same_new hl (o := .lst (LN.map V.str))
    have hb1 : BoxAt D (upd H l (.lst (LN.map V.str))) b := hb.keep fun a xs e => s1 _ _ e
    refine ⟨D, b, 8, rfl, hb1, by decide, fun H2 n b2 hb2 h0 h1 => ?_⟩
    obtain ⟨xs, hbx⟩ := box_at hb
    have hl2 : H2 l = some (.lst (LN.map V.str)) := b2 _ _ (ne_of_none' hl hbx) upd_same
    obtain ⟨v, hv, hat⟩ := at_drawn (xs := LN.map V.str) h0 h1
    obtain ⟨m, hm, rfl⟩ := List.mem_map.mp hv
    exact ⟨l, _, n, _, rfl, rfl, sqL_of hl2, hat, kk H2 m ((but_same s1).trans b2) hb2 hm⟩
end
end L2.TP
/-! The law's digits, options, ticks. -/
namespace L2.TP
open PySem PySem.Spec PyProof.Rows L2
section
variable {P : Program} {w : World} {K : PySem.W.Frag} {mg : Str → Option Value} {base : Heap} {H H' : Hp}
def spCell (K : PySem.W.Frag) : Sp := fun vs H Q _ => ∃ (p : Addr) (ns : List Int) (k : Nat), vs = [.ref p, .int k] ∧ SqL K H p (ns.map V.int) ∧ ∀ i, Q (.int i) H
theorem ok_cell (T : Txt w K mg) : FnOk P w K mg base CX0 1 (He.ga K "_law_cell") (fd__law_cell K) ["_law_script", "_law_k"] (spCell K) := by
  refine T.f__law_cell.ok sc__law_cell (fun vs H Q E h => ?_) (fun cdv A outer s H vs Q E hr h => ?_)
  · obtain ⟨a, b, c, rfl, _⟩ := h
    rfl
  · obtain ⟨p, ns, k, rfl, hp, kk⟩ := h
    have hu := hu_of hr
    refine ⟨_, PSs.nox ((pss_cons (ps_if (pt_cmpR op_lt (pv 1) (pe_callB call_len_seq (by rfl) T.z_len PySem.boot_len (pa_cons (pv 0) pa_nil)) (nomark _)) (pss_one (ps_ret (pe_ix ix_list (pv 0) (pv 1) (fun _ _ => rfl)))) pss_nil)
      (pss_one (ps_ret pe_int)))), ?_⟩
    have hlen : (ns.map V.int).length = ns.length := List.length_map ..
    refine ⟨_, rfl, _, rfl, p, _, rfl, .inl hp, _, _, rfl, rfl, _, rfl, ?_⟩
    by_cases hlt : k < ns.length
    · have hi : (ns.map V.int)[k]? = some (.int ns[k]) := by rw [List.getElem?_map, List.getElem?_eq_getElem hlt] <;> rfl
      exact ifY (dT (by rw [hlen]; omega)) ⟨_, rfl, _, rfl, _, _, _, _, rfl, rfl, hp, atI_nat hi, kk _⟩
    · exact ifN (dF (by rw [hlen]; omega)) (kk _)
def spDigits (K : PySem.W.Frag) : Sp := fun vs H Q _ => ∃ (p : Addr) (ns : List Int), vs = [.ref p, .int 0, .int 63] ∧ SqL K H p (ns.map V.int) ∧ (∀ H2, Same H H2 → SqL K H2 p (ns.map V.int)) ∧ ∀ H' dl ds, Same H H' → H dl = none → H' dl = some (.lst (List.map V.int ds)) → ds.length ≤ 100000 → Q (.ref dl) H'
theorem ok_digits (T : Txt w K mg) : FnOk P w K mg base CX0 2 (He.ga K "_law_digits") (fd__law_digits K) ["_law_script", "_law_first", "_law_last"] (spDigits K) := by
  have G__law_cell := ok_cell (P := P) (base := base) T
  refine T.f__law_digits.ok sc__law_digits (fun vs H Q E h => ?_) (fun cdv A outer s H vs Q E hr h => ?_)
  · obtain ⟨a, b, rfl, _⟩ := h
    rfl
  · obtain ⟨p, ns, rfl, hp, hps, kk⟩ := h
    have hu := hu_of hr
    refine ⟨_, PSs.nox ((pss_cons (ps_set (i := 3) sc__law_digits.nd rfl (.inl rfl) (pe_lst pa_nil))
      (pss_cons (ps_for PassesOwn.never rfl (pi_range2 rfl T.z_range (pa_cons (pv 1) (pa_cons (pv 2) pa_nil))) (pg_name (i := 4) sc__law_digits.nd rfl (.inl rfl)) (pss_cons (ps_set (i := 5) sc__law_digits.nd rfl (.inl rfl) (pe_call G__law_cell (hr.mono (by omega)) (by rfl) T.g__law_cell T.f__law_cell.kp T.b__law_cell .nil pass0 (pa_cons (pv 0) (pa_cons (pv 4) pa_nil))))
      (C8.pss_cut (ps_if (pt_cmpR op_lt (pv 5) pe_int (nomark _)) (pss_one (ps_set (i := 5) sc__law_digits.nd rfl (.inl rfl) (pe_op op_sub pe_int (pe_op op_mul pe_int (pv 5))))) pss_nil)
      (pss_one (ps_if (pt_cmpR op_ge (pv 5) pe_int (nomark _)) (pss_one (ps_for PassesOwn.never rfl (pi_range1 rfl T.z_range (pa_cons pe_int pa_nil)) (pg_name (i := 6) sc__law_digits.nd rfl (.inl rfl)) (pss_one (ps_if (pt_cmpR op_gt (pv 5) pe_int (nomark _)) (pss_cons (ps_expr (pe_bm PySem.F.plainAttrs_list PySem.F.slot_list_append PySem.F.type_list_append mt_append (pv 3) (pa_cons (pe_op op_mod (pe_callTy call_int1 (by rfl) T.z_int (by decide +kernel) (pa_cons (pv 5) pa_nil)) pe_int) pa_nil)))
      (pss_one (ps_set (i := 5) sc__law_digits.nd rfl (.inl rfl) (pe_op op_fdiv (pv 5) pe_int)))) pss_nil)))) (pss_cons (ps_set (i := 7) sc__law_digits.nd rfl (.inl rfl) (pe_op op_mod (pe_callTy call_int1 (by rfl) T.z_int (by decide +kernel) (pa_cons (pe_op op_add (pe_op op_add (pe_op op_mul (pv 5) pe_int) (pe_op op_mul (pv 4) pe_int)) pe_int) pa_nil)) pe_int))
      (pss_one (ps_for PassesOwn.never rfl (pi_range1 rfl T.z_range (pa_cons pe_int pa_nil)) (pg_name (i := 6) sc__law_digits.nd rfl (.inl rfl)) (pss_cons (ps_set (i := 7) sc__law_digits.nd rfl (.inl rfl) (pe_op op_mod (pe_callTy call_int1 (by rfl) T.z_int (by decide +kernel) (pa_cons (pe_op op_add (pe_op op_add (pe_op op_mul (pv 7) pe_int) (pe_op op_mul pe_int (pv 6))) pe_int) pa_nil)) pe_int))
      (pss_one (ps_expr (pe_bm PySem.F.plainAttrs_list PySem.F.slot_list_append PySem.F.type_list_append mt_append (pv 3) (pa_cons (pe_op op_mod (pe_callTy call_int1 (by rfl) T.z_int (by decide +kernel) (pa_cons (pe_op op_fdiv (pv 7) pe_int) pa_nil)) pe_int) pa_nil)))))))))))))
      (pss_one (ps_ret (pv 3)))))), ?_⟩
    refine ⟨Nat.zero_le _, fun dl hdl => ?_⟩
    refine ⟨_, rfl, _, rfl, _, _, rfl, ⟨by decide, by decide, by decide, by decide⟩, ?_⟩
    refine for_any (n := 63) (fun i σ H2 => ∃ (ds : List Int) (b4 b5 b6 b7 : Option V), σ = [some (.ref p), some (.int 0), some (.int 63), some (.ref dl), b4, b5, b6, b7] ∧ Same H H2 ∧ H2 dl = some (.lst (ds.map V.int)) ∧ ds.length ≤ 60 * i) ⟨[], _, _, _, _, rfl, same_new hdl, upd_same, Nat.le_refl _⟩ (fun i σ H2 hi pv => ?_) fun σ H2 pv => ?_
    · obtain ⟨ds, b4, b5, b6, b7, rfl, s2, hd2, hl2⟩ := pv
      refine ⟨hi, fun x H3 hy => ?_⟩
      obtain ⟨rfl, rfl⟩ := hy
      have push : ∀ {H4 : Hp} {es : List Int} (v : Int), Same H H4 → H4 dl = some (.lst (es.map V.int)) → Same H (upd H4 dl (.lst (es.map V.int ++ [.int v]))) ∧ upd H4 dl (.lst (es.map V.int ++ [.int v])) dl = some (.lst ((es ++ [v]).map V.int)) := fun v s4 h4 => ⟨same_mut s4 hdl, by rw [upd_same, List.map_append] <;> rfl⟩
      refine ⟨_, rfl, _, rfl, p, ns, i, ?_, hps _ s2, fun c => ?_⟩
      · show [V.ref p, V.int (0 + (i : Int))] = _
        rw [Int.zero_add]
      refine ⟨fun σ' H4 => H4 = H3 ∧ ∃ c', σ' = [some (.ref p), some (.int 0), some (.int 63), some (.ref dl), some (.int (0 + (i : Int))), some (.int c'), b6, b7], ?_, ?_⟩
      · refine ⟨_, rfl, _, _, rfl, rfl, _, rfl, ?_⟩
        by_cases h : c < 0
        · exact ifY (dT h) ⟨_, rfl, _, _, rfl, rfl, .inl ⟨by decide, by decide⟩, _, _, rfl, rfl, rfl, _, rfl⟩
        · exact ifN (dF h) ⟨rfl, _, rfl⟩
      · rintro σ' H4 ⟨rfl, c', rfl⟩
        refine ⟨_, rfl, _, _, rfl, rfl, _, rfl, ?_⟩
        by_cases h : (1000000000000000000 : Int) ≤ c'
        · refine ifY (dT h) ⟨60, rfl, by decide, by decide, ?_⟩
          refine for_any (n := 60) (fun j σ H5 => ∃ (es : List Int) (c2 : Int) (b6 : Option V), σ = [some (.ref p), some (.int 0), some (.int 63), some (.ref dl), some (.int (0 + (i : Int))), some (.int c2), b6, b7] ∧ Same H H5 ∧ H5 dl = some (.lst (es.map V.int)) ∧ es.length ≤ 60 * i + j) ⟨ds, c', _, rfl, s2, hd2, hl2⟩ (fun j σ H5 hj pv => ?_) fun σ H5 pv => ?_
          · obtain ⟨es, c2, b6, rfl, s5, hd5, hl5⟩ := pv
            refine ⟨hj, fun y H6 hy => ?_⟩
            obtain ⟨rfl, rfl⟩ := hy
            refine ⟨_, rfl, _, _, rfl, rfl, _, rfl, ?_⟩
            by_cases h0 : (0 : Int) < c2
            · refine ifY (dT h0) ⟨_, rfl, tyL hd5, _, rfl, .inl ⟨_, rfl, _, _, rfl, rfl, (by show (0 : Int) < _; decide), ?_⟩⟩
              obtain ⟨p1, p2⟩ := push (c2 % 1000) s5 hd5
              refine ⟨dl, _, _, rfl, rfl, hd5, small5' (by rw [List.length_map]; omega), _, rfl, _, _, rfl, rfl, ⟨by decide, by decide⟩, es ++ [c2 % 1000], _, _, rfl, p1, p2, ?_⟩
              rw [List.length_append]
              show es.length + 1 ≤ _
              omega
            · exact ifN (dF h0) ⟨es, c2, _, rfl, s5, hd5, by omega⟩
          · obtain ⟨es, c2, b6, rfl, s5, hd5, hl5⟩ := pv
            exact ⟨Nat.le_refl _, es, _, _, _, _, rfl, s5, hd5, by omega⟩
        · refine ifN (dF h) ⟨_, rfl, _, _, rfl, rfl, .inr ⟨by decide, by decide⟩, _, rfl, _, _, rfl, rfl, .inr ⟨by decide, by decide⟩, _, _, rfl, rfl, _, _, rfl, rfl, .inl ⟨_, rfl, _, _, rfl, rfl, (by show (0 : Int) < _; decide), ?_⟩⟩
          refine ⟨12, rfl, by decide, by decide, ?_⟩
          refine for_any (n := 12) (fun j σ H5 => ∃ (es : List Int) (sd : Int) (b6 : Option V), σ = [some (.ref p), some (.int 0), some (.int 63), some (.ref dl), some (.int (0 + (i : Int))), some (.int c'), b6, some (.int sd)] ∧ Same H H5 ∧ H5 dl = some (.lst (es.map V.int)) ∧ es.length ≤ 60 * i + j) ⟨ds, _, _, rfl, s2, hd2, hl2⟩ (fun j σ H5 hj pv => ?_) fun σ H5 pv => ?_
          · obtain ⟨es, sd, b6, rfl, s5, hd5, hl5⟩ := pv
            refine ⟨hj, fun y H6 hy => ?_⟩
            obtain ⟨rfl, rfl⟩ := hy
            refine ⟨_, rfl, _, _, rfl, rfl, .inr ⟨by decide, by decide⟩, _, rfl, _, _, rfl, rfl, .inl ⟨by decide, by decide⟩, _, _, rfl, rfl, _, _, rfl, rfl, .inl ⟨_, rfl, _, _, rfl, rfl, (by show (0 : Int) < _; decide), ?_⟩⟩
            refine ⟨_, rfl, tyL hd5, _, rfl, _, _, rfl, rfl, ⟨by decide, by decide⟩, .inl ⟨_, rfl, _, _, rfl, rfl, (by show (0 : Int) < _; decide), ?_⟩⟩
            refine ⟨dl, _, _, rfl, rfl, hd5, small5' (by rw [List.length_map]; omega), es ++ [_], _, _, rfl, (push _ s5 hd5).1, (push _ s5 hd5).2, ?_⟩
            rw [List.length_append]
            show es.length + 1 ≤ _
            omega
          · obtain ⟨es, sd, b6, rfl, s5, hd5, hl5⟩ := pv
            exact ⟨Nat.le_refl _, es, _, _, _, _, rfl, s5, hd5, by omega⟩
    · obtain ⟨ds, b4, b5, b6, b7, rfl, s2, hd2, hl2⟩ := pv
      exact ⟨Nat.le_refl _, _, rfl, kk H2 dl ds s2 hdl hd2 (by omega)⟩
end
end L2.TP
/-! The law's options, ticks, texts, pages. -/
namespace L2.TP
open PySem PySem.Spec PyProof.Rows L2
section
variable {P : Program} {w : World} {K : PySem.W.Frag} {mg : Str → Option Value} {base : Heap} {H H' : Hp}
theorem le7 {a b c d e f g : V} : [a, b, c, d, e, f, g].length ≤ sizeLine := small5 (n := 7) (by decide)
theorem le6 {a b c d e f : V} : [a, b, c, d, e, f].length ≤ sizeLine := small5 (n := 6) (by decide)
def spOptions (K : PySem.W.Frag) : Sp := fun vs H Q _ => ∃ (D : Addr → Prop) (b : Addr), vs = [.ref b] ∧ BoxAt D H b ∧ ∀ H' op o, But b H H' → BoxAt D H' b → SqU K H' op (Opt.vals o) → o.Ok → Q (.ref op) H'
theorem ok_options (T : Txt w K mg) : FnOk P w K mg base CX0 2 (He.ga K "_law_options") (fd__law_options K) ["_law_box"] (spOptions K) := by
  have G__law_draw := ok_draw (P := P) (base := base) T
  refine T.f__law_options.ok sc__law_options (fun vs H Q E h => ?_) (fun cdv A outer s H vs Q E hr h => ?_)
  · obtain ⟨_, a, rfl, _⟩ := h
    rfl
  · obtain ⟨D, b, rfl, hb, kk⟩ := h
    have hu := hu_of hr
    refine ⟨_, PSs.nox ((pss_one (ps_ret (pe_tup (pa_cons (pe_op op_add pe_int (pe_call G__law_draw (hr.mono (by omega)) (by rfl) T.g__law_draw T.f__law_draw.kp T.b__law_draw .nil pass0 (pa_cons (pv 0) (pa_cons pe_int pa_nil)))) (pa_cons (pe_op op_add pe_int (pe_call G__law_draw (hr.mono (by omega)) (by rfl) T.g__law_draw T.f__law_draw.kp T.b__law_draw .nil pass0 (pa_cons (pv 0) (pa_cons pe_int pa_nil)))) (pa_cons (pe_op op_add pe_int (pe_call G__law_draw (hr.mono (by omega)) (by rfl) T.g__law_draw T.f__law_draw.kp T.b__law_draw .nil pass0 (pa_cons (pv 0) (pa_cons pe_int pa_nil)))) (pa_cons (pe_op op_add pe_int (pe_call G__law_draw (hr.mono (by omega)) (by rfl) T.g__law_draw T.f__law_draw.kp T.b__law_draw .nil pass0 (pa_cons (pv 0) (pa_cons pe_int pa_nil)))) (pa_cons (pe_op op_add pe_int (pe_call G__law_draw (hr.mono (by omega)) (by rfl) T.g__law_draw T.f__law_draw.kp T.b__law_draw .nil pass0 (pa_cons (pv 0) (pa_cons pe_int pa_nil)))) (pa_cons (pe_op op_add pe_int (pe_call G__law_draw (hr.mono (by omega)) (by rfl) T.g__law_draw T.f__law_draw.kp T.b__law_draw .nil pass0 (pa_cons (pv 0) (pa_cons pe_int pa_nil)))) (pa_cons (pe_op op_add pe_int (pe_call G__law_draw (hr.mono (by omega)) (by rfl) T.g__law_draw T.f__law_draw.kp T.b__law_draw .nil pass0 (pa_cons (pv 0) (pa_cons pe_int pa_nil)))) pa_nil))))))))))), ?_⟩
    refine ⟨_, rfl, D, b, 3, rfl, hb, by decide, fun H0 n0 b0 hb0 p0 q0 => ⟨_, _, rfl, rfl, ⟨_, rfl, D, b, 5, rfl, hb0, by decide, fun H1 n1 b1 hb1 p1 q1 => ⟨_, _, rfl, rfl, ⟨_, rfl, D, b, 3, rfl, hb1, by decide, fun H2 n2 b2 hb2 p2 q2 => ⟨_, _, rfl, rfl, ⟨_, rfl, D, b, 9, rfl, hb2, by decide, fun H3 n3 b3 hb3 p3 q3 => ⟨_, _, rfl, rfl, ⟨_, rfl, D, b, 20, rfl, hb3, by decide, fun H4 n4 b4 hb4 p4 q4 => ⟨_, _, rfl, rfl, ⟨_, rfl, D, b, 9, rfl, hb4, by decide, fun H5 n5 b5 hb5 p5 q5 => ⟨_, _, rfl, rfl, ⟨_, rfl, D, b, 60, rfl, hb5, by decide, fun H6 n6 b6 hb6 p6 q6 => ⟨_, _, rfl, rfl, le7, fun op hop => ?_⟩⟩⟩⟩⟩⟩⟩⟩⟩⟩⟩⟩⟩⟩
    have s7 := same_new hop (o := .tup [.int (1 + n0), .int (1 + n1), .int (1 + n2), .int (1 + n3), .int (1 + n4), .int (1 + n5), .int (1 + n6)])
    exact kk _ op ⟨1 + n0, 1 + n1, 1 + n2, 1 + n3, 1 + n4, 1 + n5, 1 + n6⟩ (((((((b0.trans b1).trans b2).trans b3).trans b4).trans b5).trans b6).trans (but_same s7)) (hb6.keep fun a xs e => s7 _ _ e) (squ_of upd_same)
      ⟨by show (1 : Int) ≤ 1 + n0; omega, by show 1 + n0 ≤ 3; omega, by show (1 : Int) ≤ 1 + n1; omega, by show 1 + n1 ≤ 100; omega, by show (1 : Int) ≤ 1 + n2; omega, by show 1 + n2 ≤ 4; omega, by show (1 : Int) ≤ 1 + n3; omega, by show 1 + n3 ≤ 100; omega,
        by show (1 : Int) ≤ 1 + n4; omega, by show 1 + n4 ≤ 400; omega, by show (1 : Int) ≤ 1 + n5; omega, by show 1 + n5 ≤ 200; omega, by show (1 : Int) ≤ 1 + n6; omega, by show 1 + n6 ≤ 2000; omega⟩
def spTicksL (K : PySem.W.Frag) : Sp := fun vs H Q _ => ∃ (D : Addr → Prop) (b : Addr), vs = [.ref b] ∧ BoxAt D H b ∧ ∀ H' t, But b H H' → BoxAt D H' b → 0 ≤ t → t ≤ 300 → Q (.int t) H'
theorem ok_ticksL (T : Txt w K mg) : FnOk P w K mg base CX0 2 (He.ga K "_law_ticks") (fd__law_ticks K) ["_law_box"] (spTicksL K) := by
  have G__law_draw := ok_draw (P := P) (base := base) T
  refine T.f__law_ticks.ok sc__law_ticks (fun vs H Q E h => ?_) (fun cdv A outer s H vs Q E hr h => ?_)
  · obtain ⟨_, a, rfl, _⟩ := h
    rfl
  · obtain ⟨D, b, rfl, hb, kk⟩ := h
    have hu := hu_of hr
    refine ⟨_, PSs.nox ((pss_one (ps_ret (pe_ix ix_list (pe_lst (pa_cons pe_int (pa_cons pe_int (pa_cons (pe_call G__law_draw (hr.mono (by omega)) (by rfl) T.g__law_draw T.f__law_draw.kp T.b__law_draw .nil pass0 (pa_cons (pv 0) (pa_cons pe_int pa_nil))) (pa_cons (pe_call G__law_draw (hr.mono (by omega)) (by rfl) T.g__law_draw T.f__law_draw.kp T.b__law_draw .nil pass0 (pa_cons (pv 0) (pa_cons pe_int pa_nil))) (pa_cons (pe_call G__law_draw (hr.mono (by omega)) (by rfl) T.g__law_draw T.f__law_draw.kp T.b__law_draw .nil pass0 (pa_cons (pv 0) (pa_cons pe_int pa_nil))) (pa_cons (pe_call G__law_draw (hr.mono (by omega)) (by rfl) T.g__law_draw T.f__law_draw.kp T.b__law_draw .nil pass0 (pa_cons (pv 0) (pa_cons pe_int pa_nil))) pa_nil))))))) (pe_call G__law_draw (hr.mono (by omega)) (by rfl) T.g__law_draw T.f__law_draw.kp T.b__law_draw .nil pass0 (pa_cons (pv 0) (pa_cons pe_int pa_nil))) (fun _ _ => rfl))))), ?_⟩
    refine ⟨_, rfl, D, b, 4, rfl, hb, by decide, fun H0 n0 b0 hb0 p0 q0 => ⟨_, rfl, D, b, 10, rfl, hb0, by decide, fun H1 n1 b1 hb1 p1 q1 => ⟨_, rfl, D, b, 30, rfl, hb1, by decide, fun H2 n2 b2 hb2 p2 q2 => ⟨_, rfl, D, b, 300, rfl, hb2, by decide, fun H3 n3 b3 hb3 p3 q3 => ⟨le6, fun l hl => ?_⟩⟩⟩⟩⟩
    have s4 := same_new hl (o := .lst ([0, 1, n0, n1, n2, n3].map V.int))
    have hb4 : BoxAt D (upd H3 l (.lst ([0, 1, n0, n1, n2, n3].map V.int))) b := hb3.keep fun a xs e => s4 _ _ e
    obtain ⟨xs, hbx⟩ := box_at hb3
    refine ⟨_, rfl, D, b, 6, rfl, hb4, by decide, fun H5 k b5 hb5 k0 k1 => ?_⟩
    have hl5 : H5 l = some (.lst ([0, 1, n0, n1, n2, n3].map V.int)) := b5 _ _ (ne_of_none' hl hbx) upd_same
    obtain ⟨v, hv, hat⟩ := at_drawn (xs := [0, 1, n0, n1, n2, n3].map V.int) k0 k1
    obtain ⟨m, hm, rfl⟩ := List.mem_map.mp hv
    refine ⟨l, _, k, _, rfl, rfl, sqL_of hl5, hat, kk H5 m (((((b0.trans b1).trans b2).trans b3).trans (but_same s4)).trans b5) hb5 ?_ ?_⟩
    · simp at hm
      omega
    · simp at hm
      omega
end
end L2.TP
/-! The law's texts, pages. -/
namespace L2.TP
open PySem PySem.Spec PyProof.Rows L2
section
variable {P : Program} {w : World} {K : PySem.W.Frag} {mg : Str → Option Value} {base : Heap} {H H' : Hp}
def pieces (nm : Str) : List Str := [("<" : Str) ++ nm ++ (">" : Str), ("<" : Str) ++ nm ++ (">" : Str), ("<@" : Str) ++ nm ++ (">" : Str), ("<@" : Str) ++ nm ++ (">" : Str), ("[" : Str) ++ nm ++ ("]" : Str), ("[" : Str) ++ nm ++ ("]" : Str), "x", nm, "y z", "!", "<", "[>]"]
theorem pieces_ok : ∀ nm ∈ LN, ∀ p ∈ pieces nm, p.cps.toList.all okSign = true ∧ p.length ≤ 10 := by decide +kernel
theorem all_app {a b : Str} (ha : a.cps.toList.all okSign = true) (hb : b.cps.toList.all okSign = true) : (a ++ b).cps.toList.all okSign = true := by
  have e : (a ++ b).cps.toList = a.cps.toList ++ b.cps.toList := Array.toList_append
  rw [e, List.all_append, ha, hb] <;> rfl
theorem all_sok {a : Str} (ha : a.cps.toList.all okSign = true) : SOk a := sok_iff.mpr fun c hc => by
  have z := List.all_eq_true.mp ha c hc
  unfold okSign at z
  simp at z
  omega
theorem cut60 {t : Str} (h : t.cps.toList.all okSign = true) : isText (cutS t none (some 60)) = true ∧ SOk (cutS t none (some 60)) := by
  have e : (cutS t none (some 60)).cps.toList = t.cps.toList.take (min 60 t.length) := by
    unfold cutS
    show ((t.cps.toList.drop 0).take (min 60 t.length - 0)).toArray.toList = _
    rw [List.drop_zero, Nat.sub_zero]
  have hall : (cutS t none (some 60)).cps.toList.all okSign = true := by
    rw [e]
    exact List.all_eq_true.mpr fun c hc => List.all_eq_true.mp h c (List.mem_of_mem_take hc)
  refine ⟨?_, all_sok hall⟩
  unfold isText
  have hl : (cutS t none (some 60)).length ≤ 60 := by
    rw [← len_toList, e, List.length_take]
    omega
  rw [dT hl, hall] <;> rfl
theorem le12 {a b c d e f g h i j k l : V} : [a, b, c, d, e, f, g, h, i, j, k, l].length ≤ sizeLine := small5 (n := 12) (by decide)
def spTextL (K : PySem.W.Frag) : Sp := fun vs H Q _ => ∃ (D : Addr → Prop) (b : Addr), vs = [.ref b, .int 5] ∧ BoxAt D H b ∧ ∀ H' t, But b H H' → BoxAt D H' b → isText t = true → SOk t → Q (.str t) H'
theorem ok_textL (T : Txt w K mg) : FnOk P w K mg base CX0 3 (He.ga K "_law_text") (fd__law_text K) ["_law_box", "_law_most"] (spTextL K) := by
  have G__law_draw := ok_draw (P := P) (base := base) T
  have G__law_name := ok_name (P := P) (base := base) T
  refine T.f__law_text.ok sc__law_text (fun vs H Q E h => ?_) (fun cdv A outer s H vs Q E hr h => ?_)
  · obtain ⟨_, a, rfl, _⟩ := h
    rfl
  · obtain ⟨D, b, rfl, hb, kk⟩ := h
    have hu := hu_of hr
    refine ⟨_, PSs.nox ((pss_cons (ps_set (i := 2) sc__law_text.nd rfl (.inl rfl) pe_str)
      (pss_cons (ps_for PassesOwn.never rfl (pi_range1 rfl T.z_range (pa_cons (pe_call G__law_draw (hr.mono (by omega)) (by rfl) T.g__law_draw T.f__law_draw.kp T.b__law_draw .nil pass0 (pa_cons (pv 0) (pa_cons (pe_op op_add (pv 1) pe_int) pa_nil))) pa_nil)) (pg_name (i := 3) sc__law_text.nd rfl (.inl rfl)) (pss_cons (ps_set (i := 4) sc__law_text.nd rfl (.inl rfl) (pe_call G__law_name (hr.mono (by omega)) (by rfl) T.g__law_name T.f__law_name.kp T.b__law_name .nil pass0 (pa_cons (pv 0) pa_nil)))
      (pss_cons (ps_set (i := 5) sc__law_text.nd rfl (.inl rfl) (pe_call G__law_draw (hr.mono (by omega)) (by rfl) T.g__law_draw T.f__law_draw.kp T.b__law_draw .nil pass0 (pa_cons (pv 0) (pa_cons pe_int pa_nil))))
      (pss_one (ps_set (i := 2) sc__law_text.nd rfl (.inl rfl) (pe_op op_add_str (pv 2) (pe_ix ix_list (pe_lst (pa_cons (pe_op op_add_str (pe_op op_add_str pe_str (pv 4)) pe_str) (pa_cons (pe_op op_add_str (pe_op op_add_str pe_str (pv 4)) pe_str) (pa_cons (pe_op op_add_str (pe_op op_add_str pe_str (pv 4)) pe_str) (pa_cons (pe_op op_add_str (pe_op op_add_str pe_str (pv 4)) pe_str) (pa_cons (pe_op op_add_str (pe_op op_add_str pe_str (pv 4)) pe_str) (pa_cons (pe_op op_add_str (pe_op op_add_str pe_str (pv 4)) pe_str) (pa_cons pe_str (pa_cons (pv 4) (pa_cons pe_str (pa_cons pe_str (pa_cons pe_str (pa_cons pe_str pa_nil))))))))))))) (pv 5) (fun _ _ => rfl))))))))
      (pss_one (ps_ret (pe_slice sl_str (pv 2) po_none (po_some pe_int))))))), ?_⟩
    refine ⟨_, rfl, _, rfl, _, _, rfl, rfl, D, b, 6, rfl, hb, by decide, fun H1 n b1 hb1 n0 n1 => ⟨n, rfl, by omega, by omega, ?_⟩⟩
    refine for_any (n := n.toNat) (fun i σ H2 => ∃ (t : Str) (c3 c4 c5 : Option V), σ = [some (.ref b), some (.int 5), some (.str t), c3, c4, c5] ∧ But b H H2 ∧ BoxAt D H2 b ∧ t.cps.toList.all okSign = true ∧ t.length ≤ 10 * i) ⟨"", _, _, _, rfl, b1, hb1, by decide +kernel, Nat.le_refl _⟩ (fun i σ H2 hi pv => ?_) fun σ H2 pv => ?_
    · obtain ⟨t, c3, c4, c5, rfl, b2, hb2, ht, hl⟩ := pv
      refine ⟨hi, fun x H3 hy => ?_⟩
      obtain ⟨rfl, rfl⟩ := hy
      refine ⟨_, rfl, D, b, rfl, hb2, fun H4 nm b4 hb4 hnm => ?_⟩
      refine ⟨_, rfl, D, b, 12, rfl, hb4, by decide, fun H5 k b5 hb5 k0 k1 => ?_⟩
      have hn6 := name_len hnm
      have l1 : ("<" : Str).length = 1 := by decide +kernel
      have l2 : ("<@" : Str).length = 2 := by decide +kernel
      have l3 : ("[" : Str).length = 1 := by decide +kernel
      have l4 : (">" : Str).length = 1 := by decide +kernel
      have l5 : ("]" : Str).length = 1 := by decide +kernel
      have s1 : ("<" : Str).length + nm.length ≤ sizeLine := small5 (by omega)
      have s2 : (("<" : Str) ++ nm).length + (">" : Str).length ≤ sizeLine := small5 (by rw [str_app_len]; omega)
      have s3 : ("<@" : Str).length + nm.length ≤ sizeLine := small5 (by omega)
      have s4 : (("<@" : Str) ++ nm).length + (">" : Str).length ≤ sizeLine := small5 (by rw [str_app_len]; omega)
      have s5 : ("[" : Str).length + nm.length ≤ sizeLine := small5 (by omega)
      have s6 : (("[" : Str) ++ nm).length + ("]" : Str).length ≤ sizeLine := small5 (by rw [str_app_len]; omega)
      refine ⟨_, rfl, _, rfl, _, _, rfl, rfl, s1, _, _, rfl, rfl, s2, _, rfl, _, _, rfl, rfl, s1, _, _, rfl, rfl, s2, _, rfl, _, _, rfl, rfl, s3, _, _, rfl, rfl, s4, _, rfl, _, _, rfl, rfl, s3, _, _, rfl, rfl, s4, _, rfl, _, _, rfl, rfl, s5, _, _, rfl, rfl, s6, _, rfl, _, _, rfl, rfl, s5, _, _, rfl, rfl, s6, _, rfl, le12, fun l hln => ?_⟩
      have sl := same_new hln (o := .lst ((pieces nm).map V.str))
      obtain ⟨v, hv, hat⟩ := at_drawn (xs := (pieces nm).map V.str) k0 k1
      obtain ⟨m, hm, rfl⟩ := List.mem_map.mp hv
      obtain ⟨p1, p2⟩ := pieces_ok nm hnm m hm
      refine ⟨_, rfl, l, _, k, _, rfl, rfl, sqL_of (upd_same (H := H5) (a := l) (o := .lst ((pieces nm).map V.str))), hat, _, _, rfl, rfl, small5 (by omega), ?_⟩
      refine ⟨t ++ m, _, _, _, rfl, ((b2.trans b4).trans b5).trans (but_same sl), hb5.keep fun a xs e => sl _ _ e, all_app ht p1, ?_⟩
      rw [str_app_len]
      omega
    · obtain ⟨t, c3, c4, c5, rfl, b2, hb2, ht, hl⟩ := pv
      obtain ⟨h1, h2⟩ := cut60 ht
      exact ⟨Nat.le_refl _, _, rfl, _, rfl, t, rfl, small5 (by omega), kk _ _ b2 hb2 h1 h2⟩
end
end L2.TP
/-! The law's pages and edits. -/
namespace L2.TP
open PySem PySem.Spec PyProof.Rows L2
section
variable {P : Program} {w : World} {K : PySem.W.Frag} {mg : Str → Option Value} {base : Heap} {H H' : Hp}
def spPagesL (K : PySem.W.Frag) : Sp := fun vs H Q _ => ∃ (D : Addr → Prop) (b : Addr), vs = [.ref b] ∧ BoxAt D H b ∧ ∀ H' p ps, But b H H' → BoxAt D H' b → SqU K H' p (List.map V.str ps) → PgG ps → ps.length ≤ 6 → Q (.ref p) H'
theorem ok_pagesL (T : Txt w K mg) : FnOk P w K mg base CX0 3 (He.ga K "_law_pages") (fd__law_pages K) ["_law_box"] (spPagesL K) := by
  have G__law_draw := ok_draw (P := P) (base := base) T
  have G__law_name := ok_name (P := P) (base := base) T
  refine T.f__law_pages.ok sc__law_pages (fun vs H Q E h => ?_) (fun cdv A outer s H vs Q E hr h => ?_)
  · obtain ⟨_, a, rfl, _⟩ := h
    rfl
  · obtain ⟨D0, b, rfl, hb0', kk0⟩ := h
    obtain ⟨D, hDn, hb, kk⟩ : ∃ D : Addr → Prop, (∀ a, D a → H a ≠ none) ∧ BoxAt D H b ∧ ∀ H' p ps, But b H H' → BoxAt D H' b → SqU K H' p (List.map V.str ps) → PgG ps → ps.length ≤ 6 → Q (.ref p) H' := by
      obtain ⟨dl, ds, n, e0, e1, e2, e3, e4⟩ := hb0'
      refine ⟨fun a => a = dl, (fun a e => by rw [e, e2]; exact (fun z => nomatch z)), ⟨dl, ds, n, rfl, e1, e2, e3, e4⟩, fun H' p ps g1 g2 g3 g4 g5 => kk0 H' p ps g1 ?_ g3 g4 g5⟩
      obtain ⟨dl', ds', n', f0, f1, f2, f3, f4⟩ := g2
      exact ⟨dl', ds', n', f0 ▸ e0, f1, f2, f3, f4⟩
    have hu := hu_of hr
    refine ⟨_, PSs.nox ((pss_cons (ps_set (i := 1) sc__law_pages.nd rfl (.inl rfl) (pe_lst pa_nil))
      (pss_cons (ps_for PassesOwn.never rfl (pi_range1 rfl T.z_range (pa_cons (pe_call G__law_draw (hr.mono (by omega)) (by rfl) T.g__law_draw T.f__law_draw.kp T.b__law_draw .nil pass0 (pa_cons (pv 0) (pa_cons pe_int pa_nil))) pa_nil)) (pg_name (i := 2) sc__law_pages.nd rfl (.inl rfl)) (pss_cons (ps_set (i := 3) sc__law_pages.nd rfl (.inl rfl) (pe_call G__law_name (hr.mono (by omega)) (by rfl) T.g__law_name T.f__law_name.kp T.b__law_name .nil pass0 (pa_cons (pv 0) pa_nil)))
      (pss_one (ps_if (pt_cmpR op_notIn_seq (pv 3) (pv 1) rfl) (pss_one (ps_expr (pe_bm PySem.F.plainAttrs_list PySem.F.slot_list_append PySem.F.type_list_append mt_append (pv 1) (pa_cons (pv 3) pa_nil)))) pss_nil))))
      (pss_one (ps_ret (pe_callTy call_tuple_of (by rfl) T.z_tuple (by decide +kernel) (pa_cons (pv 1) pa_nil))))))), ?_⟩
    refine ⟨Nat.zero_le _, fun pl hpl => ?_⟩
    obtain ⟨xs0, hbx⟩ := box_at hb
    have s0 := same_new hpl (o := .lst [])
    have hb0 := hb.keep fun a xs e => s0 _ _ e
    have hne : pl ≠ b := ne_of_none' hpl hbx
    refine ⟨_, rfl, D, b, 7, rfl, hb0, by decide, fun H1 n b1 hb1 n0 n1 => ⟨n, rfl, by omega, by omega, ?_⟩⟩
    have hp1 : H1 pl = some (.lst []) := b1 _ _ hne upd_same
    refine for_any (n := n.toNat) (fun i σ H2 => ∃ (ps : List Str) (c2 c3 : Option V), σ = [some (.ref b), some (.ref pl), c2, c3] ∧ But b H H2 ∧ BoxAt D H2 b ∧ H2 pl = some (.lst (ps.map V.str)) ∧ PgG ps ∧ ps.length ≤ i) ⟨[], _, _, rfl, (but_same s0).trans b1, hb1, hp1, ⟨List.nodup_nil, (fun m hm => nomatch hm)⟩, Nat.le_refl _⟩ (fun i σ H2 hi pv => ?_) fun σ H2 pv => ?_
    · obtain ⟨ps, c2, c3, rfl, b2, hb2, hp2, hg, hl⟩ := pv
      refine ⟨hi, fun x H3 hy => ?_⟩
      obtain ⟨rfl, rfl⟩ := hy
      refine ⟨_, rfl, D, b, rfl, hb2, fun H4 nm b4 hb4 hnm => ?_⟩
      have hp4 := b4 _ _ hne hp2
      refine ⟨_, rfl, _, rfl, pl, _, rfl, .inl (sqL_of hp4), rfl, flat_strs _, _, rfl, ?_⟩
      by_cases hm : nm ∈ ps
      · exact ifN (by rw [inV_strs, dT hm] <;> rfl) ⟨ps, _, _, rfl, b2.trans b4, hb4, hp4, hg, by omega⟩
      · refine ifY (by rw [inV_strs, dF hm] <;> rfl) ⟨_, rfl, tyL hp4, _, rfl, pl, _, _, rfl, rfl, hp4, small5' (by rw [List.length_map]; omega), ?_⟩
        refine ⟨ps ++ [nm], _, _, rfl, fun a o na e => ?_, ?_, ?_, ⟨?_, fun m hm2 => ?_⟩, ?_⟩
        · rw [upd_ne (ne_of_none e hpl)]
          exact (b2.trans b4) a o na e
        · obtain ⟨dl, ds, k, e0, e1, e2, e3, e4⟩ := hb4
          have q : dl ≠ pl := fun z => hDn dl e0 (z ▸ hpl)
          exact ⟨dl, ds, k, e0, by rw [upd_ne hne.symm]; exact e1, by rw [upd_ne q]; exact e2, e3, e4⟩
        · rw [upd_same, List.map_append] <;> rfl
        · exact List.nodup_append.mpr ⟨hg.1, by simp, fun a ha c hc e => hm (by rw [List.mem_singleton.mp hc] at e; exact e ▸ ha)⟩
        · rcases mem_app_one hm2 with q | q
          · exact hg.2 m q
          · rw [q]; exact hnm
        · rw [List.length_append]
          show ps.length + 1 ≤ _
          omega
    · obtain ⟨ps, c2, c3, rfl, b2, hb2, hp2, hg, hl⟩ := pv
      refine ⟨Nat.le_refl _, _, rfl, pl, _, rfl, .inl ⟨sqL_of hp2, fun q hq => ?_⟩⟩
      have sq := same_new hq (o := .tup (ps.map V.str))
      exact kk _ q ps (b2.trans (but_same sq)) (hb2.keep fun a xs e => sq _ _ e) (squ_of upd_same) hg (by omega)
end
end L2.TP
/-! The law's edits. -/
namespace L2.TP
open PySem PySem.Spec PyProof.Rows L2
section
variable {P : Program} {w : World} {K : PySem.W.Frag} {mg : Str → Option Value} {base : Heap} {H H' : Hp}
theorem ln_text {n : Str} (h : n ∈ LN) : isText n = true := by
  revert n h
  decide +kernel
def spEditL (K : PySem.W.Frag) : Sp := fun vs H Q _ => ∃ (D : Addr → Prop) (b p : Addr) (ps : List Str), vs = [.ref b, .ref p] ∧ BoxAt D H b ∧ SqU K H p (ps.map V.str) ∧ PgG ps ∧ ps.length ≤ 6 ∧ ∀ H' e x, But b H H' → BoxAt D H' b → EdAt K H' e x → x.Ok → Q (.ref e) H'
theorem ok_editL (T : Txt w K mg) : FnOk P w K mg base CX0 4 (He.ga K "_law_edit") (fd__law_edit K) ["_law_box", "_law_pages_here"] (spEditL K) := by
  have G__law_draw := ok_draw (P := P) (base := base) T
  have G__law_name := ok_name (P := P) (base := base) T
  have G__law_text := ok_textL (P := P) (base := base) T
  have G__law_pages := ok_pagesL (P := P) (base := base) T
  refine T.f__law_edit.ok sc__law_edit (fun vs H Q E h => ?_) (fun cdv A outer s H vs Q E hr h => ?_)
  · obtain ⟨_, a, b, c, rfl, _⟩ := h
    rfl
  · obtain ⟨D, b, p, ps, rfl, hb, hp, hg, hl, kk⟩ := h
    have hu := hu_of hr
    obtain ⟨xs0, hbx⟩ := box_at hb
    refine ⟨_, PSs.nox ((pss_cons (ps_set (i := 2) sc__law_edit.nd rfl (.inl rfl) (pe_call G__law_draw (hr.mono (by omega)) (by rfl) T.g__law_draw T.f__law_draw.kp T.b__law_draw .nil pass0 (pa_cons (pv 0) (pa_cons pe_int pa_nil))))
      (pss_cons (ps_if (pt_cmpR op_le (pv 2) pe_int (nomark _)) (pss_cons (ps_set (i := 3) sc__law_edit.nd rfl (.inl rfl) (pe_call G__law_text (hr.mono (by omega)) (by rfl) T.g__law_text T.f__law_text.kp T.b__law_text .nil pass0 (pa_cons (pv 0) (pa_cons pe_int pa_nil))))
      (C8.pss_cut (ps_if (pt_cmpR op_eq (pe_call G__law_draw (hr.mono (by omega)) (by rfl) T.g__law_draw T.f__law_draw.kp T.b__law_draw .nil pass0 (pa_cons (pv 0) (pa_cons pe_int pa_nil))) pe_int (nomark _)) (pss_one (ps_set (i := 3) sc__law_edit.nd rfl (.inl rfl) (pe_call G__law_name (hr.mono (by omega)) (by rfl) T.g__law_name T.f__law_name.kp T.b__law_name .nil pass0 (pa_cons (pv 0) pa_nil)))) pss_nil)
      (pss_one (ps_ret (pe_tup (pa_cons pe_str (pa_cons (pe_call G__law_name (hr.mono (by omega)) (by rfl) T.g__law_name T.f__law_name.kp T.b__law_name .nil pass0 (pa_cons (pv 0) pa_nil)) (pa_cons (pv 3) pa_nil)))))))) pss_nil)
      (pss_cons (ps_if (pt_cmpR op_eq (pv 2) pe_int (nomark _)) (pss_one (ps_ret (pe_tup (pa_cons pe_str (pa_cons (pe_call G__law_name (hr.mono (by omega)) (by rfl) T.g__law_name T.f__law_name.kp T.b__law_name .nil pass0 (pa_cons (pv 0) pa_nil)) pa_nil))))) pss_nil)
      (C8.pss_cut (ps_if (PW.pt (pw_and (pt_cmpR op_eq (pv 2) pe_int (nomark _)) (pw_and1 (pt_cmpR (op_neD hr.units) (pv 1) (pe_tup pa_nil) (nomark _))))) (pss_one (ps_ret (pe_tup (pa_cons pe_str (pa_cons (pe_slice sl_tup (pv 1) (po_some pe_int) po_none) pa_nil))))) pss_nil)
      (pss_one (ps_ret (pe_tup (pa_cons pe_str (pa_cons (pe_call G__law_pages (hr.mono (by omega)) (by rfl) T.g__law_pages T.f__law_pages.kp T.b__law_pages .nil pass0 (pa_cons (pv 0) pa_nil)) pa_nil)))))))))), ?_⟩
    refine ⟨_, rfl, D, b, 10, rfl, hb, by decide, fun H1 k b1 hb1 k0 k1 => ?_⟩
    refine ⟨_, rfl, _, _, rfl, rfl, _, rfl, ?_⟩
    by_cases h5 : k ≤ 5
    · refine ifY (dT h5) ?_
      refine ⟨_, rfl, D, b, rfl, hb1, fun H2 t b2 hb2 ht hs => ?_⟩
      refine ⟨fun σ' H3 => ∃ t', σ' = [some (.ref b), some (.ref p), some (.int k), some (.str t')] ∧ But b H H3 ∧ BoxAt D H3 b ∧ isText t' = true ∧ SOk t', ?_, ?_⟩
      · refine ⟨_, rfl, D, b, 6, rfl, hb2, by decide, fun H3 q b3 hb3 q0 q1 => ?_⟩
        refine ⟨rfl, _, rfl, ?_⟩
        by_cases hq : q = 0
        · refine ifY (dT (by rw [hq])) ⟨_, rfl, D, b, rfl, hb3, fun H4 nm b4 hb4 hnm => ⟨nm, rfl, ((b1.trans b2).trans b3).trans b4, hb4, ln_text hnm, ln_sok hnm⟩⟩
        · exact ifN (dF fun z => hq (V.int.inj z)) ⟨t, rfl, (b1.trans b2).trans b3, hb3, ht, hs⟩
      · rintro σ' H3 ⟨t', rfl, b3, hb3, ht', hs'⟩
        refine ⟨_, rfl, D, b, rfl, hb3, fun H4 nm b4 hb4 hnm => ⟨_, rfl, le3, fun e he => ?_⟩⟩
        have se := same_new he (o := .tup [.str "set", .str nm, .str t'])
        exact kk _ e (.set nm t') ((b3.trans b4).trans (but_same se)) (hb4.keep fun a xs e => se _ _ e) (squ_of upd_same) ⟨hnm, ht', hs'⟩
    · refine ifN (dF h5) ?_
      refine ⟨_, rfl, rfl, _, rfl, ?_⟩
      by_cases h6 : k = 6
      · refine ifY (dT (by rw [h6])) ⟨_, rfl, D, b, rfl, hb1, fun H4 nm b4 hb4 hnm => ⟨le2, fun e he => ?_⟩⟩
        have se := same_new he (o := .tup [.str "remove", .str nm])
        exact kk _ e (.rem nm) ((b1.trans b4).trans (but_same se)) (hb4.keep fun a xs e => se _ _ e) (squ_of upd_same) hnm
      · refine ifN (dF fun z => h6 (V.int.inj z)) ?_
        dsimp only [tNext, tSeq]
        refine ⟨fun σ' H3 => σ' = [some (.ref b), some (.ref p), some (.int k), none] ∧ But b H H3 ∧ BoxAt D H3 b, ?_, ?_⟩
        · refine ⟨_, rfl, rfl, _, rfl, ?_⟩
          by_cases h7 : k = 7
          · refine ifY (dT (by rw [h7])) ⟨_, rfl, Nat.zero_le _, fun q hq => ?_⟩
            have sq := same_new hq (o := .tup [])
            have hp2 := (hp.keep (but_tk b1 hbx fun _ z => nomatch z)).keep (Same.tk sq)
            refine ⟨encS ps, encS [], (dt_s hp2).dp, (dt_s (ps := []) (squ_of upd_same)).dp, (lo_s hg).shaped (by decide), (lo_s (ps := []) ⟨List.nodup_nil, (fun m hm => nomatch hm)⟩).shaped (by decide), _, rfl, ?_⟩
            cases ps with
            | nil => exact ifN rfl ⟨rfl, b1.trans (but_same sq), hb1.keep fun a xs e => sq _ _ e⟩
            | cons m ps' =>
              have ec : cutV ((m :: ps').map V.str) (some (1 : Nat)) none = ps'.map V.str := by
                unfold cutV
                rw [HT.sIx_nat, HT.sIx_none, List.map_cons, List.length_cons]
                have e1 : min 1 ((ps'.map V.str).length + 1) = 1 := by omega
                rw [e1]
                show ((ps'.map V.str).take _) = _
                exact List.take_of_length_le (by omega)
              have hw : ¬ (HT.sIx ((m :: ps').map V.str).length 0 (some (1 : Nat)) = 0 ∧ HT.sIx ((m :: ps').map V.str).length ((m :: ps').map V.str).length none = ((m :: ps').map V.str).length) := fun z => by
                have z1 := z.1
                rw [HT.sIx_nat, List.map_cons, List.length_cons] at z1
                omega
              refine ifY rfl ⟨_, rfl, (1 : Nat), rfl, p, _, rfl, hp2.sq, hw, fun q2 hq2 => ?_⟩
              rw [ec]
              have s2 := same_new hq2 (o := .tup (ps'.map V.str))
              refine ⟨le2, fun e he => ?_⟩
              have s3 := same_new he (o := .tup [.str "pages", .ref q2])
              have ss := (sq.trans s2).trans s3
              exact kk _ e (.pgs ps') (b1.trans (but_same ss)) (hb1.keep fun a xs e => ss _ _ e) ⟨q2, squ_of upd_same, squ_of (s3 _ _ upd_same)⟩ ⟨⟨(List.nodup_cons.mp hg.1).2, fun z hz => hg.2 z (List.mem_cons_of_mem _ hz)⟩, by rw [List.length_cons] at hl; show ps'.length ≤ 6; omega⟩
          · exact ifN (dF fun z => h7 (V.int.inj z)) ⟨rfl, b1, hb1⟩
        · rintro σ' H3 ⟨rfl, b3, hb3⟩
          refine ⟨_, rfl, D, b, rfl, hb3, fun H4 p4 ps4 b4 hb4 hp4 hg4 hl4 => ⟨le2, fun e he => ?_⟩⟩
          have se := same_new he (o := .tup [.str "pages", .ref p4])
          exact kk _ e (.pgs ps4) ((b3.trans b4).trans (but_same se)) (hb4.keep fun a xs e => se _ _ e) ⟨p4, squ_of upd_same, hp4.keep (Same.tk se)⟩ ⟨hg4, hl4⟩
end
end L2.TP
/-! The law's advance in pieces. -/
namespace L2.TP
open PySem PySem.Spec PyProof.Rows L2
section
variable {P : Program} {w : World} {K : PySem.W.Frag} {mg : Str → Option Value} {base : Heap} {H H' : Hp}
/-- the publisher's things and one more place -/
def plus (own : Addr → Prop) (b : Addr) : Addr → Prop := fun a => own a ∨ a = b
theorem Fr.wide {own own' : Addr → Prop} (x : Fr own H H') (h : ∀ a, own a → own' a) : Fr own' H H' := ⟨fun b o n e => x.keep b o (fun z => n (h b z)) e, x.tk⟩
theorem BoxAt.fr {own D : Addr → Prop} {b : Addr} (h : BoxAt D H b) (x : Fr own H H') (hb : ¬ own b) (hD : ∀ a, D a → ¬ own a) : BoxAt D H' b := by
  obtain ⟨dl, ds, n, h0, h1, h2, h3, h4⟩ := h
  exact ⟨dl, ds, n, h0, x.keep _ _ hb h1, x.keep _ _ (hD dl h0) h2, h3, h4⟩
theorem Pub.box {own D : Addr → Prop} {L : Lay} {s : S} {b : Addr} (h : Pub K P w own L s H) (hx : BoxAt D H b) (x : But b H H') (hx' : BoxAt D H' b) (hb : ¬ own b) : Pub K P w own L s H' := by
  obtain ⟨op, sd, pg, fv, vv, q⟩ := h
  obtain ⟨xs, e⟩ := box_at hx
  obtain ⟨xs', e'⟩ := box_at hx'
  exact ⟨op, sd, pg, fv, vv, q.keep (fun c o hc he => x c o (fun z => hb (z ▸ hc)) he) (but_tk x e fun _ z => nomatch z) (fun c hc => q.fresh c (none_but x e' hc)) fun c hc _ => hc⟩
theorem fr_box {own D : Addr → Prop} {b : Addr} (hx : BoxAt D H b) (x : But b H H') : Fr (plus own b) H H' := by
  obtain ⟨xs, e⟩ := box_at hx
  exact fr_but x e (fun _ z => nomatch z) (.inr rfl)
def spPcs (K : PySem.W.Frag) (P : Program) (w : World) : Sp := fun vs H Q _ => ∃ (own D : Addr → Prop) (L : Lay) (s : S) (b : Addr) (t : Int), vs = [.ref b, .ref L.p, .int t] ∧ Pub K P w own L s H ∧ Gd s ∧ BoxAt D H b ∧ ¬ own b ∧ (∀ a, D a → ¬ own a) ∧ 0 ≤ t ∧ t ≤ 10000 ∧ s.clock + t ≤ 9999999 ∧
  ∀ H' u, R (s.clock + t) s u → Gd u → Pub K P w own L (u.at (s.clock + t)) H' → Fr (plus own b) H H' → BoxAt D H' b → Q (.int (s.clock + t)) H'
theorem ok_pcs (T : Txt w K mg) : FnOk P w K mg base CX0 17 (He.ga K "_law_in_pieces") (fd__law_in_pieces K) ["_law_box", "_law_publisher", "_law_ticks_here"] (spPcs K P w) := by
  have G__law_draw := ok_draw (P := P) (base := base) T
  have G_Publisher_advance := ok_adv (P := P) (base := base) T
  refine T.f__law_in_pieces.ok sc__law_in_pieces (fun vs H Q E h => ?_) (fun cdv A outer s H vs Q E hr h => ?_)
  · obtain ⟨_, _, _, _, _, _, rfl, _⟩ := h
    rfl
  · obtain ⟨own, D, L, s0, b, t, rfl, PA, hg, hb, hnb, hnD, t0, t1, hc, kk⟩ := h
    have hu := hu_of hr
    refine ⟨_, PSs.nox ((pss_cons (ps_set (i := 3) sc__law_in_pieces.nd rfl (.inl rfl) (pv 2))
      (pss_cons (ps_for PassesOwn.never rfl (pi_range1 rfl T.z_range (pa_cons (pe_call G__law_draw (hr.mono (by omega)) (by rfl) T.g__law_draw T.f__law_draw.kp T.b__law_draw .nil pass0 (pa_cons (pv 0) (pa_cons pe_int pa_nil))) pa_nil)) (pg_name (i := 4) sc__law_in_pieces.nd rfl (.inl rfl)) (pss_cons (ps_set (i := 5) sc__law_in_pieces.nd rfl (.inl rfl) (pe_call G__law_draw (hr.mono (by omega)) (by rfl) T.g__law_draw T.f__law_draw.kp T.b__law_draw .nil pass0 (pa_cons (pv 0) (pa_cons (pe_op op_add (pv 3) pe_int) pa_nil))))
      (pss_cons (ps_expr (pe_meth (pv 1) T.cl_Publisher T.mt_Publisher_advance G_Publisher_advance (hr.mono (by omega)) T.b_Publisher_advance .nil pass0 (pa_cons (pv 5) pa_nil)))
      (pss_one (ps_set (i := 3) sc__law_in_pieces.nd rfl (.inl rfl) (pe_op op_sub (pv 3) (pv 5)))))))
      (pss_one (ps_ret (pe_meth (pv 1) T.cl_Publisher T.mt_Publisher_advance G_Publisher_advance (hr.mono (by omega)) T.b_Publisher_advance .nil pass0 (pa_cons (pv 3) pa_nil))))))), ?_⟩
    refine ⟨_, rfl, ?_⟩
    refine ⟨_, rfl, D, b, 5, rfl, hb, by decide, fun H1 n b1 hb1 n0 n1 => ⟨n, rfl, by omega, by omega, ?_⟩⟩
    have P1 := PA.box hb b1 hb1 hnb
    have f1 := fr_box (own := own) hb b1
    generalize hlast : s0.clock + t = last at *
    refine for_any (n := n.toNat) (fun i σ H2 => ∃ (s : S) (l : Int) (c4 c5 : Option V), σ = [some (.ref b), some (.ref L.p), some (.int t), some (.int l), c4, c5] ∧ Pub K P w own L s H2 ∧ Gd s ∧ 0 ≤ l ∧ l ≤ t ∧ s.clock + l = last ∧ BoxAt D H2 b ∧ Fr (plus own b) H H2 ∧ ∀ u v, R last s u → R last s0 v → v.at last = u.at last)
      ⟨s0, t, _, _, rfl, P1, hg, t0, Int.le_refl _, hlast, hb1, f1, fun u v hu hv => by rw [hv.uniq hu]⟩ (fun i σ H2 hi pv => ?_) fun σ H2 pv => ?_
    · obtain ⟨s, l, c4, c5, rfl, P2, hg2, l0, l1, hl, hb2, f2, hR⟩ := pv
      refine ⟨hi, fun x H3 hy => ?_⟩
      obtain ⟨rfl, rfl⟩ := hy
      refine ⟨_, rfl, _, rfl, _, _, rfl, rfl, D, b, l + 1, rfl, hb2, by omega, fun H3 p b3 hb3 p0 p1 => ?_⟩
      have P3 := P2.box hb2 b3 hb3 hnb
      have f3 := f2.trans (fr_box (own := own) hb2 b3)
      obtain ⟨op, sd, pg, fv, vv, X⟩ := id P3
      obtain ⟨dx, hp⟩ := X.pub
      refine ⟨_, rfl, L.p, dx, _, rfl, hp, zip_none (by decide +kernel), _, rfl, own, L, s, p, rfl, P3, hg2, p0, by omega, by omega, fun H4 u hu4 hgu P4 f4 => ?_⟩
      have f5 := f4.wide (own' := plus own b) fun a ha => .inl ha
      refine ⟨_, rfl, _, rfl, _, _, rfl, rfl, u.at (s.clock + p), l - p, _, _, rfl, P4, hu4.gd hgu, by omega, by omega, ?_, hb3.fr f4 hnb hnD, f3.trans f5, fun u2 v h1 h2 => ?_⟩
      · show s.clock + p + (l - p) = last
        omega
      · obtain ⟨z, hz, _⟩ := R.ex (last := last) _ hg2 (Nat.le_refl _)
        rw [hR z v hz h2, R.pieces (by omega) hu4 h1 hz]
    · obtain ⟨s, l, c4, c5, rfl, P2, hg2, l0, l1, hl, hb2, f2, hR⟩ := pv
      obtain ⟨op, sd, pg, fv, vv, X⟩ := id P2
      obtain ⟨dx, hp⟩ := X.pub
      refine ⟨Nat.le_refl _, _, rfl, L.p, dx, _, rfl, hp, zip_none (by decide +kernel), _, rfl, own, L, s, l, rfl, P2, hg2, l0, by omega, by omega, fun H4 u hu4 hgu P4 f4 => ?_⟩
      rw [hl] at hu4 P4 ⊢
      obtain ⟨z, hz, hgz⟩ := R.ex (last := last) _ hg (Nat.le_refl _)
      rw [← hR u z hu4 hz] at P4
      exact kk H4 z hz hgz P4 (f2.trans (f4.wide fun a ha => .inl ha)) (hb2.fr f4 hnb hnD)
end
end L2.TP
/-! The law's advance by turns. -/
namespace L2.TP
open PySem PySem.Spec PyProof.Rows L2
section
variable {P : Program} {w : World} {K : PySem.W.Frag} {mg : Str → Option Value} {base : Heap} {H H' : Hp}
theorem due_is {s : S} {last : Int} : s.dueBy last = match s.nextDue with
    | none => false
    | some d => decide (d ≤ last) := by
  unfold S.dueBy S.nextDue
  cases tfirst s.tms with
  | none => rfl
  | some dk => rfl
theorem turn_clock {s : S} (h : Gd s) {d : Int} (e : s.nextDue = some d) : s.turn.clock = d := by
  unfold S.nextDue at e
  cases ef : tfirst s.tms with
  | none => rw [ef] at e; cases e
  | some dk =>
    obtain ⟨d2, k⟩ := dk
    rw [ef] at e
    obtain rfl : d2 = d := Option.some.inj e
    have et : s.turn = S.fire (s.fired d2 k) k := by
      unfold S.turn
      rw [ef] <;> rfl
    obtain ⟨_, h2⟩ := h.fire ef
    rw [et]
    exact h2.clock
def spTrn (K : PySem.W.Frag) (P : Program) (w : World) : Sp := fun vs H Q _ => ∃ (own : Addr → Prop) (L : Lay) (s : S) (t : Int), vs = [.ref L.p, .int t] ∧ Pub K P w own L s H ∧ Gd s ∧ 0 ≤ s.clock ∧ 0 ≤ t ∧ t ≤ 10000 ∧ s.clock + t ≤ 9999999 ∧
  ∀ H' u, R (s.clock + t) s u → Gd u → Pub K P w own L (u.at (s.clock + t)) H' → Fr own H H' → Q (.bl true) H'
theorem ok_trn (T : Txt w K mg) : FnOk P w K mg base CX0 17 (He.ga K "_law_by_turns") (fd__law_by_turns K) ["_law_publisher", "_law_ticks_here"] (spTrn K P w) := by
  have G_Publisher_advance := ok_adv (P := P) (base := base) T
  have G_Publisher_turn := ok_turn (P := P) (base := base) T
  have G_Publisher_clock := ok_clock (P := P) (base := base) T
  have G_Publisher_next_due := ok_next_due (P := P) (base := base) T
  refine T.f__law_by_turns.ok sc__law_by_turns (fun vs H Q E h => ?_) (fun cdv A outer s H vs Q E hr h => ?_)
  · obtain ⟨_, _, _, _, rfl, _⟩ := h
    rfl
  · obtain ⟨own, L, s0, t, rfl, PA, hg, hc0, t0, t1, hc, kk⟩ := h
    have hu := hu_of hr
    obtain ⟨op, sd, pg, fv, vv, X⟩ := id PA
    obtain ⟨dx, hp⟩ := X.pub
    refine ⟨_, PSs.nox ((pss_cons (ps_set (i := 2) sc__law_by_turns.nd rfl (.inl rfl) (pe_op op_add (pe_meth0 (pv 0) T.cl_Publisher T.mt_Publisher_clock G_Publisher_clock (hr.mono (by omega)) T.b_Publisher_clock .nil pass0) (pv 1)))
      (C8.pss_cut (ps_for PassesOwn.never rfl (pi_range1 rfl T.z_range (pa_cons pe_int pa_nil)) (pg_name (i := 3) sc__law_by_turns.nd rfl (.inl rfl)) (pss_cons (ps_set (i := 4) sc__law_by_turns.nd rfl (.inl rfl) (pe_meth0 (pv 0) T.cl_Publisher T.mt_Publisher_next_due G_Publisher_next_due (hr.mono (by omega)) T.b_Publisher_next_due .nil pass0))
      (pss_cons (ps_if (PW.pt (pw_or (pt_cmpR op_isN (pv 4) pe_non (nomark _)) (pw_or1 (pt_cmpR op_gt (pv 4) (pv 2) (nomark _))))) (pss_cons (ps_if (pt_cmpR op_notBl (pe_meth (pv 0) T.cl_Publisher T.mt_Publisher_turn G_Publisher_turn (hr.mono (by omega)) T.b_Publisher_turn .nil pass0 (pa_cons (pv 2) pa_nil)) pe_bl (nomark _)) (pss_one (ps_ret pe_bl)) pss_nil)
      (pss_one ps_break)) pss_nil)
      (pss_one (ps_if (PW.pt (pw_or (pt_cmpR op_notBl (pe_meth (pv 0) T.cl_Publisher T.mt_Publisher_turn G_Publisher_turn (hr.mono (by omega)) T.b_Publisher_turn .nil pass0 (pa_cons (pv 2) pa_nil)) pe_bl (nomark _)) (pw_or1 (pt_cmpR op_ne (pe_meth0 (pv 0) T.cl_Publisher T.mt_Publisher_clock G_Publisher_clock (hr.mono (by omega)) T.b_Publisher_clock .nil pass0) (pv 4) (nomark _))))) (pss_one (ps_ret pe_bl)) pss_nil)))))
      (pss_one (ps_ret (pe_cmpR op_eq (pe_meth (pv 0) T.cl_Publisher T.mt_Publisher_advance G_Publisher_advance (hr.mono (by omega)) T.b_Publisher_advance .nil pass0 (pa_cons (pe_op op_sub (pv 2) (pe_meth0 (pv 0) T.cl_Publisher T.mt_Publisher_clock G_Publisher_clock (hr.mono (by omega)) T.b_Publisher_clock .nil pass0)) pa_nil)) (pv 2) (nomark _))))))), ?_⟩
    refine ⟨_, rfl, L.p, dx, _, rfl, hp, zip_none (by decide +kernel), own, L, s0, rfl, PA, _, rfl, _, _, rfl, rfl, ?_⟩
    dsimp only [gName, List.set, start]
    generalize hlast : s0.clock + t = last at *
    refine ⟨fun σ' H2 => ∃ (s : S) (c3 c4 : Option V), σ' = [some (.ref L.p), some (.int t), some (.int last), c3, c4] ∧ Pub K P w own L s H2 ∧ Gd s ∧ Fr own H H2 ∧ s0.clock ≤ s.clock ∧ s.clock ≤ last ∧ ∀ u, R last s u → R last s0 u, ?_, ?_⟩
    · refine ⟨3000, rfl, by decide, by decide, ?_⟩
      refine for_any (n := 3000) (fun i σ H2 => ∃ (s : S) (c3 c4 : Option V), σ = [some (.ref L.p), some (.int t), some (.int last), c3, c4] ∧ Pub K P w own L s H2 ∧ Gd s ∧ Fr own H H2 ∧ s0.clock ≤ s.clock ∧ s.clock ≤ last ∧ ∀ u, R last s u → R last s0 u)
        ⟨s0, _, _, rfl, PA, hg, Fr.refl _ _, Int.le_refl _, by omega, fun u h => h⟩ (fun i σ H2 hi pv => ?_) fun σ H2 pv => ?_
      · obtain ⟨s, c3, c4, rfl, P2, hg2, f2, k1, k2, hR⟩ := pv
        refine ⟨hi, fun x H3 hy => ?_⟩
        obtain ⟨rfl, rfl⟩ := hy
        obtain ⟨op2, sd2, pg2, fv2, vv2, X2⟩ := id P2
        obtain ⟨dx2, hp2⟩ := X2.pub
        refine ⟨_, rfl, L.p, dx2, _, rfl, hp2, zip_none (by decide +kernel), own, L, s, rfl, P2, hg2, fun H3 s3 => ?_⟩
        have P3 := P2.same s3
        have hp3 := s3 _ _ hp2
        have f3 := f2.trans (fr_same s3)
        have hdi := due_is (s := s) (last := last)
        cases hnd : s.nextDue with
        | none =>
          rw [hnd] at hdi
          replace hdi : s.dueBy last = false := hdi
          refine ⟨_, rfl, rfl, _, rfl, ifY rfl (iteT ?_)⟩
          refine ⟨_, rfl, L.p, dx2, _, rfl, hp3, zip_none (by decide +kernel), _, rfl, own, L, s, last, rfl, P3, hg2, fun H4 P4 f4 => ?_⟩
          rw [if_neg (by rw [hdi]; exact Bool.false_ne_true)] at P4
          rw [hdi]
          exact ⟨_, _, rfl, rfl, _, rfl, iteF ⟨s, _, _, rfl, P4, hg2, f3.trans f4, k1, k2, hR⟩⟩
        | some d =>
          rw [hnd] at hdi
          replace hdi : s.dueBy last = decide (d ≤ last) := hdi
          refine ⟨_, rfl, rfl, _, rfl, ifN rfl ⟨_, rfl, _, rfl, _, _, rfl, rfl, _, rfl, ?_⟩⟩
          by_cases hdl : d ≤ last
          · refine ifN (dF (by omega)) ?_
            rw [dT hdl] at hdi
            refine ⟨_, rfl, L.p, dx2, _, rfl, hp3, zip_none (by decide +kernel), _, rfl, own, L, s, last, rfl, P3, hg2, fun H4 P4 f4 => ?_⟩
            rw [hdi, if_pos rfl] at P4
            rw [hdi]
            have hgt := hg2.turn
            have htc := turn_clock hg2 hnd
            have hcl : s.clock ≤ d := by
              obtain ⟨dk, e1, e2⟩ := Option.map_eq_some_iff.mp hnd
              have z := hg2.due _ (tfirst_some (d := dk.1) (k := dk.2) e1).1
              replace z : s.clock ≤ dk.1 := z
              omega
            obtain ⟨op4, sd4, pg4, fv4, vv4, X4⟩ := id P4
            obtain ⟨dx4, hp4⟩ := X4.pub
            refine ⟨_, _, rfl, rfl, _, rfl, ifN rfl ⟨_, rfl, L.p, dx4, _, rfl, hp4, zip_none (by decide +kernel), own, L, s.turn, rfl, P4, _, rfl, ?_⟩⟩
            refine ⟨rfl, _, rfl, ifN (nT (congrArg V.int htc)) ⟨s.turn, _, _, rfl, P4, hgt, f3.trans f4, ?_, ?_, fun u h => hR u ((R.step hdi).mp h)⟩⟩
            · rw [htc]; omega
            · rw [htc]; exact hdl
          · refine ifY (dT (by omega)) ?_
            rw [dF hdl] at hdi
            refine ⟨_, rfl, L.p, dx2, _, rfl, hp3, zip_none (by decide +kernel), _, rfl, own, L, s, last, rfl, P3, hg2, fun H4 P4 f4 => ?_⟩
            rw [if_neg (by rw [hdi]; exact Bool.false_ne_true)] at P4
            rw [hdi]
            exact ⟨_, _, rfl, rfl, _, rfl, iteF ⟨s, _, _, rfl, P4, hg2, f3.trans f4, k1, k2, hR⟩⟩
      · obtain ⟨s, c3, c4, rfl, P2, hg2, f2, k1, k2, hR⟩ := pv
        exact ⟨Nat.le_refl _, s, c3, c4, rfl, P2, hg2, f2, k1, k2, hR⟩
    · rintro σ' H2 ⟨s, c3, c4, rfl, P2, hg2, f2, k1, k2, hR⟩
      obtain ⟨op2, sd2, pg2, fv2, vv2, X2⟩ := id P2
      obtain ⟨dx2, hp2⟩ := X2.pub
      have hcl : s.clock + (last - s.clock) = last := by omega
      refine ⟨_, rfl, L.p, dx2, _, rfl, hp2, zip_none (by decide +kernel), _, rfl, _, rfl, L.p, dx2, _, rfl, hp2, zip_none (by decide +kernel), own, L, s, rfl, P2, _, _, rfl, rfl, ?_⟩
      refine ⟨own, L, s, last - s.clock, rfl, P2, hg2, by omega, by omega, by omega, fun H4 u hu4 hgu P4 f4 => ?_⟩
      rw [hcl] at hu4 P4 ⊢
      refine ⟨_, rfl, rfl, ?_⟩
      rw [dT (show V.int last = V.int last from rfl)]
      exact kk H4 u (hR u hu4) hgu P4 (f2.trans f4)
end
end L2.TP
/-! How far the numbers of a state can go. -/
namespace L2.TP
open PySem PySem.Spec PyProof.Rows L2
def nb (M i : Int) : Prop := -M ≤ i ∧ i ≤ M
theorem nb.mono {M N i : Int} (h : nb M i) (e : M ≤ N) : nb N i := ⟨by have := h.1; omega, by have := h.2; omega⟩
theorem nb.add {M N i c : Int} (h : nb M i) (h0 : 0 ≤ c) (e : M + c ≤ N) : nb N (i + c) := ⟨by have := h.1; omega, by have := h.2; omega⟩
structure Bd (M : Int) (s : S) : Prop where
  clock : nb M s.clock
  count : nb M s.count
  last : nb M s.last
  dirty : ∀ d, s.dirty = some d → nb M d
  frz : ∀ f, s.frz = some f → nb M f.count ∧ nb M f.time
  vn : nb M s.ver.number
  vc : nb M s.ver.count
  vt : nb M s.ver.time
  pub : nb M s.published
  made : nb M s.made
  tms : ∀ p ∈ s.tms, nb M p.2
theorem Bd.mono {M N : Int} {s : S} (h : Bd M s) (e : M ≤ N) : Bd N s :=
  ⟨h.clock.mono e, h.count.mono e, h.last.mono e, fun d z => (h.dirty d z).mono e, fun f z => ⟨(h.frz f z).1.mono e, (h.frz f z).2.mono e⟩, h.vn.mono e, h.vc.mono e, h.vt.mono e, h.pub.mono e, h.made.mono e, fun p z => (h.tms p z).mono e⟩
theorem Bd.jobs {M : Int} {s : S} (h : Bd M s) (j : List (Str × Job)) (c : Cch) : Bd M { s with jobs := j, cache := c } := { h with }
theorem Bd.tm {M : Int} {s : S} (h : Bd M s) (t : Tms) (ht : ∀ p ∈ t, nb M p.2) : Bd M { s with tms := t } := { h with tms := ht }
theorem bd_drop {M : Int} {t : Tms} (h : ∀ p ∈ t, nb M p.2) (k : TK) : ∀ p ∈ adrop t k, nb M p.2 := fun p hp => h p (mem_adrop hp).1
theorem bd_put {M : Int} {t : Tms} (h : ∀ p ∈ t, nb M p.2) (k : TK) {d : Int} (hd : nb M d) : ∀ p ∈ tput t k d, nb M p.2 := fun p hp => by
  rcases mem_tput hp with q | q
  · exact h p q.1
  · rw [q]; exact hd
theorem Bd.forget {M : Int} {s : S} (h : Bd M s) : Bd M s.forget := { h with }
theorem Bd.dropJob {M : Int} {s : S} (h : Bd M s) (n : Str) : Bd M (s.dropJob n) := { h with tms := bd_drop (bd_drop h.tms _) _ }
theorem Bd.dropGo {M : Int} {sn : Snap} {req : List Str} : ∀ (l : List (Str × Job)) {s : S}, Bd M s → Bd M (L2.TP.dropGo sn req l s)
  | [], s, h => h
  | (n, j) :: l, s, h => by
    unfold L2.TP.dropGo
    split
    · exact Bd.dropGo l h
    · exact Bd.dropGo l (h.dropJob n)
theorem Bd.newJob {M : Int} {s : S} (h : Bd M s) (sn : Snap) (n : Str) : Bd M (s.newJob sn n) := by
  unfold S.newJob
  split
  · exact h
  · exact { h with }
theorem found_len {o : Opt} {n : Str} {j : Job} (h : JobG o n j) : j.found.length ≤ 242 := by
  obtain ⟨kn, e⟩ := h.told
  rw [e]
  have h1 := flat_len (toldSeg kn n) 2 (split n j.text) fun g _ => toldSeg_len kn n g
  obtain ⟨_, h2⟩ := split_len (name := n) (Nat.le_refl j.text.length)
  have h3 := h.len
  unfold toldOf
  omega
theorem dur_le {o : Opt} (h : o.Ok) {n : Nat} (hn : n ≤ 242) : duration o n ≤ 24300 := by
  unfold duration
  have h1 := h.u1
  have h2 := h.u2
  have h3 : o.unit * (1 + (n : Int)) ≤ 100 * (1 + (n : Int)) := Int.mul_le_mul_of_nonneg_right h2 (by omega)
  omega
theorem Bd.startJob {M : Int} {s : S} (h : Bd M s) (hg : Gd s) (n : Str) : Bd (M + 30000) (s.startJob n) := by
  unfold S.startJob
  cases e : aget s.jobs n with
  | none => exact h.mono (by omega)
  | some j =>
    show Bd (M + 30000) (if j.state = .queued then _ else s)
    split
    · have h2 : Bd (M + 30000) s := h.mono (by omega)
      have hl := dur_le hg.opt (found_len (aget_jobG hg e))
      have hp := dur_pos hg.opt j.found.length
      exact { h2 with made := h.made.add (by decide) (by omega), tms := bd_put h2.tms _ (h.clock.add (by omega) (by omega)) }
    · exact h.mono (by omega)
theorem Bd.startGo {sn : Snap} : ∀ (l : List Str) {M : Int} {s : S}, Bd M s → Gd s → SnG s sn → (∀ n ∈ l, sn.isRend n = true) → Bd (M + 30000 * l.length) (L2.TP.startGo sn l s)
  | [], M, s, h, _, _, _ => h.mono (by simp)
  | n :: l, M, s, h, hg, g, hl => by
    unfold L2.TP.startGo
    split
    · exact h.mono (by rw [List.length_cons]; omega)
    · obtain ⟨h1, h2, h3, h4, j, hj⟩ := hg.newJob g (hl n List.mem_cons_self)
      obtain ⟨h5, h6, h7, h8⟩ := h1.startJob hj
      have z := Bd.startGo (sn := sn) l ((h.newJob sn n).startJob h1 n) h5 ⟨g.ok, g.src.trans (h3.symm.trans h7.symm), g.pgs.trans (h4.symm.trans h8.symm)⟩ fun m hm => hl m (List.mem_cons_of_mem _ hm)
      exact z.mono (by rw [List.length_cons]; omega)
theorem Bd.start {M : Int} {s : S} {sn : Snap} (h : Bd M s) (hg : Gd s) (g : SnG s sn) : Bd (M + 3000000000) (s.start sn) := by
  have z := Bd.startGo sn.renderable h hg g fun _ hn => (List.mem_filter.mp hn).2
  have h1 : sn.renderable.length ≤ sn.required.length := List.length_filter_le _ _
  have h2 := required_len g hg
  exact z.mono (by omega)
/-- k raises the bound by C at most -/
def Bk (C : Int) (k : S → S) : Prop := ∀ M s, Gd s → Bd M s → Bd (M + C) (k s)
theorem bk_id : Bk 0 id := fun M s _ h => h.mono (by omega)
theorem Bd.freeze {C M : Int} {k : S → S} {s : S} (hk : Bk C k) (hg : Gd s) (h : Bd M s) : Bd (M + C) (S.freeze k s) :=
  hk M _ (Gd.freeze gp_id hg).1 { h with dirty := (fun d z => nomatch z), frz := fun f z => by rw [← Option.some.inj z]; exact ⟨h.count, h.clock⟩, tms := bd_drop h.tms _ }
theorem Bd.release {C M : Int} {k : S → S} {s : S} (hC : 0 ≤ C) (hk : Bk C k) (hg : Gd s) (h : Bd M s) : Bd (M + 3000 + C) (S.release k s) := by
  have hg1 := (Gd.release gp_id hg).1
  have h0 : Bd M { s with frz := none } := { h with frz := (fun f z => nomatch z) }
  unfold S.release at *
  cases e : s.dirty with
  | none =>
    rw [e] at h0
    exact h0.mono (by omega)
  | some d =>
    rw [e] at hg1
    have h1 := hg.opt.w1
    have h2 := hg.opt.w2
    have h3 := hg.opt.p1
    have h4 := hg.opt.p2
    have hd := h.dirty d e
    show Bd _ (if s.clock - d ≥ s.o.wait then S.freeze k { s with frz := none, dirty := some d } else k { s with frz := none, dirty := some d, tms := if s.clock - s.last < s.o.pause then tput (tput s.tms .wait (d + s.o.wait)) .pause (s.last + s.o.pause) else tput s.tms .wait (d + s.o.wait) })
    replace hg1 : Gd (if s.clock - d ≥ s.o.wait then S.freeze id { s with frz := none, dirty := some d } else id { s with frz := none, dirty := some d, tms := if s.clock - s.last < s.o.pause then tput (tput s.tms .wait (d + s.o.wait)) .pause (s.last + s.o.pause) else tput s.tms .wait (d + s.o.wait) }) := hg1
    by_cases c1 : s.clock - d ≥ s.o.wait
    · rw [if_pos c1]
      have z := Bd.freeze hk hg.unfreeze.1 h0
      rw [e] at z
      exact z.mono (by omega)
    · rw [if_neg c1] at hg1 ⊢
      have h5 : Bd (M + 3000) s := h.mono (by omega)
      have hw := bd_put h5.tms .wait (hd.add (c := s.o.wait) (by omega) (by omega) : nb (M + 3000) (d + s.o.wait))
      have ht : ∀ p ∈ (if s.clock - s.last < s.o.pause then tput (tput s.tms .wait (d + s.o.wait)) .pause (s.last + s.o.pause) else tput s.tms .wait (d + s.o.wait)), nb (M + 3000) p.2 := by
        split
        · exact bd_put hw _ (h.last.add (by omega) (by omega))
        · exact hw
      generalize (if s.clock - s.last < s.o.pause then tput (tput s.tms .wait (d + s.o.wait)) .pause (s.last + s.o.pause) else tput s.tms .wait (d + s.o.wait)) = tt at *
      replace hg1 : Gd { s with frz := none, dirty := some d, tms := tt } := hg1
      exact hk (M + 3000) _ hg1 { h5 with frz := (fun f z => nomatch z), dirty := (fun d2 z => by rw [← Option.some.inj z]; exact hd.mono (by omega)), tms := ht }
theorem Bd.publish {C M : Int} {k : S → S} {s : S} {sn : Snap} (hC : 0 ≤ C) (hk : Bk C k) (hg : Gd s) (g : SnG s sn) (h : Bd M s) : Bd (M + 3001 + C) (S.publish k s sn) := by
  have h1 : Bd (M + 1) s := h.mono (by omega)
  have hn : nb (M + 1) (s.pubNum sn) := by
    unfold S.pubNum
    split
    · exact h1.vn
    · exact h.vn.add (by decide) (Int.le_refl _)
  cases e : s.frz with
  | none =>
    rw [pub_none e]
    have z : Bd (M + 1) { s with published := s.published + 1, ver := ⟨s.pubNum sn, s.count, s.clock, s.pubPages sn, s.pubBehind sn⟩, dirty := none, tms := adrop s.tms .wait } :=
      { h1 with dirty := (fun d z => nomatch z), vn := hn, vc := h1.count, vt := h1.clock, pub := h.pub.add (by decide) (Int.le_refl _), tms := bd_drop h1.tms _ }
    exact z.mono (by omega)
  | some f =>
    rw [pub_some e]
    have hf := h1.frz f e
    have z := Bd.release (M := M + 1) (s := { s with published := s.published + 1, ver := ⟨s.pubNum sn, f.count, f.time, s.pubPages sn, s.pubBehind sn⟩ }) hC hk
      { opt := hg.opt, src := hg.src, pgs := hg.pgs, cch := hg.cch, cks := hg.cks, jks := hg.jks, jbs := hg.jbs, frz := hg.frz, tnd := hg.tnd, tim := hg.tim, due := hg.due, ver := ver_ok2 hg g _ _ _ }
      { h1 with vn := hn, vc := hf.1, vt := hf.2, pub := h.pub.add (by decide) (Int.le_refl _) }
    exact z.mono (by omega)
theorem bk_progress {C : Int} {k : S → S} (hC : 0 ≤ C) (hk : Bk C k) : Bk (3000010000 + C) (S.progressK k) := by
  intro M s hg h
  obtain ⟨h1, h2⟩ := hg.forget
  obtain ⟨h3, h4⟩ := h1.dropJobs s.forget.snap
  have g1 := h1.snap
  obtain ⟨c1, c2⟩ := dropGo_cur (sn := s.forget.snap) (req := s.forget.snap.required) s.forget.jobs s.forget
  have g2 : SnG (s.forget.dropJobs s.forget.snap) s.forget.snap := ⟨g1.ok, g1.src.trans c1.symm, g1.pgs.trans c2.symm⟩
  obtain ⟨h5, h6⟩ := h3.start g2
  obtain ⟨c3, c4⟩ := startGo_cur (sn := s.forget.snap) s.forget.snap.renderable (s.forget.dropJobs s.forget.snap)
  have g3 : SnG ((s.forget.dropJobs s.forget.snap).start s.forget.snap) s.forget.snap := ⟨g2.ok, g2.src.trans c3.symm, g2.pgs.trans c4.symm⟩
  have b1 : Bd M (s.forget.dropJobs s.forget.snap) := Bd.dropGo _ h.forget
  have b2 := b1.start h3 g2
  show Bd _ (if (aget (s.forget.dropJobs s.forget.snap).tms .pause).isSome then _ else _)
  cases (aget (s.forget.dropJobs s.forget.snap).tms .pause).isSome with
  | true => exact b1.mono (by omega)
  | false =>
    show Bd _ (if (s.forget.snap.ready && _) = true then _ else _)
    split
    · exact (b2.publish hC hk h5 g3).mono (by omega)
    · exact b2.mono (by omega)
theorem bk_prog0 : Bk 3000010000 S.prog0 := fun M s hg h => (bk_progress (Int.le_refl 0) bk_id M s hg h).mono (by omega)
theorem bk_prog : Bk 6000020000 S.prog := fun M s hg h => (bk_progress (by decide) bk_prog0 M s hg h).mono (by omega)
theorem delay_le {o : Opt} (h : o.Ok) (n : Int) : delay o n ≤ 400 := by
  unfold delay
  have h1 := h.m2
  omega
theorem Bd.ended {M : Int} {s : S} (hg : Gd s) (h : Bd M s) (n : Str) : Bd (M + 500) (s.ended n) := by
  unfold S.ended
  cases e : aget s.jobs n with
  | none => exact h.mono (by omega)
  | some j =>
    have h2 : Bd (M + 500) s := h.mono (by omega)
    show Bd _ (if j.attempt ≤ nfail j.text ∧ j.attempt < s.o.attempts then _ else _)
    split
    · have d1 := delay_le hg.opt j.attempt
      have d2 := delay_pos hg.opt j.attempt
      exact { h2 with tms := bd_put h2.tms _ (h.clock.add (by omega) (by omega)) }
    · exact { h2 with }
theorem Bd.queue {M : Int} {s : S} (h : Bd M s) (n : Str) : Bd M (s.queue n) := by
  unfold S.queue
  cases e : aget s.jobs n with
  | none => exact h
  | some j => exact { h with }
theorem Bd.turn {M : Int} {s : S} (hg : Gd s) (h : Bd M s) : Bd (M + 6000030000) s.turn := by
  unfold S.turn
  cases e : tfirst s.tms with
  | none => exact h.mono (by omega)
  | some dk =>
    obtain ⟨d, k⟩ := dk
    obtain ⟨hm, _⟩ := tfirst_some e
    have h1 := hg.fired e
    have b1 : Bd M (s.fired d k) := { h with clock := h.tms _ hm, tms := bd_drop h.tms _ }
    have ht := hg.tim _ hm
    show Bd _ (S.fire (s.fired d k) k)
    cases k with
    | pause => exact (bk_prog _ _ h1 b1).mono (by omega)
    | wait => exact (Bd.freeze bk_prog h1 b1).mono (by omega)
    | att n =>
      obtain ⟨j, hj, hs⟩ := ht
      obtain ⟨h2, h3⟩ := h1.ended (n := n) hj hs fun p hp => (mem_adrop hp).2
      exact (bk_prog _ _ h2 (b1.ended h1 n)).mono (by omega)
    | del n =>
      obtain ⟨j, hj, hs⟩ := ht
      obtain ⟨h2, h3⟩ := h1.queue (n := n) hj hs fun p hp => (mem_adrop hp).2
      exact (bk_prog _ _ h2 (b1.queue n)).mono (by omega)
theorem Bd.at_ {M : Int} {s : S} (h : Bd M s) {c : Int} (hc : nb M c) : Bd M (s.at c) := { h with clock := hc }
theorem R.bd {last : Int} : ∀ (m : Nat) {M : Int} {s u : S}, Gd s → s.mes last ≤ m → Bd M s → R last s u → Bd (M + 6000030000 * m) u
  | m, M, s, u, hg, hm, h, hr => by
    cases hd : s.dueBy last with
    | false =>
      rw [hr.uniq (R.fin hd)]
      exact h.mono (by omega)
    | true =>
      have z := mes_lt hg hd
      cases m with
      | zero => omega
      | succ m =>
        have q := R.bd m hg.turn (by omega) (h.turn hg) ((R.step hd).mpr hr)
        exact q.mono (by omega)
theorem mes_le {s : S} (h : Gd s) {last : Int} (hl : last - s.clock ≤ 10000) : s.mes last ≤ 200020 := by
  unfold S.mes S.cnt
  have h1 : (s.tms.filter fun p => decide (p.2 = s.clock)).length ≤ 18 := Nat.le_trans (List.length_filter_le _ _) h.tlen
  omega
/-- an advance -/
theorem Bd.adv {M : Int} {s u : S} {last : Int} (hg : Gd s) (h : Bd M s) (hl : last - s.clock ≤ 10000) (hr : R last s u) (hb : nb M last) : Bd (M + 6000030000 * 200020) (u.at last) := by
  have z := R.bd 200020 hg (mes_le hg hl) h hr
  exact z.at_ (hb.mono (by omega))
theorem Bd.touch1 {M : Int} {s : S} (hg : Gd s) (h : Bd M s) : Bd (M + 2000) s.touch1 := by
  unfold S.touch1
  have h2 : Bd (M + 2000) s := h.mono (by omega)
  split
  · exact h2
  · have a := hg.opt.w1
    have b := hg.opt.w2
    exact { h2 with dirty := fun d z => by rw [← Option.some.inj z]; exact h2.clock, tms := bd_put h2.tms _ (h.clock.add (by omega) (by omega)) }
theorem Bd.touch {M : Int} {s : S} (hg : Gd s) (h : Bd M s) : Bd (M + 3000) s.touch := by
  have b1 := h.touch1 hg
  have h2 : Bd (M + 3000) s.touch1 := b1.mono (by omega)
  have a := hg.touch1.opt.p1
  have b := hg.touch1.opt.p2
  exact { h2 with tms := bd_put h2.tms _ (b1.clock.add (by omega) (by omega)) }
theorem Bd.dirted {M : Int} {s : S} (hg : Gd s) (h : Bd M s) : Bd (M + 3000) s.dirted := by
  unfold S.dirted
  have h2 : Bd (M + 3000) s := h.mono (by omega)
  split
  · split
    · exact h2
    · exact { h2 with dirty := fun d z => by rw [← Option.some.inj z]; exact h2.clock }
  · exact h.touch hg
theorem Bd.edited {M : Int} {s : S} (hg : Gd s) (h : Bd M s) {x : Ed} (hx : x.Ok) : Bd (M + 6000030000) (s.edited x) := by
  unfold S.edited
  cases e : applyEd s.src s.pages x with
  | none => exact h.mono (by omega)
  | some p =>
    obtain ⟨h1, h2⟩ := apply_g hg.src hg.pgs hx e
    have hg2 := hg.made2 h1 h2
    have h3 : Bd (M + 1) s := h.mono (by omega)
    have b2 : Bd (M + 1) (s.made2 p.1 p.2) := { h3 with count := h.count.add (by decide) (Int.le_refl _), last := h3.clock }
    exact (bk_prog _ _ hg2.dirted (b2.dirted hg2)).mono (by omega)
theorem Bd.init (o : Opt) : Bd 0 (S.init o) := by
  have z : nb 0 0 := ⟨by decide, by decide⟩
  exact ⟨z, z, z, (fun d e => nomatch e), (fun f e => nomatch e), z, z, z, z, z, (fun p e => nomatch e)⟩
end L2.TP
/-! What the law's _law_told_by tells, as data; that it can be shown. -/
namespace L2.TP
open PySem PySem.Spec PyProof.Rows L2
def S.toldA (s : S) : List PyData := [.int s.clock, .int s.count, encV s.ver, .str s.stateN, encI s.dirty, encI s.nextDue]
def S.toldB (s : S) : List PyData := [.list s.jobsD, .list (s.snap.required.map .str), .int s.published, .int s.made, s.srcD]
def S.toldD (s : S) : PyData := .list (s.toldA ++ s.toldB)
structure Sm (n k : Nat) (d : PyData) : Prop where
  sh : d.showable = true
  nd : d.hasDict = false
  lv : d.leavesShort 20 = true
  wt : d.weight ≤ n
  dp : d.depth ≤ k
structure SmA (n k : Nat) (l : List PyData) : Prop where
  sh : PyData.showableAll l = true
  nd : PyData.hasDictAll l = false
  lv : PyData.leavesShortAll 20 l = true
  wt : PyData.weightAll l ≤ n
  dp : PyData.depthAll l ≤ k
theorem Sm.mono {n k m j : Nat} {d : PyData} (h : Sm n k d) (a : n ≤ m) (b : k ≤ j) : Sm m j d := ⟨h.sh, h.nd, h.lv, Nat.le_trans h.wt a, Nat.le_trans h.dp b⟩
theorem SmA.nil {k : Nat} : SmA 0 k [] := ⟨rfl, rfl, rfl, Nat.le_refl _, Nat.zero_le _⟩
theorem SmA.cons {n m k : Nat} {d : PyData} {l : List PyData} (h : Sm n k d) (g : SmA m k l) : SmA (n + 1 + m) k (d :: l) :=
  ⟨by simp only [PyData.showableAll, h.sh, g.sh, Bool.and_self], by simp only [PyData.hasDictAll, h.nd, g.nd, Bool.or_self], by simp only [PyData.leavesShortAll, h.lv, g.lv, Bool.and_self],
    by simp only [PyData.weightAll]; have := h.wt; have := g.wt; omega, by simp only [PyData.depthAll]; have := h.dp; have := g.dp; omega⟩
theorem SmA.map {α : Type} {n k : Nat} {f : α → PyData} : ∀ (l : List α), (∀ a ∈ l, Sm n k (f a)) → SmA (l.length * (n + 1)) k (l.map f)
  | [], _ => ⟨rfl, rfl, rfl, Nat.zero_le _, Nat.zero_le _⟩
  | a :: l, h => by
    have z := SmA.cons (h a List.mem_cons_self) (SmA.map l fun b hb => h b (List.mem_cons_of_mem _ hb))
    exact ⟨z.sh, z.nd, z.lv, Nat.le_trans z.wt (by rw [List.length_cons, Nat.add_mul]; omega), z.dp⟩
theorem SmA.mono {n k m j : Nat} {d : List PyData} (h : SmA n k d) (a : n ≤ m) (b : k ≤ j) : SmA m j d := ⟨h.sh, h.nd, h.lv, Nat.le_trans h.wt a, Nat.le_trans h.dp b⟩
theorem Sm.tup {n k : Nat} {l : List PyData} (h : SmA n k l) : Sm n (k + 1) (.tuple l) :=
  ⟨by simp only [PyData.showable, h.sh], by simp only [PyData.hasDict, h.nd], by simp only [PyData.leavesShort, h.lv], by simp only [PyData.weight]; exact h.wt, by simp only [PyData.depth]; have := h.dp; omega⟩
theorem Sm.lst {n k : Nat} {l : List PyData} (h : SmA n k l) : Sm n (k + 1) (.list l) :=
  ⟨by simp only [PyData.showable, h.sh], by simp only [PyData.hasDict, h.nd], by simp only [PyData.leavesShort, h.lv], by simp only [PyData.weight]; exact h.wt, by simp only [PyData.depth]; have := h.dp; omega⟩
theorem Sm.none {k : Nat} : Sm 0 k .none := ⟨rfl, rfl, rfl, Nat.le_refl _, Nat.zero_le _⟩
theorem Sm.str {k n : Nat} {x : Str} (h : SOk x) (hl : x.length ≤ n) : Sm n k (.str x) :=
  ⟨rfl, rfl, List.all_eq_true.mpr fun c hc => decide_eq_true (by
    have z := sok_iff.mp h c hc
    have e : (16 : Nat) ^ 8 = 4294967296 := by decide
    omega), hl, Nat.zero_le _⟩
theorem Sm.int {k : Nat} {i : Int} (h : nb (10 ^ 17) i) : Sm 60 k (.int i) := by
  have e : (10 : Int) ^ 17 = 100000000000000000 := by decide
  have h1 : i.natAbs < 10 ^ 18 := by
    have a := h.1
    have b := h.2
    have e2 : (10 : Nat) ^ 18 = 1000000000000000000 := by decide
    omega
  have h2 : i.natAbs.log2 < 60 := by
    by_cases h0 : i.natAbs = 0
    · rw [h0]; decide
    · exact (Nat.log2_lt h0).mpr (Nat.lt_trans h1 (by decide))
  have h3 : (PyData.shown (.int i)).length ≤ 20 := by
    have q := int_text_length_le10 (k := 18) (by decide) h1
    show (Str.ofString (toString i)).length ≤ 20
    rw [PySem.ofString_length]
    omega
  refine ⟨decide_eq_true (show i.natAbs.log2 < 1920 by omega), rfl, decide_eq_true h3, ?_, Nat.zero_le _⟩
  show (if i == 0 then 0 else i.natAbs.log2 + 1) ≤ 60
  split <;> omega
theorem Sm.oi {k : Nat} {o : Option Int} (h : ∀ d, o = some d → nb (10 ^ 17) d) : Sm 60 k (encI o) := by
  cases o with
  | none => exact Sm.none.mono (Nat.zero_le _) (Nat.le_refl _)
  | some d => exact Sm.int (h d rfl)
theorem sm_res {r : Res} (h : r.Ok) : Sm 13000 2 r.enc := by
  cases r with
  | text c ls =>
    obtain ⟨h1, h2, h3, h4⟩ := h
    replace h1 : c.length ≤ 200 := h1
    replace h2 : ls.length ≤ c.length := h2
    have z := Sm.tup (k := 1) (.cons (Sm.str (sok "text") (n := 4) (by decide +kernel)) (.cons (Sm.str h3 h1) (.cons (Sm.tup (k := 0) (SmA.map (n := 60) (f := PyData.str) ls fun x hx => Sm.str (h4 x hx).1 (h4 x hx).2)) .nil)))
    exact z.mono (by omega) (Nat.le_refl _)
  | failed n =>
    have z := Sm.tup (k := 1) (.cons (Sm.str (sok "failed") (n := 6) (by decide +kernel)) (.cons (Sm.str h.2.2.1 h.2.2.2) .nil))
    exact z.mono (by decide) (Nat.le_refl _)
  | long n =>
    have z := Sm.tup (k := 1) (.cons (Sm.str (sok "long") (n := 4) (by decide +kernel)) (.cons (Sm.str h.2.2.1 h.2.2.2) .nil))
    exact z.mono (by decide) (Nat.le_refl _)
theorem sm_rsn {r : Rsn} (h : r.Sk) : Sm 13000 2 r.enc := by
  cases r with
  | res r => exact sm_res h
  | link o =>
    cases o with
    | none =>
      have z := Sm.tup (k := 1) (.cons (Sm.str (sok "link") (n := 4) (by decide +kernel)) (.cons Sm.none .nil))
      exact z.mono (by decide) (Nat.le_refl _)
    | some n =>
      have h2 : SN n := h
      have z := Sm.tup (k := 1) (.cons (Sm.str (sok "link") (n := 4) (by decide +kernel)) (.cons (Sm.str h2.1 h2.2) .nil))
      exact z.mono (by decide) (Nat.le_refl _)
theorem sm_ver {s : S} (h : Gd s) (b : Bd (10 ^ 17) s) : Sm 107000 5 (encV s.ver) := by
  have h1 := SmA.map (n := 262) (k := 1) (f := fun p : Str × Str => .tuple [.str p.1, .str p.2]) s.ver.pages fun p hp => by
    obtain ⟨a, c, d⟩ := h.ver.pages p hp
    exact (Sm.tup (k := 0) (.cons (Sm.str a.1 a.2) (.cons (Sm.str c d) .nil))).mono (by decide) (Nat.le_refl _)
  have h2 := SmA.map (n := 13062) (k := 3) (f := fun p : Str × Rsn => .tuple [.str p.1, p.2.enc]) s.ver.behind fun p hp => by
    obtain ⟨a, c⟩ := h.ver.behind p hp
    exact (Sm.tup (k := 2) (.cons (Sm.str a.1 a.2) (.cons (sm_rsn c) .nil))).mono (by decide) (Nat.le_refl _)
  have n1 := h.ver.n1
  have n2 := h.ver.n2
  have z := Sm.tup (k := 4) (.cons (Sm.int b.vn) (.cons (Sm.int b.vc) (.cons (Sm.int b.vt) (.cons ((Sm.tup h1).mono (Nat.le_refl _) (by decide)) (.cons (Sm.tup h2) .nil)))))
  exact z.mono (by omega) (Nat.le_refl _)
theorem aget_memK {κ α : Type} [DecidableEq κ] {m : List (κ × α)} {k : κ} {x : α} (h : aget m k = some x) : (k, x) ∈ m := by
  unfold aget at h
  obtain ⟨p, hp, rfl⟩ := Option.map_eq_some_iff.mp h
  have z := List.find?_some hp
  have e : p.1 = k := of_decide_eq_true z
  rw [← e]
  exact List.mem_of_find?_eq_some hp
theorem aget_bd {M : Int} {s : S} (b : Bd M s) {k : TK} {d : Int} (e : aget s.tms k = some d) : nb M d := b.tms (k, d) (aget_memK e)
theorem sm_row {s : S} (h : Gd s) (b : Bd (10 ^ 17) s) {n : Str} (hn : n ∈ srt (s.jobs.map (·.1))) : Sm 210 1 (jobRow s n) := by
  obtain ⟨j, hj⟩ := key_get hn
  unfold jobRow
  rw [hj]
  have hln := aget_LN h.jks hj
  have g := aget_jobG h hj
  have a2 := h.opt.a2
  have e : (10 : Int) ^ 17 = 100000000000000000 := by decide
  have hs : Sm 11 0 (.str j.state.enc) := by
    cases j.state with
    | run => exact Sm.str (sok _) (by decide +kernel)
    | back => exact Sm.str (sok _) (by decide +kernel)
    | queued => exact Sm.str (sok _) (by decide +kernel)
  have hd : Sm 60 0 (encI (rowDue s.tms n)) := Sm.oi fun d e => by
    unfold rowDue at e
    cases q : aget s.tms (.att n) with
    | some d2 =>
      rw [q] at e
      obtain rfl : d2 = d := Option.some.inj e
      exact aget_bd b q
    | none =>
      rw [q] at e
      exact aget_bd b e
  have z := Sm.tup (k := 0) (.cons (Sm.str (ln_sok hln) (nm_len (ln_name n hln))) (.cons hs (.cons (Sm.int (i := j.attempt) ⟨by have := g.a0; omega, by have := g.a1; omega⟩) (.cons hd .nil))))
  exact z.mono (by decide) (Nat.le_refl _)
theorem sm_jobs {s : S} (h : Gd s) (b : Bd (10 ^ 17) s) : Sm 1700 2 (.list s.jobsD) := by
  have z := Sm.lst (SmA.map (n := 210) (k := 1) (f := jobRow s) (srt (s.jobs.map (·.1))) fun n hn => sm_row h b hn)
  have hl : (srt (s.jobs.map (·.1))).length ≤ 8 := by
    rw [srt_len, List.length_map]
    exact h.jks.len
  exact z.mono (by omega) (Nat.le_refl _)
theorem sm_src {s : S} (h : Gd s) : Sm 600 2 s.srcD := by
  have z := Sm.tup (SmA.map (n := 68) (k := 1) (f := srcRow s.src) (srt (s.src.map (·.1))) fun n hn => by
    obtain ⟨t, ht⟩ := key_get hn
    unfold srcRow
    rw [ht]
    have hm := aget_mem ht
    have hs := h.src.2 _ hm
    have hln := h.src.1.2 _ hm
    exact (Sm.tup (k := 0) (.cons (Sm.str (ln_sok hln) (nm_len (ln_name n hln))) (.cons (Sm.str (n := 60) hs.2.2 hs.1) .nil))).mono (by decide) (Nat.le_refl _))
  have hl : (srt (s.src.map (·.1))).length ≤ 8 := by
    rw [srt_len, List.length_map]
    exact h.src.1.len
  exact z.mono (by omega) (Nat.le_refl _)
theorem told_nm {kn : Str → Option Res} {name text : Str} : ∀ p ∈ toldOf kn name text, isName p.1 = true := by
  intro p hp
  obtain ⟨g, hg, hp⟩ := List.mem_flatMap.mp hp
  have hn := split_names g hg
  cases g with
  | txt s => exact nomatch hp
  | link s => exact nomatch hp
  | incl s =>
    have e : p = (s, kn s) := List.mem_singleton.mp hp
    rw [e]
    exact hn
  | indr s =>
    rcases List.mem_cons.mp hp with e | hp
    · rw [e]
      exact hn
    · cases hk : kn s with
      | none => simp [hk] at hp
      | some r =>
        cases ht : target name r with
        | none => simp [hk, ht] at hp
        | some led =>
          simp [hk, ht] at hp
          rw [hp]
          cases r with
          | text c ls =>
            unfold target at ht
            cases hc : (isName c && after c name) with
            | false => simp [hc] at ht
            | true =>
              simp [hc] at ht
              rw [← ht]
              exact (Bool.and_eq_true_iff.mp hc).1
          | failed m => cases ht
          | long m => cases ht
theorem reqGo_nm (sn : Snap) : ∀ (f : Nat) (names waiting : List Str), (∀ n ∈ names, isName n = true) → (∀ n ∈ waiting, isName n = true) → ∀ n ∈ reqGo sn f names waiting, isName n = true
  | 0, names, _, h, _ => h
  | f + 1, names, waiting, h, hw => by
    rw [reqGo]
    cases e : waiting.getLast? with
    | none => exact h
    | some n =>
      have hn : isName n = true := hw n (List.mem_of_getLast? e)
      have hd : ∀ m ∈ waiting.dropLast, isName m = true := fun m hm => hw m (List.dropLast_subset _ hm)
      show ∀ m ∈ (if n ∈ names then reqGo sn f names waiting.dropLast else _), _
      split
      · exact reqGo_nm sn f _ _ h hd
      · refine reqGo_nm sn f _ _ (fun m hm => ?_) fun m hm => ?_
        · rcases mem_app_one hm with q | q
          · exact h m q
          · rw [q]; exact hn
        · rcases List.mem_append.mp hm with q | q
          · exact hd m q
          · obtain ⟨p, hp, rfl⟩ := List.mem_map.mp q
            exact told_nm p hp
theorem required_len2 {s : S} {sn : Snap} (g : SnG s sn) (h : Gd s) : sn.required.length ≤ 2000 := by
  obtain ⟨z1, z2⟩ := g.small h
  unfold Snap.required
  rw [srt_len]
  have h1 := reqGo_len sn (reqFuel sn) [] sn.pages
  have h2 := restOf_le g.ok []
  rw [rest_all] at h2
  unfold reqFuel at h1
  have e : ([] : List Str).length = 0 := rfl
  unfold reqFuel
  omega
theorem sm_req {s : S} (h : Gd s) : Sm 14000 1 (.list (s.snap.required.map .str)) := by
  have hl := required_len2 h.snap h
  have hw := h.wanted
  have z := Sm.lst (SmA.map (n := 6) (k := 0) (f := PyData.str) s.snap.required fun n hn => by
    have q := reqGo_nm s.snap (reqFuel s.snap) [] s.snap.pages (fun n hn => nomatch hn) (fun n hn => by rw [h.snap.pgs] at hn; exact ln_name n (hw.2 n hn)) n (srt_mem hn)
    exact Sm.str (name_sok q) (nm_len q))
  exact z.mono (by omega) (Nat.le_refl _)
theorem sm_state {s : S} : Sm 9 0 (.str s.stateN) := by
  unfold S.stateN
  split
  · exact Sm.str (sok _) (by decide +kernel)
  · split
    · exact Sm.str (sok _) (by decide +kernel)
    · split
      · exact Sm.str (sok _) (by decide +kernel)
      · exact Sm.str (sok _) (by decide +kernel)
theorem sm_due {s : S} (b : Bd (10 ^ 17) s) : Sm 60 0 (encI s.nextDue) := Sm.oi fun d e => by
  unfold S.nextDue at e
  cases q : tfirst s.tms with
  | none => rw [q] at e; cases e
  | some dk =>
    obtain ⟨d2, k⟩ := dk
    rw [q] at e
    obtain rfl : d2 = d := Option.some.inj e
    exact b.tms (k, d2) (tfirst_some q).1
theorem sm_told {s : S} (h : Gd s) (b : Bd (10 ^ 17) s) : Sm 130000 6 s.toldD := by
  have u : ∀ {n k : Nat} {d : PyData}, Sm n k d → k ≤ 5 → Sm n 5 d := fun z e => z.mono (Nat.le_refl _) e
  have z := Sm.lst (k := 5) (.cons (Sm.int b.clock) (.cons (Sm.int b.count) (.cons (sm_ver h b) (.cons (u (sm_state (s := s)) (by decide)) (.cons (u (Sm.oi (k := 0) b.dirty) (by decide)) (.cons (u (sm_due b) (by decide))
    (.cons (u (sm_jobs h b) (by decide)) (.cons (u (sm_req h) (by decide)) (.cons (Sm.int b.pub) (.cons (Sm.int b.made) (.cons (u (sm_src h) (by decide)) .nil)))))))))))
  exact z.mono (by decide) (Nat.le_refl _)
/-- what repr asks -/
theorem told_fit {s : S} (h : Gd s) (b : Bd (10 ^ 17) s) : s.toldD.showable = true ∧ s.toldD.hasDict = false ∧ s.toldD.shown.length ≤ sizeLine ∧ s.toldD.depth ≤ 60 := by
  have z := sm_told h b
  have q := PyData.shown_le 20 (by decide) _ z.lv
  have w := z.wt
  refine ⟨z.sh, z.nd, ?_, Nat.le_trans z.dp (by decide)⟩
  have e : sizeLine = 16777216 := sizeLine_eq
  rw [e]
  have : (20 + 2) * s.toldD.weight ≤ 22 * 130000 := Nat.mul_le_mul (Nat.le_refl _) w
  omega
end L2.TP
/-! The law's _law_told_by, _law_alike. -/
namespace L2.TP
open PySem PySem.Spec PyProof.Rows L2
section
variable {P : Program} {w : World} {K : PySem.W.Frag} {mg : Str → Option Value} {base : Heap} {H H' : Hp}
def spTell (K : PySem.W.Frag) (P : Program) (w : World) : Sp := fun vs H Q _ => ∃ (own : Addr → Prop) (L : Lay) (s : S), vs = [.ref L.p] ∧ Pub K P w own L s H ∧ Gd s ∧ ∀ H' a, Same H H' → Dp K H' (.ref a) s.toldD → Q (.ref a) H'
theorem dp_strs {l : List Str} : DpAll K H (l.map V.str) (l.map .str) := by
  induction l with
  | nil => exact .nil
  | cons a l ih => exact .cons (.str a) ih
theorem oi_dp {o : Option Int} : Dp K H (oi o) (encI o) := oi_dt.dp
theorem ok_tell (T : Txt w K mg) : FnOk P w K mg base CX0 9 (He.ga K "_law_told_by") (fd__law_told_by K) ["_law_publisher"] (spTell K P w) := by
  have G_Publisher_clock := ok_clock (P := P) (base := base) T
  have G_Publisher_count := ok_count (P := P) (base := base) T
  have G_Publisher_version := ok_version (P := P) (base := base) T
  have G_Publisher_state := ok_state (P := P) (base := base) T
  have G_Publisher_dirty_since := ok_dirty (P := P) (base := base) T
  have G_Publisher_next_due := ok_next_due (P := P) (base := base) T
  have G_Publisher_jobs := ok_jobs (P := P) (base := base) T
  have G_Publisher_required := ok_req (P := P) (base := base) T
  have G_Publisher_published := ok_published (P := P) (base := base) T
  have G_Publisher_attempts_made := ok_made (P := P) (base := base) T
  have G_Publisher_sources := ok_sources (P := P) (base := base) T
  refine T.f__law_told_by.ok sc__law_told_by (fun vs H Q E h => ?_) (fun cdv A outer s H vs Q E hr h => ?_)
  · obtain ⟨_, _, _, rfl, _⟩ := h
    rfl
  · obtain ⟨own, L, s0, rfl, PA, hg, kk⟩ := h
    have hu := hu_of hr
    obtain ⟨op, sd, pg, fv, vv, X⟩ := id PA
    obtain ⟨dx, hp⟩ := X.pub
    refine ⟨_, PSs.nox ((pss_cons (ps_set (i := 1) sc__law_told_by.nd rfl (.inl rfl) (pe_lst (pa_cons (pe_meth0 (pv 0) T.cl_Publisher T.mt_Publisher_clock G_Publisher_clock (hr.mono (by omega)) T.b_Publisher_clock .nil pass0) (pa_cons (pe_meth0 (pv 0) T.cl_Publisher T.mt_Publisher_count G_Publisher_count (hr.mono (by omega)) T.b_Publisher_count .nil pass0) (pa_cons (pe_meth0 (pv 0) T.cl_Publisher T.mt_Publisher_version G_Publisher_version (hr.mono (by omega)) T.b_Publisher_version .nil pass0) (pa_cons (pe_meth0 (pv 0) T.cl_Publisher T.mt_Publisher_state G_Publisher_state (hr.mono (by omega)) T.b_Publisher_state .nil pass0) (pa_cons (pe_meth0 (pv 0) T.cl_Publisher T.mt_Publisher_dirty_since G_Publisher_dirty_since (hr.mono (by omega)) T.b_Publisher_dirty_since .nil pass0) (pa_cons (pe_meth0 (pv 0) T.cl_Publisher T.mt_Publisher_next_due G_Publisher_next_due (hr.mono (by omega)) T.b_Publisher_next_due .nil pass0) pa_nil))))))))
      (pss_one (ps_ret (pe_op op_cat (pv 1) (pe_lst (pa_cons (pe_meth0 (pv 0) T.cl_Publisher T.mt_Publisher_jobs G_Publisher_jobs (hr.mono (by omega)) T.b_Publisher_jobs .nil pass0) (pa_cons (pe_meth0 (pv 0) T.cl_Publisher T.mt_Publisher_required G_Publisher_required (hr.mono (by omega)) T.b_Publisher_required .nil pass0) (pa_cons (pe_meth0 (pv 0) T.cl_Publisher T.mt_Publisher_published G_Publisher_published (hr.mono (by omega)) T.b_Publisher_published .nil pass0) (pa_cons (pe_meth0 (pv 0) T.cl_Publisher T.mt_Publisher_attempts_made G_Publisher_attempts_made (hr.mono (by omega)) T.b_Publisher_attempts_made .nil pass0) (pa_cons (pe_meth0 (pv 0) T.cl_Publisher T.mt_Publisher_sources G_Publisher_sources (hr.mono (by omega)) T.b_Publisher_sources .nil pass0) pa_nil))))))))))), ?_⟩
    refine ⟨_, rfl, L.p, dx, _, rfl, hp, zip_none (by decide +kernel), own, L, s0, rfl, PA, ?_⟩
    refine ⟨_, rfl, L.p, dx, _, rfl, hp, zip_none (by decide +kernel), own, L, s0, rfl, PA, ?_⟩
    refine ⟨_, rfl, L.p, dx, _, rfl, hp, zip_none (by decide +kernel), own, L, s0, rfl, PA, fun v2 hv2 => ?_⟩
    refine ⟨_, rfl, L.p, dx, _, rfl, hp, zip_none (by decide +kernel), own, L, s0, rfl, PA, ?_⟩
    refine ⟨_, rfl, L.p, dx, _, rfl, hp, zip_none (by decide +kernel), own, L, s0, rfl, PA, ?_⟩
    refine ⟨_, rfl, L.p, dx, _, rfl, hp, zip_none (by decide +kernel), own, L, s0, rfl, PA, hg, fun H1 s1 => ⟨le6, fun l hl => ?_⟩⟩
    have s2 := s1.trans (same_new hl (o := .lst [.int s0.clock, .int s0.count, v2, .str s0.stateN, oi s0.dirty, oi s0.nextDue]))
    have hl2 := upd_same (H := H1) (a := l) (o := .lst [.int s0.clock, .int s0.count, v2, .str s0.stateN, oi s0.dirty, oi s0.nextDue])
    have P2 := PA.same s2
    have hp2 := s2 _ _ hp
    generalize upd H1 l (.lst [.int s0.clock, .int s0.count, v2, .str s0.stateN, oi s0.dirty, oi s0.nextDue]) = H2 at *
    refine ⟨_, rfl, ?_⟩
    refine ⟨_, rfl, L.p, dx, _, rfl, hp2, zip_none (by decide +kernel), own, L, s0, rfl, P2, hg, fun H3 l3 us3 s3 hl3 hd3 => ?_⟩
    have P3 := P2.same s3
    refine ⟨_, rfl, L.p, dx, _, rfl, s3 _ _ hp2, zip_none (by decide +kernel), own, L, s0, rfl, P3, hg, fun H4 l4 s4 hl4 => ?_⟩
    have s34 := s3.trans s4
    have P4 := P2.same s34
    refine ⟨_, rfl, L.p, dx, _, rfl, s34 _ _ hp2, zip_none (by decide +kernel), own, L, s0, rfl, P4, ?_⟩
    refine ⟨_, rfl, L.p, dx, _, rfl, s34 _ _ hp2, zip_none (by decide +kernel), own, L, s0, rfl, P4, ?_⟩
    refine ⟨_, rfl, L.p, dx, _, rfl, s34 _ _ hp2, zip_none (by decide +kernel), own, L, s0, rfl, P4, hg, fun H5 v5 s5 hv5 => ⟨le5, fun l6 hl6 => ?_⟩⟩
    have s6 := s5.trans (same_new hl6 (o := .lst [.ref l3, .ref l4, .int s0.published, .int s0.made, v5]))
    have hl62 := upd_same (H := H5) (a := l6) (o := .lst [.ref l3, .ref l4, .int s0.published, .int s0.made, v5])
    have hv6 := hv5.keep (Same.tk (same_new hl6 (o := .lst [.ref l3, .ref l4, .int s0.published, .int s0.made, v5])))
    generalize upd H5 l6 (.lst [.ref l3, .ref l4, .int s0.published, .int s0.made, v5]) = H6 at *
    have s26 := s34.trans s6
    refine ⟨l, l6, _, _, rfl, rfl, s26 _ _ hl2, hl62, small5 (n := 11) (by decide), fun r hrn => ?_⟩
    have s7 := same_new hrn (o := .lst ([.int s0.clock, .int s0.count, v2, .str s0.stateN, oi s0.dirty, oi s0.nextDue] ++ [.ref l3, .ref l4, .int s0.published, .int s0.made, v5]))
    refine kk _ r ((s2.trans s26).trans s7) ?_
    have s67 := s4.trans (s6.trans s7)
    exact .lst (sqL_of upd_same) (.cons (.int _) (.cons (.int _) (.cons (Dp.same ((s2.trans s26).trans s7) hv2.dp) (.cons (.str _) (.cons oi_dp (.cons oi_dp
      (.cons (.lst (sqL_of (s67 _ _ hl3)) (Dp.sameAll s67 hd3.dp)) (.cons (.lst (sqL_of ((s6.trans s7) _ _ hl4)) dp_strs) (.cons (.int _) (.cons (.int _) (.cons (Dp.same s7 hv6.dp) .nil)))))))))))
def spAlike (K : PySem.W.Frag) : Sp := fun vs H Q _ => ∃ (a b : Addr) (d : PyData), vs = [.ref a, .ref b] ∧ Dp K H (.ref a) d ∧ Dp K H (.ref b) d ∧ d.showable = true ∧ d.hasDict = false ∧ d.shown.length ≤ sizeLine ∧ d.depth ≤ 60 ∧ Q (.bl true) H
theorem ok_alike (T : Txt w K mg) : FnG P w K mg base 2 (He.ga K "_law_alike") (fd__law_alike K) ["_law_one", "_law_two"] (spAlike K) := by
  refine L2.TP.FunD.okG T.f__law_alike sc__law_alike (fun vs H Q E h => ?_) (fun cdv A outer s H vs Q E hgd hr h => ?_)
  · obtain ⟨_, _, _, rfl, _⟩ := h
    rfl
  · obtain ⟨a, b, d, rfl, ha, hb, h1, h2, h3, h4, kk⟩ := h
    have hg : (A.deeper (envOfC "_law_alike" (defScope s__law_alike) s.heap.objs.size (He.ga K "_law_alike") cdv)).guards = some [] := (guards_deeper A _).trans hgd
    have hu := hr.units
    refine ⟨_, PSs.nox ((pss_one (ps_ret (pe_cmpR op_eq (pe_callB (cr_reprD hg hu) (by rfl) T.z_repr (by decide +kernel) (pa_cons (pv 0) pa_nil)) (pe_callB (cr_reprD hg hu) (by rfl) T.z_repr (by decide +kernel) (pa_cons (pv 1) pa_nil)) (nomark _))))), ?_⟩
    refine ⟨_, rfl, a, d, rfl, ha, h1, h2, h3, h4, _, rfl, b, d, rfl, hb, h1, h2, h3, h4, rfl, ?_⟩
    rw [dT (show V.str d.shown = V.str d.shown from rfl)]
    exact kk
end
end L2.TP
/-! The pages stand; two publishers on one heap. -/
namespace L2.TP
open PySem PySem.Spec PyProof.Rows L2
/-- k leaves the pages -/
def Pk (k : S → S) : Prop := ∀ s, (k s).pages = s.pages
theorem dropGo_pages {sn : Snap} {req : List Str} : ∀ (l : List (Str × Job)) (s : S), (dropGo sn req l s).pages = s.pages
  | [], s => rfl
  | (n, j) :: l, s => by
    unfold dropGo
    split
    · exact dropGo_pages l s
    · exact dropGo_pages l (s.dropJob n)
theorem startGo_pages {sn : Snap} : ∀ (l : List Str) (s : S), (startGo sn l s).pages = s.pages
  | [], s => rfl
  | n :: l, s => by
    unfold startGo
    split
    · rfl
    · have a1 : (s.newJob sn n).pages = s.pages := by
        unfold S.newJob
        split <;> rfl
      have a2 : ∀ t : S, (t.startJob n).pages = t.pages := by
        intro t
        unfold S.startJob
        split
        · split <;> rfl
        · rfl
      exact (startGo_pages l _).trans ((a2 _).trans a1)
theorem pk_freeze {k : S → S} (hk : Pk k) : Pk (S.freeze k) := fun s => hk _
theorem pk_release {k : S → S} (hk : Pk k) : Pk (S.release k) := fun s => by
  unfold S.release
  cases s.dirty with
  | none => rfl
  | some d =>
    show (if s.clock - d ≥ s.o.wait then _ else _ : S).pages = _
    split
    · exact pk_freeze hk _
    · exact hk _
theorem pk_publish {k : S → S} (hk : Pk k) (s : S) (sn : Snap) : (S.publish k s sn).pages = s.pages := by
  cases e : s.frz with
  | none => rw [pub_none e]
  | some f =>
    rw [pub_some e]
    exact pk_release hk _
theorem pk_progress {k : S → S} (hk : Pk k) : Pk (S.progressK k) := fun s => by
  have h1 : (s.forget.dropJobs s.forget.snap).pages = s.pages := dropGo_pages _ s.forget
  have h2 : ((s.forget.dropJobs s.forget.snap).start s.forget.snap).pages = s.pages := (startGo_pages _ _).trans h1
  show (if (aget (s.forget.dropJobs s.forget.snap).tms .pause).isSome then _ else _ : S).pages = _
  cases (aget (s.forget.dropJobs s.forget.snap).tms .pause).isSome with
  | true => exact h1
  | false =>
    show (if (s.forget.snap.ready && _) = true then _ else _ : S).pages = _
    split
    · exact (pk_publish hk _ _).trans h2
    · exact h2
theorem pk_prog0 : Pk S.prog0 := pk_progress fun _ => rfl
theorem pk_prog : Pk S.prog := pk_progress pk_prog0
theorem ended_pages (s : S) (n : Str) : (s.ended n).pages = s.pages := by
  unfold S.ended
  split
  · rfl
  · split <;> rfl
theorem queue_pages (s : S) (n : Str) : (s.queue n).pages = s.pages := by
  unfold S.queue
  split <;> rfl
theorem turn_pages : Pk S.turn := fun s => by
  unfold S.turn
  cases tfirst s.tms with
  | none => rfl
  | some dk =>
    obtain ⟨d, k⟩ := dk
    cases k with
    | pause => exact pk_prog _
    | wait => exact pk_freeze pk_prog _
    | att n => exact (pk_prog _).trans (ended_pages _ n)
    | del n => exact (pk_prog _).trans (queue_pages _ n)
theorem turns_pages {last : Int} : ∀ (k : Nat) (s : S), (turns k last s).pages = s.pages
  | 0, s => rfl
  | k + 1, s => by
    rw [turns]
    split
    · exact (turns_pages k _).trans (turn_pages s)
    · rfl
theorem R.pages {last : Int} {s u : S} (h : R last s u) : u.pages = s.pages := by
  obtain ⟨k, rfl, _⟩ := h
  exact turns_pages k s
theorem touch_pages : Pk S.touch := fun s => by
  show s.touch1.pages = s.pages
  unfold S.touch1
  split <;> rfl
theorem dirted_pages : Pk S.dirted := fun s => by
  unfold S.dirted
  split
  · split <;> rfl
  · exact touch_pages s
theorem edited_pages {s : S} {x : Ed} (hs : s.pages.length ≤ 6) (hx : x.Ok) : (s.edited x).pages.length ≤ 6 := by
  unfold S.edited
  cases e : applyEd s.src s.pages x with
  | none => exact hs
  | some p =>
    obtain ⟨src, pages⟩ := p
    have hp : pages.length ≤ 6 := by
      cases x with
      | pgs ps =>
        unfold applyEd at e
        obtain ⟨_, e2⟩ := iteNS e
        obtain ⟨_, rfl⟩ := Prod.mk.inj e2
        exact hx.2
      | rem n =>
        unfold applyEd at e
        obtain ⟨_, e2⟩ := iteSN e
        obtain ⟨_, rfl⟩ := Prod.mk.inj e2
        exact hs
      | set n t =>
        replace e : (if aget s.src n = some t then none else some (aput s.src n t, s.pages)) = some (src, pages) := e
        by_cases q : aget s.src n = some t
        · rw [if_pos q] at e
          cases e
        · rw [if_neg q] at e
          obtain ⟨_, rfl⟩ := Prod.mk.inj (Option.some.inj e)
          exact hs
    show ((s.made2 src pages).dirted.prog).pages.length ≤ 6
    rw [pk_prog, dirted_pages]
    exact hp
theorem prog_clock {s : S} (h : Gd s) : s.prog.clock = s.clock := (gp_prog s h).2.clock
theorem edited_clock {s : S} (h : Gd s) {x : Ed} (hx : x.Ok) : (s.edited x).clock = s.clock := by
  unfold S.edited
  cases e : applyEd s.src s.pages x with
  | none => rfl
  | some p =>
    obtain ⟨src, pages⟩ := p
    obtain ⟨h1, h2⟩ := apply_g h.src h.pgs hx e
    have hg2 := h.made2 h1 h2
    show ((s.made2 src pages).dirted.prog).clock = s.clock
    rw [prog_clock hg2.dirted]
    unfold S.dirted
    split
    · split <;> rfl
    · show (s.made2 src pages).touch1.clock = s.clock
      unfold S.touch1
      split <;> rfl
section
variable {P : Program} {w : World} {K : PySem.W.Frag} {mg : Str → Option Value} {base : Heap} {H H' : Hp}
/-- the things in M and what is free -/
def ownAt (M : Addr → Prop) (H : Hp) (a : Addr) : Prop := M a ∨ H a = none
theorem Pub.own {own own' : Addr → Prop} {L : Lay} {s : S} (h : Pub K P w own L s H) (k : ∀ b o, own b → H b = some o → H' b = some o) (tk : TK' H H') (fr : ∀ b, H' b = none → own' b) (ho : ∀ b, own b → H b ≠ none → own' b) : Pub K P w own' L s H' :=
  let ⟨op, sd, pg, fv, vv, q⟩ := h; ⟨op, sd, pg, fv, vv, q.keep k tk fr ho⟩
theorem ne_some {a : Addr} {o : HO} (h : H a = some o) : H a ≠ none := by rw [h]; exact fun z => nomatch z
structure TwoX (K : PySem.W.Frag) (P : Program) (w : World) (M1 M2 : Addr → Prop) (b dl : Addr) (L1 L2 : Lay) (s1 s2 : S) (H : Hp) : Prop where
  a1 : ∀ a, M1 a → H a ≠ none
  a2 : ∀ a, M2 a → H a ≠ none
  dj : ∀ a, M1 a → ¬ M2 a
  p1 : Pub K P w (ownAt M1 H) L1 s1 H
  p2 : Pub K P w (ownAt M2 H) L2 s2 H
  bx : BoxAt (fun a => a = dl) H b
  b1 : ¬ M1 b
  b2 : ¬ M2 b
  d1 : ¬ M1 dl
  d2 : ¬ M2 dl
section
variable {M1 M2 : Addr → Prop} {b dl : Addr} {L1 L2 : Lay} {s1 s2 s' : S}
theorem TwoX.swap (h : TwoX K P w M1 M2 b dl L1 L2 s1 s2 H) : TwoX K P w M2 M1 b dl L2 L1 s2 s1 H := ⟨h.a2, h.a1, fun a x y => h.dj a y x, h.p2, h.p1, h.bx, h.b2, h.b1, h.d2, h.d1⟩
theorem box_dl (h : BoxAt (fun a => a = dl) H b) : H b ≠ none ∧ H dl ≠ none := by
  obtain ⟨d, ds, n, rfl, h1, h2, _⟩ := h
  exact ⟨ne_some h1, ne_some h2⟩
theorem TwoX.nb (h : TwoX K P w M1 M2 b dl L1 L2 s1 s2 H) : ¬ ownAt M1 H b := fun z => by
  rcases z with z | z
  · exact h.b1 z
  · exact (box_dl h.bx).1 z
theorem TwoX.nd (h : TwoX K P w M1 M2 b dl L1 L2 s1 s2 H) : ∀ a, a = dl → ¬ ownAt M1 H a := fun a e z => by
  subst e
  rcases z with z | z
  · exact h.d1 z
  · exact (box_dl h.bx).2 z
/-- the first publisher acts -/
theorem TwoX.step (h : TwoX K P w M1 M2 b dl L1 L2 s1 s2 H) (p : Pub K P w (ownAt M1 H) L1 s' H') (f : Fr (plus (ownAt M1 H) b) H H') (x : BoxAt (fun a => a = dl) H' b) :
    TwoX K P w (fun a => ownAt M1 H a ∧ H' a ≠ none) M2 b dl L1 L2 s' s2 H' := by
  have keep : ∀ a o, M2 a → H a = some o → H' a = some o := fun a o m e => f.keep a o (fun z => by
    rcases z with (z | z) | z
    · exact h.dj a z m
    · exact h.a2 a m z
    · exact h.b2 (z ▸ m)) e
  refine ⟨fun a z => z.2, fun a m => ?_, fun a z m => ?_, p.own (fun _ _ _ e => e) (TK'.refl _) (fun a e => .inr e) fun a o n => .inl ⟨o, n⟩, h.p2.own (fun a o z e => ?_) f.tk (fun a e => .inr e) fun a z n => ?_, x, fun z => h.nb z.1, h.b2, fun z => h.nd dl rfl z.1, h.d2⟩
  · obtain ⟨o, e⟩ := Option.ne_none_iff_exists'.mp (h.a2 a m)
    exact ne_some (keep a o m e)
  · rcases z.1 with q | q
    · exact h.dj a q m
    · exact h.a2 a m q
  · rcases z with z | z
    · exact keep a o z e
    · rw [z] at e; cases e
  · rcases z with z | z
    · exact .inl z
    · exact absurd z n
theorem TwoX.op (h : TwoX K P w M1 M2 b dl L1 L2 s1 s2 H) (p : Pub K P w (ownAt M1 H) L1 s' H') (f : Fr (ownAt M1 H) H H') : TwoX K P w (fun a => ownAt M1 H a ∧ H' a ≠ none) M2 b dl L1 L2 s' s2 H' :=
  h.step p (f.wide fun a z => .inl z) (h.bx.fr f h.nb h.nd)
theorem TwoX.box (h : TwoX K P w M1 M2 b dl L1 L2 s1 s2 H) (x : But b H H') (x' : BoxAt (fun a => a = dl) H' b) : TwoX K P w (fun a => ownAt M1 H a ∧ H' a ≠ none) M2 b dl L1 L2 s1 s2 H' :=
  h.step (h.p1.box h.bx x x' h.nb) (fr_box h.bx x) x'
theorem TwoX.same (h : TwoX K P w M1 M2 b dl L1 L2 s1 s2 H) (e : Same H H') : TwoX K P w (fun a => ownAt M1 H a ∧ H' a ≠ none) M2 b dl L1 L2 s1 s2 H' :=
  h.step (h.p1.same e) (fr_same e) (h.bx.keep fun a xs z => e _ _ z)
end
/-- both publishers in one state -/
def Two (K : PySem.W.Frag) (P : Program) (w : World) (b dl : Addr) (L1 L2 : Lay) (s1 s2 : S) (H : Hp) : Prop := ∃ M1 M2, TwoX K P w M1 M2 b dl L1 L2 s1 s2 H
section
variable {b dl : Addr} {L1 L2 : Lay} {s1 s2 : S}
theorem Two.swap (h : Two K P w b dl L1 L2 s1 s2 H) : Two K P w b dl L2 L1 s2 s1 H := let ⟨_, _, x⟩ := h; ⟨_, _, x.swap⟩
theorem Two.box (h : Two K P w b dl L1 L2 s1 s2 H) (x : But b H H') (x' : BoxAt (fun a => a = dl) H' b) : Two K P w b dl L1 L2 s1 s2 H' := let ⟨_, _, q⟩ := h; ⟨_, _, q.box x x'⟩
theorem Two.same (h : Two K P w b dl L1 L2 s1 s2 H) (e : Same H H') : Two K P w b dl L1 L2 s1 s2 H' := let ⟨_, _, q⟩ := h; ⟨_, _, q.same e⟩
theorem Two.bx (h : Two K P w b dl L1 L2 s1 s2 H) : BoxAt (fun a => a = dl) H b := let ⟨_, _, q⟩ := h; q.bx
/-- the first publisher, and how to go on -/
theorem Two.one (h : Two K P w b dl L1 L2 s1 s2 H) : ∃ own : Addr → Prop, Pub K P w own L1 s1 H ∧ ¬ own b ∧ (∀ a, a = dl → ¬ own a) ∧
    (∀ H' s', Pub K P w own L1 s' H' → Fr own H H' → Two K P w b dl L1 L2 s' s2 H') ∧ ∀ H' s', Pub K P w own L1 s' H' → Fr (plus own b) H H' → BoxAt (fun a => a = dl) H' b → Two K P w b dl L1 L2 s' s2 H' :=
  let ⟨M1, M2, q⟩ := h
  ⟨ownAt M1 H, q.p1, q.nb, q.nd, fun _ _ p f => ⟨_, _, q.op p f⟩, fun _ _ p f x => ⟨_, _, q.step p f x⟩⟩
theorem Two.two (h : Two K P w b dl L1 L2 s1 s2 H) : ∃ own : Addr → Prop, Pub K P w own L2 s2 H ∧ ¬ own b ∧ (∀ a, a = dl → ¬ own a) ∧
    (∀ H' s', Pub K P w own L2 s' H' → Fr own H H' → Two K P w b dl L1 L2 s1 s' H') ∧ ∀ H' s', Pub K P w own L2 s' H' → Fr (plus own b) H H' → BoxAt (fun a => a = dl) H' b → Two K P w b dl L1 L2 s1 s' H' := by
  obtain ⟨own, a, b, c, d, e⟩ := h.swap.one
  exact ⟨own, a, b, c, fun H' s' p f => (d H' s' p f).swap, fun H' s' p f x => (e H' s' p f x).swap⟩
/-- both are made -/
theorem Two.make {H0 H1 H2 : Hp} (e1 : Same H0 H1) (e2 : Same H1 H2) (p1 : Pub K P w (fun a => H0 a = none) L1 s1 H1) (p2 : Pub K P w (fun a => H1 a = none) L2 s2 H2) (x : BoxAt (fun a => a = dl) H0 b) : Two K P w b dl L1 L2 s1 s2 H2 := by
  have x2 : BoxAt (fun a => a = dl) H2 b := x.keep fun a xs z => e2 _ _ (e1 _ _ z)
  obtain ⟨n1, n2⟩ := box_dl x
  have n3 : ∀ {a}, H0 a ≠ none → H1 a ≠ none := fun {a} h => by
    obtain ⟨o, e⟩ := Option.ne_none_iff_exists'.mp h
    exact ne_some (e1 _ _ e)
  have n4 : ∀ {a}, H1 a ≠ none → H2 a ≠ none := fun {a} h => by
    obtain ⟨o, e⟩ := Option.ne_none_iff_exists'.mp h
    exact ne_some (e2 _ _ e)
  exact ⟨fun a => H0 a = none ∧ H1 a ≠ none, fun a => H1 a = none ∧ H2 a ≠ none, fun a z => n4 z.2, fun a z => z.2, fun a z y => z.2 y.1,
    p1.own (fun b o _ e => e2 _ _ e) (Same.tk e2) (fun a e => .inr e) fun a o n => .inl ⟨o, n⟩,
    p2.own (fun b o _ e => e) (TK'.refl _) (fun a e => .inr e) fun a o n => .inl ⟨o, n⟩, x2, fun z => n1 z.1, fun z => n3 n1 z.1, fun z => n2 z.1, fun z => n3 n2 z.1⟩
end
end
end L2.TP
/-! The law. -/
namespace L2.TP
open PySem PySem.Spec PyProof.Rows L2
section
variable {P : Program} {w : World} {K : PySem.W.Frag} {mg : Str → Option Value} {base : Heap} {H H' : Hp}
theorem init_binds (T : Txt w K mg) : ∃ ds, Vals [V.int 0] ds ∧ Binds K (fd_Publisher___init__ K) ["self", "options", "clock"] ds :=
  T.f_Publisher___init__.binds1 2 0 (by simp) rfl fun D kV doc pm an cdv ct us its h1 h2 => by
    match us, h1 with
    | [u1, u2], _ =>
      match its, h2 with
      | [i1], _ => exact ⟨_, rfl, rfl⟩
theorem Gd.init {o : Opt} (ho : o.Ok) : Gd (S.init o) :=
  { opt := ho, src := ⟨⟨List.nodup_nil, (fun p hp => nomatch hp)⟩, (fun p hp => nomatch hp)⟩, pgs := ⟨List.nodup_nil, (fun p hp => nomatch hp)⟩, cch := (fun p hp => nomatch hp), cks := ⟨List.nodup_nil, (fun p hp => nomatch hp)⟩, jks := ⟨List.nodup_nil, (fun p hp => nomatch hp)⟩,
    jbs := (fun p hp => nomatch hp), frz := (fun f e => nomatch e), tnd := List.nodup_nil, tim := (fun p hp => nomatch hp), due := (fun p hp => nomatch hp), ver := ⟨(fun p hp => nomatch hp), (fun p hp => nomatch hp), Nat.zero_le _, Nat.zero_le _⟩ }
def spLaw (K : PySem.W.Frag) : Sp := fun vs H Q _ => ∃ (a : Addr) (ns : List Int), vs = [.ref a] ∧ SqL K H a (ns.map V.int) ∧ (∀ H2, Same H H2 → SqL K H2 a (ns.map V.int)) ∧ ∀ H', Q (.bl true) H'
/-- how far the law's numbers go in one lapse of time -/
def lapse : Int := 2000000000000000
theorem ok_law (T : Txt w K mg) : FnG P w K mg base 18 (He.ga K "law") (fd_law K) ["_law_script"] (spLaw K) := by
  have G__law_digits := ok_digits (P := P) (base := base) T
  have G__law_options := ok_options (P := P) (base := base) T
  have G_Publisher___init__ := ok_init (P := P) (base := base) T
  have G__law_draw := ok_draw (P := P) (base := base) T
  have G__law_edit := ok_editL (P := P) (base := base) T
  have G_Publisher_pages := ok_pages (P := P) (base := base) T
  have G_Publisher_edit := ok_edit (P := P) (base := base) T
  have G__law_ticks := ok_ticksL (P := P) (base := base) T
  have G_Publisher_clock := ok_clock (P := P) (base := base) T
  have G_Publisher_advance := ok_adv (P := P) (base := base) T
  have G__law_in_pieces := ok_pcs (P := P) (base := base) T
  have G__law_by_turns := ok_trn (P := P) (base := base) T
  have G__law_told_by := ok_tell (P := P) (base := base) T
  have G__law_alike := ok_alike (P := P) (base := base) T
  obtain ⟨ds, vP, bP⟩ := init_binds T
  refine L2.TP.FunD.okG T.f_law sc_law (fun vs H Q E h => ?_) (fun cdv A outer s H vs Q E hgd0 hr h => ?_)
  · obtain ⟨_, _, rfl, _⟩ := h
    rfl
  · obtain ⟨a, ns, rfl, hS, hSs, kk⟩ := h
    have hu := hu_of hr
    have hgd : (A.deeper (envOfC "law" (defScope s_law) s.heap.objs.size (He.ga K "law") cdv)).guards = some [] := (guards_deeper A _).trans hgd0
    refine ⟨_, PSs.nox ((pss_cons (ps_set (i := 1) sc_law.nd rfl (.inl rfl) (pe_lst (pa_cons (pe_call G__law_digits (hr.mono (by omega)) (by rfl) T.g__law_digits T.f__law_digits.kp T.b__law_digits .nil pass0 (pa_cons (pv 0) (pa_cons pe_int (pa_cons pe_int pa_nil)))) (pa_cons pe_int pa_nil))))
      (pss_cons (ps_set (i := 2) sc_law.nd rfl (.inl rfl) (pe_call G__law_options (hr.mono (by omega)) (by rfl) T.g__law_options T.f__law_options.kp T.b__law_options .nil pass0 (pa_cons (pv 1) pa_nil)))
      (pss_cons (ps_set (i := 3) sc_law.nd rfl (.inl rfl) (pe_make T.mk_Publisher G_Publisher___init__ (hr.mono (by omega)) rfl T.g_Publisher bP vP pass0 (pa_cons (pv 2) pa_nil)))
      (pss_cons (ps_set (i := 4) sc_law.nd rfl (.inl rfl) (pe_make T.mk_Publisher G_Publisher___init__ (hr.mono (by omega)) rfl T.g_Publisher bP vP pass0 (pa_cons (pv 2) pa_nil)))
      (pss_cons (ps_for PassesOwn.never rfl (pi_range1 rfl T.z_range (pa_cons pe_int pa_nil)) (pg_name (i := 5) sc_law.nd rfl (.inl rfl)) (pss_cons (ps_for PassesOwn.never rfl (pi_range1 rfl T.z_range (pa_cons (pe_call G__law_draw (hr.mono (by omega)) (by rfl) T.g__law_draw T.f__law_draw.kp T.b__law_draw .nil pass0 (pa_cons (pv 1) (pa_cons pe_int pa_nil))) pa_nil)) (pg_name (i := 6) sc_law.nd rfl (.inl rfl)) (pss_cons (ps_set (i := 7) sc_law.nd rfl (.inl rfl) (pe_call G__law_edit (hr.mono (by omega)) (by rfl) T.g__law_edit T.f__law_edit.kp T.b__law_edit .nil pass0 (pa_cons (pv 1) (pa_cons (pe_meth0 (pv 3) T.cl_Publisher T.mt_Publisher_pages G_Publisher_pages (hr.mono (by omega)) T.b_Publisher_pages .nil pass0) pa_nil))))
      (pss_one (ps_if (pt_cmpR op_notBl (pe_meth (pv 3) T.cl_Publisher T.mt_Publisher_edit G_Publisher_edit (hr.mono (by omega)) T.b_Publisher_edit .nil pass0 (pa_cons (pv 7) pa_nil)) pe_bl (nomark _)) (pss_one (ps_expr (pe_meth (pv 4) T.cl_Publisher T.mt_Publisher_edit G_Publisher_edit (hr.mono (by omega)) T.b_Publisher_edit .nil pass0 (pa_cons (pv 7) pa_nil)))) (pss_one (ps_if (pt_cmpR op_notBl (pe_meth (pv 4) T.cl_Publisher T.mt_Publisher_edit G_Publisher_edit (hr.mono (by omega)) T.b_Publisher_edit .nil pass0 (pa_cons (pv 7) pa_nil)) pe_bl (nomark _)) (pss_one (ps_ret pe_bl)) pss_nil))))))
      (pss_cons (ps_set (i := 8) sc_law.nd rfl (.inl rfl) (pe_call G__law_ticks (hr.mono (by omega)) (by rfl) T.g__law_ticks T.f__law_ticks.kp T.b__law_ticks .nil pass0 (pa_cons (pv 1) pa_nil)))
      (pss_cons (ps_set (i := 9) sc_law.nd rfl (.inl rfl) (pe_op op_add (pe_meth0 (pv 3) T.cl_Publisher T.mt_Publisher_clock G_Publisher_clock (hr.mono (by omega)) T.b_Publisher_clock .nil pass0) (pv 8)))
      (pss_cons (ps_if (pt_cmpR op_ne (pe_meth (pv 3) T.cl_Publisher T.mt_Publisher_advance G_Publisher_advance (hr.mono (by omega)) T.b_Publisher_advance .nil pass0 (pa_cons (pv 8) pa_nil)) (pv 9) (nomark _)) (pss_one (ps_ret pe_bl)) pss_nil)
      (C8.pss_cut (ps_if (pt_cmpR op_eq (pe_call G__law_draw (hr.mono (by omega)) (by rfl) T.g__law_draw T.f__law_draw.kp T.b__law_draw .nil pass0 (pa_cons (pv 1) (pa_cons pe_int pa_nil))) pe_int (nomark _)) (pss_one (ps_if (pt_cmpR op_ne (pe_call G__law_in_pieces (hr.mono (by omega)) (by rfl) T.g__law_in_pieces T.f__law_in_pieces.kp T.b__law_in_pieces .nil pass0 (pa_cons (pv 1) (pa_cons (pv 4) (pa_cons (pv 8) pa_nil)))) (pv 9) (nomark _)) (pss_one (ps_ret pe_bl)) pss_nil)) (pss_one (ps_if (pt_not (pt_val (pe_call G__law_by_turns (hr.mono (by omega)) (by rfl) T.g__law_by_turns T.f__law_by_turns.kp T.b__law_by_turns .nil pass0 (pa_cons (pv 4) (pa_cons (pv 8) pa_nil))))) (pss_one (ps_ret pe_bl)) pss_nil)))
      (pss_one (ps_if (pt_not (pt_val (pe_callG hgd G__law_alike (hr.mono (by omega)) (by rfl) T.g__law_alike T.f__law_alike.kp T.b__law_alike (pa_cons (pe_call G__law_told_by (hr.mono (by omega)) (by rfl) T.g__law_told_by T.f__law_told_by.kp T.b__law_told_by .nil pass0 (pa_cons (pv 3) pa_nil)) (pa_cons (pe_call G__law_told_by (hr.mono (by omega)) (by rfl) T.g__law_told_by T.f__law_told_by.kp T.b__law_told_by .nil pass0 (pa_cons (pv 4) pa_nil)) pa_nil))))) (pss_one (ps_ret pe_bl)) pss_nil))))))))
      (pss_one (ps_ret pe_bl)))))))), ?_⟩
    refine ⟨_, rfl, a, ns, rfl, hS, hSs, fun H1 dl ds s1 hdl0 hdl hds => ⟨le2, fun b hb => ?_⟩⟩
    have s2 := same_new hb (o := .lst [.ref dl, .int 0])
    have bx2 : BoxAt (fun a => a = dl) (upd H1 b (.lst [.ref dl, .int 0])) b := ⟨dl, ds, 0, rfl, upd_same, s2 _ _ hdl, (fun e => by rw [e, hb] at hdl; cases hdl), hds⟩
    generalize upd H1 b (.lst [.ref dl, .int 0]) = H2 at *
    refine ⟨_, rfl, (fun a => a = dl), b, rfl, bx2, fun H3 op o b3 bx3 hop ho => ?_⟩
    refine ⟨_, rfl, fun x1 dx1 hx1 hdx1 hne1 => ?_⟩
    have m1 := same_make (C := He.ga K "Publisher") hx1 hdx1 hne1
    refine ⟨fun a => H3 a = none, x1, dx1, op, o, rfl, upd_same, hop.keep (Same.tk m1), ho, hx1, fun c hc => none_same m1 hc, fun H4 L1 hL1 P1 b4 => ⟨rfl, ?_⟩⟩
    have s4 : Same H3 H4 := fun c u hc => b4 _ _ (ne_of_none' hx1 hc).symm (m1 _ _ hc)
    subst hL1
    refine ⟨_, rfl, fun x2 dx2 hx2 hdx2 hne2 => ?_⟩
    have m2 := same_make (C := He.ga K "Publisher") hx2 hdx2 hne2
    refine ⟨fun a => H4 a = none, x2, dx2, op, o, rfl, upd_same, (hop.keep (Same.tk s4)).keep (Same.tk m2), ho, hx2, fun c hc => none_same m2 hc, fun H5 L2 hL2 P2 b5 => ⟨rfl, ?_⟩⟩
    have s5 : Same H4 H5 := fun c u hc => b5 _ _ (ne_of_none' hx2 hc).symm (m2 _ _ hc)
    subst hL2
    have T5 : Two K P w b dl L1 L2 (S.init o) (S.init o) H5 := Two.make s4 s5 P1 P2 bx3
    dsimp only [gName, List.set, start]
    refine ⟨25, rfl, by decide, by decide, ?_⟩
    refine for_any (n := 25) (fun i σ H => ∃ (s : S) (c5 c6 c7 c8 c9 : Option V), σ = [some (.ref a), some (.ref b), some (.ref op), some (.ref L1.p), some (.ref L2.p), c5, c6, c7, c8, c9] ∧ Two K P w b dl L1 L2 s s H ∧ Gd s ∧ s.pages.length ≤ 6 ∧ 0 ≤ s.clock ∧ s.clock ≤ 300 * i ∧ Bd (lapse * i + 1000000) s)
      ⟨S.init o, _, _, _, _, _, rfl, T5, Gd.init ho, Nat.zero_le _, Int.le_refl _, Int.le_refl _, (Bd.init o).mono (by decide)⟩ (fun i σ H6 hi pv => ?_) fun σ H6 pv => ⟨Nat.le_refl _, by
        obtain ⟨s, c5, c6, c7, c8, c9, rfl, _⟩ := pv
        exact kk _⟩
    obtain ⟨s0, c5, c6, c7, c8, c9, rfl, T6, hg, hpl, k0, k1, bd⟩ := pv
    refine ⟨hi, fun x H7 hy => ?_⟩
    obtain ⟨rfl, rfl⟩ := hy
    refine ⟨_, rfl, (fun a => a = dl), b, 3, rfl, T6.bx, by decide, fun H8 n b8 bx8 n0 n1 => ⟨n, rfl, by omega, by omega, ?_⟩⟩
    have T8 := T6.box b8 bx8
    refine for_any (n := n.toNat) (fun j σ H => ∃ (s : S) (c6 c7 : Option V), σ = [some (.ref a), some (.ref b), some (.ref op), some (.ref L1.p), some (.ref L2.p), some (.int (0 + (i : Int))), c6, c7, c8, c9] ∧ Two K P w b dl L1 L2 s s H ∧ Gd s ∧ s.pages.length ≤ 6 ∧ 0 ≤ s.clock ∧ s.clock ≤ 300 * i ∧ Bd (lapse * i + 1000000 + 6000030000 * j) s)
      ⟨s0, _, _, rfl, T8, hg, hpl, k0, k1, bd.mono (by omega)⟩ (fun j σ H9 hj pv => ?_) fun σ H9 pv => ?_
    · obtain ⟨s, c6, c7, rfl, T9, hg, hpl, k0, k1, bd⟩ := pv
      refine ⟨hj, fun x H10 hy => ?_⟩
      obtain ⟨rfl, rfl⟩ := hy
      obtain ⟨own, PA, _, _, _, _⟩ := T9.one
      obtain ⟨_, _, pg, _, _, X⟩ := id PA
      obtain ⟨dx, hp⟩ := X.pub
      refine ⟨_, rfl, _, rfl, L1.p, dx, _, rfl, hp, zip_none (by decide +kernel), own, L1, s, rfl, PA, fun pa hpa => ?_⟩
      refine ⟨(fun a => a = dl), b, pa, s.pages, rfl, T9.bx, hpa, hg.pgs, hpl, fun H11 e x b11 bx11 he hx => ?_⟩
      have T11 := T9.box b11 bx11
      obtain ⟨own1, Q1, _, _, go1, _⟩ := T11.one
      obtain ⟨_, _, _, _, _, X1⟩ := id Q1
      obtain ⟨dy1, hq1⟩ := X1.pub
      have inv : ∀ H, Two K P w b dl L1 L2 (s.edited x) (s.edited x) H → ∃ (s : S) (d6 d7 : Option V), [some (.ref a), some (.ref b), some (.ref op), some (.ref L1.p), some (.ref L2.p), some (.int (0 + (i : Int))), some (.int (0 + (j : Int))), some (.ref e), c8, c9] = [some (.ref a), some (.ref b), some (.ref op), some (.ref L1.p), some (.ref L2.p), some (.int (0 + (i : Int))), d6, d7, c8, c9] ∧ Two K P w b dl L1 L2 s s H ∧ Gd s ∧ s.pages.length ≤ 6 ∧ 0 ≤ s.clock ∧ s.clock ≤ 300 * i ∧ Bd (lapse * i + 1000000 + 6000030000 * ((j + 1 : Nat) : Int)) s := fun H T =>
        ⟨s.edited x, _, _, rfl, T, hg.edited hx, edited_pages hpl hx, by rw [edited_clock hg hx]; exact k0, by rw [edited_clock hg hx]; exact k1, (bd.edited hg hx).mono (by omega)⟩
      refine ⟨_, rfl, L1.p, dy1, _, rfl, hq1, zip_none (by decide +kernel), _, rfl, own1, L1, s, e, x, rfl, Q1, hg, he, hx, fun H12 P12 f12 => ?_⟩
      have T12 := go1 _ _ P12 f12
      have he12 := he.keep f12.tk
      obtain ⟨own2, Q2, _, _, go2, _⟩ := T12.two
      obtain ⟨_, _, _, _, _, X2⟩ := id Q2
      obtain ⟨dy2, hq2⟩ := X2.pub
      refine ⟨_, _, rfl, rfl, _, rfl, ?_⟩
      cases hk : (applyEd s.src s.pages x).isSome with
      | false =>
        refine ifY rfl ⟨_, rfl, L2.p, dy2, _, rfl, hq2, zip_none (by decide +kernel), _, rfl, own2, L2, s, e, x, rfl, Q2, hg, he12, hx, fun H13 P13 f13 => ?_⟩
        exact inv _ (go2 _ _ P13 f13)
      | true =>
        refine ifN rfl ⟨_, rfl, L2.p, dy2, _, rfl, hq2, zip_none (by decide +kernel), _, rfl, own2, L2, s, e, x, rfl, Q2, hg, he12, hx, fun H13 P13 f13 => ?_⟩
        rw [hk]
        exact ⟨_, _, rfl, rfl, _, rfl, ifN rfl (inv _ (go2 _ _ P13 f13))⟩
    · obtain ⟨s, c6, c7, rfl, T9, hg, hpl, k0, k1, bd⟩ := pv
      refine ⟨Nat.le_refl _, ?_⟩
      refine ⟨_, rfl, (fun a => a = dl), b, rfl, T9.bx, fun H10 t b10 bx10 t0 t1 => ?_⟩
      have T10 := T9.box b10 bx10
      obtain ⟨own1, Q1, _, _, go1, _⟩ := T10.one
      obtain ⟨_, _, _, _, _, X1⟩ := id Q1
      obtain ⟨dy1, hq1⟩ := X1.pub
      refine ⟨_, rfl, L1.p, dy1, _, rfl, hq1, zip_none (by decide +kernel), own1, L1, s, rfl, Q1, _, rfl, _, _, rfl, rfl, ?_⟩
      refine ⟨_, rfl, L1.p, dy1, _, rfl, hq1, zip_none (by decide +kernel), _, rfl, own1, L1, s, t, rfl, Q1, hg, t0, by omega, by omega, fun H11 u hu11 hgu P11 f11 => ?_⟩
      have T11 := go1 _ _ P11 f11
      have hgz := hu11.gd hgu
      have hlp : (0 : Int) ≤ lapse * i := Int.mul_nonneg (by decide) (by omega)
      have bdz := bd.adv hg (last := s.clock + t) (by omega) hu11 ⟨by omega, by omega⟩
      have plz : (u.at (s.clock + t)).pages.length ≤ 6 := by
        show u.pages.length ≤ 6
        rw [hu11.pages]
        exact hpl
      refine ⟨_, rfl, rfl, _, rfl, ifN (nT rfl) ?_⟩
      refine ⟨fun σ' H => σ' = [some (.ref a), some (.ref b), some (.ref op), some (.ref L1.p), some (.ref L2.p), some (.int (0 + (i : Int))), c6, c7, some (.int t), some (.int (s.clock + t))] ∧ Two K P w b dl L1 L2 (u.at (s.clock + t)) (u.at (s.clock + t)) H, ?_, ?_⟩
      · refine ⟨_, rfl, (fun a => a = dl), b, 2, rfl, T11.bx, by decide, fun H12 q b12 bx12 q0 q1 => ⟨rfl, _, rfl, ?_⟩⟩
        have T12 := T11.box b12 bx12
        obtain ⟨own2, Q2, nb2, nd2, go2, gob2⟩ := T12.two
        by_cases hq : q = 0
        · refine ifY (dT (by rw [hq])) ⟨_, rfl, _, rfl, _, rfl, own2, (fun a => a = dl), L2, s, b, t, rfl, Q2, hg, T12.bx, nb2, nd2, t0, by omega, by omega, fun H13 v hv hgv P13 f13 bx13 => ?_⟩
          rw [hv.uniq hu11] at P13
          exact ⟨_, rfl, rfl, _, rfl, ifN (nT rfl) ⟨rfl, gob2 _ _ P13 f13 bx13⟩⟩
        · refine ifN (dF fun z => hq (V.int.inj z)) ⟨_, rfl, _, rfl, own2, L2, s, t, rfl, Q2, hg, k0, t0, by omega, by omega, fun H13 v hv hgv P13 f13 => ?_⟩
          rw [hv.uniq hu11] at P13
          exact ⟨true, rfl, ifN rfl ⟨rfl, go2 _ _ P13 f13⟩⟩
      · rintro σ' H12 ⟨rfl, T12⟩
        have bdn : Bd (lapse * ((i + 1 : Nat) : Int) + 1000000) (u.at (s.clock + t)) := bdz.mono (by
          have e : lapse * ((i + 1 : Nat) : Int) = lapse * i + 2000000000000000 := by
            show (2000000000000000 : Int) * ((i + 1 : Nat) : Int) = 2000000000000000 * i + 2000000000000000
            omega
          rw [e]
          omega)
        obtain ⟨g1, g2, g3, g4⟩ := told_fit hgz (bdn.mono (by
          show (2000000000000000 : Int) * ((i + 1 : Nat) : Int) + 1000000 ≤ 10 ^ 17
          have e : (10 : Int) ^ 17 = 100000000000000000 := by decide
          rw [e]
          omega))
        obtain ⟨own1, Q1, _, _, _, _⟩ := T12.one
        refine ⟨_, rfl, own1, L1, _, rfl, Q1, hgz, fun H13 a1 e1 ha1 => ?_⟩
        have T13 := T12.same e1
        obtain ⟨own2, Q2, _, _, _, _⟩ := T13.two
        refine ⟨_, rfl, own2, L2, _, rfl, Q2, hgz, fun H14 a2 e2 ha2 => ?_⟩
        have T14 := T13.same e2
        refine ⟨a1, a2, _, rfl, Dp.same e2 ha1, ha2, g1, g2, g3, g4, true, rfl, ifN rfl ?_⟩
        exact ⟨_, _, _, _, _, _, rfl, T14, hgz, plz, by show 0 ≤ s.clock + t; omega, by show s.clock + t ≤ 300 * ((i + 1 : Nat) : Int); omega, bdn⟩
end
end L2.TP
/-! The end: the law's promise at the caller's, where nothing is being shown. -/
namespace L2.TP
open PySem PySem.Spec PyProof.Rows L2
/-- what is tracked at the law's call: the script, if it is no part of the written part -/
def scrO (us : List Value) (ns : List Int) : HO := .frz { cls := .type "list", data := .seq us.toArray } (.lst (ns.map V.int))
def scrH (K : PySem.W.Frag) (a : Addr) (us : List Value) (ns : List Int) : Hp := fun c => if c = a ∧ K.lookup a = none then some (scrO us ns) else none
section
variable {P : Program} {w : World} {K : PySem.W.Frag} {mg mb : Str → Option Value} {k : Nat} {fa a : Addr} {fd : FuncData} {x : Str} {sp : Sp} {t : Shared} {us : List Value} {ns : List Int}
theorem scr_some {c : Addr} {o : HO} (h : scrH K a us ns c = some o) : c = a ∧ K.lookup a = none ∧ o = scrO us ns := by
  unfold scrH at h
  by_cases q : c = a ∧ K.lookup a = none
  · rw [if_pos q] at h
    exact ⟨q.1, q.2, (Option.some.inj h).symm⟩
  · rw [if_neg q] at h
    cases h
theorem scr_none {c : Addr} (h : c ≠ a ∨ K.lookup a ≠ none) : scrH K a us ns c = none := if_neg fun z => by
  rcases h with h | h
  · exact h z.1
  · exact h z.2
theorem scr_vals : ∀ {us : List Value} {ns : List Int}, IntsAre us ns → Vals (ns.map V.int) us := vals_ints
theorem law_at (hK : K.In t.heap) (hmg : t.heap.Ns mainGlobals mg) (hmb : t.heap.Ns builtinsNs mb) (hbu : ∀ y : Str, y ≠ "__name__" → mb y = bootBuiltins y) (hnl : t.heap.NoLimit) (hge : t.gens = #[])
    (hob : t.heap.get? a = some { cls := .type "list", data := .seq us.toArray }) (hin : IntsAre us ns) (hsz : ns.length ≤ sizeLine) (room : Room k callerA) (F : ∀ base : Heap, FnG P w K mg base k fa fd [x] sp) (hbd : Binds K fd [x] [])
    (want : ∀ H : Hp, SqL K H a (ns.map V.int) → (∀ H2, Same H H2 → SqL K H2 a (ns.map V.int)) → sp [.ref a] H (fun v _ => v = .bl true) E0) :
    codeAny (model P w) callerA (.call (.ref fa) ⟨[.ref a], []⟩) (fun res t' => res = .ok (.ret (.bool true)) ∧ OldK t.heap t'.heap ∧ t'.os = t.os ∧ AllBare t'.gens) t := by
  have rv := vals_ints hin
  have free : ∀ {c : Addr} {o : Obj}, t.heap.get? c = some o → scrH K a us ns c = none → (hidT t.heap (scrH K a us ns)).get? c = some o := fun e n => hidT_get e n
  have dicts : ∀ {c : Addr} {o : Obj} {es : Array DictEntry} {ep : Nat}, t.heap.get? c = some o → o.data = .dict es ep → scrH K a us ns c = none := fun {c o es ep} e d => scr_none (.inl fun q => by
    rw [q, hob] at e
    rw [← Option.some.inj e] at d
    cases d)
  have spaces : ∀ {c : Addr} {m : Str → Option Value}, t.heap.Ns c m → (hidT t.heap (scrH K a us ns)).Ns c m := fun {c m} n => by
    obtain ⟨o, es, ep, e, d, q⟩ := n
    exact ⟨o, es, ep, free e (dicts e d), d, q⟩
  have inK : K.In (hidT t.heap (scrH K a us ns)) := fun c o e => free (hK c o e) (by
    by_cases q : c = a
    · exact scr_none (.inr (by rw [← q, e]; exact fun z => nomatch z))
    · exact scr_none (.inl q))
  have modK : Mod K mg (hidT t.heap (scrH K a us ns)) := by
    obtain ⟨mc, n1, n2⟩ := hnl
    exact ⟨inK, spaces hmg, ⟨mb, spaces hmb, hbu⟩, ⟨mc, spaces n1, n2⟩⟩
  have okH : HOk P w (scrH K a us ns) t.heap := fun c o e => by
    obtain ⟨rfl, _, rfl⟩ := scr_some e
    exact ⟨hob, by rw [List.length_map]; exact hsz, us, _, rv, hob⟩
  have env : Env0 P w K mg (hidT t.heap (scrH K a us ns)) callerA [] t (scrH K a us ns) :=
    { frames := rfl, mod := modK, bs := fun c o e => of_hidT e, bsz := Nat.le_of_eq (hidT_size _ _), funs := True.intro, frf := (fun c m => nomatch m), hok := okH, bare := .of_eq hge }
  have seq : SqL K (scrH K a us ns) a (ns.map V.int) ∧ ∀ H2, Same (scrH K a us ns) H2 → SqL K H2 a (ns.map V.int) := by
    cases lk : K.lookup a with
    | none =>
      have e : scrH K a us ns a = some (scrO us ns) := if_pos ⟨rfl, lk⟩
      exact ⟨.inl (.inr ⟨_, e⟩), fun H2 s => .inl (.inr ⟨_, s _ _ e⟩)⟩
    | some o =>
      have e := (hK a o lk).symm.trans hob
      obtain rfl := Option.some.inj e
      have q : ∀ H : Hp, SqL K H a (ns.map V.int) := fun H => .inr ⟨_, us.toArray, _, lk, rfl, rfl, rfl, by rw [List.size_toArray, hin.length]; exact hsz, by simpa using rv⟩
      exact ⟨q _, fun H2 _ => q H2⟩
  have bind : BindsTo t fd ⟨[.ref a], []⟩ ([x].zip [.ref a]) := hbd t [.ref a] hK rfl
  refine codeAny_mono ((F _).run callerA [] t _ ⟨[.ref a], []⟩ [.ref a] [.ref a] _ _ rfl room env bind (.cons rfl .nil) (want _ seq.1 seq.2)) fun res t' q => ?_
  match res, q with
  | .ok (.ret u), q =>
    obtain ⟨v, H', q1, q2, q3, q4, q5, rfl⟩ := q
    obtain rfl : u = Value.bool true := q5
    refine ⟨rfl, OldK.of_keep fun c o e => ?_, q1, q2⟩
    cases z : scrH K a us ns c with
    | none => exact q3.keep c o e z (fun m => nomatch m) (by simp)
    | some u =>
      obtain ⟨_, _, rfl⟩ := scr_some z
      have y := (okH c _ z).1
      have y2 := (q4 c _ (q3.frzs c _ _ z)).1
      rw [e] at y
      rw [Option.some.inj y]
      exact y2
end
end L2.TP
set_option maxHeartbeats 0
/-! The theorem. -/
namespace L2.TP
open PySem PySem.W PySem.Calls PySem.Spec PyProof.Rows L2
theorem law_walk : WalkO qv loose (XL qv []) hk.says Rw.toRowW (HandSHeadRun.topDef Rw.prog 72) [] (fun f vs => PySem.call f vs) := by
  apply Att.attach_call (l := PySem.Challenge.rw_pagesatonce_k36_time_in_pieces) (n := 63) rfl (by kernel_rfl)
  intro w s₀ t mg mb fa o pm cd doc a us ns G Y ho hd hcd hmg hob hin hlen hge
  obtain ⟨K, hK, T⟩ := says_txt Y G.T.g
  have hm : mg ("law" : PySem.Str) = some (.ref fa) := by
    have e : (HandSHeadRun.topDef Rw.prog 72).name = ("law" : PySem.Str) := by kernel_rfl
    exact e ▸ hmg
  obtain rfl : fa = He.ga K "law" := by
    have e := hm.symm.trans T.g_law
    cases e
    rfl
  exact law_at hK G.T.g G.T.b G.T.builtins G.T.nolimit hge hob hin (Nat.le_trans hlen (by decide)) (k := 18) ⟨rfl, by decide, by decide⟩ (fun base => ok_law (base := base) T) T.b_law fun H h1 h2 => ⟨a, ns, rfl, h1, h2, fun _ => rfl⟩
end L2.TP
open PySem PySem.W PySem.Calls PyProof.Rows
set_option maxRecDepth 100000 in
set_option maxHeartbeats 0 in
theorem PySem.Challenge.cw_pagesatonce_k36_time_in_pieces_holds : PySem.Challenge.rw_pagesatonce_k36_time_in_pieces.Holds := by
  w_on; o_law
  refine HandSHeadRun.head_any (r := L2.TP.Rw) (q := L2.TP.qv) (H := L2.TP.hk) (ob := L2.TP.ob) (M := 5200) (loose := L2.TP.loose)
    (d := HandSHeadRun.topDef L2.TP.Rw.prog 72) (kwd := []) L2.TP.ob_eq (by kernel_rfl) (fun s => by kernel_rfl) L2.TP.run
    (by kernel_rfl) (by kernel_rfl) (by kernel_rfl) (by rfl) (by first | assumption | decide +kernel) (by decide +kernel)
    ⟨rfl, rfl, rfl, rfl, rfl, by decide +kernel⟩ ?hw L2.TP.law_walk
  case hw => w_witness2
