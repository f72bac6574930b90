import PyProof.Rows.All
import Wide.All
import OpenK.AllK
import Wide.FinOn
import HandS.ForMost
import HandS.More
import HandS.Exc
import HandS.Defaults
import HandS.Codes
import HandS.Conv
import HandS.Zip
import HandS.Walk
import HandS.Star
import HandS.Property
import HandS.TupMul
import HandS.TupAny
import HandS.IsInst
import HandS.SetFor
import HandS.Strs
import HandS.Style
import HandS.Flow
import HandS.SlotsOwn
import HandS.TupSets
import HandS.Head0
import HandS.Head1
import HandS.Head2
import HandS.HeadEnd
import HandS.HeadHook1
import HandS.HeadHook2
import HandS.HeadHook3
import HandS.HeadNt
import PySem.Challenge.RW_anyshift_k72_whole_lines_and_groups
import KE.DataMinMax
import KE.GoesEnum
set_option Elab.async false
set_option linter.all false
set_option maxRecDepth 100000
set_option maxHeartbeats 4000000
namespace A72
open PySem L2
/-! the text by places -/
/-! what the head tells: addresses by names, facts as Bools -/
/-- a property's getter -/
def gt (K : PySem.W.Frag) (C f : Str) : Addr := match PySem.W.recIn K (He.ma K (He.ga K C) f) "property" with
  | some (.ref g :: _) => g
  | _ => 0
abbrev IntG (mg : Str → Option Value) (x : Str) (i : Int) : Prop := ∃ t, mg x = some (.int i t)
theorem int_g {K : PySem.W.Frag} {h : Heap} {mg : Str → Option Value} (X : K.In h) (G : h.Ns mainGlobals mg) {x : Str} {i : Int} (c : (He.Fa.int x i).ok K = true) : IntG mg x i := He.int_ok X G c
def methB (K : PySem.W.Frag) (C B m : Str) : Bool := He.eqO (PySem.W.findIn K (.ref (He.ga K C)) m) (some (some (.ref (He.ma K (He.ga K B) m)))) && (PySem.W.isFn K (.ref (He.ma K (He.ga K B) m)) && PySem.W.keepIn K (.ref (He.ma K (He.ga K B) m)))
theorem methB_ok {K : PySem.W.Frag} {C B m : Str} (h : methB K C B m = true) : Meth K (He.ga K C) m (He.ma K (He.ga K B) m) := by
  obtain ⟨h1, h⟩ := He.ba h
  obtain ⟨h2, h3⟩ := He.ba h
  exact ⟨He.eqO_ok h1, h2, h3⟩
def mkB (K : PySem.W.Frag) (C B : Str) : Bool := PySem.W.makesIn K (He.ga K C) && (He.eqO (PySem.W.findIn K (.ref (He.ga K C)) "__init__") (some (some (.ref (He.ma K (He.ga K B) "__init__")))) && (PySem.W.isFn K (.ref (He.ma K (He.ga K B) "__init__")) && PySem.W.keepIn K (.ref (He.ga K C))))
theorem mkB_ok {K : PySem.W.Frag} {C B : Str} (h : mkB K C B = true) : Mk K (He.ga K C) (He.ma K (He.ga K B) "__init__") := by
  obtain ⟨h1, h⟩ := He.ba h
  obtain ⟨h2, h⟩ := He.ba h
  obtain ⟨h3, h4⟩ := He.ba h
  exact ⟨h1, He.eqO_ok h2, h3, h4⟩
def recB (K : PySem.W.Frag) (p : Addr) : Bool := match PySem.W.recIn K p "property" with
  | some (.ref _ :: _) => true
  | _ => false
def propB (K : PySem.W.Frag) (C B f : Str) : Bool := He.eqO (PySem.W.findIn K (.ref (He.ga K C)) f) (some (some (.ref (He.ma K (He.ga K B) f)))) && (He.eqO (PySem.W.specialIn K (.ref (He.ma K (He.ga K B) f)) "__get__") (some (some (.builtin "property.__get__"))) &&
  (decide (PySem.W.takesIn K (.ref (He.ma K (He.ga K B) f)) = some true) && recB K (He.ma K (He.ga K B) f)))
theorem propB_ok {K : PySem.W.Frag} {C B f : Str} (h : propB K C B f = true) : PropOf K (He.ga K C) f (He.ma K (He.ga K B) f) (gt K B f) := by
  obtain ⟨h1, h⟩ := He.ba h
  obtain ⟨h2, h⟩ := He.ba h
  obtain ⟨h3, h4⟩ := He.ba h
  refine ⟨He.eqO_ok h1, He.eqO_ok h2, of_decide_eq_true h3, ?_⟩
  unfold recB at h4
  unfold gt
  split at h4
  · rename_i g r e
    exact ⟨r, by rw [e]⟩
  · cases h4
def insB (K : PySem.W.Frag) (C : Str) : Bool := (He.Fa.cls C).ok K && (He.eqO (PySem.W.findIn K (.ref (He.ga K C)) "__class__") (some (some (.builtin "object.__class__"))) && (He.eqO (PySem.W.specialIn K (.builtin "object.__class__") "__get__") (some (some (.builtin "getset_descriptor.__get__"))) &&
  (decide (PySem.W.takesIn K (.builtin "object.__class__") = some true) && (decide (PySem.W.mroIn K (He.ga K C) (.type "object") = some true) && decide (PySem.W.kitOne K (.ref (He.ga K C)) (.ref (He.ga K C)) = some true)))))
theorem insB_ok {K : PySem.W.Frag} {C : Str} (h : insB K C = true) : C8.InsC K (He.ga K C) := by
  obtain ⟨h1, h⟩ := He.ba h
  obtain ⟨h2, h⟩ := He.ba h
  obtain ⟨h3, h⟩ := He.ba h
  obtain ⟨h4, h⟩ := He.ba h
  obtain ⟨h5, h6⟩ := He.ba h
  exact ⟨He.cls_ok h1, He.eqO_ok h2, He.eqO_ok h3, of_decide_eq_true h4, of_decide_eq_true h5, of_decide_eq_true h6⟩
def top (i : Nat) : Stmt := PySem.Challenge.pw_anyshift_k72_whole_lines_and_groups.main.body.getD i (.Pass ⟨0, 0, 0, 0⟩)
abbrev d_is_integer : Stmt := top 14
abbrev d_is_between : Stmt := top 15
abbrev d_divisor : Stmt := top 16
abbrev d_common_multiple : Stmt := top 17
abbrev d_is_set : Stmt := top 18
abbrev d_is_pattern : Stmt := top 19
abbrev d_does_send : Stmt := top 20
abbrev d_is_group : Stmt := top 26
abbrev d_need_group : Stmt := top 27
abbrev d_are_offsets : Stmt := top 28
abbrev d_need_offsets : Stmt := top 29
abbrev d_need_sender : Stmt := top 30
abbrev d_span_of : Stmt := top 31
abbrev d_need_span : Stmt := top 32
abbrev d_product_of : Stmt := top 33
abbrev d_need_few : Stmt := top 34
abbrev d_classes_of : Stmt := top 35
abbrev d_span : Stmt := top 36
abbrev d_senders_at : Stmt := top 40
abbrev d_kind_of : Stmt := top 41
abbrev d_heard_of : Stmt := top 42
abbrev d_counts_of : Stmt := top 43
abbrev d_place_of : Stmt := top 44
abbrev d_table_of : Stmt := top 45
abbrev d_heard : Stmt := top 46
abbrev d_counts : Stmt := top 47
abbrev d_shut_of : Stmt := top 55
abbrev d_wait_of : Stmt := top 57
abbrev d_longest_wait : Stmt := top 58
abbrev d_stops_of : Stmt := top 59
abbrev d_stop_ticks : Stmt := top 60
abbrev d_law_cell : Stmt := top 62
abbrev d_law_pen : Stmt := top 63
abbrev d_law_draw : Stmt := top 64
abbrev d_law_pick : Stmt := top 65
abbrev d_law_sender : Stmt := top 66
abbrev d_law_plain : Stmt := top 67
abbrev d_law_logged : Stmt := top 69
abbrev d_law_both : Stmt := top 70
abbrev d_law_box : Stmt := top 71
abbrev d_law_few : Stmt := top 72
abbrev d_law_sparse : Stmt := top 73
abbrev d_law_begun : Stmt := top 74
abbrev d_law_heard_right : Stmt := top 75
abbrev d_law_logged_right : Stmt := top 76
abbrev d_law_stops_right : Stmt := top 77
abbrev d_law : Stmt := top 78
abbrev m_init : Stmt := inClass (top 50) 1
abbrev m_keep : Stmt := inClass (top 50) 8
abbrev m_ended : Stmt := inClass (top 50) 9
abbrev m_sends_now : Stmt := inClass (top 50) 10
abbrev m_behind : Stmt := inClass (top 50) 11
abbrev m_with_begun : Stmt := inClass (top 50) 12
abbrev m_start : Stmt := inClass (top 50) 13
abbrev m_stop : Stmt := inClass (top 50) 14
abbrev m_run : Stmt := inClass (top 50) 16
abbrev m_next_tick : Stmt := inClass (top 50) 19
abbrev m_getitem : Stmt := inClass (top 50) 20
abbrev m_call : Stmt := inClass (top 50) 21
abbrev m_contains : Stmt := inClass (top 50) 22
abbrev m_eq : Stmt := inClass (top 50) 25
abbrev m_ended_s : Stmt := inClass (top 51) 1
abbrev p_now : Stmt := inClass (top 50) 3
abbrev p_active : Stmt := inClass (top 50) 4
abbrev p_through : Stmt := inClass (top 50) 5
abbrev p_collisions : Stmt := inClass (top 50) 6
abbrev p_log : Stmt := inClass (top 52) 1
def a_d_is_integer : He5.DefA := ⟨fun K => He.ga K "is_integer", "is_integer", "is_integer", defArgs d_is_integer, defBody d_is_integer, defScope d_is_integer, [], []⟩
def a_d_is_between : He5.DefA := ⟨fun K => He.ga K "is_between", "is_between", "is_between", defArgs d_is_between, defBody d_is_between, defScope d_is_between, [], []⟩
def a_d_divisor : He5.DefA := ⟨fun K => He.ga K "divisor", "divisor", "divisor", defArgs d_divisor, defBody d_divisor, defScope d_divisor, [], []⟩
def a_d_common_multiple : He5.DefA := ⟨fun K => He.ga K "common_multiple", "common_multiple", "common_multiple", defArgs d_common_multiple, defBody d_common_multiple, defScope d_common_multiple, [], []⟩
def a_d_is_set : He5.DefA := ⟨fun K => He.ga K "is_set", "is_set", "is_set", defArgs d_is_set, defBody d_is_set, defScope d_is_set, [], []⟩
def a_d_is_pattern : He5.DefA := ⟨fun K => He.ga K "is_pattern", "is_pattern", "is_pattern", defArgs d_is_pattern, defBody d_is_pattern, defScope d_is_pattern, [], []⟩
def a_d_does_send : He5.DefA := ⟨fun K => He.ga K "does_send", "does_send", "does_send", defArgs d_does_send, defBody d_does_send, defScope d_does_send, [], []⟩
def a_d_is_group : He5.DefA := ⟨fun K => He.ga K "is_group", "is_group", "is_group", defArgs d_is_group, defBody d_is_group, defScope d_is_group, [], []⟩
def a_d_need_group : He5.DefA := ⟨fun K => He.ga K "need_group", "need_group", "need_group", defArgs d_need_group, defBody d_need_group, defScope d_need_group, [], []⟩
def a_d_are_offsets : He5.DefA := ⟨fun K => He.ga K "are_offsets", "are_offsets", "are_offsets", defArgs d_are_offsets, defBody d_are_offsets, defScope d_are_offsets, [], []⟩
def a_d_need_offsets : He5.DefA := ⟨fun K => He.ga K "need_offsets", "need_offsets", "need_offsets", defArgs d_need_offsets, defBody d_need_offsets, defScope d_need_offsets, [], []⟩
def a_d_need_sender : He5.DefA := ⟨fun K => He.ga K "need_sender", "need_sender", "need_sender", defArgs d_need_sender, defBody d_need_sender, defScope d_need_sender, [], []⟩
def a_d_span_of : He5.DefA := ⟨fun K => He.ga K "span_of", "span_of", "span_of", defArgs d_span_of, defBody d_span_of, defScope d_span_of, [], []⟩
def a_d_need_span : He5.DefA := ⟨fun K => He.ga K "need_span", "need_span", "need_span", defArgs d_need_span, defBody d_need_span, defScope d_need_span, [], []⟩
def a_d_product_of : He5.DefA := ⟨fun K => He.ga K "product_of", "product_of", "product_of", defArgs d_product_of, defBody d_product_of, defScope d_product_of, [], []⟩
def a_d_need_few : He5.DefA := ⟨fun K => He.ga K "need_few", "need_few", "need_few", defArgs d_need_few, defBody d_need_few, defScope d_need_few, [], []⟩
def a_d_classes_of : He5.DefA := ⟨fun K => He.ga K "classes_of", "classes_of", "classes_of", defArgs d_classes_of, defBody d_classes_of, defScope d_classes_of, [], []⟩
def a_d_span : He5.DefA := ⟨fun K => He.ga K "span", "span", "span", defArgs d_span, defBody d_span, defScope d_span, [], []⟩
def a_d_senders_at : He5.DefA := ⟨fun K => He.ga K "senders_at", "senders_at", "senders_at", defArgs d_senders_at, defBody d_senders_at, defScope d_senders_at, [], []⟩
def a_d_kind_of : He5.DefA := ⟨fun K => He.ga K "kind_of", "kind_of", "kind_of", defArgs d_kind_of, defBody d_kind_of, defScope d_kind_of, [], []⟩
def a_d_heard_of : He5.DefA := ⟨fun K => He.ga K "heard_of", "heard_of", "heard_of", defArgs d_heard_of, defBody d_heard_of, defScope d_heard_of, [], []⟩
def a_d_counts_of : He5.DefA := ⟨fun K => He.ga K "counts_of", "counts_of", "counts_of", defArgs d_counts_of, defBody d_counts_of, defScope d_counts_of, [], []⟩
def a_d_place_of : He5.DefA := ⟨fun K => He.ga K "place_of", "place_of", "place_of", defArgs d_place_of, defBody d_place_of, defScope d_place_of, [], []⟩
def a_d_table_of : He5.DefA := ⟨fun K => He.ga K "table_of", "table_of", "table_of", defArgs d_table_of, defBody d_table_of, defScope d_table_of, [], []⟩
def a_d_heard : He5.DefA := ⟨fun K => He.ga K "heard", "heard", "heard", defArgs d_heard, defBody d_heard, defScope d_heard, [], []⟩
def a_d_counts : He5.DefA := ⟨fun K => He.ga K "counts", "counts", "counts", defArgs d_counts, defBody d_counts, defScope d_counts, [], []⟩
def a_d_shut_of : He5.DefA := ⟨fun K => He.ga K "shut_of", "shut_of", "shut_of", defArgs d_shut_of, defBody d_shut_of, defScope d_shut_of, [], []⟩
def a_d_wait_of : He5.DefA := ⟨fun K => He.ga K "wait_of", "wait_of", "wait_of", defArgs d_wait_of, defBody d_wait_of, defScope d_wait_of, [], []⟩
def a_d_longest_wait : He5.DefA := ⟨fun K => He.ga K "longest_wait", "longest_wait", "longest_wait", defArgs d_longest_wait, defBody d_longest_wait, defScope d_longest_wait, [], []⟩
def a_d_stops_of : He5.DefA := ⟨fun K => He.ga K "stops_of", "stops_of", "stops_of", defArgs d_stops_of, defBody d_stops_of, defScope d_stops_of, [], []⟩
def a_d_stop_ticks : He5.DefA := ⟨fun K => He.ga K "stop_ticks", "stop_ticks", "stop_ticks", defArgs d_stop_ticks, defBody d_stop_ticks, defScope d_stop_ticks, [], []⟩
def a_d_law_cell : He5.DefA := ⟨fun K => He.ga K "_law_cell", "_law_cell", "_law_cell", defArgs d_law_cell, defBody d_law_cell, defScope d_law_cell, [], []⟩
def a_d_law_pen : He5.DefA := ⟨fun K => He.ga K "_law_pen", "_law_pen", "_law_pen", defArgs d_law_pen, defBody d_law_pen, defScope d_law_pen, [], []⟩
def a_d_law_draw : He5.DefA := ⟨fun K => He.ga K "_law_draw", "_law_draw", "_law_draw", defArgs d_law_draw, defBody d_law_draw, defScope d_law_draw, [], []⟩
def a_d_law_pick : He5.DefA := ⟨fun K => He.ga K "_law_pick", "_law_pick", "_law_pick", defArgs d_law_pick, defBody d_law_pick, defScope d_law_pick, [], []⟩
def a_d_law_sender : He5.DefA := ⟨fun K => He.ga K "_law_sender", "_law_sender", "_law_sender", defArgs d_law_sender, defBody d_law_sender, defScope d_law_sender, [], []⟩
def a_d_law_plain : He5.DefA := ⟨fun K => He.ga K "_law_plain", "_law_plain", "_law_plain", defArgs d_law_plain, defBody d_law_plain, defScope d_law_plain, [], []⟩
def a_d_law_logged : He5.DefA := ⟨fun K => He.ga K "_law_logged", "_law_logged", "_law_logged", defArgs d_law_logged, defBody d_law_logged, defScope d_law_logged, [], []⟩
def a_d_law_both : He5.DefA := ⟨fun K => He.ga K "_law_both", "_law_both", "_law_both", defArgs d_law_both, defBody d_law_both, defScope d_law_both, [], []⟩
def a_d_law_box : He5.DefA := ⟨fun K => He.ga K "_law_box", "_law_box", "_law_box", defArgs d_law_box, defBody d_law_box, defScope d_law_box, [], []⟩
def a_d_law_few : He5.DefA := ⟨fun K => He.ga K "_law_few", "_law_few", "_law_few", defArgs d_law_few, defBody d_law_few, defScope d_law_few, [], []⟩
def a_d_law_sparse : He5.DefA := ⟨fun K => He.ga K "_law_sparse", "_law_sparse", "_law_sparse", defArgs d_law_sparse, defBody d_law_sparse, defScope d_law_sparse, [], []⟩
def a_d_law_begun : He5.DefA := ⟨fun K => He.ga K "_law_begun", "_law_begun", "_law_begun", defArgs d_law_begun, defBody d_law_begun, defScope d_law_begun, [], []⟩
def a_d_law_heard_right : He5.DefA := ⟨fun K => He.ga K "_law_heard_right", "_law_heard_right", "_law_heard_right", defArgs d_law_heard_right, defBody d_law_heard_right, defScope d_law_heard_right, [], []⟩
def a_d_law_logged_right : He5.DefA := ⟨fun K => He.ga K "_law_logged_right", "_law_logged_right", "_law_logged_right", defArgs d_law_logged_right, defBody d_law_logged_right, defScope d_law_logged_right, [], []⟩
def a_d_law_stops_right : He5.DefA := ⟨fun K => He.ga K "_law_stops_right", "_law_stops_right", "_law_stops_right", defArgs d_law_stops_right, defBody d_law_stops_right, defScope d_law_stops_right, [], []⟩
def a_d_law : He5.DefA := ⟨fun K => He.ga K "law", "law", "law", defArgs d_law, defBody d_law, defScope d_law, [], []⟩
def a_m_init : He5.DefA := ⟨fun K => He.ma K (He.ga K "Line") "__init__", "__init__", "Line.__init__", defArgs m_init, defBody m_init, defScope m_init, [], []⟩
def a_m_keep : He5.DefA := ⟨fun K => He.ma K (He.ga K "Line") "keep", "keep", "Line.keep", defArgs m_keep, defBody m_keep, defScope m_keep, [], []⟩
def a_m_ended : He5.DefA := ⟨fun K => He.ma K (He.ga K "Line") "ended", "ended", "Line.ended", defArgs m_ended, defBody m_ended, defScope m_ended, [], []⟩
def a_m_sends_now : He5.DefA := ⟨fun K => He.ma K (He.ga K "Line") "sends_now", "sends_now", "Line.sends_now", defArgs m_sends_now, defBody m_sends_now, defScope m_sends_now, [], []⟩
def a_m_behind : He5.DefA := ⟨fun K => He.ma K (He.ga K "Line") "behind", "behind", "Line.behind", defArgs m_behind, defBody m_behind, defScope m_behind, [], []⟩
def a_m_with_begun : He5.DefA := ⟨fun K => He.ma K (He.ga K "Line") "with_begun", "with_begun", "Line.with_begun", defArgs m_with_begun, defBody m_with_begun, defScope m_with_begun, [], []⟩
def a_m_start : He5.DefA := ⟨fun K => He.ma K (He.ga K "Line") "start", "start", "Line.start", defArgs m_start, defBody m_start, defScope m_start, [], []⟩
def a_m_stop : He5.DefA := ⟨fun K => He.ma K (He.ga K "Line") "stop", "stop", "Line.stop", defArgs m_stop, defBody m_stop, defScope m_stop, [], []⟩
def a_m_run : He5.DefA := ⟨fun K => He.ma K (He.ga K "Line") "run", "run", "Line.run", defArgs m_run, defBody m_run, defScope m_run, [], []⟩
def a_m_next_tick : He5.DefA := ⟨fun K => He.ma K (He.ga K "Line") "next_tick", "next_tick", "Line.next_tick", defArgs m_next_tick, defBody m_next_tick, defScope m_next_tick, [], []⟩
def a_m_getitem : He5.DefA := ⟨fun K => He.ma K (He.ga K "Line") "__getitem__", "__getitem__", "Line.__getitem__", defArgs m_getitem, defBody m_getitem, defScope m_getitem, [], []⟩
def a_m_call : He5.DefA := ⟨fun K => He.ma K (He.ga K "Line") "__call__", "__call__", "Line.__call__", defArgs m_call, defBody m_call, defScope m_call, [], []⟩
def a_m_contains : He5.DefA := ⟨fun K => He.ma K (He.ga K "Line") "__contains__", "__contains__", "Line.__contains__", defArgs m_contains, defBody m_contains, defScope m_contains, [], []⟩
def a_m_eq : He5.DefA := ⟨fun K => He.ma K (He.ga K "Line") "__eq__", "__eq__", "Line.__eq__", defArgs m_eq, defBody m_eq, defScope m_eq, [], []⟩
def a_m_ended_s : He5.DefA := ⟨fun K => He.ma K (He.ga K "Stopping") "ended", "ended", "Stopping.ended", defArgs m_ended_s, defBody m_ended_s, defScope m_ended_s, [], []⟩
def a_p_now : He5.DefA := ⟨fun K => gt K "Line" "now", "now", "Line.now", defArgs p_now, defBody p_now, defScope p_now, [], []⟩
def a_p_active : He5.DefA := ⟨fun K => gt K "Line" "active", "active", "Line.active", defArgs p_active, defBody p_active, defScope p_active, [], []⟩
def a_p_through : He5.DefA := ⟨fun K => gt K "Line" "through", "through", "Line.through", defArgs p_through, defBody p_through, defScope p_through, [], []⟩
def a_p_collisions : He5.DefA := ⟨fun K => gt K "Line" "collisions", "collisions", "Line.collisions", defArgs p_collisions, defBody p_collisions, defScope p_collisions, [], []⟩
def a_p_log : He5.DefA := ⟨fun K => gt K "Logged" "log", "log", "Logged.log", defArgs p_log, defBody p_log, defScope p_log, [], []⟩
structure Txt (K : PySem.W.Frag) (mg : Str → Option Value) : Prop where
  f_d_is_integer : ∃ fd, Fun K "is_integer" "is_integer" d_is_integer (He.ga K "is_integer") fd
  f_d_is_between : ∃ fd, Fun K "is_between" "is_between" d_is_between (He.ga K "is_between") fd
  f_d_divisor : ∃ fd, Fun K "divisor" "divisor" d_divisor (He.ga K "divisor") fd
  f_d_common_multiple : ∃ fd, Fun K "common_multiple" "common_multiple" d_common_multiple (He.ga K "common_multiple") fd
  f_d_is_set : ∃ fd, Fun K "is_set" "is_set" d_is_set (He.ga K "is_set") fd
  f_d_is_pattern : ∃ fd, Fun K "is_pattern" "is_pattern" d_is_pattern (He.ga K "is_pattern") fd
  f_d_does_send : ∃ fd, Fun K "does_send" "does_send" d_does_send (He.ga K "does_send") fd
  f_d_is_group : ∃ fd, Fun K "is_group" "is_group" d_is_group (He.ga K "is_group") fd
  f_d_need_group : ∃ fd, Fun K "need_group" "need_group" d_need_group (He.ga K "need_group") fd
  f_d_are_offsets : ∃ fd, Fun K "are_offsets" "are_offsets" d_are_offsets (He.ga K "are_offsets") fd
  f_d_need_offsets : ∃ fd, Fun K "need_offsets" "need_offsets" d_need_offsets (He.ga K "need_offsets") fd
  f_d_need_sender : ∃ fd, Fun K "need_sender" "need_sender" d_need_sender (He.ga K "need_sender") fd
  f_d_span_of : ∃ fd, Fun K "span_of" "span_of" d_span_of (He.ga K "span_of") fd
  f_d_need_span : ∃ fd, Fun K "need_span" "need_span" d_need_span (He.ga K "need_span") fd
  f_d_product_of : ∃ fd, Fun K "product_of" "product_of" d_product_of (He.ga K "product_of") fd
  f_d_need_few : ∃ fd, Fun K "need_few" "need_few" d_need_few (He.ga K "need_few") fd
  f_d_classes_of : ∃ fd, Fun K "classes_of" "classes_of" d_classes_of (He.ga K "classes_of") fd
  f_d_span : ∃ fd, Fun K "span" "span" d_span (He.ga K "span") fd
  f_d_senders_at : ∃ fd, Fun K "senders_at" "senders_at" d_senders_at (He.ga K "senders_at") fd
  f_d_kind_of : ∃ fd, Fun K "kind_of" "kind_of" d_kind_of (He.ga K "kind_of") fd
  f_d_heard_of : ∃ fd, Fun K "heard_of" "heard_of" d_heard_of (He.ga K "heard_of") fd
  f_d_counts_of : ∃ fd, Fun K "counts_of" "counts_of" d_counts_of (He.ga K "counts_of") fd
  f_d_place_of : ∃ fd, Fun K "place_of" "place_of" d_place_of (He.ga K "place_of") fd
  f_d_table_of : ∃ fd, Fun K "table_of" "table_of" d_table_of (He.ga K "table_of") fd
  f_d_heard : ∃ fd, Fun K "heard" "heard" d_heard (He.ga K "heard") fd
  f_d_counts : ∃ fd, Fun K "counts" "counts" d_counts (He.ga K "counts") fd
  f_d_shut_of : ∃ fd, Fun K "shut_of" "shut_of" d_shut_of (He.ga K "shut_of") fd
  f_d_wait_of : ∃ fd, Fun K "wait_of" "wait_of" d_wait_of (He.ga K "wait_of") fd
  f_d_longest_wait : ∃ fd, Fun K "longest_wait" "longest_wait" d_longest_wait (He.ga K "longest_wait") fd
  f_d_stops_of : ∃ fd, Fun K "stops_of" "stops_of" d_stops_of (He.ga K "stops_of") fd
  f_d_stop_ticks : ∃ fd, Fun K "stop_ticks" "stop_ticks" d_stop_ticks (He.ga K "stop_ticks") fd
  f_d_law_cell : ∃ fd, Fun K "_law_cell" "_law_cell" d_law_cell (He.ga K "_law_cell") fd
  f_d_law_pen : ∃ fd, Fun K "_law_pen" "_law_pen" d_law_pen (He.ga K "_law_pen") fd
  f_d_law_draw : ∃ fd, Fun K "_law_draw" "_law_draw" d_law_draw (He.ga K "_law_draw") fd
  f_d_law_pick : ∃ fd, Fun K "_law_pick" "_law_pick" d_law_pick (He.ga K "_law_pick") fd
  f_d_law_sender : ∃ fd, Fun K "_law_sender" "_law_sender" d_law_sender (He.ga K "_law_sender") fd
  f_d_law_plain : ∃ fd, Fun K "_law_plain" "_law_plain" d_law_plain (He.ga K "_law_plain") fd
  f_d_law_logged : ∃ fd, Fun K "_law_logged" "_law_logged" d_law_logged (He.ga K "_law_logged") fd
  f_d_law_both : ∃ fd, Fun K "_law_both" "_law_both" d_law_both (He.ga K "_law_both") fd
  f_d_law_box : ∃ fd, Fun K "_law_box" "_law_box" d_law_box (He.ga K "_law_box") fd
  f_d_law_few : ∃ fd, Fun K "_law_few" "_law_few" d_law_few (He.ga K "_law_few") fd
  f_d_law_sparse : ∃ fd, Fun K "_law_sparse" "_law_sparse" d_law_sparse (He.ga K "_law_sparse") fd
  f_d_law_begun : ∃ fd, Fun K "_law_begun" "_law_begun" d_law_begun (He.ga K "_law_begun") fd
  f_d_law_heard_right : ∃ fd, Fun K "_law_heard_right" "_law_heard_right" d_law_heard_right (He.ga K "_law_heard_right") fd
  f_d_law_logged_right : ∃ fd, Fun K "_law_logged_right" "_law_logged_right" d_law_logged_right (He.ga K "_law_logged_right") fd
  f_d_law_stops_right : ∃ fd, Fun K "_law_stops_right" "_law_stops_right" d_law_stops_right (He.ga K "_law_stops_right") fd
  f_d_law : ∃ fd, Fun K "law" "law" d_law (He.ga K "law") fd
  f_m_init : ∃ fd, Fun K "__init__" "Line.__init__" m_init (He.ma K (He.ga K "Line") "__init__") fd
  f_m_keep : ∃ fd, Fun K "keep" "Line.keep" m_keep (He.ma K (He.ga K "Line") "keep") fd
  f_m_ended : ∃ fd, Fun K "ended" "Line.ended" m_ended (He.ma K (He.ga K "Line") "ended") fd
  f_m_sends_now : ∃ fd, Fun K "sends_now" "Line.sends_now" m_sends_now (He.ma K (He.ga K "Line") "sends_now") fd
  f_m_behind : ∃ fd, Fun K "behind" "Line.behind" m_behind (He.ma K (He.ga K "Line") "behind") fd
  f_m_with_begun : ∃ fd, Fun K "with_begun" "Line.with_begun" m_with_begun (He.ma K (He.ga K "Line") "with_begun") fd
  f_m_start : ∃ fd, Fun K "start" "Line.start" m_start (He.ma K (He.ga K "Line") "start") fd
  f_m_stop : ∃ fd, Fun K "stop" "Line.stop" m_stop (He.ma K (He.ga K "Line") "stop") fd
  f_m_run : ∃ fd, Fun K "run" "Line.run" m_run (He.ma K (He.ga K "Line") "run") fd
  f_m_next_tick : ∃ fd, Fun K "next_tick" "Line.next_tick" m_next_tick (He.ma K (He.ga K "Line") "next_tick") fd
  f_m_getitem : ∃ fd, Fun K "__getitem__" "Line.__getitem__" m_getitem (He.ma K (He.ga K "Line") "__getitem__") fd
  f_m_call : ∃ fd, Fun K "__call__" "Line.__call__" m_call (He.ma K (He.ga K "Line") "__call__") fd
  f_m_contains : ∃ fd, Fun K "__contains__" "Line.__contains__" m_contains (He.ma K (He.ga K "Line") "__contains__") fd
  f_m_eq : ∃ fd, Fun K "__eq__" "Line.__eq__" m_eq (He.ma K (He.ga K "Line") "__eq__") fd
  f_m_ended_s : ∃ fd, Fun K "ended" "Stopping.ended" m_ended_s (He.ma K (He.ga K "Stopping") "ended") fd
  f_p_now : ∃ fd, Fun K "now" "Line.now" p_now (gt K "Line" "now") fd
  f_p_active : ∃ fd, Fun K "active" "Line.active" p_active (gt K "Line" "active") fd
  f_p_through : ∃ fd, Fun K "through" "Line.through" p_through (gt K "Line" "through") fd
  f_p_collisions : ∃ fd, Fun K "collisions" "Line.collisions" p_collisions (gt K "Line" "collisions") fd
  f_p_log : ∃ fd, Fun K "log" "Logged.log" p_log (gt K "Logged" "log") fd
  g_is_integer : mg "is_integer" = some (.ref (He.ga K "is_integer"))
  g_is_between : mg "is_between" = some (.ref (He.ga K "is_between"))
  g_divisor : mg "divisor" = some (.ref (He.ga K "divisor"))
  g_common_multiple : mg "common_multiple" = some (.ref (He.ga K "common_multiple"))
  g_is_set : mg "is_set" = some (.ref (He.ga K "is_set"))
  g_is_pattern : mg "is_pattern" = some (.ref (He.ga K "is_pattern"))
  g_does_send : mg "does_send" = some (.ref (He.ga K "does_send"))
  g_is_group : mg "is_group" = some (.ref (He.ga K "is_group"))
  g_need_group : mg "need_group" = some (.ref (He.ga K "need_group"))
  g_are_offsets : mg "are_offsets" = some (.ref (He.ga K "are_offsets"))
  g_need_offsets : mg "need_offsets" = some (.ref (He.ga K "need_offsets"))
  g_need_sender : mg "need_sender" = some (.ref (He.ga K "need_sender"))
  g_span_of : mg "span_of" = some (.ref (He.ga K "span_of"))
  g_need_span : mg "need_span" = some (.ref (He.ga K "need_span"))
  g_product_of : mg "product_of" = some (.ref (He.ga K "product_of"))
  g_need_few : mg "need_few" = some (.ref (He.ga K "need_few"))
  g_classes_of : mg "classes_of" = some (.ref (He.ga K "classes_of"))
  g_span : mg "span" = some (.ref (He.ga K "span"))
  g_senders_at : mg "senders_at" = some (.ref (He.ga K "senders_at"))
  g_kind_of : mg "kind_of" = some (.ref (He.ga K "kind_of"))
  g_heard_of : mg "heard_of" = some (.ref (He.ga K "heard_of"))
  g_counts_of : mg "counts_of" = some (.ref (He.ga K "counts_of"))
  g_place_of : mg "place_of" = some (.ref (He.ga K "place_of"))
  g_table_of : mg "table_of" = some (.ref (He.ga K "table_of"))
  g_heard : mg "heard" = some (.ref (He.ga K "heard"))
  g_counts : mg "counts" = some (.ref (He.ga K "counts"))
  g_shut_of : mg "shut_of" = some (.ref (He.ga K "shut_of"))
  g_wait_of : mg "wait_of" = some (.ref (He.ga K "wait_of"))
  g_longest_wait : mg "longest_wait" = some (.ref (He.ga K "longest_wait"))
  g_stops_of : mg "stops_of" = some (.ref (He.ga K "stops_of"))
  g_stop_ticks : mg "stop_ticks" = some (.ref (He.ga K "stop_ticks"))
  g_law_cell : mg "_law_cell" = some (.ref (He.ga K "_law_cell"))
  g_law_pen : mg "_law_pen" = some (.ref (He.ga K "_law_pen"))
  g_law_draw : mg "_law_draw" = some (.ref (He.ga K "_law_draw"))
  g_law_pick : mg "_law_pick" = some (.ref (He.ga K "_law_pick"))
  g_law_sender : mg "_law_sender" = some (.ref (He.ga K "_law_sender"))
  g_law_plain : mg "_law_plain" = some (.ref (He.ga K "_law_plain"))
  g_law_logged : mg "_law_logged" = some (.ref (He.ga K "_law_logged"))
  g_law_both : mg "_law_both" = some (.ref (He.ga K "_law_both"))
  g_law_box : mg "_law_box" = some (.ref (He.ga K "_law_box"))
  g_law_few : mg "_law_few" = some (.ref (He.ga K "_law_few"))
  g_law_sparse : mg "_law_sparse" = some (.ref (He.ga K "_law_sparse"))
  g_law_begun : mg "_law_begun" = some (.ref (He.ga K "_law_begun"))
  g_law_heard_right : mg "_law_heard_right" = some (.ref (He.ga K "_law_heard_right"))
  g_law_logged_right : mg "_law_logged_right" = some (.ref (He.ga K "_law_logged_right"))
  g_law_stops_right : mg "_law_stops_right" = some (.ref (He.ga K "_law_stops_right"))
  g_law : mg "law" = some (.ref (He.ga K "law"))
  b_isinstance : mg "isinstance" = none
  b_int : mg "int" = none
  b_bool : mg "bool" = none
  b_tuple : mg "tuple" = none
  b_len : mg "len" = none
  b_all : mg "all" = none
  b_zip : mg "zip" = none
  b_range : mg "range" = none
  b_list : mg "list" = none
  b_min : mg "min" = none
  b_max : mg "max" = none
  b_enumerate : mg "enumerate" = none
  b_set : mg "set" = none
  b_sorted : mg "sorted" = none
  c_LEAST_PERIOD : IntG mg "LEAST_PERIOD" (2)
  c_MOST_PERIOD : IntG mg "MOST_PERIOD" (60)
  c_LEAST_SENDERS : IntG mg "LEAST_SENDERS" (2)
  c_MOST_SENDERS : IntG mg "MOST_SENDERS" (4)
  c_LONGEST : IntG mg "LONGEST" (420)
  c_MOST_CLASSES : IntG mg "MOST_CLASSES" (240)
  c_QUIET : IntG mg "QUIET" (-1)
  c_COLLISION : IntG mg "COLLISION" (-2)
  c_MOST_RUN : IntG mg "MOST_RUN" (200)
  k_Line : mg "Line" = some (.ref (He.ga K "Line"))
  cl_Line : Cls K (He.ga K "Line")
  mk_Line : Mk K (He.ga K "Line") (He.ma K (He.ga K "Line") "__init__")
  na_Line_patterns : NoAttr K (He.ga K "Line") "patterns"
  na_Line_state : NoAttr K (He.ga K "Line") "state"
  na_Line_past : NoAttr K (He.ga K "Line") "past"
  me_Line_keep : Meth K (He.ga K "Line") "keep" (He.ma K (He.ga K "Line") "keep")
  me_Line_ended : Meth K (He.ga K "Line") "ended" (He.ma K (He.ga K "Line") "ended")
  me_Line_sends_now : Meth K (He.ga K "Line") "sends_now" (He.ma K (He.ga K "Line") "sends_now")
  me_Line_behind : Meth K (He.ga K "Line") "behind" (He.ma K (He.ga K "Line") "behind")
  me_Line_with_begun : Meth K (He.ga K "Line") "with_begun" (He.ma K (He.ga K "Line") "with_begun")
  me_Line_start : Meth K (He.ga K "Line") "start" (He.ma K (He.ga K "Line") "start")
  me_Line_stop : Meth K (He.ga K "Line") "stop" (He.ma K (He.ga K "Line") "stop")
  me_Line_run : Meth K (He.ga K "Line") "run" (He.ma K (He.ga K "Line") "run")
  me_Line_next_tick : Meth K (He.ga K "Line") "next_tick" (He.ma K (He.ga K "Line") "next_tick")
  me_Line_getitem : Meth K (He.ga K "Line") "__getitem__" (He.ma K (He.ga K "Line") "__getitem__")
  me_Line_call : Meth K (He.ga K "Line") "__call__" (He.ma K (He.ga K "Line") "__call__")
  me_Line_contains : Meth K (He.ga K "Line") "__contains__" (He.ma K (He.ga K "Line") "__contains__")
  me_Line_eq : Meth K (He.ga K "Line") "__eq__" (He.ma K (He.ga K "Line") "__eq__")
  pr_Line_now : PropOf K (He.ga K "Line") "now" (He.ma K (He.ga K "Line") "now") (gt K "Line" "now")
  pr_Line_active : PropOf K (He.ga K "Line") "active" (He.ma K (He.ga K "Line") "active") (gt K "Line" "active")
  pr_Line_through : PropOf K (He.ga K "Line") "through" (He.ma K (He.ga K "Line") "through") (gt K "Line" "through")
  pr_Line_collisions : PropOf K (He.ga K "Line") "collisions" (He.ma K (He.ga K "Line") "collisions") (gt K "Line" "collisions")
  la_Line : ∃ u, Con K (He.ga K "Line") "LABEL" (.str "Line") u
  k_Logged : mg "Logged" = some (.ref (He.ga K "Logged"))
  cl_Logged : Cls K (He.ga K "Logged")
  mk_Logged : Mk K (He.ga K "Logged") (He.ma K (He.ga K "Line") "__init__")
  na_Logged_patterns : NoAttr K (He.ga K "Logged") "patterns"
  na_Logged_state : NoAttr K (He.ga K "Logged") "state"
  na_Logged_past : NoAttr K (He.ga K "Logged") "past"
  me_Logged_keep : Meth K (He.ga K "Logged") "keep" (He.ma K (He.ga K "Line") "keep")
  me_Logged_ended : Meth K (He.ga K "Logged") "ended" (He.ma K (He.ga K "Line") "ended")
  me_Logged_sends_now : Meth K (He.ga K "Logged") "sends_now" (He.ma K (He.ga K "Line") "sends_now")
  me_Logged_behind : Meth K (He.ga K "Logged") "behind" (He.ma K (He.ga K "Line") "behind")
  me_Logged_with_begun : Meth K (He.ga K "Logged") "with_begun" (He.ma K (He.ga K "Line") "with_begun")
  me_Logged_start : Meth K (He.ga K "Logged") "start" (He.ma K (He.ga K "Line") "start")
  me_Logged_stop : Meth K (He.ga K "Logged") "stop" (He.ma K (He.ga K "Line") "stop")
  me_Logged_run : Meth K (He.ga K "Logged") "run" (He.ma K (He.ga K "Line") "run")
  me_Logged_next_tick : Meth K (He.ga K "Logged") "next_tick" (He.ma K (He.ga K "Line") "next_tick")
  me_Logged_getitem : Meth K (He.ga K "Logged") "__getitem__" (He.ma K (He.ga K "Line") "__getitem__")
  me_Logged_call : Meth K (He.ga K "Logged") "__call__" (He.ma K (He.ga K "Line") "__call__")
  me_Logged_contains : Meth K (He.ga K "Logged") "__contains__" (He.ma K (He.ga K "Line") "__contains__")
  me_Logged_eq : Meth K (He.ga K "Logged") "__eq__" (He.ma K (He.ga K "Line") "__eq__")
  pr_Logged_now : PropOf K (He.ga K "Logged") "now" (He.ma K (He.ga K "Line") "now") (gt K "Line" "now")
  pr_Logged_active : PropOf K (He.ga K "Logged") "active" (He.ma K (He.ga K "Line") "active") (gt K "Line" "active")
  pr_Logged_through : PropOf K (He.ga K "Logged") "through" (He.ma K (He.ga K "Line") "through") (gt K "Line" "through")
  pr_Logged_collisions : PropOf K (He.ga K "Logged") "collisions" (He.ma K (He.ga K "Line") "collisions") (gt K "Line" "collisions")
  pr_Logged_log : PropOf K (He.ga K "Logged") "log" (He.ma K (He.ga K "Logged") "log") (gt K "Logged" "log")
  la_Logged : ∃ u, Con K (He.ga K "Logged") "LABEL" (.str "Logged") u
  k_StoppingLogged : mg "StoppingLogged" = some (.ref (He.ga K "StoppingLogged"))
  cl_StoppingLogged : Cls K (He.ga K "StoppingLogged")
  mk_StoppingLogged : Mk K (He.ga K "StoppingLogged") (He.ma K (He.ga K "Line") "__init__")
  na_StoppingLogged_patterns : NoAttr K (He.ga K "StoppingLogged") "patterns"
  na_StoppingLogged_state : NoAttr K (He.ga K "StoppingLogged") "state"
  na_StoppingLogged_past : NoAttr K (He.ga K "StoppingLogged") "past"
  me_StoppingLogged_keep : Meth K (He.ga K "StoppingLogged") "keep" (He.ma K (He.ga K "Line") "keep")
  me_StoppingLogged_ended : Meth K (He.ga K "StoppingLogged") "ended" (He.ma K (He.ga K "Stopping") "ended")
  me_StoppingLogged_sends_now : Meth K (He.ga K "StoppingLogged") "sends_now" (He.ma K (He.ga K "Line") "sends_now")
  me_StoppingLogged_behind : Meth K (He.ga K "StoppingLogged") "behind" (He.ma K (He.ga K "Line") "behind")
  me_StoppingLogged_with_begun : Meth K (He.ga K "StoppingLogged") "with_begun" (He.ma K (He.ga K "Line") "with_begun")
  me_StoppingLogged_start : Meth K (He.ga K "StoppingLogged") "start" (He.ma K (He.ga K "Line") "start")
  me_StoppingLogged_stop : Meth K (He.ga K "StoppingLogged") "stop" (He.ma K (He.ga K "Line") "stop")
  me_StoppingLogged_run : Meth K (He.ga K "StoppingLogged") "run" (He.ma K (He.ga K "Line") "run")
  me_StoppingLogged_next_tick : Meth K (He.ga K "StoppingLogged") "next_tick" (He.ma K (He.ga K "Line") "next_tick")
  me_StoppingLogged_getitem : Meth K (He.ga K "StoppingLogged") "__getitem__" (He.ma K (He.ga K "Line") "__getitem__")
  me_StoppingLogged_call : Meth K (He.ga K "StoppingLogged") "__call__" (He.ma K (He.ga K "Line") "__call__")
  me_StoppingLogged_contains : Meth K (He.ga K "StoppingLogged") "__contains__" (He.ma K (He.ga K "Line") "__contains__")
  me_StoppingLogged_eq : Meth K (He.ga K "StoppingLogged") "__eq__" (He.ma K (He.ga K "Line") "__eq__")
  pr_StoppingLogged_now : PropOf K (He.ga K "StoppingLogged") "now" (He.ma K (He.ga K "Line") "now") (gt K "Line" "now")
  pr_StoppingLogged_active : PropOf K (He.ga K "StoppingLogged") "active" (He.ma K (He.ga K "Line") "active") (gt K "Line" "active")
  pr_StoppingLogged_through : PropOf K (He.ga K "StoppingLogged") "through" (He.ma K (He.ga K "Line") "through") (gt K "Line" "through")
  pr_StoppingLogged_collisions : PropOf K (He.ga K "StoppingLogged") "collisions" (He.ma K (He.ga K "Line") "collisions") (gt K "Line" "collisions")
  pr_StoppingLogged_log : PropOf K (He.ga K "StoppingLogged") "log" (He.ma K (He.ga K "Logged") "log") (gt K "Logged" "log")
  la_StoppingLogged : ∃ u, Con K (He.ga K "StoppingLogged") "LABEL" (.str "StoppingLogged") u
  fn_getitem : PySem.W.fnIn K (He.ma K (He.ga K "Line") "__getitem__") = true
  fn_call : PySem.W.fnIn K (He.ma K (He.ga K "Line") "__call__") = true
  ne_Logged : PySem.W.findIn K (.ref (He.ga K "Logged")) "__ne__" = some (some (.builtin "object.__ne__"))
  so_Logged : PySem.W.subIn K (.ref (He.ga K "Logged")) (.type "object") = some true
  nf_Logged : PySem.W.notFirst K (He.ga K "Logged") (.ref (He.ga K "Line")) = true
  ic_Line : C8.InsC K (He.ga K "Line")
end A72

set_option Elab.async false
set_option linter.all false
set_option maxRecDepth 100000
set_option maxHeartbeats 0
namespace A72
open PySem L2
def fns : List He5.DefA := [a_d_is_integer, a_d_is_between, a_d_divisor, a_d_common_multiple, a_d_is_set, a_d_is_pattern, a_d_does_send, a_d_is_group, a_d_need_group, a_d_are_offsets, a_d_need_offsets, a_d_need_sender, a_d_span_of, a_d_need_span, a_d_product_of, a_d_need_few, a_d_classes_of, a_d_span, a_d_senders_at, a_d_kind_of, a_d_heard_of, a_d_counts_of, a_d_place_of, a_d_table_of, a_d_heard, a_d_counts, a_d_shut_of, a_d_wait_of, a_d_longest_wait, a_d_stops_of, a_d_stop_ticks, a_d_law_cell, a_d_law_pen, a_d_law_draw, a_d_law_pick, a_d_law_sender, a_d_law_plain, a_d_law_logged, a_d_law_both, a_d_law_box, a_d_law_few, a_d_law_sparse, a_d_law_begun, a_d_law_heard_right, a_d_law_logged_right, a_d_law_stops_right, a_d_law, a_m_init, a_m_keep, a_m_ended, a_m_sends_now, a_m_behind, a_m_with_begun, a_m_start, a_m_stop, a_m_run, a_m_next_tick, a_m_getitem, a_m_call, a_m_contains, a_m_eq, a_m_ended_s, a_p_now, a_p_active, a_p_through, a_p_collisions, a_p_log]
def bools (K : PySem.W.Frag) : List Bool := [(He.Fa.glo "is_integer").ok K,
  (He.Fa.glo "is_between").ok K,
  (He.Fa.glo "divisor").ok K,
  (He.Fa.glo "common_multiple").ok K,
  (He.Fa.glo "is_set").ok K,
  (He.Fa.glo "is_pattern").ok K,
  (He.Fa.glo "does_send").ok K,
  (He.Fa.glo "is_group").ok K,
  (He.Fa.glo "need_group").ok K,
  (He.Fa.glo "are_offsets").ok K,
  (He.Fa.glo "need_offsets").ok K,
  (He.Fa.glo "need_sender").ok K,
  (He.Fa.glo "span_of").ok K,
  (He.Fa.glo "need_span").ok K,
  (He.Fa.glo "product_of").ok K,
  (He.Fa.glo "need_few").ok K,
  (He.Fa.glo "classes_of").ok K,
  (He.Fa.glo "span").ok K,
  (He.Fa.glo "senders_at").ok K,
  (He.Fa.glo "kind_of").ok K,
  (He.Fa.glo "heard_of").ok K,
  (He.Fa.glo "counts_of").ok K,
  (He.Fa.glo "place_of").ok K,
  (He.Fa.glo "table_of").ok K,
  (He.Fa.glo "heard").ok K,
  (He.Fa.glo "counts").ok K,
  (He.Fa.glo "shut_of").ok K,
  (He.Fa.glo "wait_of").ok K,
  (He.Fa.glo "longest_wait").ok K,
  (He.Fa.glo "stops_of").ok K,
  (He.Fa.glo "stop_ticks").ok K,
  (He.Fa.glo "_law_cell").ok K,
  (He.Fa.glo "_law_pen").ok K,
  (He.Fa.glo "_law_draw").ok K,
  (He.Fa.glo "_law_pick").ok K,
  (He.Fa.glo "_law_sender").ok K,
  (He.Fa.glo "_law_plain").ok K,
  (He.Fa.glo "_law_logged").ok K,
  (He.Fa.glo "_law_both").ok K,
  (He.Fa.glo "_law_box").ok K,
  (He.Fa.glo "_law_few").ok K,
  (He.Fa.glo "_law_sparse").ok K,
  (He.Fa.glo "_law_begun").ok K,
  (He.Fa.glo "_law_heard_right").ok K,
  (He.Fa.glo "_law_logged_right").ok K,
  (He.Fa.glo "_law_stops_right").ok K,
  (He.Fa.glo "law").ok K,
  (He.Fa.free "isinstance").ok K,
  (He.Fa.free "int").ok K,
  (He.Fa.free "bool").ok K,
  (He.Fa.free "tuple").ok K,
  (He.Fa.free "len").ok K,
  (He.Fa.free "all").ok K,
  (He.Fa.free "zip").ok K,
  (He.Fa.free "range").ok K,
  (He.Fa.free "list").ok K,
  (He.Fa.free "min").ok K,
  (He.Fa.free "max").ok K,
  (He.Fa.free "enumerate").ok K,
  (He.Fa.free "set").ok K,
  (He.Fa.free "sorted").ok K,
  (He.Fa.int "LEAST_PERIOD" (2)).ok K,
  (He.Fa.int "MOST_PERIOD" (60)).ok K,
  (He.Fa.int "LEAST_SENDERS" (2)).ok K,
  (He.Fa.int "MOST_SENDERS" (4)).ok K,
  (He.Fa.int "LONGEST" (420)).ok K,
  (He.Fa.int "MOST_CLASSES" (240)).ok K,
  (He.Fa.int "QUIET" (-1)).ok K,
  (He.Fa.int "COLLISION" (-2)).ok K,
  (He.Fa.int "MOST_RUN" (200)).ok K,
  (He.Fa.glo "Line").ok K,
  (He.Fa.cls "Line").ok K,
  mkB K "Line" "Line",
  (He.Fa.noat "Line" "patterns").ok K,
  (He.Fa.noat "Line" "state").ok K,
  (He.Fa.noat "Line" "past").ok K,
  methB K "Line" "Line" "keep",
  methB K "Line" "Line" "ended",
  methB K "Line" "Line" "sends_now",
  methB K "Line" "Line" "behind",
  methB K "Line" "Line" "with_begun",
  methB K "Line" "Line" "start",
  methB K "Line" "Line" "stop",
  methB K "Line" "Line" "run",
  methB K "Line" "Line" "next_tick",
  methB K "Line" "Line" "__getitem__",
  methB K "Line" "Line" "__call__",
  methB K "Line" "Line" "__contains__",
  methB K "Line" "Line" "__eq__",
  propB K "Line" "Line" "now",
  propB K "Line" "Line" "active",
  propB K "Line" "Line" "through",
  propB K "Line" "Line" "collisions",
  He.conB K "Line" "LABEL" (.str "Line"),
  (He.Fa.glo "Logged").ok K,
  (He.Fa.cls "Logged").ok K,
  mkB K "Logged" "Line",
  (He.Fa.noat "Logged" "patterns").ok K,
  (He.Fa.noat "Logged" "state").ok K,
  (He.Fa.noat "Logged" "past").ok K,
  methB K "Logged" "Line" "keep",
  methB K "Logged" "Line" "ended",
  methB K "Logged" "Line" "sends_now",
  methB K "Logged" "Line" "behind",
  methB K "Logged" "Line" "with_begun",
  methB K "Logged" "Line" "start",
  methB K "Logged" "Line" "stop",
  methB K "Logged" "Line" "run",
  methB K "Logged" "Line" "next_tick",
  methB K "Logged" "Line" "__getitem__",
  methB K "Logged" "Line" "__call__",
  methB K "Logged" "Line" "__contains__",
  methB K "Logged" "Line" "__eq__",
  propB K "Logged" "Line" "now",
  propB K "Logged" "Line" "active",
  propB K "Logged" "Line" "through",
  propB K "Logged" "Line" "collisions",
  propB K "Logged" "Logged" "log",
  He.conB K "Logged" "LABEL" (.str "Logged"),
  (He.Fa.glo "StoppingLogged").ok K,
  (He.Fa.cls "StoppingLogged").ok K,
  mkB K "StoppingLogged" "Line",
  (He.Fa.noat "StoppingLogged" "patterns").ok K,
  (He.Fa.noat "StoppingLogged" "state").ok K,
  (He.Fa.noat "StoppingLogged" "past").ok K,
  methB K "StoppingLogged" "Line" "keep",
  methB K "StoppingLogged" "Stopping" "ended",
  methB K "StoppingLogged" "Line" "sends_now",
  methB K "StoppingLogged" "Line" "behind",
  methB K "StoppingLogged" "Line" "with_begun",
  methB K "StoppingLogged" "Line" "start",
  methB K "StoppingLogged" "Line" "stop",
  methB K "StoppingLogged" "Line" "run",
  methB K "StoppingLogged" "Line" "next_tick",
  methB K "StoppingLogged" "Line" "__getitem__",
  methB K "StoppingLogged" "Line" "__call__",
  methB K "StoppingLogged" "Line" "__contains__",
  methB K "StoppingLogged" "Line" "__eq__",
  propB K "StoppingLogged" "Line" "now",
  propB K "StoppingLogged" "Line" "active",
  propB K "StoppingLogged" "Line" "through",
  propB K "StoppingLogged" "Line" "collisions",
  propB K "StoppingLogged" "Logged" "log",
  He.conB K "StoppingLogged" "LABEL" (.str "StoppingLogged"),
  PySem.W.fnIn K (He.ma K (He.ga K "Line") "__getitem__"),
  PySem.W.fnIn K (He.ma K (He.ga K "Line") "__call__"),
  He.eqO (PySem.W.findIn K (.ref (He.ga K "Logged")) "__ne__") (some (some (.builtin "object.__ne__"))),
  decide (PySem.W.subIn K (.ref (He.ga K "Logged")) (.type "object") = some true),
  PySem.W.notFirst K (He.ga K "Logged") (.ref (He.ga K "Line")),
  insB K "Line"]
def loose0 : List Str := [("_wall" : Str), ("__name__" : Str), ("ShiftError" : Str), ("NoGroup" : Str), ("NoOffsets" : Str), ("NoSender" : Str), ("NoTicks" : Str), ("Started" : Str), ("NotStarted" : Str), ("TooLong" : Str), ("TooMany" : Str), ("LEAST_PERIOD" : Str), ("MOST_PERIOD" : Str), ("is_integer" : Str), ("is_between" : Str), ("divisor" : Str), ("common_multiple" : Str), ("is_set" : Str), ("is_pattern" : Str), ("does_send" : Str), ("LEAST_SENDERS" : Str), ("MOST_SENDERS" : Str), ("LONGEST" : Str), ("MOST_CLASSES" : Str), ("is_group" : Str), ("need_group" : Str), ("are_offsets" : Str), ("need_offsets" : Str), ("need_sender" : Str), ("span_of" : Str), ("need_span" : Str), ("product_of" : Str), ("need_few" : Str), ("classes_of" : Str), ("span" : Str)]
def loose1 : List Str := [("QUIET" : Str), ("COLLISION" : Str), ("senders_at" : Str), ("kind_of" : Str), ("heard_of" : Str), ("counts_of" : Str), ("place_of" : Str), ("table_of" : Str), ("heard" : Str), ("counts" : Str), ("MOST_RUN" : Str), ("Line" : Str), ("Stopping" : Str), ("Logged" : Str), ("StoppingLogged" : Str), ("shut_of" : Str), ("wait_of" : Str), ("longest_wait" : Str), ("stops_of" : Str), ("stop_ticks" : Str), ("_law_cell" : Str), ("_law_pen" : Str), ("_law_draw" : Str), ("_law_pick" : Str), ("_law_sender" : Str), ("_law_plain" : Str), ("_law_stopping" : Str), ("_law_logged" : Str), ("_law_both" : Str), ("_law_box" : Str), ("_law_few" : Str), ("_law_sparse" : Str), ("_law_begun" : Str), ("_law_heard_right" : Str), ("_law_logged_right" : Str)]
def loose2 : List Str := [("_law_stops_right" : Str)]
def loose : List Str := loose0 ++ loose1 ++ loose2
/-! the Hook -/
def obsM (K : PySem.W.Frag) : He.AlD := ((bools K).all id && fns.all fun d => d.ok K, fns.map fun d => He5.fnA K (d.at_ K))
def valM : He.AlD := (true, fns.map He5.DefA.val)
def SaysM (K : PySem.W.Frag) : Prop := obsM K = valM
def obsMG (g : Addr → Option Obj) : He.AlD := obsM (He.frG g (He5.asA g 6))
def hookM : PySem.W.Hook where
  α := He.AlD
  obs := fun s => obsMG s.heap.get?
  val := fun _ => valM
  says := fun _ h => ∃ K : PySem.W.Frag, K.In h ∧ SaysM K
  of := fun _ _ e => ⟨_, He.frG_in, e⟩
  keeps := fun _ _ _ ⟨K, hK, c⟩ k => ⟨K, PySem.W.Frag.In.keeps hK k, c⟩
theorem SaysM.fact {K : PySem.W.Frag} (c : SaysM K) (i : Nat) {b : Bool} (h : (bools K)[i]? = some b) : b = true := by
  have c1 := (He.ba (show ((bools K).all id && fns.all fun d => d.ok K) = true from congrArg (fun z : He.AlD => z.1) c)).1
  exact List.all_eq_true.mp c1 b (List.mem_of_getElem? h)
theorem SaysM.def_ {K : PySem.W.Frag} (c : SaysM K) (i : Nat) {d : He5.DefA} {x qual : Str} {st : Stmt} (h : fns[i]? = some d) (hd : d = ⟨d.at_, x, qual, defArgs st, defBody st, defScope st, [], []⟩ := by rfl) : ∃ fd, Fun K x qual st (d.at_ K) fd := by
  have c2 := (He.ba (show ((bools K).all id && fns.all fun d => d.ok K) = true from congrArg (fun z : He.AlD => z.1) c)).2
  have e : fns.map (fun d => He5.fnA K (d.at_ K)) = fns.map He5.DefA.val := congrArg (fun z : He.AlD => z.2) c
  have e2 : (fns.map fun d => He5.fnA K (d.at_ K))[i]? = (fns.map He5.DefA.val)[i]? := by rw [e]
  rw [List.getElem?_map, List.getElem?_map, h] at e2
  obtain ⟨fd, F⟩ := He5.DefA.funD (Option.some.inj e2) (List.all_eq_true.mp c2 d (List.mem_of_getElem? h))
  rw [hd] at F
  exact ⟨fd, He5.fun_of F⟩
theorem txt_of {K : PySem.W.Frag} {h : Heap} {mg : Str → Option Value} (X : K.In h) (G : h.Ns mainGlobals mg) (c : SaysM K) : Txt K mg where
  f_d_is_integer := c.def_ 0 (d := a_d_is_integer) rfl
  f_d_is_between := c.def_ 1 (d := a_d_is_between) rfl
  f_d_divisor := c.def_ 2 (d := a_d_divisor) rfl
  f_d_common_multiple := c.def_ 3 (d := a_d_common_multiple) rfl
  f_d_is_set := c.def_ 4 (d := a_d_is_set) rfl
  f_d_is_pattern := c.def_ 5 (d := a_d_is_pattern) rfl
  f_d_does_send := c.def_ 6 (d := a_d_does_send) rfl
  f_d_is_group := c.def_ 7 (d := a_d_is_group) rfl
  f_d_need_group := c.def_ 8 (d := a_d_need_group) rfl
  f_d_are_offsets := c.def_ 9 (d := a_d_are_offsets) rfl
  f_d_need_offsets := c.def_ 10 (d := a_d_need_offsets) rfl
  f_d_need_sender := c.def_ 11 (d := a_d_need_sender) rfl
  f_d_span_of := c.def_ 12 (d := a_d_span_of) rfl
  f_d_need_span := c.def_ 13 (d := a_d_need_span) rfl
  f_d_product_of := c.def_ 14 (d := a_d_product_of) rfl
  f_d_need_few := c.def_ 15 (d := a_d_need_few) rfl
  f_d_classes_of := c.def_ 16 (d := a_d_classes_of) rfl
  f_d_span := c.def_ 17 (d := a_d_span) rfl
  f_d_senders_at := c.def_ 18 (d := a_d_senders_at) rfl
  f_d_kind_of := c.def_ 19 (d := a_d_kind_of) rfl
  f_d_heard_of := c.def_ 20 (d := a_d_heard_of) rfl
  f_d_counts_of := c.def_ 21 (d := a_d_counts_of) rfl
  f_d_place_of := c.def_ 22 (d := a_d_place_of) rfl
  f_d_table_of := c.def_ 23 (d := a_d_table_of) rfl
  f_d_heard := c.def_ 24 (d := a_d_heard) rfl
  f_d_counts := c.def_ 25 (d := a_d_counts) rfl
  f_d_shut_of := c.def_ 26 (d := a_d_shut_of) rfl
  f_d_wait_of := c.def_ 27 (d := a_d_wait_of) rfl
  f_d_longest_wait := c.def_ 28 (d := a_d_longest_wait) rfl
  f_d_stops_of := c.def_ 29 (d := a_d_stops_of) rfl
  f_d_stop_ticks := c.def_ 30 (d := a_d_stop_ticks) rfl
  f_d_law_cell := c.def_ 31 (d := a_d_law_cell) rfl
  f_d_law_pen := c.def_ 32 (d := a_d_law_pen) rfl
  f_d_law_draw := c.def_ 33 (d := a_d_law_draw) rfl
  f_d_law_pick := c.def_ 34 (d := a_d_law_pick) rfl
  f_d_law_sender := c.def_ 35 (d := a_d_law_sender) rfl
  f_d_law_plain := c.def_ 36 (d := a_d_law_plain) rfl
  f_d_law_logged := c.def_ 37 (d := a_d_law_logged) rfl
  f_d_law_both := c.def_ 38 (d := a_d_law_both) rfl
  f_d_law_box := c.def_ 39 (d := a_d_law_box) rfl
  f_d_law_few := c.def_ 40 (d := a_d_law_few) rfl
  f_d_law_sparse := c.def_ 41 (d := a_d_law_sparse) rfl
  f_d_law_begun := c.def_ 42 (d := a_d_law_begun) rfl
  f_d_law_heard_right := c.def_ 43 (d := a_d_law_heard_right) rfl
  f_d_law_logged_right := c.def_ 44 (d := a_d_law_logged_right) rfl
  f_d_law_stops_right := c.def_ 45 (d := a_d_law_stops_right) rfl
  f_d_law := c.def_ 46 (d := a_d_law) rfl
  f_m_init := c.def_ 47 (d := a_m_init) rfl
  f_m_keep := c.def_ 48 (d := a_m_keep) rfl
  f_m_ended := c.def_ 49 (d := a_m_ended) rfl
  f_m_sends_now := c.def_ 50 (d := a_m_sends_now) rfl
  f_m_behind := c.def_ 51 (d := a_m_behind) rfl
  f_m_with_begun := c.def_ 52 (d := a_m_with_begun) rfl
  f_m_start := c.def_ 53 (d := a_m_start) rfl
  f_m_stop := c.def_ 54 (d := a_m_stop) rfl
  f_m_run := c.def_ 55 (d := a_m_run) rfl
  f_m_next_tick := c.def_ 56 (d := a_m_next_tick) rfl
  f_m_getitem := c.def_ 57 (d := a_m_getitem) rfl
  f_m_call := c.def_ 58 (d := a_m_call) rfl
  f_m_contains := c.def_ 59 (d := a_m_contains) rfl
  f_m_eq := c.def_ 60 (d := a_m_eq) rfl
  f_m_ended_s := c.def_ 61 (d := a_m_ended_s) rfl
  f_p_now := c.def_ 62 (d := a_p_now) rfl
  f_p_active := c.def_ 63 (d := a_p_active) rfl
  f_p_through := c.def_ 64 (d := a_p_through) rfl
  f_p_collisions := c.def_ 65 (d := a_p_collisions) rfl
  f_p_log := c.def_ 66 (d := a_p_log) rfl
  g_is_integer := He.glo_ok X G (c.fact 0 rfl)
  g_is_between := He.glo_ok X G (c.fact 1 rfl)
  g_divisor := He.glo_ok X G (c.fact 2 rfl)
  g_common_multiple := He.glo_ok X G (c.fact 3 rfl)
  g_is_set := He.glo_ok X G (c.fact 4 rfl)
  g_is_pattern := He.glo_ok X G (c.fact 5 rfl)
  g_does_send := He.glo_ok X G (c.fact 6 rfl)
  g_is_group := He.glo_ok X G (c.fact 7 rfl)
  g_need_group := He.glo_ok X G (c.fact 8 rfl)
  g_are_offsets := He.glo_ok X G (c.fact 9 rfl)
  g_need_offsets := He.glo_ok X G (c.fact 10 rfl)
  g_need_sender := He.glo_ok X G (c.fact 11 rfl)
  g_span_of := He.glo_ok X G (c.fact 12 rfl)
  g_need_span := He.glo_ok X G (c.fact 13 rfl)
  g_product_of := He.glo_ok X G (c.fact 14 rfl)
  g_need_few := He.glo_ok X G (c.fact 15 rfl)
  g_classes_of := He.glo_ok X G (c.fact 16 rfl)
  g_span := He.glo_ok X G (c.fact 17 rfl)
  g_senders_at := He.glo_ok X G (c.fact 18 rfl)
  g_kind_of := He.glo_ok X G (c.fact 19 rfl)
  g_heard_of := He.glo_ok X G (c.fact 20 rfl)
  g_counts_of := He.glo_ok X G (c.fact 21 rfl)
  g_place_of := He.glo_ok X G (c.fact 22 rfl)
  g_table_of := He.glo_ok X G (c.fact 23 rfl)
  g_heard := He.glo_ok X G (c.fact 24 rfl)
  g_counts := He.glo_ok X G (c.fact 25 rfl)
  g_shut_of := He.glo_ok X G (c.fact 26 rfl)
  g_wait_of := He.glo_ok X G (c.fact 27 rfl)
  g_longest_wait := He.glo_ok X G (c.fact 28 rfl)
  g_stops_of := He.glo_ok X G (c.fact 29 rfl)
  g_stop_ticks := He.glo_ok X G (c.fact 30 rfl)
  g_law_cell := He.glo_ok X G (c.fact 31 rfl)
  g_law_pen := He.glo_ok X G (c.fact 32 rfl)
  g_law_draw := He.glo_ok X G (c.fact 33 rfl)
  g_law_pick := He.glo_ok X G (c.fact 34 rfl)
  g_law_sender := He.glo_ok X G (c.fact 35 rfl)
  g_law_plain := He.glo_ok X G (c.fact 36 rfl)
  g_law_logged := He.glo_ok X G (c.fact 37 rfl)
  g_law_both := He.glo_ok X G (c.fact 38 rfl)
  g_law_box := He.glo_ok X G (c.fact 39 rfl)
  g_law_few := He.glo_ok X G (c.fact 40 rfl)
  g_law_sparse := He.glo_ok X G (c.fact 41 rfl)
  g_law_begun := He.glo_ok X G (c.fact 42 rfl)
  g_law_heard_right := He.glo_ok X G (c.fact 43 rfl)
  g_law_logged_right := He.glo_ok X G (c.fact 44 rfl)
  g_law_stops_right := He.glo_ok X G (c.fact 45 rfl)
  g_law := He.glo_ok X G (c.fact 46 rfl)
  b_isinstance := He.free_ok X G (c.fact 47 rfl)
  b_int := He.free_ok X G (c.fact 48 rfl)
  b_bool := He.free_ok X G (c.fact 49 rfl)
  b_tuple := He.free_ok X G (c.fact 50 rfl)
  b_len := He.free_ok X G (c.fact 51 rfl)
  b_all := He.free_ok X G (c.fact 52 rfl)
  b_zip := He.free_ok X G (c.fact 53 rfl)
  b_range := He.free_ok X G (c.fact 54 rfl)
  b_list := He.free_ok X G (c.fact 55 rfl)
  b_min := He.free_ok X G (c.fact 56 rfl)
  b_max := He.free_ok X G (c.fact 57 rfl)
  b_enumerate := He.free_ok X G (c.fact 58 rfl)
  b_set := He.free_ok X G (c.fact 59 rfl)
  b_sorted := He.free_ok X G (c.fact 60 rfl)
  c_LEAST_PERIOD := int_g X G (c.fact 61 rfl)
  c_MOST_PERIOD := int_g X G (c.fact 62 rfl)
  c_LEAST_SENDERS := int_g X G (c.fact 63 rfl)
  c_MOST_SENDERS := int_g X G (c.fact 64 rfl)
  c_LONGEST := int_g X G (c.fact 65 rfl)
  c_MOST_CLASSES := int_g X G (c.fact 66 rfl)
  c_QUIET := int_g X G (c.fact 67 rfl)
  c_COLLISION := int_g X G (c.fact 68 rfl)
  c_MOST_RUN := int_g X G (c.fact 69 rfl)
  k_Line := He.glo_ok X G (c.fact 70 rfl)
  cl_Line := He.cls_ok (c.fact 71 rfl)
  mk_Line := mkB_ok (c.fact 72 rfl)
  na_Line_patterns := He.noat_ok (c.fact 73 rfl)
  na_Line_state := He.noat_ok (c.fact 74 rfl)
  na_Line_past := He.noat_ok (c.fact 75 rfl)
  me_Line_keep := methB_ok (c.fact 76 rfl)
  me_Line_ended := methB_ok (c.fact 77 rfl)
  me_Line_sends_now := methB_ok (c.fact 78 rfl)
  me_Line_behind := methB_ok (c.fact 79 rfl)
  me_Line_with_begun := methB_ok (c.fact 80 rfl)
  me_Line_start := methB_ok (c.fact 81 rfl)
  me_Line_stop := methB_ok (c.fact 82 rfl)
  me_Line_run := methB_ok (c.fact 83 rfl)
  me_Line_next_tick := methB_ok (c.fact 84 rfl)
  me_Line_getitem := methB_ok (c.fact 85 rfl)
  me_Line_call := methB_ok (c.fact 86 rfl)
  me_Line_contains := methB_ok (c.fact 87 rfl)
  me_Line_eq := methB_ok (c.fact 88 rfl)
  pr_Line_now := propB_ok (c.fact 89 rfl)
  pr_Line_active := propB_ok (c.fact 90 rfl)
  pr_Line_through := propB_ok (c.fact 91 rfl)
  pr_Line_collisions := propB_ok (c.fact 92 rfl)
  la_Line := He.conB_ok (c.fact 93 rfl)
  k_Logged := He.glo_ok X G (c.fact 94 rfl)
  cl_Logged := He.cls_ok (c.fact 95 rfl)
  mk_Logged := mkB_ok (c.fact 96 rfl)
  na_Logged_patterns := He.noat_ok (c.fact 97 rfl)
  na_Logged_state := He.noat_ok (c.fact 98 rfl)
  na_Logged_past := He.noat_ok (c.fact 99 rfl)
  me_Logged_keep := methB_ok (c.fact 100 rfl)
  me_Logged_ended := methB_ok (c.fact 101 rfl)
  me_Logged_sends_now := methB_ok (c.fact 102 rfl)
  me_Logged_behind := methB_ok (c.fact 103 rfl)
  me_Logged_with_begun := methB_ok (c.fact 104 rfl)
  me_Logged_start := methB_ok (c.fact 105 rfl)
  me_Logged_stop := methB_ok (c.fact 106 rfl)
  me_Logged_run := methB_ok (c.fact 107 rfl)
  me_Logged_next_tick := methB_ok (c.fact 108 rfl)
  me_Logged_getitem := methB_ok (c.fact 109 rfl)
  me_Logged_call := methB_ok (c.fact 110 rfl)
  me_Logged_contains := methB_ok (c.fact 111 rfl)
  me_Logged_eq := methB_ok (c.fact 112 rfl)
  pr_Logged_now := propB_ok (c.fact 113 rfl)
  pr_Logged_active := propB_ok (c.fact 114 rfl)
  pr_Logged_through := propB_ok (c.fact 115 rfl)
  pr_Logged_collisions := propB_ok (c.fact 116 rfl)
  pr_Logged_log := propB_ok (c.fact 117 rfl)
  la_Logged := He.conB_ok (c.fact 118 rfl)
  k_StoppingLogged := He.glo_ok X G (c.fact 119 rfl)
  cl_StoppingLogged := He.cls_ok (c.fact 120 rfl)
  mk_StoppingLogged := mkB_ok (c.fact 121 rfl)
  na_StoppingLogged_patterns := He.noat_ok (c.fact 122 rfl)
  na_StoppingLogged_state := He.noat_ok (c.fact 123 rfl)
  na_StoppingLogged_past := He.noat_ok (c.fact 124 rfl)
  me_StoppingLogged_keep := methB_ok (c.fact 125 rfl)
  me_StoppingLogged_ended := methB_ok (c.fact 126 rfl)
  me_StoppingLogged_sends_now := methB_ok (c.fact 127 rfl)
  me_StoppingLogged_behind := methB_ok (c.fact 128 rfl)
  me_StoppingLogged_with_begun := methB_ok (c.fact 129 rfl)
  me_StoppingLogged_start := methB_ok (c.fact 130 rfl)
  me_StoppingLogged_stop := methB_ok (c.fact 131 rfl)
  me_StoppingLogged_run := methB_ok (c.fact 132 rfl)
  me_StoppingLogged_next_tick := methB_ok (c.fact 133 rfl)
  me_StoppingLogged_getitem := methB_ok (c.fact 134 rfl)
  me_StoppingLogged_call := methB_ok (c.fact 135 rfl)
  me_StoppingLogged_contains := methB_ok (c.fact 136 rfl)
  me_StoppingLogged_eq := methB_ok (c.fact 137 rfl)
  pr_StoppingLogged_now := propB_ok (c.fact 138 rfl)
  pr_StoppingLogged_active := propB_ok (c.fact 139 rfl)
  pr_StoppingLogged_through := propB_ok (c.fact 140 rfl)
  pr_StoppingLogged_collisions := propB_ok (c.fact 141 rfl)
  pr_StoppingLogged_log := propB_ok (c.fact 142 rfl)
  la_StoppingLogged := He.conB_ok (c.fact 143 rfl)
  fn_getitem := (c.fact 144 rfl)
  fn_call := (c.fact 145 rfl)
  ne_Logged := He.eqO_ok (c.fact 146 rfl)
  so_Logged := of_decide_eq_true (c.fact 147 rfl)
  nf_Logged := (c.fact 148 rfl)
  ic_Line := insB_ok (c.fact 149 rfl)
abbrev R : PySem.W.OpenRow := PySem.W.OpenLaw.row PySem.Challenge.rw_anyshift_k72_whole_lines_and_groups
abbrev Vw : Program := PySem.W.view R.prog [78]
def obT (s : PySem.W.SharedT) : He.AlD := obsMG (HandSHeadRun.getT s)
theorem obT_eq (s : PySem.W.SharedT) : obT s = hookM.obs s.abs := by
  have e : HandSHeadRun.getT s = s.abs.heap.get? := funext (HandSHeadRun.getT_eq s)
  show obsMG (HandSHeadRun.getT s) = obsMG s.abs.heap.get?
  rw [e]
/-- one run told by four looks (each a kernel run of its own: together they take too much memory) -/
theorem map4 {α β γ δ ε : Type} {o : Option α} {f : α → β} {g : α → γ} {h : α → δ × ε} {b : β} {c : γ} {d : δ} {e : ε} (h1 : o.map f = some b) (h2 : o.map g = some c) (h3 : (o.map fun s => (h s).1) = some d) (h4 : (o.map fun s => (h s).2) = some e) :
    (o.map fun s => (f s, g s, h s)) = some (b, c, (d, e)) := by
  cases o with
  | none => cases h1
  | some s =>
    have e1 : f s = b := Option.some.inj h1
    have e2 : g s = c := Option.some.inj h2
    have e3 : (h s).1 = d := Option.some.inj h3
    have e4 : (h s).2 = e := Option.some.inj h4
    show some (f s, g s, h s) = _
    rw [e1, e2, ← e3, ← e4]
open HandSHeadRun PySem.W in
theorem run1 (w : World) (os : OsState) : ((endF (stepQ (denQ tabQ) R.prog w) 12000 R.prog w os).map fun s => looksF R.prog (boot_heap w.params) s.abs) = some true := by kernel_rfl
open HandSHeadRun PySem.W in
theorem run2 (w : World) (os : OsState) : ((endF (stepQ (denQ tabQ) R.prog w) 12000 R.prog w os).map fun s => seenQ Vw loose (importedModules R.prog.main.body) (fun s => xlAt Vw [] s && recOk R.toRowW.records s) s.abs) = some (openGood Vw loose) := by kernel_rfl
open HandSHeadRun PySem.W in
theorem run3 (w : World) (os : OsState) : ((endF (stepQ (denQ tabQ) R.prog w) 12000 R.prog w os).map fun s => (obT s).1) = some true := by kernel_rfl
open HandSHeadRun PySem.W in
theorem run4 (w : World) (os : OsState) : ((endF (stepQ (denQ tabQ) R.prog w) 12000 R.prog w os).map fun s => (obT s).2) = some (fns.map He5.DefA.val) := by kernel_rfl
theorem run (w : World) : HandSHeadRun.RunEq R Vw hookM obT 12000 loose w := fun os => map4 (run1 w os) (run2 w os) (run3 w os) (run4 w os)
end A72

set_option Elab.async false
set_option linter.all false
set_option maxRecDepth 100000
set_option maxHeartbeats 4000000
/-! The base of the proof: heaps that grow, values by shape, rules that the layer lacks. -/
namespace A72
open PySem PySem.Spec PyProof.Rows L2

/-! ### 1. steps of the abstract heap -/
def tupish : HO → Bool
  | .tup _ => true
  | .frz _ _ => true
  | _ => false
/-- from H to H': only what stands at S may change, tuples never -/
structure Stp (S : List Addr) (H H' : Hp) : Prop where
  kp : ∀ a o, H a = some o → a ∉ S → H' a = some o
  tu : ∀ a o, H a = some o → tupish o = true → H' a = some o
theorem Stp.refl (S : List Addr) (H : Hp) : Stp S H H := ⟨fun _ _ h _ => h, fun _ _ h _ => h⟩
theorem Stp.trans {S : List Addr} {H H1 H2 : Hp} (a : Stp S H H1) (b : Stp S H1 H2) : Stp S H H2 :=
  ⟨fun x o h n => b.kp x o (a.kp x o h n) n, fun x o h t => b.tu x o (a.tu x o h t) t⟩
theorem _root_.L2.Same.stp {S : List Addr} {H H' : Hp} (e : Same H H') : Stp S H H' := ⟨fun a o h _ => e a o h, fun a o h _ => e a o h⟩
theorem Stp.same {H H' : Hp} (e : Stp [] H H') : Same H H' := fun a o h => e.kp a o h (fun z => nomatch z)
theorem Stp.mono {S T : List Addr} {H H' : Hp} (e : Stp S H H') (h : ∀ a ∈ S, a ∈ T) : Stp T H H' := ⟨fun a o q n => e.kp a o q fun z => n (h a z), e.tu⟩
theorem _root_.L2.Same.new {H : Hp} {p : Addr} {o : HO} (h : H p = none) : Same H (upd H p o) := fun a u e => by
  rw [upd_ne (ne_of_none e h)]
  exact e
theorem Stp.new {S : List Addr} {H : Hp} {p : Addr} {o : HO} (h : H p = none) : Stp S H (upd H p o) := (Same.new h).stp
theorem Stp.upd {S : List Addr} {H : Hp} {p : Addr} {o u : HO} (h : H p = some u) (n : tupish u = false) (m : p ∈ S) : Stp S H (upd H p o) :=
  ⟨fun a x e ha => by
    rw [upd_ne (fun z => ha (by rw [z]; exact m))]
    exact e, fun a x e t => by
    have ne : a ≠ p := fun z => by
      rw [z, h] at e
      cases e
      rw [n] at t
      cases t
    rw [upd_ne ne]
    exact e⟩
theorem _root_.L2.Same.up {H H' : Hp} {p : Addr} {o : HO} (e : Same H H') (h : H p = none) : Same H (upd H' p o) := fun a u ha => by
  rw [upd_ne (ne_of_none ha h)]
  exact e a u ha
theorem Stp.t {K : PySem.W.Frag} {S : List Addr} {H H' : Hp} {a : Addr} {xs : List V} (e : Stp S H H') (h : SqT K H a xs) : SqT K H' a xs := by
  rcases h with (h | ⟨o, h⟩) | h
  · exact .inl (.inl (e.tu _ _ h rfl))
  · exact .inl (.inr ⟨o, e.tu _ _ h rfl⟩)
  · exact .inr h
theorem _root_.L2.Same.t {K : PySem.W.Frag} {H H' : Hp} {a : Addr} {xs : List V} (e : Same H H') (h : SqT K H a xs) : SqT K H' a xs := (Same.stp (S := []) e).t h
theorem _root_.L2.Same.l {K : PySem.W.Frag} {H H' : Hp} {a : Addr} {xs : List V} (e : Same H H') (h : SqL K H a xs) : SqL K H' a xs := e.seq h

/-! ### 2. values by shape -/
/-- a tuple of these values -/
def TV (K : PySem.W.Frag) (H : Hp) (v : V) (xs : List V) : Prop := ∃ a, v = .ref a ∧ SqT K H a xs
/-- a tuple of these ints -/
abbrev IV (K : PySem.W.Frag) (H : Hp) (v : V) (ns : List Int) : Prop := TV K H v (ns.map V.int)
def oV : Option Int → V
  | none => .non
  | some i => .int i
/-- a tuple of ints and Nones -/
abbrev OV (K : PySem.W.Frag) (H : Hp) (v : V) (os : List (Option Int)) : Prop := TV K H v (os.map oV)
/-- a pattern: its period, its slots -/
structure Pat where
  per : Int
  sl : List Int
abbrev Grp := List Pat
def PtV (K : PySem.W.Frag) (H : Hp) (v : V) (p : Pat) : Prop := ∃ s, TV K H v [.int p.per, s] ∧ IV K H s p.sl
def GrV (K : PySem.W.Frag) (H : Hp) (v : V) (g : Grp) : Prop := ∃ vs, TV K H v vs ∧ Paired (PtV K H) vs g
section
variable {K : PySem.W.Frag} {S : List Addr} {H H' : Hp} {v : V}
theorem TV.s {xs : List V} (h : TV K H v xs) (e : Stp S H H') : TV K H' v xs := let ⟨a, q, t⟩ := h; ⟨a, q, e.t t⟩
theorem PtV.s {p : Pat} (h : PtV K H v p) (e : Stp S H H') : PtV K H' v p := let ⟨s, q, t⟩ := h; ⟨s, q.s e, TV.s t e⟩
theorem GrV.s {g : Grp} (h : GrV K H v g) (e : Stp S H H') : GrV K H' v g := let ⟨vs, q, t⟩ := h; ⟨vs, q.s e, Paired.mapP t fun _ _ z => z.s e⟩
theorem TV.m {xs : List V} (h : TV K H v xs) (e : Same H H') : TV K H' v xs := h.s (Same.stp (S := []) e)
theorem PtV.m {p : Pat} (h : PtV K H v p) (e : Same H H') : PtV K H' v p := h.s (Same.stp (S := []) e)
theorem GrV.m {g : Grp} (h : GrV K H v g) (e : Same H H') : GrV K H' v g := h.s (Same.stp (S := []) e)
theorem pairedP_len {vs : List V} {g : Grp} (h : Paired (PtV K H) vs g) : vs.length = g.length := Paired.length h
theorem pairedP_at {vs : List V} {g : Grp} {i : Nat} {p : Pat} (h : Paired (PtV K H) vs g) (e : g[i]? = some p) : ∃ v, vs[i]? = some v ∧ PtV K H v p := by
  induction h generalizing i with
  | nil => cases e
  | @cons a b as bs q r ih =>
    cases i with
    | zero =>
      cases e
      exact ⟨a, rfl, q⟩
    | succ i => exact ih e
theorem pairedP_to {vs : List V} {g : Grp} {i : Nat} {x : V} (h : Paired (PtV K H) vs g) (e : vs[i]? = some x) : ∃ p, g[i]? = some p ∧ PtV K H x p := by
  induction h generalizing i with
  | nil => cases e
  | @cons a b as bs q r ih =>
    cases i with
    | zero =>
      cases e
      exact ⟨b, rfl, q⟩
    | succ i => exact ih e
end
theorem ints_at {ns : List Int} {i : Nat} {v : V} (h : (ns.map V.int)[i]? = some v) : ∃ n, ns[i]? = some n ∧ v = .int n := by
  rw [List.getElem?_map] at h
  cases e : ns[i]? with
  | none =>
    rw [e] at h
    cases h
  | some n =>
    rw [e] at h
    exact ⟨n, rfl, (Option.some.inj h).symm⟩
theorem int_at {ns : List Int} {i : Nat} {n : Int} (h : ns[i]? = some n) : (ns.map V.int)[i]? = some (.int n) := by
  rw [List.getElem?_map, h] <;> rfl

/-! ### 3. short words for calls and names -/
section
variable {P : Program} {w : World} {K : PySem.W.Frag} {mg : Str → Option Value} {base : Heap}
theorem cal {x : Str} {st : Stmt} {N ps : List Str} {k : Nat} {sp : Sp} (F : ∃ fd, Fun K x x st (He.ga K x) fd) (g : mg x = some (.ref (He.ga K x))) (S : FnScope N ps (defScope st))
    (hb : ∀ (kV doc pm : Value) (an : Option Addr) (cdv ct : Value) (us : List Value), us.length = ps.length → bindArgs (PySem.W.fnOf x x (defArgs st) (defBody st) (defScope st) .none kV doc pm an cdv ct) ⟨us, []⟩ = pure (ps.zip us))
    (len : ∀ vs H Q E, sp vs H Q E → vs.length = ps.length)
    (hbody : ∀ (cdv : Value) (A : Around) (outer : List Env) (s : Shared) (H : Hp) (vs : List V) (Q : VK) (E : XK), Room k (A.deeper (envOfC x (defScope st) s.heap.objs.size (He.ga K x) cdv)) → sp vs H Q E →
      ∃ t, PSs (cxOf CX0 P w K mg base N x (defScope st) (He.ga K x) cdv A outer s H E).nox (defBody st) t ∧ t { nx := fun _ H' => Q .non H', rt := Q } (start N vs) H) : C8.Cal P w K mg base (k + 1) x sp [] := by
  obtain ⟨fd, F⟩ := F
  exact ⟨He.ga K x, fd, ps, [], F.ok S len hbody, g, F.kp, F.binds hb, .nil⟩
/-- a def at an address (a method, a getter) -/
structure At (P : Program) (w : World) (K : PySem.W.Frag) (mg : Str → Option Value) (base : Heap) (k : Nat) (f : Addr) (ps : List Str) (sp : Sp) : Prop where
  ex : ∃ fd : FuncData, FnOk P w K mg base CX0 k f fd ps sp ∧ Binds K fd ps []
theorem atf {m qual : Str} {st : Stmt} {f : Addr} {N ps : List Str} {k : Nat} {sp : Sp} (F : ∃ fd, Fun K m qual st f fd) (S : FnScope N ps (defScope st))
    (hb : ∀ (kV doc pm : Value) (an : Option Addr) (cdv ct : Value) (us : List Value), us.length = ps.length → bindArgs (PySem.W.fnOf m qual (defArgs st) (defBody st) (defScope st) .none kV doc pm an cdv ct) ⟨us, []⟩ = pure (ps.zip us))
    (len : ∀ vs H Q E, sp vs H Q E → vs.length = ps.length)
    (hbody : ∀ (cdv : Value) (A : Around) (outer : List Env) (s : Shared) (H : Hp) (vs : List V) (Q : VK) (E : XK), Room k (A.deeper (envOfC qual (defScope st) s.heap.objs.size f cdv)) → sp vs H Q E →
      ∃ t, PSs (cxOf CX0 P w K mg base N qual (defScope st) f cdv A outer s H E).nox (defBody st) t ∧ t { nx := fun _ H' => Q .non H', rt := Q } (start N vs) H) : At P w K mg base (k + 1) f ps sp := by
  obtain ⟨fd, F⟩ := F
  exact ⟨fd, F.ok S len hbody, F.binds hb⟩
theorem At.met {k : Nat} {f C : Addr} {m : Str} {ps : List Str} {sp : Sp} (A : At P w K mg base k f ps sp) (c : Cls K C) (h : Meth K C m f) : C8.Met P w K mg base k C m sp [] := by
  obtain ⟨fd, F, b⟩ := A.ex
  exact ⟨f, fd, ps, [], c, h, F, b, .nil⟩
end
section
variable {X : Cx}
theorem pe_ig {x : Str} {i : Int} {pos : Pos} (h : IntG X.mg x i) (hg : Gl X x) (hd : (x == ("__debug__" : Str)) = false := by decide) : PE X (.Name x pos) (tC (.int i)) := by
  obtain ⟨t, e⟩ := h
  exact pe_glob hg e ⟨t, rfl⟩ hd
/-- e.f, a property -/
theorem pe_pr {e : Expr} {f : Str} {pos : Pos} {ta : TE} {C p g : Addr} {k j : Nat} {ps : List Str} {sp : Sp} (he : PE X e ta) (c : Cls X.K C) (hp : PropOf X.K C f p g) (A : At X.prog X.w X.K X.mg X.base k g ps sp) (hr : Room j X.A) (hk : k + 1 ≤ j)
    (hab : attributeBase e f X.env (eval e X.env) = eval e X.env := by rfl) : PE X (.Attribute e f pos) (tProp C sp [] E0 ta) := by
  obtain ⟨fd, F, b⟩ := A.ex
  exact pe_prop he c hp F (hr.mono hk) b .nil pass0 hab
end

/-! ### 4. enumerate of a tuple -/
set_option maxHeartbeats 2000000 in
theorem enum1_new {v : Value} {o : Obj} {Fh : Heap → Prop} (B : Begins v o Fh) :
    Meets (Builtin.«enumerate.__new__» ⟨[.type "enumerate", v], []⟩) (fun _ R s => Fh s.heap ∧
      R (.ok (.ret (.ref (s.heap.push o).objs.size))) { s with heap := (s.heap.push o).push { cls := .type "enumerate", data := .fields #[.none, .bool false, .ref s.heap.objs.size, rawInt 0, .none, .none] } }) := by
  refine .of_wp fun prog w A R s h => ?_
  obtain ⟨hp, gs, dr, tk, os⟩ := s
  obtain ⟨hF, h⟩ := h
  have hsub := sub_enumerate
  have go : ∀ {A' : Around} {E' : Value → Shared → Prop} {Q' : Value → Shared → Prop}, Q' (.ref hp.objs.size) ⟨hp.push o, gs, dr, tk, os⟩ → wpAny (model prog w) A' (pyIter v) Q' E' ⟨hp, gs, dr, tk, os⟩ :=
    fun q => B.iter prog w _ _ ⟨hp, gs, dr, tk, os⟩ _ hF q
  wp_walk using go
  refine wpAny_stack_any fun st => wpAny_pure ?_
  split
  · rename_i c _ _ _ _ _
    cases (c == Value.type "enumerate") <;> (wp_walk using go; exact ⟨_, rfl, h⟩)
  · wp_walk using go
    exact ⟨_, rfl, h⟩
section
variable {prog : Program} {w : World} {A : Around} {E : Value → Shared → Prop} {s : Shared}
theorem enum1_begins {v : Value} {o : Obj} {Fh : Heap → Prop} {Q : Value → Shared → Prop} (B : Begins v o Fh) (hF : Fh s.heap)
    (h : ∀ h', IsEnum h' (s.heap.objs.size + 1) s.heap.objs.size 0 .none → h'.get? s.heap.objs.size = some o → (∀ b u, s.heap.get? b = some u → h'.get? b = some u) → Q (.ref (s.heap.objs.size + 1)) { s with heap := h' }) :
    wpAny (model prog w) A (call (.type "enumerate") [v]) Q E s := by
  refine callType_new F.called_enumerate (by decide) (F.typeCall_enumerate_1 _) (F.newCall_enumerate_1 _) (fun obj => F.args_object_init_2 obj _) F.entry_enumerate_new (enum1_new B) ⟨hF, ?_⟩
  have sz : (s.heap.push o).objs.size = s.heap.objs.size + 1 := Heap.size_push ..
  show _ ∧ _
  rw [sz]
  have en := Heap.get?_push_size (s.heap.push o) (o := { cls := .type "enumerate", data := .fields #[.none, .bool false, .ref s.heap.objs.size, rawInt 0, .none, .none] }) rfl
  rw [sz] at en
  exact ⟨⟨_, en, rfl⟩, h _ en (Heap.get?_push_of_some _ (Heap.get?_push_size _ B.free)) fun b u x => Heap.get?_push_of_some _ (Heap.get?_push_of_some _ x)⟩
end
/-- enumerate(t), t a tuple at a: each item in a new pair -/
def IteT (K : PySem.W.Frag) (a : Addr) : It where
  go := fun i H => ∃ (xs : List V) (x : V), SqT K H a xs ∧ xs[i]? = some x
  yld := fun i H v H' => ∃ T x, v = .ref T ∧ H T = none ∧ H' = upd H T (.tup [.int (i : Nat), x]) ∧ ∀ xs, SqT K H a xs → xs[i]? = some x
  stop := fun i H => ∃ xs : List V, SqT K H a xs ∧ xs.length ≤ i
theorem turn_enumT {P : Program} {w : World} {K : PySem.W.Frag} {elts : List Expr} {kk : Nat} {tpos : Pos} (a e it : Addr) :
    Turn P w K (.Tuple elts kk tpos) (IteT K a) [e, it] e (fun i h => (∃ old, IsEnum h e it ((i : Nat) : Int) old) ∧ h.IsTupleIter it a i ∧ e ≠ it ∧ a ≠ it ∧ a ≠ e) where
  mem := List.mem_cons_self ..
  obj := fun i h st b hb => by
    obtain ⟨⟨old, he⟩, ⟨o, ho, hc, hd⟩, _⟩ := st
    rcases List.mem_cons.mp hb with z | z
    · subst z
      exact ⟨_, he, fun v q => nomatch q⟩
    · rw [List.mem_singleton.mp z]
      exact ⟨o, ho, fun v q => by
        rw [hd] at q
        cases q⟩
  keep := fun i h h' st k => by
    obtain ⟨⟨old, he⟩, hi, n⟩ := st
    exact ⟨⟨old, k e (by simp) _ he⟩, hi.at fun o q => k it (by simp) o q, n⟩
  item := by
    intro X hP hw hK hc i pins s σ H E I hf st hg
    subst hP hw hK
    obtain ⟨⟨old, he⟩, hit, hne, hai, hae⟩ := st
    obtain ⟨xs, x, hq, hx⟩ := hg
    obtain ⟨its, rv, p, hz⟩ := I.tuple hq
    obtain ⟨u, hu, ru⟩ := rv.get hx
    have ltE : e < s.heap.objs.size := Heap.lt_size he
    have ltI : it < s.heap.objs.size := by
      obtain ⟨_, q, _⟩ := hit
      exact Heap.lt_size q
    have D := Draws.tuple (prog := X.prog) (w := X.w) (A := X.A.in1) (I.ok.hd hc) it a hai its.toArray
    have hi : i < its.toArray.size := by
      rw [List.size_toArray]
      exact (List.getElem?_eq_some_iff.mp hu).1
    refine wpAny_pyNext_enum_itemC D he ⟨hit, p⟩ hi hne (by simp [hne, Ne.symm hae]) fun y h' tk hy ho hst hT hsz hk => ?_
    obtain rfl : y = u := by
      have z : its.toArray[i]? = some y := hy
      rw [List.getElem?_toArray, hu] at z
      exact (Option.some.inj z).symm
    refine ⟨_, rfl, wpAny_letOwnedTupleGo_enum (s := { s with heap := h', toks := tk + 1 }) ho fun h2 he2 sb => ?_⟩
    have hT2 : h2.get? s.heap.objs.size = some { cls := .type "tuple", data := .seq #[.int i tk, y] } := (sb.2 _ (Nat.ne_of_gt ltE)).trans hT
    have new : ObjOk X.prog X.w (upd H s.heap.objs.size (.tup [.int (i : Nat), x])) h2 s.heap.objs.size (.tup [.int (i : Nat), x]) :=
      ⟨Nat.le_trans (by decide : 2 ≤ 1000) (by rw [sizeLine_eq]; decide), [.int i tk, y], .cons ⟨_, rfl⟩ (.cons ru .nil), ⟨_, hT2, rfl, _, rfl⟩⟩
    have I1 : Inv X pins σ (upd H s.heap.objs.size (.tup [.int (i : Nat), x])) { s with heap := h2, toks := tk + 1 } :=
      I.turnedNew (ch := [e, it]) (fun b ob hb q => (sb.2 b (fun z => hb (by simp [z]))).trans (hk b ob (fun z => hb (by simp [z])) (fun z => hb (by simp [z])) q)) hf (Nat.le_refl _) new
    refine ⟨.ref s.heap.objs.size, _, I1, rfl, ⟨_, x, rfl, I.hok.fresh (Nat.le_refl _), rfl, fun ys hy => by rw [I.tuple_inj hy hq]; exact hx⟩, ⟨⟨y, ?_⟩, hst.1.at fun o q => (sb.2 it (Ne.symm hne)).trans q, hne, hai, hae⟩, fun b hb => ?_⟩
    · rw [show ((i + 1 : Nat) : Int) = (i : Int) + 1 by omega]
      exact he2
    · have lt : b < s.heap.objs.size := by
        rcases List.mem_cons.mp hb with z | z
        · rw [z]
          exact ltE
        · rw [List.mem_singleton.mp z]
          exact ltI
      rw [upd_ne (Nat.ne_of_lt lt)]
      exact (hf b hb).1
  done := by
    intro X hP hw hK hc i pins s σ H E I hf st hg
    subst hP hw hK
    obtain ⟨⟨old, he⟩, hit, hne, hai, hae⟩ := st
    obtain ⟨xs, hq, hx⟩ := hg
    obtain ⟨its, rv, p, hz⟩ := I.tuple hq
    obtain ⟨f0, f1, f2, f3, f4, f5⟩ := hf it (by simp)
    have hl := rv.length
    have D : Draws X.prog X.w X.A.in1 it [it, a] i (fun _ _ => False) (fun j h => j = i ∧ h.IsTupleIter it a i ∧ h.IsTuple a its.toArray) :=
      { live := fun _ _ st => by
          obtain ⟨_, ⟨o, ho, _⟩, _⟩ := st
          exact ⟨o, ho⟩
        frame := fun _ _ _ st k => ⟨st.1, st.2.1.at fun o q => k it (by simp) o q, st.2.2.at fun o q => k a (by simp) o q⟩
        item := fun j s Q E lt st _ => absurd st.1 (Nat.ne_of_lt lt)
        done := fun s Q E st hE => wpAny_nextOf_tuple_end (I.ok.hd hc) st.2.1 st.2.2 (by simp; omega) hE }
    exact wpAny_pyNext_enum_endD D he ⟨rfl, hit, p⟩ fun h' eb => ⟨rfl, I.turned (t' := s.toks) (fun b o hb q => eb b o hb q) f0 f1 f3 f4 f5⟩
  self := fun A i s Q E st h => by
    obtain ⟨⟨_, he⟩, _⟩ := st
    exact wpAny_pyIter_enum he h
def iEnumT (K : PySem.W.Frag) (ta : TA) : TI := fun σ H R => ta σ H fun vs H1 => ∃ a xs, vs = [.ref a] ∧ SqT K H1 a xs ∧ R (IteT K a) H1
theorem pi_enumT {X : Cx} {e : Expr} {ta : TA} {p pos tpos : Pos} {elts : List Expr} {kk : Nat} (hg : Gl X "enumerate") (hm : X.mg "enumerate" = none) (ha : PA X [e] ta) (hs : starEach [e] X.env = [(false, eval e X.env)] := by rfl) :
    PI X (.Tuple elts kk tpos) (.Call (.Name "enumerate" p) [e] [] pos) (iEnumT X.K ta) := by
  refine ⟨fun pins s σ H R I h => ?_⟩
  refine Call_ (ld_blt I hg hm boot_enumerate (PyProof.Rows.callWith_type1 (thn (ha.run pos pins s σ H _ I h) fun us s1 ⟨vs, H1, I1, r1, a, xs, ex, hq, q⟩ => ?_) hs rfl))
  subst ex
  cases r1 with
  | cons r rr =>
    cases rr
    cases r
    obtain ⟨its, rv, tp, hz⟩ := I1.tuple hq
    have lta : a < s1.heap.objs.size := tp.lt
    refine enum1_begins (begins_tuple a its.toArray) tp fun h' he hit hk => wpAny_pyIter_enum he ?_
    have I2 : Inv X pins σ H1 { s1 with heap := h' } := I1.kept (t' := s1.toks) hk
    refine ⟨s1.heap.objs.size + 1, [s1.heap.objs.size + 1, s1.heap.objs.size], _, _, H1, rfl, I2, turn_enumT a (s1.heap.objs.size + 1) s1.heap.objs.size, ⟨⟨.none, he⟩, ⟨_, hit, rfl, rfl⟩, Nat.succ_ne_self _, Nat.ne_of_lt lta, Nat.ne_of_lt (Nat.lt_succ_of_lt lta)⟩, fun b hb => ?_, q⟩
    have le : s1.heap.objs.size ≤ b := by
      rcases List.mem_cons.mp hb with z | z
      · rw [z]
        exact Nat.le_succ _
      · rw [List.mem_singleton.mp z]
        exact Nat.le_refl _
    exact I1.fpOk le (I1.hok.fresh le)
end A72

set_option Elab.async false
set_option linter.all false
set_option maxRecDepth 100000
set_option maxHeartbeats 4000000
/-! Rules that the layer lacks: tuple.count, min of rows, an own class's subscript, in, !=; set of a list of ints. -/
namespace A72
open PySem PySem.Spec PyProof.Rows L2

/-! ### tuple.count -/
section
variable {X : Cx}
def rCntT (K : PySem.W.Frag) : V → List V → Hp → VK → Prop := fun x xs H Q => ∃ (ns : List Int) (k : Int), xs = [.int k] ∧ IV K H x ns ∧ Q (.int (ns.count k : Nat)) H
theorem mt_tcount : MtR X "tuple.count" (rCntT X.K) := by
  intro pins s σ H x xs v us Q I rx rxs h
  obtain ⟨ns, k, rfl, ⟨p, rfl, hs⟩, q⟩ := h
  cases rx
  obtain ⟨u, rfl, t, rfl⟩ := rxs.one
  obtain ⟨its, rv, ⟨⟨cls, dd, data, sl⟩, ho, hc, n, hd⟩, _⟩ := I.tuple hs
  simp only at hc hd
  subst hc hd
  have hi := ints_of_vals rv
  refine call_meets PySem.F.slot_tuple_count ⟨_, ho, rfl⟩ PySem.F.entry_tuple_count (PySem.F.args_tuple_count_2 _ _)
    (SeqAt.tuple_countAt p its.toArray n dd sl (.int k t) (eqk k)) ⟨ho, fun y hy => (eqk_gives hi y (by simpa using hy)).at _ _, ?_⟩
  have ec : its.toArray.toList.countP (eqk k) = ns.count k := eqk_count hi
  rw [ec]
  exact ⟨.int (ns.count k : Nat), H, I.tok _, ⟨s.toks, rfl⟩, q⟩
end

/-! ### min of rows (a number, a tuple of numbers): a row with the least number -/
abbrev Row := Int × List Int
def rowD (r : Row) : PyData := .tuple [.int r.1, .tuple (r.2.map .int)]
def RowV (K : PySem.W.Frag) (H : Hp) (v : V) (r : Row) : Prop := ∃ t, TV K H v [.int r.1, t] ∧ IV K H t r.2
theorem RowV.s {K : PySem.W.Frag} {S : List Addr} {H H' : Hp} {v : V} {r : Row} (h : RowV K H v r) (e : Stp S H H') : RowV K H' v r := let ⟨t, a, b⟩ := h; ⟨t, a.s e, TV.s b e⟩
theorem dp_ints {K : PySem.W.Frag} {H : Hp} : ∀ ns : List Int, DpAll K H (ns.map V.int) (ns.map PyData.int)
  | [] => .nil
  | n :: ns => .cons (.int n) (dp_ints ns)
theorem IV.dp {K : PySem.W.Frag} {H : Hp} {v : V} {ns : List Int} (h : IV K H v ns) : Dp K H v (.tuple (ns.map .int)) := by
  obtain ⟨a, rfl, t⟩ := h
  exact .tup t (dp_ints ns)
theorem RowV.dp {K : PySem.W.Frag} {H : Hp} {v : V} {r : Row} (h : RowV K H v r) : Dp K H v (rowD r) := by
  obtain ⟨t, ⟨a, rfl, ha⟩, ht⟩ := h
  exact .tup ha (.cons (.int _) (.cons (IV.dp ht) .nil))
theorem rows_dp {K : PySem.W.Frag} {H : Hp} {vs : List V} {rs : List Row} (h : Paired (RowV K H) vs rs) : DpAll K H vs (rs.map rowD) := by
  induction h with
  | nil => exact .nil
  | cons a r ih => exact .cons a.dp ih
theorem alike_ints : ∀ ns ms : List Int, PySem.W.alikeAll (ns.map PyData.int) (ms.map PyData.int) = true
  | [], ms => by
    unfold PySem.W.alikeAll
    cases ms <;> rfl
  | n :: ns, [] => rfl
  | n :: ns, m :: ms => by
    show (PySem.W.alike (.int n) (.int m) && PySem.W.alikeAll (ns.map PyData.int) (ms.map PyData.int)) = true
    rw [alike_ints ns ms]
    rfl
theorem alike_rows (r q : Row) : PySem.W.alike (rowD r) (rowD q) = true := by
  show (PySem.W.alike (.int r.1) (.int q.1) && (PySem.W.alike (.tuple (r.2.map .int)) (.tuple (q.2.map .int)) && PySem.W.alikeAll [] [])) = true
  rw [show PySem.W.alike (.tuple (r.2.map .int)) (.tuple (q.2.map .int)) = true from alike_ints _ _]
  rfl
theorem row_lt {r q : Row} (h : r.1 ≠ q.1) : PySem.W.dataLt (rowD r) (rowD q) = decide (r.1 < q.1) := by
  unfold rowD
  rw [PySem.W.dataLt_tuple, PySem.W.dataLt_all_no (by rfl), PySem.W.dataLt_int]
  show (r.1 == q.1) = false
  exact beq_eq_false_iff_ne.mpr h
theorem min_rows : ∀ (rs : List Row) (r : Row), ∃ m, m ∈ r :: rs ∧ PySem.W.minD (rowD r) (rs.map rowD) = rowD m ∧ ∀ q ∈ r :: rs, m.1 ≤ q.1
  | [], r => ⟨r, List.mem_cons_self .., rfl, fun q hq => by
    rw [List.mem_singleton.mp hq]
    exact Int.le_refl _⟩
  | y :: rs, r => by
    by_cases hb : PySem.W.dataLt (rowD y) (rowD r) = true
    · have le : y.1 ≤ r.1 := by
        by_cases e : y.1 = r.1
        · omega
        · rw [row_lt e] at hb
          have := of_decide_eq_true hb
          omega
      obtain ⟨m, hm, e, hl⟩ := min_rows rs y
      refine ⟨m, List.mem_cons_of_mem _ hm, ?_, fun q hq => ?_⟩
      · unfold PySem.W.minD at e ⊢
        rw [List.map_cons, List.foldl_cons, if_pos hb]
        exact e
      · rcases List.mem_cons.mp hq with z | z
        · rw [z]
          have := hl y (List.mem_cons_self ..)
          omega
        · exact hl q z
    · have le : r.1 ≤ y.1 := by
        by_cases e : y.1 = r.1
        · omega
        · rw [row_lt e] at hb
          have : ¬ y.1 < r.1 := fun z => hb (decide_eq_true z)
          omega
      obtain ⟨m, hm, e, hl⟩ := min_rows rs r
      refine ⟨m, ?_, ?_, fun q hq => ?_⟩
      · rcases List.mem_cons.mp hm with z | z
        · rw [z]
          exact List.mem_cons_self ..
        · exact List.mem_cons_of_mem _ (List.mem_cons_of_mem _ z)
      · unfold PySem.W.minD at e ⊢
        rw [List.map_cons, List.foldl_cons, if_neg hb]
        exact e
      · rcases List.mem_cons.mp hq with z | z
        · rw [z]
          exact hl r (List.mem_cons_self ..)
        · rcases List.mem_cons.mp z with z | z
          · rw [z]
            have := hl r (List.mem_cons_self ..)
            omega
          · exact hl q (List.mem_cons_of_mem _ z)
theorem depth_ints : ∀ ns : List Int, PyData.depthAll (ns.map PyData.int) ≤ 1
  | [] => by decide
  | n :: ns => by
    have := depth_ints ns
    rw [List.map_cons]
    unfold PyData.depthAll
    have e : (PyData.int n).depth ≤ 1 := by
      unfold PyData.depth
      decide
    omega
theorem depth_rows : ∀ rs : List Row, PyData.depthAll (rs.map rowD) ≤ 8
  | [] => by decide
  | r :: rs => by
    have := depth_rows rs
    have hi := depth_ints r.2
    have h1 : (rowD r).depth ≤ 8 := by
      unfold rowD
      simp only [PyData.depth, PyData.depthAll]
      omega
    rw [List.map_cons]
    unfold PyData.depthAll
    omega
theorem reads_int {h : Heap} {i j : Int} {t : Tok} {as : List Addr} (r : Reads h (.int i t) (.int j) as) : i = j := by
  generalize hv : Value.int i t = v at r
  generalize hd : PyData.int j = d at r
  cases r with
  | int k u =>
    cases hv
    cases hd
    rfl
  | _ => cases hd
section
variable {X : Cx}
def rMinT (K : PySem.W.Frag) : List V → Hp → VK → Prop := fun vs H Q => ∃ (a : Addr) (xs : List V) (rs : List Row), vs = [.ref a] ∧ SqL K H a xs ∧ Paired (RowV K H) xs rs ∧ rs ≠ [] ∧
  ∀ (i : Nat) (x : V) (m : Row), xs[i]? = some x → rs[i]? = some m → (∀ q ∈ rs, m.1 ≤ q.1) → Q x H
theorem paired_at {α β : Type} {F : α → β → Prop} {as : List α} {bs : List β} (h : Paired F as bs) {i : Nat} {a : α} (e : as[i]? = some a) : ∃ b, bs[i]? = some b ∧ F a b := by
  induction h generalizing i with
  | nil => cases e
  | @cons x y l m q r ih =>
    cases i with
    | zero =>
      cases e
      exact ⟨y, rfl, q⟩
    | succ i => exact ih e
theorem cr_minT (hc : X.calm = true) (hu : X.A.units + 64 < cLine) : CallR X (.builtin "min") (rMinT X.K) := by
  intro pins s σ H vs us Q I r h
  obtain ⟨a, xs, rs, rfl, hs, hp, hne, q⟩ := h
  rw [Vals.ref1 r]
  obtain ⟨its, rv, pl, _⟩ := I.list hs
  cases rs with
  | nil => exact absurd rfl hne
  | cons r0 rs =>
  obtain ⟨as, hr⟩ := Dp.readsAll I _ xs its (rows_dp hp) rv
  have hd := depth_rows (r0 :: rs)
  rw [List.map_cons] at hr hd
  refine PySem.W.min_list_data (I.ok.hd hc) pl.isList (x := rowD r0) (xs := rs.map rowD) (as := as) (by simpa using hr) ⟨fun x hx y hy => ?_, fun x hx => ?_⟩ (by omega) fun i v h' tk bs hv rd hk => ?_
  · rw [← List.map_cons] at hx hy
    obtain ⟨r1, _, rfl⟩ := List.mem_map.mp hx
    obtain ⟨r2, _, rfl⟩ := List.mem_map.mp hy
    exact alike_rows r1 r2
  · rw [← List.map_cons] at hx
    obtain ⟨r1, _, rfl⟩ := List.mem_map.mp hx
    exact fun z => nomatch z
  · have hv' : its[i]? = some v := by
      rw [List.getElem?_toArray] at hv
      exact hv
    obtain ⟨x, hx, rx⟩ : ∃ x, xs[i]? = some x ∧ RelV x v := by
      have hl := rv.length
      have hi := (List.getElem?_eq_some_iff.mp hv').1
      have hxi : xs[i]? = some (xs[i]'(by omega)) := List.getElem?_eq_getElem (by omega)
      obtain ⟨u, hu', ru⟩ := rv.get hxi
      rw [hv'] at hu'
      cases hu'
      exact ⟨_, hxi, ru⟩
    obtain ⟨m, hm, hrow⟩ := paired_at hp hx
    have I2 : Inv X pins σ H { s with heap := h', toks := tk } := I.kept hk
    refine ⟨x, H, I2, rx, q i x m hx hm ?_⟩
    obtain ⟨m2, hm2, e2, hl2⟩ := min_rows rs r0
    rw [e2] at rd
    obtain ⟨t, ⟨b, rfl, hb⟩, ht⟩ := hrow
    cases rx
    obtain ⟨its2, rv2, ⟨o2, ho2, hc2, n2, hd2⟩, _⟩ := I2.tuple hb
    have e : m.1 = m2.1 := by
      unfold rowD at rd
      cases rd with
      | tuple ho hcl hdt hall =>
        rw [ho2] at ho
        cases ho
        rw [hd2] at hdt
        cases hdt
        cases rv2 with
        | cons r1 rr =>
          obtain ⟨t1, rfl⟩ := r1
          simp only [List.toList_toArray] at hall
          cases hall with
          | cons hd0 _ => exact reads_int hd0
    intro z hz
    rw [e]
    exact hl2 z hz
end

/-! ### an own class's subscript, in, != -/
section
variable {X : Cx} {k j : Nat} {f C : Addr} {ps : List Str} {sp : Sp} {a b : Expr} {ta tb : TE} {pos : Pos}
theorem ins_look {pins : List (Addr × Obj)} {σ : L2.St} {H : Hp} {s : Shared} {x dx : Addr} {fs : List (Str × V)} (I : Inv X pins σ H s) (h : H x = some (.ins C dx fs)) : ∃ od, PySem.W.InstAt s.heap x (PySem.W.instObj C dx) C (some od) := by
  obtain ⟨mA, O, _⟩ := ins_get I.hok h
  obtain ⟨od, J, _⟩ := O.look
  exact ⟨od, J⟩
theorem run_own {pins : List (Addr × Obj)} {σ : L2.St} {H : Hp} {s : Shared} {A : Around} {Q : VK} {us : List Value} {vs : List V} (F : At X.prog X.w X.K X.mg X.base k f ps sp) (hr : Room k A) (e0 : Env0 X.prog X.w X.K X.mg X.base A X.stack s H) (I : Inv X pins σ H s) (r : Vals vs us)
    (h : sp vs H Q E0) : wpAny (model X.prog X.w) A (call (.ref f) us) (EP X pins σ Q) X.xe s := by
  obtain ⟨fd, F, hb⟩ := F.ex
  have hl : us.length = ps.length := by rw [← r.length, F.len _ _ _ _ h]
  have hbind := hb s us I.kIn (by rw [List.append_nil]; exact hl)
  rw [List.append_nil] at hbind
  refine wpAny_call (codeAny_mono (F.run A X.stack s H ⟨us, []⟩ us vs Q E0 hr e0 hbind r h) fun r s' hq => ?_)
  cases r with
  | error e => exact (show False from hq).elim
  | ok fl =>
    cases fl with
    | ret u => exact I.after hq
    | next => exact False.elim hq
    | brk => exact False.elim hq
    | cont => exact False.elim hq
/-- what an own class's operation asks: an instance of C, then the def's promise -/
def rOwnI (C : Addr) (sp : Sp) : R2 := fun x y H Q => ∃ p dx fs, x = .ref p ∧ H p = some (.ins C dx fs) ∧ sp [x, y] H Q E0
theorem pe_ownIx (ha : PE X a ta) (hb : PE X b tb) (F : At X.prog X.w X.K X.mg X.base k f ps sp) (hr : Room j X.A) (hk : k + 1 ≤ j) (hm : Meth X.K C "__getitem__" f) (hf : PySem.W.fnIn X.K f = true)
    (hsl : ∀ o i, subscripted b true o i = runValue (.builtin "lifetime.subscript" ⟨[o, i], []⟩) := by intro _ _; rfl) : PE X (.Subscript a b pos) (tOp (rOwnI C sp) ta tb) := by
  refine ⟨fun pins s σ H Q I h => Subscript_ (binT ha hb I h fun v u s2 x y H2 I2 rx ry q => ?_)⟩
  obtain ⟨p, dx, fs, rfl, hp, q⟩ := q
  cases (show v = Value.ref p from rx)
  obtain ⟨od, J⟩ := ins_look I2 hp
  obtain ⟨m, Fr⟩ := I2.fr
  refine PySem.W.sub_K Fr I2.mod.kin J hm.at_ hf hm.fn ?_ (hsl _ _)
  have hr1 : Room k X.A.in1 := (hr.mono hk).in1
  exact run_own F hr1 I2.env0.in1 I2 (.cons (show RelV (.ref p) (.ref p) from rfl) (.cons ry .nil)) q
/-- x in o: the def's answer is a bool -/
def rOwnIn (C : Addr) (sp : Sp) : R2 := fun x y H Q => ∃ p dx fs, y = .ref p ∧ H p = some (.ins C dx fs) ∧ sp [y, x] H (fun v H' => ∃ b, v = .bl b ∧ Q (.bl b) H') E0
theorem op_ownIn (F : At X.prog X.w X.K X.mg X.base k f ps sp) (hr : Room j X.A) (hk : k ≤ j) (hm : Meth X.K C "__contains__" f) : OpR X (compareOp .In) (rOwnIn C sp) := by
  intro pins s σ H x y v u Q I rx ry h
  obtain ⟨p, dx, fs, rfl, hp, q⟩ := h
  cases (show u = Value.ref p from ry)
  obtain ⟨od, J⟩ := ins_look I hp
  obtain ⟨m, Fr⟩ := I.fr
  refine PySem.W.in_K Fr I.mod.kin J hm.at_ hm.fn (thn (run_own F (hr.mono hk) I.env0 I (.cons (show RelV (.ref p) (.ref p) from rfl) (.cons rx .nil)) q) fun z s1 ⟨v1, H1, I1, r1, b, ev, q1⟩ => ?_)
  subst ev
  cases (show z = Value.bool b from r1)
  exact wpAny_truthy_bool ⟨.bl b, H1, I1, rfl, q1⟩
end
end A72

set_option Elab.async false
set_option linter.all false
set_option maxRecDepth 100000
set_option maxHeartbeats 4000000
/-! a != b where a's class has an own __eq__ and object's __ne__; set(xs), xs a list of ints. -/
namespace A72
open PySem PySem.Spec PyProof.Rows L2

/-! ### != by an own __eq__ -/
section
variable {prog : Program} {w : World} {A : Around} {E : Value → Shared → Prop} {s : Shared} {K : PySem.W.Frag} {x C L f : Addr} {h₀ : Heap} {m : Str → Option Value} {ox : Obj} {od : Option Obj} {b tb : Value}
theorem bound_built {M : Model} {name : Str} {id : String} {args : List Value} {Q : Option Value → Shared → Prop} (X : K.In s.heap) (I : PySem.W.InstAt s.heap x ox C od) (hs : PySem.W.findIn K (.ref C) name = some (some (.builtin id)))
    (hb : ∀ self, bindSpecial (.builtin id) self = pure (.builtin id, [self])) (h : wpAny M A (call (.builtin id) (.ref x :: args)) (fun v => Q (some v)) E s) : wpAny M A (callSpecialIfBound? (.ref x) name args) Q E s := by
  simp only [callSpecialIfBound?, bindSpecialIfBound?]
  refine wpAny_holding (wpAny_bind (wpAny_bind (wpAny_bind (I.type.here ((PySem.W.looks_findIn X hs).here ?_)))))
  simp only [hb]
  have last : wpAny M A (call (.builtin id) ([.ref x] ++ args) >>= fun v => pure (some v)) Q E s := wpAny_bind (wpAny_mono h (fun _ _ z => wpAny_pure z) fun _ _ z => z)
  refine wpAny_bind (wpAny_askSetting (wpAny_ite ?_))
  split
  · exact wpAny_bind (wpAny_pure (wpAny_pure last))
  · exact wpAny_tryCatch (wpAny_bind (wpAny_pure (wpAny_pure last)))
theorem ne_builtin (hu : A.units + 1 < cLine) (X : K.In s.heap) (I : PySem.W.InstAt s.heap x ox C od) (he : PySem.W.findIn K (.ref C) "__eq__" = some (some (.ref f))) (hf : PySem.W.isFn K (.ref f) = true) (ho : PySem.W.subIn K (.ref C) (.type "object") = some true) {Q : Value → Shared → Prop}
    (h : wpAny (model prog w) A.in1 (call (.ref f) [.ref x, b]) (fun v s' => ∃ c, v = .bool c ∧ Q (.bool (!c)) s') E s) : wpAny (model prog w) A (call (.builtin "object.__ne__") [.ref x, b]) Q E s := by
  have li : PySem.W.Looks (model prog w) s.heap (isInstance (.ref x) (.type "object")) true := I.type.andThen (PySem.W.looks_subIn X ho)
  refine wpAny_call (codeAny_call_builtin PySem.F.slot_enumerate_ne.plain F.cmpEntry_ne (@PySem.W.check_slot (model prog w) _ _ s "object.__ne__" "object" "__ne__" (.ref x) [b] [] _ F.cmpKind_ne F.cmpSplit_ne li (F.cmpArgs_ne _ _) ?_))
  unfold Builtin.«object.__ne__»
  have eqs : wpAny (model prog w) A.in1 (callSpecialIfBound? (.ref x) "__eq__" [b]) (fun o s' => ∃ c, o = some (.bool c) ∧ Q (.bool (!c)) s') E s :=
    PySem.W.ifBound_K X I he hf (wpAny_mono h (fun v s' ⟨c, e, q⟩ => ⟨c, by rw [e], q⟩) fun _ _ z => z)
  have hu1 : A.in1.units < cLine := hu
  repeat (first
    | with_reducible refine wpAny_cRoomFor hu1 ?_
    | (refine wpAny_bind (m := callSpecialIfBound? (.ref x) (Str.ofString "__eq__") [b]) (wpAny_mono eqs (fun o s' z => ?_) fun _ _ z => z))
    | wp_step)
  obtain ⟨c, rfl, q⟩ := z
  first
    | exact wpAny_bind (wpAny_truthy_bool (wpAny_pure q))
    | (refine wpAny_bind (m := truthy (.bool _)) (wpAny_truthy_bool ?_); first | exact wpAny_pure q | exact wpAny_pure ⟨_, rfl, q⟩ | exact q)
theorem ne_K (hu : A.units + 1 < cLine) (F : Fr h₀ L s.heap m) (X₀ : K.In h₀) (I : PySem.W.InstAt s.heap x ox C od) (hb : PySem.W.Looks (model prog w) s.heap (typeOf b) tb) (hn : PySem.W.notFirst K C tb = true) (hs : PySem.W.findIn K (.ref C) "__ne__" = some (some (.builtin "object.__ne__")))
    (he : PySem.W.findIn K (.ref C) "__eq__" = some (some (.ref f))) (hf : PySem.W.isFn K (.ref f) = true) (ho : PySem.W.subIn K (.ref C) (.type "object") = some true) {Q : Value → Shared → Prop}
    (h : wpAny (model prog w) A.in1 (call (.ref f) [.ref x, b]) (fun v s' => ∃ c, v = .bool c ∧ Q (.bool (!c)) s') E s) : wpAny (model prog w) A (compareOp .NotEq (.ref x) b) Q E s := by
  have X := X₀.keeps F.keep
  show wpAny (model prog w) A (richCompare .NotEq (.ref x) b) Q E s
  have one : wpAny (model prog w) A (tryCompare (.ref x) "__ne__" b) (fun r s' => ∃ v, r = some v ∧ Q v s') E s := by
    unfold tryCompare
    refine wpAny_bind (bound_built X I hs PySem.F.slot_enumerate_ne.bind (ne_builtin hu X I he hf ho (wpAny_mono h (fun v s' ⟨c, e, q⟩ => ⟨c, e, wpAny_pure ⟨_, rfl, q⟩⟩) fun _ _ z => z)))
  unfold richCompare
  simp only [oneThing_ref]
  refine wpAny_holding (wpAny_bind (wpAny_cRoomFor (Nat.lt_of_succ_lt hu) ?_))
  refine wpAny_bind (I.type.here (wpAny_bind (hb.here ?_)))
  split
  · rename_i q
    have e : PySem.W.subIn K tb (.ref C) = some false := by
      rcases Bool.or_eq_true_iff.mp hn with e | e
      · rw [beq_iff_eq.mp e] at q
        simp at q
      · exact beq_iff_eq.mp e
    refine wpAny_bind ((PySem.W.looks_subIn X e).here ?_)
    simp only [Bool.false_eq_true, if_false]
    refine wpAny_bind (wpAny_mono one (fun r s' ⟨v, e, q⟩ => ?_) fun _ _ z => z)
    subst e
    exact wpAny_pure q
  · refine wpAny_bind (wpAny_pure ?_)
    simp only [Bool.false_eq_true, if_false]
    refine wpAny_bind (wpAny_mono one (fun r s' ⟨v, e, q⟩ => ?_) fun _ _ z => z)
    subst e
    exact wpAny_pure q
end
section
variable {X : Cx} {k j : Nat} {f C : Addr} {ps : List Str} {sp : Sp}
def rOwnNe (C D : Addr) (sp : Sp) : R2 := fun x y H Q => ∃ p dx fs q dy gs, x = .ref p ∧ y = .ref q ∧ H p = some (.ins C dx fs) ∧ H q = some (.ins D dy gs) ∧ sp [x, y] H (fun v H' => ∃ b, v = .bl b ∧ Q (.bl (!b)) H') E0
theorem op_ownNe {D : Addr} (F : At X.prog X.w X.K X.mg X.base k f ps sp) (hr : Room j X.A) (hk : k + 1 ≤ j) (hn : PySem.W.notFirst X.K C (.ref D) = true) (hs : PySem.W.findIn X.K (.ref C) "__ne__" = some (some (.builtin "object.__ne__")))
    (hm : Meth X.K C "__eq__" f) (ho : PySem.W.subIn X.K (.ref C) (.type "object") = some true) : OpR X (compareOp .NotEq) (rOwnNe C D sp) := by
  intro pins s σ H x y v u Q I rx ry h
  obtain ⟨p, dx, fs, q, dy, gs, rfl, rfl, hp, hq, h⟩ := h
  cases (show v = Value.ref p from rx)
  cases (show u = Value.ref q from ry)
  obtain ⟨od, J⟩ := ins_look I hp
  obtain ⟨od', J'⟩ := ins_look I hq
  obtain ⟨m, Fr⟩ := I.fr
  have hu := hr.units
  have hr1 : Room k X.A.in1 := (hr.mono hk).in1
  refine ne_K (by omega) Fr I.mod.kin J J'.type hn hs hm.at_ hm.fn ho (thn (run_own F hr1 I.env0.in1 I (.cons (show RelV (.ref p) (.ref p) from rfl) (.cons (show RelV (.ref q) (.ref q) from rfl) .nil)) h) fun z s1 ⟨v1, H1, I1, r1, b, ev, q1⟩ => ?_)
  subst ev
  cases (show z = Value.bool b from r1)
  exact ⟨b, rfl, .bl (!b), H1, I1, rfl, q1⟩
end

/-! ### set(xs), xs a list of ints -/
/-- a new set's object -/
abbrev setObj (w : World) : Obj := { cls := .type "set", dict := none, data := .set #[] 0 (.fresh 0 0 (!w.params.followText "set-order")) }
/-- what the filling of the new set leaves -/
def Filled (w : World) (s : Shared) (ns : List Int) (h' : Heap) (c : Nat) : Prop :=
  SetR w h' s.heap.objs.size (fun j => decide (j ∈ ns)) c ∧ c ≤ ns.length ∧ ∀ b o, s.heap.get? b = some o → h'.get? b = some o
section
variable {P : Program} {w : World} {A : Around} {E : Value → Shared → Prop} {s : Shared}
set_option maxHeartbeats 6400000 in
theorem set_of_ints {l : Addr} {its : Array Value} {ns : List Int} {Q : Value → Shared → Prop} (hh : A.handled = none) (hl : s.heap.IsList l its) (hi : PyProof.Rows.IntsAre its.toList ns) (hb : ns.length + 1 < scanBound)
    (q : ∀ (h' : Heap) (tk c : Nat), Filled w s ns h' c → Q (.ref s.heap.objs.size) { s with heap := h', toks := tk }) : wpAny (model P w) A (call (.type "set") [.ref l]) Q E s := by
  have size_its : its.size = ns.length := by
    rw [← Array.length_toList]
    exact PyProof.Rows.IntsAre.length hi
  obtain ⟨c0, tl, set_mro⟩ := F.called_set.mro
  have set_made := F.called_set.made
  have set_sub := F.called_set.sub
  refine wpAny_call (codeAny_of_tree (show wpAny _ _ (callAny (.type "set") _) _ _ _ from ?_))
  refine wpAny_pure ⟨Code.quiet_builtin _ (by decide +kernel), codeAny_builtin F.entry_type_call ?_⟩
  rw [Around.under_plain (weight_type_call_type "set" [.ref l] []) rfl]
  have a1 := F.called_set.notType
  have a2 := F.called_set.canCreate
  have a3 := F.typeCall_set_1 (.ref l)
  repeat (any_goals (first | assumption | wp_step))
  refine codeAny_mono (code_set_led1 (.ref l) (E := E) (Q₁ := fun v t => v = .ref s.heap.objs.size ∧ t = { s with heap := s.heap.push (setObj w) }) ⟨rfl, rfl⟩) fun r s1 hr => ?_
  cases r with
  | error e => exact hr
  | ok fl =>
    cases fl with
    | ret obj =>
      obtain ⟨rfl, rfl⟩ := hr
      have new := Heap.get?_push_size s.heap (o := setObj w) rfl
      have tS : Shared.TypeIs { s with heap := s.heap.push (setObj w) } (.ref s.heap.objs.size) "set" := ⟨_, new, rfl⟩
      have i1 := F.called_set.init.lookup
      have i2 := F.called_set.init.bind (.ref s.heap.objs.size)
      repeat (any_goals (first | assumption | wp_step))
      refine codeAny_mono (codeAny_call_builtin (R := wants (fun r t => r = .none ∧ ∃ h' tk c, t = { s with heap := h', toks := tk } ∧ Filled w s ns h' c) E) F.called_set.init.plain F.entry_set_init (check_set_init_1 tS ?_)) fun r2 s2 hr2 => ?_
      · obtain ⟨⟨oc, od, dt, sl⟩, hol, e1, n, e2⟩ := hl
        simp only at e1 e2
        subst e1 e2
        have hol2 := Heap.get?_push_of_some (h := s.heap) (setObj w) hol
        have s1 := F.sub_list_set
        have s2 := F.sub_list_frozenset
        have nd : (Value.type "list" == Value.type "dict") = false := by decide
        have isl : (s.heap.push (setObj w)).IsList l its := ⟨_, hol2, rfl, n, rfl⟩
        unfold Builtin.«set.__init__» noKeywords Builtin.Frozenset.updateFrom
        generalize hPI : pyIter = PI
        wp_walk
        subst hPI
        refine wpAny_pyIter_list isl (wpAny_bind (wpAny_runValue ?_))
        have lts : l < s.heap.objs.size := Heap.lt_size hol
        have h3 : A.in1.in1.in1.handled = none := by simp [hh]
        have nI : l ≠ (s.heap.push (setObj w)).objs.size := by
          rw [Heap.size_push]
          exact Nat.ne_of_lt (Nat.lt_succ_of_lt lts)
        have nS : s.heap.objs.size ∉ [(s.heap.push (setObj w)).objs.size, l] := by
          rw [Heap.size_push]
          simp only [List.mem_cons, List.not_mem_nil, or_false, not_or]
          exact ⟨Nat.ne_of_lt (Nat.lt_succ_self _), Nat.ne_of_gt lts⟩
        have vals : ∀ (i : Nat) (v : Value), its[i]? = some v → ∃ k t, ns[i]? = some k ∧ v = .int k t := fun i v hv => by
          have lt : i < ns.length := by
            rw [← size_its]
            exact (Array.getElem?_eq_some_iff.mp hv).1
          obtain ⟨t, e⟩ := PyProof.Rows.IntsAre.int_at hi i v (by rw [Array.getElem?_toList]; exact hv)
          refine ⟨ns[i], t, List.getElem?_eq_getElem lt, ?_⟩
          rw [e, List.getD_eq_getElem?_getD, List.getElem?_eq_getElem lt] <;> rfl
        have kept1 : ∀ {b : Addr} {o u : Obj}, (s.heap.push (setObj w)).get? b = some o → ((s.heap.push (setObj w)).push u).get? b = some o := fun e => Heap.get?_push_of_some _ e
        refine set_update_ints ((Walks.list h3 _ l nI its).toS) s.heap.objs.size nS ns size_its hb vals (its.size - 0) 0 _ (by omega) (Nat.zero_le _) ⟨⟨_, Heap.get?_push_size _ rfl, rfl, rfl⟩, isl.push _⟩
          ⟨0, Nat.le_refl 0, setR_new_at (kept1 new)⟩ fun t c m hc hR => ?_
        obtain ⟨h', g2, d2, tk2, os2⟩ := t
        obtain rfl : g2 = s.gens := m.gens
        obtain rfl : d2 = s.drawn := m.drawn
        obtain rfl : os2 = s.os := m.os
        show wpAny _ _ _ _ _ _
        refine wpAny_pure ?_
        show wpAny _ _ (ret Value.none) _ _ _
        rw [size_its] at hc
        refine wpAny_pure ⟨rfl, h', tk2, c, rfl, hR, hc, fun b o e => ?_⟩
        have ltb : b < s.heap.objs.size := Heap.lt_size e
        refine m.heap b o ?_ (kept1 (Heap.get?_push_of_some _ e))
        rw [Heap.size_push]
        simp only [List.mem_cons, List.not_mem_nil, or_false, not_or]
        exact ⟨Nat.ne_of_lt ltb, Nat.ne_of_lt (Nat.lt_succ_of_lt ltb)⟩
      · cases r2 with
        | error e => exact hr2
        | ok f2 =>
          cases f2 with
          | ret r =>
            obtain ⟨rfl, h', tk, c, rfl, hF⟩ := hr2
            repeat (any_goals (first | assumption | wp_step))
            exact q _ _ _ hF
          | _ => exact hr2.elim
    | _ => exact hr.elim
end
section
variable {X : Cx}
def rSetI (X : Cx) : List V → Hp → VK → Prop := fun vs H Q => ∃ (a : Addr) (ns : List Int), vs = [.ref a] ∧ SqL X.K H a (ns.map V.int) ∧ ns.length < 63 ∧
  ∀ p c, c ≤ ns.length → H p = none → Q (.ref p) (upd H p (SetO X.w p (fun j => decide (j ∈ ns)) c))
theorem cr_setI (hc : X.calm = true) : CallR X (.type "set") (rSetI X) := by
  intro pins s σ H vs us Q I r h
  obtain ⟨a, ns, rfl, hs, hz, q⟩ := h
  rw [Vals.ref1 r]
  obtain ⟨its, rv, pl, _⟩ := I.list hs
  have hb : ns.length + 1 < scanBound := by
    unfold scanBound
    omega
  refine set_of_ints (I.ok.hd hc) pl.isList (by simpa using Vals.ints rv) hb fun h' tk c ⟨hR, hle, hk⟩ => ?_
  exact ⟨.ref _, upd H s.heap.objs.size (SetO X.w s.heap.objs.size (fun j => decide (j ∈ ns)) c), I.laid (t' := tk) hk (Nat.le_refl _) (setO_new hR), rfl, q _ c hle (I.hok.fresh (Nat.le_refl _))⟩
end
end A72

set_option Elab.async false
set_option linter.all false
set_option maxRecDepth 100000
set_option maxHeartbeats 4000000
/-! anyshift.patterns, the defs without a comprehension -/
namespace A72
open PySem PySem.Spec PyProof.Rows L2
section
variable {K : PySem.W.Frag} {H : Hp} {Q : VK}
theorem kit_ii (K : PySem.W.Frag) : PySem.W.kitOne K (.type "int") (.type "int") = some true := by kernel_rfl
theorem kit_ib (K : PySem.W.Frag) : PySem.W.kitOne K (.type "int") (.type "bool") = some false := by kernel_rfl
theorem kit_tt (K : PySem.W.Frag) : PySem.W.kitOne K (.type "tuple") (.type "tuple") = some true := by kernel_rfl
theorem tyx_tup {a : Addr} {xs : List V} (h : SqT K H a xs) : TyX K H (.ref a) (.type "tuple") := by
  rcases h with (h | ⟨o, h⟩) | ⟨o, its, n, lk, hc, _⟩
  · exact .base (.tup h)
  · exact .fTuple h
  · exact .kTuple lk hc
end
section
variable {P : Program} {w : World} {K : PySem.W.Frag} {mg : Str → Option Value} {base : Heap}
def spInteger : Sp := fun vs H Q _ => ∃ i, vs = [.int i] ∧ Q (.bl true) H
theorem sc_is_integer : FnScope ["thing"] ["thing"] (defScope d_is_integer) := ⟨rfl, rfl, rfl, by decide +kernel, rfl, by decide +kernel, by decide +kernel⟩
theorem is_integer_ok (T : Txt K mg) : C8.Cal P w K mg base 1 "is_integer" spInteger [] := by
  refine cal T.f_d_is_integer T.g_is_integer sc_is_integer (fun _ _ _ _ _ _ us hl => match us, hl with | [_], _ => rfl) (fun vs H Q E h => ?_) (fun cdv A outer s H vs Q E hr h => ?_)
  · obtain ⟨i, rfl, _⟩ := h
    rfl
  · obtain ⟨i, rfl, q⟩ := h
    refine ⟨_, (pss_one (ps_ret (pe_and (pe_callB call_isi (by rfl) T.b_isinstance (by decide +kernel) (pa_cons (pv 0) (pa_cons (pe_bltn (v := .ty "int") (u := .type "int") rfl T.b_int (by decide +kernel) rfl) pa_nil))) (pe_one (pe_not (pe_callB call_isi (by rfl) T.b_isinstance (by decide +kernel) (pa_cons (pv 0) (pa_cons (pe_bltn (v := .ty "bool") (u := .type "bool") rfl T.b_bool (by decide +kernel) rfl) pa_nil)))))))), ?_⟩
    refine ⟨_, rfl, .int i, .ty "int", .type "int", .type "int", true, rfl, .ty _, .base (.int i), kit_ii K, true, rfl, iteT ?_⟩
    exact ⟨_, rfl, .int i, .ty "bool", .type "int", .type "bool", false, rfl, .ty _, .base (.int i), kit_ib K, false, rfl, q⟩
def spBetween : Sp := fun vs H Q _ => ∃ i lo hi, vs = [.int i, .int lo, .int hi] ∧ Q (.bl (decide (lo ≤ i) && decide (i ≤ hi))) H
theorem sc_is_between : FnScope ["thing", "low", "high"] ["thing", "low", "high"] (defScope d_is_between) := ⟨rfl, rfl, rfl, by decide +kernel, rfl, by decide +kernel, by decide +kernel⟩
theorem is_between_ok (T : Txt K mg) : C8.Cal P w K mg base 2 "is_between" spBetween [] := by
  refine cal T.f_d_is_between T.g_is_between sc_is_between (fun _ _ _ _ _ _ us hl => match us, hl with | [_, _, _], _ => rfl) (fun vs H Q E h => ?_) (fun cdv A outer s H vs Q E hr h => ?_)
  · obtain ⟨i, lo, hi, rfl, _⟩ := h
    rfl
  · obtain ⟨i, lo, hi, rfl, q⟩ := h
    refine ⟨_, (pss_one (ps_ret (pe_and (C8.pe_c (is_integer_ok T) hr (by decide) rfl (pa_cons (pv 0) pa_nil)) (pe_one (pe_chain op_le op_le (pv 1) (pv 0) (pv 2)))))), ?_⟩
    refine ⟨_, rfl, i, rfl, true, rfl, iteT ⟨_, rfl, _, rfl, _, _, rfl, rfl, decide (lo ≤ i), rfl, ?_⟩⟩
    cases e : decide (lo ≤ i) with
    | false =>
      rw [e] at q
      exact iteF q
    | true =>
      rw [e] at q
      exact iteT ⟨_, rfl, _, _, rfl, rfl, q⟩
theorem fdiv_gcd {a b : Nat} : ((a : Int) / (Nat.gcd a b : Int)) * (b : Int) = (Nat.lcm a b : Int) := by
  unfold Nat.lcm
  have d : Nat.gcd a b ∣ a := Nat.gcd_dvd_left a b
  rw [Nat.mul_comm a b, Nat.mul_div_assoc b d, Int.natCast_mul, Int.natCast_ediv, Int.mul_comm]
def spDivisor : Sp := fun vs H Q _ => ∃ a b : Nat, vs = [.int a, .int b] ∧ Q (.int (Nat.gcd a b : Nat)) H
theorem sc_divisor : FnScope ["one", "other"] ["one", "other"] (defScope d_divisor) := ⟨rfl, rfl, rfl, by decide +kernel, rfl, by decide +kernel, by decide +kernel⟩
theorem divisor_ok (T : Txt K mg) : C8.Cal P w K mg base 1 "divisor" spDivisor [] := by
  refine cal T.f_d_divisor T.g_divisor sc_divisor (fun _ _ _ _ _ _ us hl => match us, hl with | [_, _], _ => rfl) (fun vs H Q E h => ?_) (fun cdv A outer s H vs Q E hr h => ?_)
  · obtain ⟨a, b, rfl, _⟩ := h
    rfl
  · obtain ⟨a, b, rfl, q⟩ := h
    refine ⟨_, (pss_cons (ps_while PassesOwn.never (pt_cmpR op_ne (pv 1) pe_int (nomark _)) (pss_one (ps_par (i := 0) (j := 1) rfl sc_divisor.nd rfl rfl (by decide) rfl rfl (pa_cons (pv 1) (pa_cons (pe_op op_mod (pv 0) (pv 1)) pa_nil)) (by rfl))))
 (pss_one (ps_ret (pv 0)))), ?_⟩
    refine ⟨fun m σ H' => H' = H ∧ ∃ x y : Nat, m = y ∧ σ = [some (.int x), some (.int y)] ∧ Nat.gcd x y = Nat.gcd a b, ⟨b, rfl, a, b, rfl, rfl, rfl⟩, ?_⟩
    rintro m σ H' ⟨rfl, x, y, hm, rfl, e⟩
    refine ⟨_, rfl, rfl, _, rfl, ?_⟩
    by_cases hy : (y : Int) = 0
    · have hd : (!decide (V.int (y : Int) = V.int 0)) = false := by rw [hy]; rfl
      rw [hd]
      refine iteF ?_
      refine ⟨_, rfl, ?_⟩
      have : y = 0 := by omega
      subst this
      rw [Nat.gcd_zero_right] at e
      rw [e]
      exact q
    · have hd : (!decide (V.int (y : Int) = V.int 0)) = true := by
        rw [decide_eq_false (fun z => hy (V.int.inj z))]
        rfl
      rw [hd]
      refine iteT ⟨_, fun σ2 H2 z => z, ?_⟩
      refine ⟨_, rfl, _, rfl, _, rfl, _, _, rfl, rfl, (by omega), _, _, rfl, ?_⟩
      refine ⟨x % y, by rw [hm]; exact Nat.mod_lt _ (by omega), rfl, y, x % y, rfl, ?_, ?_⟩
      · show [some (V.int (y : Int)), some (V.int ((x : Int) % (y : Int)))] = _
        rw [Int.natCast_emod]
      · rw [← e, Nat.gcd_comm x y, Nat.gcd_rec y x, Nat.gcd_comm]
def spMultiple : Sp := fun vs H Q _ => ∃ a b : Nat, vs = [.int a, .int b] ∧ (1 ≤ a ∧ a ≤ 1000000) ∧ (1 ≤ b ∧ b ≤ 1000000) ∧ Q (.int (Nat.lcm a b : Nat)) H
theorem sc_common_multiple : FnScope ["one", "other"] ["one", "other"] (defScope d_common_multiple) := ⟨rfl, rfl, rfl, by decide +kernel, rfl, by decide +kernel, by decide +kernel⟩
theorem common_multiple_ok (T : Txt K mg) : C8.Cal P w K mg base 2 "common_multiple" spMultiple [] := by
  refine cal T.f_d_common_multiple T.g_common_multiple sc_common_multiple (fun _ _ _ _ _ _ us hl => match us, hl with | [_, _], _ => rfl) (fun vs H Q E h => ?_) (fun cdv A outer s H vs Q E hr h => ?_)
  · obtain ⟨a, b, rfl, _⟩ := h
    rfl
  · obtain ⟨a, b, rfl, ha, hb, q⟩ := h
    refine ⟨_, (pss_one (ps_ret (pe_op op_mul (pe_op op_fdiv (pv 0) (C8.pe_c (divisor_ok T) hr (by decide) rfl (pa_cons (pv 0) (pa_cons (pv 1) pa_nil)))) (pv 1)))), ?_⟩
    have g0 : 0 < Nat.gcd a b := Nat.gcd_pos_of_pos_left _ (by omega)
    have g1 : Nat.gcd a b ≤ a := Nat.gcd_le_left _ (by omega)
    refine ⟨_, rfl, _, rfl, _, rfl, a, b, rfl, _, _, rfl, rfl, ⟨by omega, by omega⟩, _, rfl, _, _, rfl, rfl, .inr ⟨by omega, by omega⟩, ?_⟩
    rw [← fdiv_gcd] at q
    exact q
def sendB (p : Pat) (off t : Int) : Bool := p.sl.contains ((t - off) % p.per)
theorem inV_ints (i : Int) : ∀ ns : List Int, inV (.int i) (ns.map V.int) = ns.contains i
  | [] => rfl
  | n :: ns => by
    have ih := inV_ints i ns
    unfold inV at ih ⊢
    rw [List.map_cons, List.any_cons, ih, List.contains_cons]
    show (decide (n = i) || ns.contains i) = _
    congr 1
    cases e : decide (n = i) with
    | true =>
      have := of_decide_eq_true e
      rw [this]
      simp
    | false =>
      have := of_decide_eq_false e
      exact (beq_eq_false_iff_ne.mpr (fun z => this z.symm)).symm
theorem flat_ints (ns : List Int) : (ns.map V.int).all flatV = true := by
  rw [List.all_eq_true]
  intro x hx
  obtain ⟨n, _, rfl⟩ := List.mem_map.mp hx
  rfl
def spDoes (K : PySem.W.Frag) : Sp := fun vs H Q _ => ∃ v p off t, vs = [v, .int off, .int t] ∧ PtV K H v p ∧ 0 < p.per ∧ Q (.bl (sendB p off t)) H
theorem sc_does_send : FnScope ["pattern", "offset", "tick"] ["pattern", "offset", "tick"] (defScope d_does_send) := ⟨rfl, rfl, rfl, by decide +kernel, rfl, by decide +kernel, by decide +kernel⟩
theorem does_send_ok (T : Txt K mg) : C8.Cal P w K mg base 1 "does_send" (spDoes K) [] := by
  refine cal T.f_d_does_send T.g_does_send sc_does_send (fun _ _ _ _ _ _ us hl => match us, hl with | [_, _, _], _ => rfl) (fun vs H Q E h => ?_) (fun cdv A outer s H vs Q E hr h => ?_)
  · obtain ⟨v, p, off, t, rfl, _⟩ := h
    rfl
  · obtain ⟨v, p, off, t, rfl, ⟨sv, ⟨a, rfl, ha⟩, b, rfl, hb⟩, hp, q⟩ := h
    refine ⟨_, (pss_one (ps_ret (pe_cmpR op_in_seq (pe_op op_mod (pe_op op_sub (pv 2) (pv 1)) (pe_ix ix_tup (pv 0) pe_int (fun _ _ => rfl))) (pe_ix ix_tup (pv 0) pe_int (fun _ _ => rfl)) (by rfl)))), ?_⟩
    refine ⟨_, rfl, _, rfl, _, _, rfl, rfl, _, rfl, a, _, _, _, rfl, rfl, ha, rfl, _, _, rfl, rfl, hp, _, rfl, a, _, _, _, rfl, rfl, ha, rfl, b, _, rfl, .inr hb, rfl, flat_ints _, ?_⟩
    unfold sendB at q
    rw [← inV_ints] at q
    exact q
end
end A72

set_option Elab.async false
set_option linter.all false
set_option maxRecDepth 100000
set_option maxHeartbeats 4000000
/-! Comprehensions whose turns only add tuples; what is walked. -/
namespace A72
open PySem PySem.Spec PyProof.Rows L2
/-! ### the rules, the written part K by name -/
section
variable {X : Cx}
/-- t[lo:hi], the part at some address -/
def rSlM (K : PySem.W.Frag) : V → Option Int → Option Int → Hp → VK → Prop := fun x lo hi H Q => ∃ a xs, x = .ref a ∧ SqT K H a xs ∧ ∀ b H', Same H H' → SqT K H' b (cutV xs lo hi) → Q (.ref b) H'
theorem cut_whole {xs : List V} {lo hi : Option Int} (h : HT.sIx xs.length 0 lo = 0 ∧ HT.sIx xs.length xs.length hi = xs.length) : cutV xs lo hi = xs := by
  unfold cutV
  rw [h.1, h.2, List.drop_zero, Nat.sub_zero, List.take_length]
theorem sl_tupM : SlR X (rSlM X.K) := by
  intro pins s σ H x v vl vu lo hi sl Q I rx hs pl pu ⟨a, xs, e, ha, q⟩
  exact sl_tupA pins s σ H x v vl vu lo hi sl Q I rx hs pl pu ⟨a, xs, e, ha, fun hw => q a H (Same.refl H) (by rw [cut_whole hw]; exact ha), fun _ p hp => q p _ (Same.new hp) (SqT.of upd_same)⟩
/-- t + u, the whole at some address -/
def rCatM (K : PySem.W.Frag) : R2 := fun x y H Q => ∃ a b xs ys, x = .ref a ∧ y = .ref b ∧ SqT K H a xs ∧ SqT K H b ys ∧ xs.length + ys.length ≤ sizeLine ∧ ∀ c H', Same H H' → SqT K H' c (xs ++ ys) → Q (.ref c) H'
theorem cat_M : OpR X (binaryOp .Add) (rCatM X.K) := by
  intro pins s σ H x y v u Q I rx ry ⟨a, b, xs, ys, e1, e2, ha, hb, hz, q⟩
  refine op_catA pins s σ H x y v u Q I rx ry ⟨a, b, xs, ys, e1, e2, ha, hb, hz, fun e => ?_, fun _ e => ?_, fun _ _ p hp => q p _ (Same.new hp) (SqT.of upd_same)⟩
  · subst e
    exact q b H (Same.refl H) hb
  · subst e
    exact q a H (Same.refl H) (by rw [List.append_nil]; exact ha)
end
section
variable {X : Cx} (K : PySem.W.Frag) (h : X.K = K)
include h
theorem ix_tupK : IxR X (rIxT K) := h ▸ ix_tup
theorem ix_listK : IxR X (rIxL K) := h ▸ ix_list
theorem sl_tupK : SlR X (rSlM K) := h ▸ sl_tupM
theorem sl_listK : SlR X (rSlL K) := h ▸ sl_list
theorem len_K : CallR X (.builtin "len") (fun xs H Q => ∃ p ys, xs = [.ref p] ∧ (SqL K H p ys ∨ SqT K H p ys) ∧ Q (.int ys.length) H) := h ▸ call_len_seq
theorem all_K (hc : X.calm = true) : CallR X (.builtin "all") (rAll K) := h ▸ cr_all hc
theorem max_K (hc : X.calm = true) : CallR X (.builtin "max") (rMax K) := h ▸ cr_max hc
theorem min_K (hc : X.calm = true) : CallR X (.builtin "min") (rMin K) := h ▸ cr_min hc
theorem minT_K (hc : X.calm = true) (hu : X.A.units + 64 < cLine) : CallR X (.builtin "min") (rMinT K) := h ▸ cr_minT hc hu
theorem tuple_K : CallR X (.type "tuple") (fun xs H Q => ∃ p ys, xs = [.ref p] ∧ ((SqL K H p ys ∧ ∀ l, H l = none → Q (.ref l) (upd H l (.tup ys))) ∨ (SqT K H p ys ∧ Q (.ref p) H))) := h ▸ call_tuple_of
theorem list_K : CallR X (.type "list") (fun xs H Q => ∃ p ys, xs = [.ref p] ∧ (SqL K H p ys ∨ SqT K H p ys) ∧ ∀ l, H l = none → Q (.ref l) (upd H l (.lst ys))) := h ▸ call_list_of
theorem isi_K : CallR X (.builtin "isinstance") (rIsi K) := h ▸ call_isi
theorem in_K : OpR X (compareOp .In) (rIn K false) := h ▸ op_in_seq
theorem notin_K : OpR X (compareOp .NotIn) (rIn K true) := h ▸ op_notIn_seq
theorem nonein_K (hu : X.A.units + 64 < cLine) : OpR X (compareOp .In) (rNoneIn K false) := h ▸ op_noneIn hu
theorem eqD_K (hu : X.A.units + 64 < cLine) : OpR X (compareOp .Eq) (rEqD K) := h ▸ op_eqD hu
theorem neD_K (hu : X.A.units + 64 < cLine) : OpR X (compareOp .NotEq) (rNeD K) := h ▸ op_neD hu
theorem cat_K : OpR X (binaryOp .Add) (rCatM K) := h ▸ cat_M
theorem rep_K : OpR X (binaryOp .Mult) (rRepT K) := h ▸ op_repT
theorem tcount_K : MtR X "tuple.count" (rCntT K) := h ▸ mt_tcount
theorem lcount_K : MtR X "list.count" (rCntI K) := h ▸ mt_lcount
theorem pg_tupK {es : List Expr} {k : Nat} {pos : Pos} {t : TGs} {n : Nat} (hc : X.calm = true) (hp : PGs X es t) (hn : (assignEach es X.env).length = n := by rfl) (hst : (assignEach es X.env).findIdx? (·.1) = none := by rfl) : PG X (.Tuple es k pos) (gTup K n t) := by
  subst h
  exact pg_tup hc hp hn hst
theorem pg_2 {i j : Nat} {x y : Str} {k : Nat} {px py pos : Pos} (hc : X.calm = true) (hN : X.N.Nodup) (hi : X.N[i]? = some x) (hj : X.N[j]? = some y) (hx : Loc X.env.scope x) (hy : Loc X.env.scope y)
    (fx : X.fn x = true ∨ X.env.scope.names.lookup x = some .local) (fy : X.fn y = true ∨ X.env.scope.names.lookup y = some .local) :
    PG X (.Tuple [.Name x px, .Name y py] k pos) (gTup K 2 (gCons (gName i) (gCons (gName j) gNil))) := by
  subst h
  exact pg_tup hc (pgs_cons (pg_name hN hi hx fx) (pgs_cons (pg_name hN hj hy fy) pgs_nil))
theorem pi_tupK {tg l : Expr} {tl : TE} (hl : PE X l tl) : PI X tg l (iTup K tl) := by
  subst h
  exact pi_tup hl
theorem pi_listK {tg l : Expr} {tl : TE} (hl : PE X l tl) : PI X tg l (iList K tl) := by
  subst h
  exact pi_list hl
theorem pi_zipK {e e2 : Expr} {ta : TA} {p pos tpos : Pos} {elts : List Expr} {kk : Nat} (hg : Gl X "zip") (hm : X.mg "zip" = none) (ha : PA X [e, e2] ta) (hs : starEach [e, e2] X.env = (false, eval e X.env) :: starEach [e2] X.env := by rfl)
    (hs2 : ((backTo pos (starEach [e2] X.env)).any fun x => x.1) = false := by rfl) : PI X (.Tuple elts kk tpos) (.Call (.Name "zip" p) [e, e2] [] pos) (RZ.iZipA K ta) := by
  subst h
  exact RZ.pi_zipA hg hm ha hs hs2
theorem pi_enumK {e : Expr} {ta : TA} {p pos tpos : Pos} {elts : List Expr} {kk : Nat} (hg : Gl X "enumerate") (hm : X.mg "enumerate" = none) (ha : PA X [e] ta) (hs : starEach [e] X.env = [(false, eval e X.env)] := by rfl) :
    PI X (.Tuple elts kk tpos) (.Call (.Name "enumerate" p) [e] [] pos) (iEnumT K ta) := by
  subst h
  exact pi_enumT hg hm ha hs
theorem star_K {e : Expr} {es : List Expr} {te : TE} {t : TA} {p : Pos} (he : PE X e te) (hr : PA X es t) (hs : starEach (.Starred e p :: es) X.env = (true, eval e X.env) :: starEach es X.env := by rfl) : PA X (.Starred e p :: es) (StX.tStar K te t) := by
  subst h
  exact StX.pa_star he hr hs
theorem fld_K {e : Expr} {f : Str} {pos : Pos} {ta : TE} (he : PE X e ta) (hb : attributeBase e f X.env (eval e X.env) = eval e X.env := by rfl) : PE X (.Attribute e f pos) (tFld K ta f) := by
  subst h
  exact pe_fld he hb
end
/-- a comprehension: R tells the list made so far -/
theorem lcs {J : It} {n : Nat} {G : Hp → Prop} {Y : Nat → Hp → V → Hp → Prop} (w : Walk J n G Y) (hY : ∀ i H x H', Y i H x H' → Same H H') {g : TG} {tt : TT} {te : TE} {vs : List Nat} {σ : L2.St} {H0 : Hp} {D : Addr} {Qd : Hp → Prop} (hD : H0 D = none)
    (hG : ∀ H, Same H0 H → G H) (R : Nat → Hp → List V → Prop) (h0 : R 0 H0 []) (mono : ∀ i acc S H H', Stp S H H' → R i H acc → R i H' acc) (hz : ∀ i H acc, R i H acc → acc.length ≤ i) (hn : n ≤ 100000)
    (turn : ∀ i x H H' acc (Ky : V → Hp → Prop) (Kn : Hp → Prop), i < n → Same H0 H' → R i H' acc → Y i H x H' → (∀ y H4, Same H' H4 → R (i + 1) H4 (acc ++ [y]) → Ky y H4) → (∀ H3, Same H' H3 → R (i + 1) H3 acc → Kn H3) →
      g x (wipe σ vs) H' fun σ2 H2 => wipe σ2 vs = wipe σ vs ∧ tt σ2 H2 fun b H3 => if b = true then te σ2 H3 Ky else Kn H3)
    (hd : ∀ H acc, Same H0 H → H D = some (.lst acc) → R n H acc → Qd H) :
    ∃ W : Nat → Nat → Hp → Prop, (∃ m, W 0 m (upd H0 D (.lst []))) ∧ ∀ i m H, W i m H →
      (J.stop i H ∧ Qd H) ∨ (J.go i H ∧ ∃ Nx : Hp → Prop, (∀ H', Nx H' → ∃ m', m' < m ∧ W (i + 1) m' H') ∧ ∀ x H', J.yld i H x H' → g x (wipe σ vs) H' fun σ2 H2 => wipe σ2 vs = wipe σ vs ∧ tt σ2 H2 fun b H3 =>
        if b = true then te σ2 H3 fun y H4 => ∃ acc, H4 D = some (.lst acc) ∧ acc.length < sizeLine ∧ Nx (upd H4 D (.lst (acc ++ [y]))) else Nx H3) := by
  refine lc_it w (fun i H => ∃ acc, Same H0 H ∧ H D = some (.lst acc) ∧ R i H acc) ⟨[], Same.new hD, upd_same, mono 0 [] [] _ _ (Stp.new hD) h0⟩ (fun i H hi ⟨acc, e, _, _⟩ => hG H e) ?_ (fun H ⟨acc, e, hl, r⟩ => hd H acc e hl r)
  rintro i x H H' hi ⟨acc, e, hl, r⟩ y
  have s1 := hY i H x H' y
  refine turn i x H H' acc _ _ hi (e.trans s1) (mono i acc [] H H' s1.stp r) y (fun z H4 s4 r4 => ?_) fun H3 s3 r3 => ?_
  · have hl4 : H4 D = some (.lst acc) := s4 _ _ (s1 _ _ hl)
    have hz' := hz i H acc r
    refine ⟨acc, hl4, Nat.lt_of_le_of_lt hz' (Nat.lt_of_lt_of_le (Nat.lt_of_lt_of_le hi hn) (by rw [sizeLine_eq]; decide)), acc ++ [z], ((e.trans s1).trans s4).up hD, upd_same, ?_⟩
    exact mono (i + 1) _ [D] _ _ (Stp.upd hl4 rfl (List.mem_singleton.mpr rfl)) r4
  · exact ⟨acc, (e.trans s1).trans s3, s3 _ _ (s1 _ _ hl), r3⟩
theorem yat_same {xs : List V} : ∀ i H x H', YAt xs i H x H' → Same H H' := fun i H x H' y => by
  rw [y.1]
  exact Same.refl H
theorem yfn_same {f : Nat → V} : ∀ i H x H', YFn f i H x H' → Same H H' := fun i H x H' y => by
  rw [y.1]
  exact Same.refl H
theorem ypair_same {xs ys : Nat → Option V} : ∀ i H x H', YPair xs ys i H x H' → Same H H' := fun i H x H' ⟨T, _, _, _, hT, e, _⟩ => by
  rw [e]
  exact Same.new hT
section
variable {K : PySem.W.Frag} {a b : Addr} {xs ys : List V}
theorem walk_enumT : Walk (IteT K a) xs.length (fun H => SqT K H a xs) (YPair (fun i => some (.int (i : Nat))) (fun i => xs[i]?)) := by
  refine ⟨fun i _ hi q => ⟨xs, xs[i], q, by simp [hi]⟩, fun _ q => ⟨xs, q, Nat.le_refl _⟩, fun i H v H' _ q y => ?_⟩
  obtain ⟨T, x, h1, h2, h3, h4⟩ := y
  exact ⟨T, .int (i : Nat), x, h1, h2, h3, rfl, h4 xs q⟩
theorem walk_zipT {n : Nat} (hn : n = min xs.length ys.length) : Walk (RZ.ItzT K a b) n (fun H => SqT K H a xs ∧ SqT K H b ys) (YPair (fun i => xs[i]?) (fun i => ys[i]?)) := by
  subst hn
  refine ⟨fun i _ hi q => ?_, fun _ q => ⟨xs, ys, q.1, q.2, by omega⟩, fun i H v H' _ q y => ?_⟩
  · have h1 : i < xs.length := by omega
    have h2 : i < ys.length := by omega
    exact ⟨xs, ys, xs[i], ys[i], q.1, q.2, by simp [h1], by simp [h2]⟩
  · obtain ⟨T, x, z, h1, h2, h3, h4, h5⟩ := y
    exact ⟨T, x, z, h1, h2, h3, h4 xs q.1, h5 ys q.2⟩
end
theorem take_map {α β : Type} {l : List α} {i : Nat} {x : α} (f : α → β) (h : l[i]? = some x) : (l.take (i + 1)).map f = (l.take i).map f ++ [f x] := by
  rw [List.take_add_one, h, List.map_append] <;> rfl
theorem take_all {α : Type} (l : List α) : l.take l.length = l := List.take_length

theorem zip_at {α β : Type} {l : List α} {m : List β} {i : Nat} {x : α} {y : β} (h1 : l[i]? = some x) (h2 : m[i]? = some y) : (l.zip m)[i]? = some (x, y) := by
  rw [List.getElem?_zip_eq_some]
  exact ⟨h1, h2⟩
theorem cut_from1 (ns : List Int) : cutV (ns.map V.int) (some 1) none = (ns.drop 1).map V.int := by
  unfold cutV
  rw [HT.sIx_none, show (1 : Int) = ((1 : Nat) : Int) from rfl, HT.sIx_nat, List.take_of_length_le (by rw [List.length_drop, List.length_map]; omega)]
  cases ns with
  | nil => rfl
  | cons a r =>
    rw [List.length_map, List.length_cons, Nat.min_eq_left (by omega), List.map_drop]
/-! ### is_set, is_pattern -/
def asc : List Int → Bool
  | [] => true
  | [_] => true
  | a :: b :: r => decide (a < b) && asc (b :: r)
def setB (ns : List Int) (lo hi : Int) : Bool := (ns.all fun n => decide (lo ≤ n) && decide (n ≤ hi)) && asc ns
/-- neighbours in order, as zip(t, t[1:]) sees them -/
theorem asc_zip : ∀ ns : List Int, ((ns.zip (ns.drop 1)).map fun p => decide (p.1 < p.2)).all id = asc ns
  | [] => rfl
  | [_] => rfl
  | a :: b :: r => by
    have ih := asc_zip (b :: r)
    show (decide (a < b) && (((b :: r).zip ((b :: r).drop 1)).map fun p => decide (p.1 < p.2)).all id) = (decide (a < b) && asc (b :: r))
    rw [ih]
structure PatOk (p : Pat) : Prop where
  lo : 2 ≤ p.per
  hi : p.per ≤ 60
  set : setB p.sl 0 (p.per - 1) = true
  some_ : 1 ≤ p.sl.length
  less : (p.sl.length : Int) < p.per
theorem PatOk.pos {p : Pat} (h : PatOk p) : 0 < p.per := by
  have := h.lo
  omega
theorem PatOk.few {p : Pat} (h : PatOk p) : p.sl.length ≤ 60 := by
  have := h.less
  have := h.hi
  omega
/-- what a comprehension has made: f of what was taken -/
def Made {α : Type} (f : α → V) (l : List α) (i : Nat) (acc : List V) : Prop := acc = (l.take i).map f
theorem Made.zero {α : Type} {f : α → V} {l : List α} : Made f l 0 [] := by simp [Made]
theorem Made.len {α : Type} {f : α → V} {l : List α} {i : Nat} {acc : List V} (h : Made f l i acc) : acc.length ≤ i := by
  rw [h, List.length_map, List.length_take]
  omega
theorem Made.succ {α : Type} {f : α → V} {l : List α} {i : Nat} {acc : List V} {x : α} (h : Made f l i acc) (e : l[i]? = some x) : Made f l (i + 1) (acc ++ [f x]) := by
  unfold Made at h ⊢
  rw [h, take_map f e]
theorem Made.all {α : Type} {f : α → V} {l : List α} {n : Nat} {acc : List V} (h : Made f l n acc) (e : n = l.length) : acc = l.map f := by
  rw [h, e, List.take_length]
section
variable {P : Program} {w : World} {K : PySem.W.Frag} {mg : Str → Option Value} {base : Heap}
def spSet (K : PySem.W.Frag) : Sp := fun vs H Q _ => ∃ v ns lo hi, vs = [v, .int lo, .int hi] ∧ IV K H v ns ∧ ns.length ≤ 1000 ∧ setB ns lo hi = true ∧ ∀ H', Same H H' → Q (.bl true) H'
theorem sc_is_set : FnScope ["thing", "low", "high", "one", "other"] ["thing", "low", "high"] (defScope d_is_set) := ⟨rfl, rfl, rfl, by decide +kernel, rfl, by decide +kernel, by decide +kernel⟩
theorem is_set_ok (T : Txt K mg) : C8.Cal P w K mg base 3 "is_set" (spSet K) [] := by
  refine cal T.f_d_is_set T.g_is_set sc_is_set (fun _ _ _ _ _ _ us hl => match us, hl with | [_, _, _], _ => rfl) (fun vs H Q E h => ?_) (fun cdv A outer s H vs Q E hr h => ?_)
  · obtain ⟨v, ns, lo, hi, rfl, _⟩ := h
    rfl
  · obtain ⟨v, ns, lo, hi', rfl, ⟨a, rfl, ha⟩, hl, hs, q⟩ := h
    have hu := hr.units
    refine ⟨_, (pss_cons (ps_if (PW.pt (pw_or (pt_not (pt_val (pe_callB (isi_K K rfl) (by rfl) T.b_isinstance (by decide +kernel) (pa_cons (pv 0) (pa_cons (pe_bltn (v := .ty "tuple") (u := .type "tuple") rfl T.b_tuple (by decide +kernel) rfl) pa_nil))))) (pw_or1 (pt_not (pt_val (pe_callB (all_K K rfl rfl) (by rfl) T.b_all (by decide +kernel) (pa_cons (pe_lc (own := [("one", 3)]) (g := gName 3) (by rfl) sc_is_set.nd (pi_tupK K rfl (pv 0)) (blkOk_by (N := ["thing", "low", "high", "one", "other"]) (sc := defScope d_is_set) (by decide +kernel)) (fun _ _ _ _ _ => (pg_name (i := 3) sc_is_set.nd rfl (Or.inl rfl))) (fun _ _ _ _ _ => pts_nil) (fun _ _ _ _ _ => (C8.pe_c (is_between_ok T) hr (by decide) rfl (pa_cons (pv 3) (pa_cons (pv 1) (pa_cons (pv 2) pa_nil)))))) pa_nil))))))) (pss_one (ps_ret pe_bl)) pss_nil)
 (pss_one (ps_ret (pe_callB (all_K K rfl rfl) (by rfl) T.b_all (by decide +kernel) (pa_cons (pe_lc (own := [("one", 3), ("other", 4)]) (g := gTup K 2 (gCons (gName 3) (gCons (gName 4) gNil))) (by rfl) sc_is_set.nd (pi_zipK K rfl (by rfl) T.b_zip (pa_cons (pv 0) (pa_cons (pe_slice (sl_tupK K rfl) (pv 0) (po_some pe_int) po_none) pa_nil))) (blkOk_by (N := ["thing", "low", "high", "one", "other"]) (sc := defScope d_is_set) (by decide +kernel)) (fun _ _ _ _ _ => (by exact pg_2 (i := 3) (j := 4) K rfl rfl sc_is_set.nd rfl rfl (Or.inl rfl) (Or.inl rfl) (by first | exact .inl rfl | exact .inr rfl) (by first | exact .inl rfl | exact .inr rfl))) (fun _ _ _ _ _ => pts_nil) (fun _ _ _ _ _ => (pe_cmpR op_lt (pv 3) (pv 4) (nomark _)))) pa_nil))))), ?_⟩
    have hs2 := He.ba hs
    refine ⟨_, rfl, _, _, .type "tuple", .type "tuple", true, rfl, .ty _, tyx_tup ha, kit_tt K, true, rfl, iteF ?_⟩
    refine ⟨_, rfl, a, rfl, ⟨_, ha⟩, fun D hD => lcs walk_tup yat_same hD (fun H e => e.t ha) (fun i H acc => Made V.bl (ns.map fun n => decide (lo ≤ n) && decide (n ≤ hi')) i acc) Made.zero (fun _ _ _ _ _ _ r => r) (fun _ _ _ r => r.len) (by rw [List.length_map]; omega) ?_ ?_⟩
    · intro i x H1 H2 acc Ky Kn hi e r y ky kn
      obtain ⟨rfl, hx⟩ := y
      obtain ⟨n, hn, rfl⟩ := ints_at hx
      refine ⟨rfl, ?_⟩
      refine ⟨_, rfl, _, rfl, _, rfl, n, lo, hi', rfl, ky _ _ (Same.refl _) (r.succ ?_)⟩
      rw [List.getElem?_map, hn]
      rfl
    · intro H1 acc e hl1 r
      have ea := r.all (by rw [List.length_map, List.length_map])
      refine ⟨D, _, rfl, SqL.of (by rw [hl1, ea]), _, rfl, ?_⟩
      have hall : ((ns.map fun n => decide (lo ≤ n) && decide (n ≤ hi')).all id) = true := by
        rw [List.all_map]
        exact hs2.1
      rw [hall]
      refine iteF ?_
      refine ⟨_, rfl, _, rfl, 1, rfl, a, _, rfl, e.t ha, fun b H2 e2 hb => ?_⟩
      have ec : cutV (ns.map V.int) (some 1) none = (ns.drop 1).map V.int := cut_from1 ns
      rw [ec] at hb
      have e3 := e.trans e2
      refine ⟨a, b, _, _, rfl, .inr ⟨e3.t ha, hb, fun D2 hD2 => lcs (walk_zipT (n := (ns.zip (ns.drop 1)).length) (by simp)) ypair_same hD2 (fun H h => ⟨(e3.trans h).t ha, h.t hb⟩) (fun i H acc => Made V.bl ((ns.zip (ns.drop 1)).map fun p => decide (p.1 < p.2)) i acc) Made.zero (fun _ _ _ _ _ _ r => r) (fun _ _ _ r => r.len) (by simp; omega) ?_ ?_⟩⟩
      · intro i x H3 H4 acc Ky Kn hi e4 r y ky kn
        obtain ⟨S, x1, x2, rfl, hS, rfl, h1, h2⟩ := y
        obtain ⟨n1, g1, rfl⟩ := ints_at h1
        obtain ⟨n2, g2, rfl⟩ := ints_at h2
        refine ⟨S, _, rfl, SqT.of upd_same, rfl, _, _, rfl, _, _, rfl, rfl, rfl, ?_⟩
        refine ⟨_, rfl, _, rfl, _, _, rfl, rfl, ky _ _ (Same.refl _) (r.succ ?_)⟩
        rw [List.getElem?_map, zip_at g1 g2]
        rfl
      · intro H3 acc e4 hl3 r3
        have ea3 := r3.all (by rw [List.length_map])
        refine ⟨D2, _, rfl, SqL.of (by rw [hl3, ea3]), ?_⟩
        rw [asc_zip, hs2.2]
        exact q _ ((e.trans e2).trans e4)
end
end A72

set_option Elab.async false
set_option linter.all false
set_option maxRecDepth 100000
set_option maxHeartbeats 4000000
/-! is_pattern; anyshift.groups but classes_of -/
namespace A72
open PySem PySem.Spec PyProof.Rows L2
structure GrpOk (g : Grp) : Prop where
  lo : 2 ≤ g.length
  hi : g.length ≤ 4
  ok : ∀ p ∈ g, PatOk p
theorem GrpOk.at_ {g : Grp} (h : GrpOk g) {i : Nat} {p : Pat} (e : g[i]? = some p) : PatOk p := h.ok p (List.mem_of_getElem? e)
structure OffOk (g : Grp) (os : List Int) : Prop where
  len : os.length = g.length
  ok : ∀ (i : Nat) (o : Int) (p : Pat), os[i]? = some o → g[i]? = some p → 0 ≤ o ∧ o < p.per
def spanN (g : Grp) : Nat := g.foldl (fun m p => Nat.lcm m p.per.toNat) 1
def prodN (g : Grp) : Nat := g.foldl (fun m p => m * p.per.toNat) 1
theorem lcm_le (a b : Nat) : Nat.lcm a b ≤ a * b := Nat.div_le_self _ _
theorem span_bound : ∀ (g : Grp) (m : Nat), (∀ p ∈ g, PatOk p) → 1 ≤ m → 1 ≤ g.foldl (fun m p => Nat.lcm m p.per.toNat) m ∧ g.foldl (fun m p => Nat.lcm m p.per.toNat) m ≤ m * 60 ^ g.length
  | [], m, _, h => by simp; exact h
  | p :: g, m, hp, h => by
    have hp1 := hp p (List.mem_cons_self ..)
    have h1 := hp1.lo
    have h2 := hp1.hi
    have hl := lcm_le m p.per.toNat
    have hm : 1 ≤ Nat.lcm m p.per.toNat := Nat.lcm_pos (by omega) (by omega)
    obtain ⟨a, b⟩ := span_bound g (Nat.lcm m p.per.toNat) (fun q hq => hp q (List.mem_cons_of_mem _ hq)) hm
    refine ⟨a, Nat.le_trans b ?_⟩
    rw [List.length_cons, Nat.pow_succ, Nat.mul_comm (60 ^ g.length) 60, ← Nat.mul_assoc]
    refine Nat.mul_le_mul_right _ (Nat.le_trans hl (Nat.mul_le_mul_left _ (by omega)))
theorem prod_bound : ∀ (g : Grp) (m : Nat), (∀ p ∈ g, PatOk p) → 1 ≤ m → 1 ≤ g.foldl (fun m p => m * p.per.toNat) m ∧ g.foldl (fun m p => m * p.per.toNat) m ≤ m * 60 ^ g.length
  | [], m, _, h => by simp; exact h
  | p :: g, m, hp, h => by
    have hp1 := hp p (List.mem_cons_self ..)
    have h1 := hp1.lo
    have h2 := hp1.hi
    have hm : 1 ≤ m * p.per.toNat := Nat.mul_pos (by omega) (by omega)
    obtain ⟨a, b⟩ := prod_bound g (m * p.per.toNat) (fun q hq => hp q (List.mem_cons_of_mem _ hq)) hm
    refine ⟨a, Nat.le_trans b ?_⟩
    rw [List.length_cons, Nat.pow_succ, Nat.mul_comm (60 ^ g.length) 60, ← Nat.mul_assoc]
    refine Nat.mul_le_mul_right _ (Nat.mul_le_mul_left _ (by omega))
theorem take_snoc {α : Type} {l : List α} {i : Nat} {x : α} (h : l[i]? = some x) : l.take (i + 1) = l.take i ++ [x] := by
  rw [List.take_add_one, h] <;> rfl
theorem span_succ {g : Grp} {i : Nat} {p : Pat} (h : g[i]? = some p) : spanN (g.take (i + 1)) = Nat.lcm (spanN (g.take i)) p.per.toNat := by
  unfold spanN
  rw [take_snoc h, List.foldl_append] <;> rfl
theorem prod_succ {g : Grp} {i : Nat} {p : Pat} (h : g[i]? = some p) : prodN (g.take (i + 1)) = prodN (g.take i) * p.per.toNat := by
  unfold prodN
  rw [take_snoc h, List.foldl_append] <;> rfl
theorem pow60 {n : Nat} (h : n ≤ 3) : (60 : Nat) ^ n ≤ 216000 := Nat.le_trans (Nat.pow_le_pow_right (by decide) h) (by decide)
theorem part_span {g : Grp} (hg : GrpOk g) {i : Nat} (hi : i < g.length) : 1 ≤ spanN (g.take i) ∧ spanN (g.take i) ≤ 1000000 := by
  have := hg.hi
  obtain ⟨a, b⟩ := span_bound (g.take i) 1 (fun p hp => hg.ok p (List.mem_of_mem_take hp)) (by decide)
  refine ⟨a, Nat.le_trans b ?_⟩
  rw [List.length_take, Nat.one_mul]
  exact Nat.le_trans (pow60 (n := min i g.length) (by omega)) (by decide)
theorem part_prod {g : Grp} (hg : GrpOk g) {i : Nat} (hi : i < g.length) : 1 ≤ prodN (g.take i) ∧ prodN (g.take i) ≤ 1000000 := by
  have := hg.hi
  obtain ⟨a, b⟩ := prod_bound (g.take i) 1 (fun p hp => hg.ok p (List.mem_of_mem_take hp)) (by decide)
  refine ⟨a, Nat.le_trans b ?_⟩
  rw [List.length_take, Nat.one_mul]
  exact Nat.le_trans (pow60 (n := min i g.length) (by omega)) (by decide)
theorem span_pos {g : Grp} (hg : GrpOk g) : 1 ≤ spanN g := (span_bound g 1 hg.ok (by decide)).1
/-- the groups that functions with a limit take -/
structure FewOk (g : Grp) : Prop where
  ok : GrpOk g
  span : spanN g ≤ 420
  few : prodN g / spanN g ≤ 240
section
variable {P : Program} {w : World} {K : PySem.W.Frag} {mg : Str → Option Value} {base : Heap}
def spPat (K : PySem.W.Frag) : Sp := fun vs H Q _ => ∃ v p, vs = [v] ∧ PtV K H v p ∧ PatOk p ∧ ∀ H', Same H H' → Q (.bl true) H'
theorem sc_is_pattern : FnScope ["thing"] ["thing"] (defScope d_is_pattern) := ⟨rfl, rfl, rfl, by decide +kernel, rfl, by decide +kernel, by decide +kernel⟩
theorem is_pattern_ok (T : Txt K mg) : C8.Cal P w K mg base 4 "is_pattern" (spPat K) [] := by
  refine cal T.f_d_is_pattern T.g_is_pattern sc_is_pattern (fun _ _ _ _ _ _ us hl => match us, hl with | [_], _ => rfl) (fun vs H Q E h => ?_) (fun cdv A outer s H vs Q E hr h => ?_)
  · obtain ⟨v, p, rfl, _⟩ := h
    rfl
  · obtain ⟨v, p, rfl, ⟨sv, ⟨a, rfl, ha⟩, b, rfl, hb⟩, hp, q⟩ := h
    have hu := hr.units
    have h1 := hp.lo
    have h2 := hp.hi
    have h3 := hp.some_
    have h4 := hp.less
    refine ⟨_, (pss_cons (ps_if (PW.pt (pw_or (pt_not (pt_val (pe_callB (isi_K K rfl) (by rfl) T.b_isinstance (by decide +kernel) (pa_cons (pv 0) (pa_cons (pe_bltn (v := .ty "tuple") (u := .type "tuple") rfl T.b_tuple (by decide +kernel) rfl) pa_nil))))) (pw_or (pt_cmpR op_ne (pe_callB (len_K K rfl) (by rfl) T.b_len PySem.boot_len (pa_cons (pv 0) pa_nil)) pe_int (nomark _)) (pw_or1 (pt_not (pt_val (C8.pe_c (is_between_ok T) hr (by decide) rfl (pa_cons (pe_ix (ix_tupK K rfl) (pv 0) pe_int (fun _ _ => rfl)) (pa_cons (pe_ig T.c_LEAST_PERIOD rfl) (pa_cons (pe_ig T.c_MOST_PERIOD rfl) pa_nil)))))))))) (pss_one (ps_ret pe_bl)) pss_nil)
 (pss_one (ps_ret (pe_and (C8.pe_c (is_set_ok T) hr (by decide) rfl (pa_cons (pe_ix (ix_tupK K rfl) (pv 0) pe_int (fun _ _ => rfl)) (pa_cons pe_int (pa_cons (pe_op op_sub (pe_ix (ix_tupK K rfl) (pv 0) pe_int (fun _ _ => rfl)) pe_int) pa_nil)))) (pe_one (pe_chain op_le op_lt pe_int (pe_callB (len_K K rfl) (by rfl) T.b_len PySem.boot_len (pa_cons (pe_ix (ix_tupK K rfl) (pv 0) pe_int (fun _ _ => rfl)) pa_nil)) (pe_ix (ix_tupK K rfl) (pv 0) pe_int (fun _ _ => rfl)))))))), ?_⟩
    refine ⟨_, rfl, _, _, .type "tuple", .type "tuple", true, rfl, .ty _, tyx_tup ha, kit_tt K, true, rfl, ?_⟩
    refine ⟨_, rfl, a, _, rfl, .inr ha, rfl, _, rfl, ?_⟩
    refine ⟨_, rfl, a, _, _, _, rfl, rfl, ha, rfl, p.per, 2, 60, rfl, true, congrArg V.bl (by rw [decide_eq_true h1, decide_eq_true h2]; rfl), ?_⟩
    refine ⟨_, rfl, a, _, _, _, rfl, rfl, ha, rfl, _, rfl, a, _, _, _, rfl, rfl, ha, rfl, _, _, rfl, rfl, ?_⟩
    refine ⟨.ref b, p.sl, 0, p.per - 1, rfl, ⟨b, rfl, hb⟩, by have := hp.few; omega, hp.set, fun H1 e1 => ⟨true, rfl, ?_⟩⟩
    have ha1 := e1.t ha
    refine ⟨_, rfl, a, _, _, _, rfl, rfl, ha1, rfl, b, _, rfl, .inr (e1.t hb), _, _, rfl, rfl, true, ?_, ?_⟩
    · rw [List.length_map]
      exact congrArg V.bl (decide_eq_true (by omega))
    · refine ⟨_, rfl, a, _, _, _, rfl, rfl, ha1, rfl, _, _, rfl, rfl, ?_⟩
      have hd : decide ((((p.sl.map V.int).length : Nat) : Int) < p.per) = true := by
        rw [List.length_map]
        exact decide_eq_true h4
      have q1 := q H1 e1
      rw [← hd] at q1
      exact q1
def spGrp (K : PySem.W.Frag) (r : V) : Sp := fun vs H Q _ => ∃ v g, vs = [v] ∧ GrV K H v g ∧ GrpOk g ∧ ∀ H', Same H H' → Q r H'
theorem sc_is_group : FnScope ["thing", "pattern"] ["thing"] (defScope d_is_group) := ⟨rfl, rfl, rfl, by decide +kernel, rfl, by decide +kernel, by decide +kernel⟩
theorem is_group_ok (T : Txt K mg) : C8.Cal P w K mg base 5 "is_group" (spGrp K (.bl true)) [] := by
  refine cal T.f_d_is_group T.g_is_group sc_is_group (fun _ _ _ _ _ _ us hl => match us, hl with | [_], _ => rfl) (fun vs H Q E h => ?_) (fun cdv A outer s H vs Q E hr h => ?_)
  · obtain ⟨v, p, rfl, _⟩ := h
    rfl
  · obtain ⟨v, g, rfl, ⟨vs, ⟨a, rfl, ha⟩, hp⟩, hg, q⟩ := h
    have hlen := pairedP_len hp
    have h1 := hg.lo
    have h2 := hg.hi
    refine ⟨_, (pss_cons (ps_if (PW.pt (pw_or (pt_not (pt_val (pe_callB (isi_K K rfl) (by rfl) T.b_isinstance (by decide +kernel) (pa_cons (pv 0) (pa_cons (pe_bltn (v := .ty "tuple") (u := .type "tuple") rfl T.b_tuple (by decide +kernel) rfl) pa_nil))))) (pw_or1 (pt_not (pt_chain op_le op_le (pe_ig T.c_LEAST_SENDERS rfl) (pe_callB (len_K K rfl) (by rfl) T.b_len PySem.boot_len (pa_cons (pv 0) pa_nil)) (pe_ig T.c_MOST_SENDERS rfl)))))) (pss_one (ps_ret pe_bl)) pss_nil)
 (pss_one (ps_ret (pe_callB (all_K K rfl rfl) (by rfl) T.b_all (by decide +kernel) (pa_cons (pe_lc (own := [("pattern", 1)]) (g := gName 1) (by rfl) sc_is_group.nd (pi_tupK K rfl (pv 0)) (blkOk_by (N := ["thing", "pattern"]) (sc := defScope d_is_group) (by decide +kernel)) (fun _ _ _ _ _ => (pg_name (i := 1) sc_is_group.nd rfl (Or.inl rfl))) (fun _ _ _ _ _ => pts_nil) (fun _ _ _ _ _ => (C8.pe_c (is_pattern_ok T) hr (by decide) rfl (pa_cons (pv 1) pa_nil)))) pa_nil))))), ?_⟩
    refine ⟨_, rfl, _, _, .type "tuple", .type "tuple", true, rfl, .ty _, tyx_tup ha, kit_tt K, true, rfl, ?_⟩
    refine ⟨_, rfl, a, _, rfl, .inr ha, _, _, rfl, rfl, true, ?_, ?_⟩
    · exact congrArg V.bl (decide_eq_true (by omega))
    refine ⟨_, _, rfl, rfl, true, congrArg V.bl (decide_eq_true (by omega)), ?_⟩
    refine ⟨_, rfl, a, rfl, ⟨_, ha⟩, fun D hD => lcs walk_tup yat_same hD (fun H e => e.t ha) (fun i H acc => Made V.bl (g.map fun _ => true) i acc) Made.zero (fun _ _ _ _ _ _ r => r) (fun _ _ _ r => r.len) (by omega) ?_ ?_⟩
    · intro i x H1 H2 acc Ky Kn hi e r y ky kn
      obtain ⟨rfl, hx⟩ := y
      obtain ⟨p, hpi, pv⟩ := pairedP_to hp hx
      refine ⟨rfl, _, rfl, x, p, rfl, pv.m e, hg.at_ hpi, fun H3 e3 => ky _ _ e3 (r.succ ?_)⟩
      rw [List.getElem?_map, hpi]
      rfl
    · intro H1 acc e hl r
      have ea := r.all (by rw [List.length_map, hlen])
      refine ⟨D, _, rfl, SqL.of (by rw [hl, ea]), ?_⟩
      have hall : ((g.map fun _ => true).all id) = true := by
        rw [List.all_map]
        exact List.all_eq_true.mpr fun _ _ => rfl
      rw [hall]
      exact q _ e
theorem sc_need_group : FnScope ["thing"] ["thing"] (defScope d_need_group) := ⟨rfl, rfl, rfl, by decide +kernel, rfl, by decide +kernel, by decide +kernel⟩
theorem need_group_ok (T : Txt K mg) : C8.Cal P w K mg base 6 "need_group" (spGrp K .non) [] := by
  refine cal T.f_d_need_group T.g_need_group sc_need_group (fun _ _ _ _ _ _ us hl => match us, hl with | [_], _ => rfl) (fun vs H Q E h => ?_) (fun cdv A outer s H vs Q E hr h => ?_)
  · obtain ⟨v, p, rfl, _⟩ := h
    rfl
  · obtain ⟨v, g, rfl, hv, hg, q⟩ := h
    refine ⟨_, (pss_one (ps_if (pt_not (pt_val (C8.pe_c (is_group_ok T) hr (by decide) rfl (pa_cons (pv 0) pa_nil)))) (pss_one ps_never) pss_nil)), ?_⟩
    exact ⟨_, rfl, v, g, rfl, hv, hg, fun H1 e => ⟨true, rfl, q H1 e⟩⟩
def spOff (K : PySem.W.Frag) (r : V) : Sp := fun vs H Q _ => ∃ v u g os, vs = [v, u] ∧ GrV K H v g ∧ IV K H u os ∧ GrpOk g ∧ OffOk g os ∧ ∀ H', Same H H' → Q r H'
theorem sc_are_offsets : FnScope ["group", "thing", "offset", "pattern"] ["group", "thing"] (defScope d_are_offsets) := ⟨rfl, rfl, rfl, by decide +kernel, rfl, by decide +kernel, by decide +kernel⟩
theorem are_offsets_ok (T : Txt K mg) : C8.Cal P w K mg base 3 "are_offsets" (spOff K (.bl true)) [] := by
  refine cal T.f_d_are_offsets T.g_are_offsets sc_are_offsets (fun _ _ _ _ _ _ us hl => match us, hl with | [_, _], _ => rfl) (fun vs H Q E h => ?_) (fun cdv A outer s H vs Q E hr h => ?_)
  · obtain ⟨v, u, g, os, rfl, _⟩ := h
    rfl
  · obtain ⟨v, u, g, os, rfl, ⟨vs, ⟨a, rfl, ha⟩, hp⟩, ⟨b, rfl, hb⟩, hg, ho, q⟩ := h
    have hlen := pairedP_len hp
    have h1 := hg.lo
    have h2 := hg.hi
    have h3 := ho.len
    refine ⟨_, (pss_cons (ps_if (PW.pt (pw_or (pt_not (pt_val (pe_callB (isi_K K rfl) (by rfl) T.b_isinstance (by decide +kernel) (pa_cons (pv 1) (pa_cons (pe_bltn (v := .ty "tuple") (u := .type "tuple") rfl T.b_tuple (by decide +kernel) rfl) pa_nil))))) (pw_or1 (pt_cmpR op_ne (pe_callB (len_K K rfl) (by rfl) T.b_len PySem.boot_len (pa_cons (pv 1) pa_nil)) (pe_callB (len_K K rfl) (by rfl) T.b_len PySem.boot_len (pa_cons (pv 0) pa_nil)) (nomark _))))) (pss_one (ps_ret pe_bl)) pss_nil)
 (pss_one (ps_ret (pe_callB (all_K K rfl rfl) (by rfl) T.b_all (by decide +kernel) (pa_cons (pe_lc (own := [("offset", 2), ("pattern", 3)]) (g := gTup K 2 (gCons (gName 2) (gCons (gName 3) gNil))) (by rfl) sc_are_offsets.nd (pi_zipK K rfl (by rfl) T.b_zip (pa_cons (pv 1) (pa_cons (pv 0) pa_nil))) (blkOk_by (N := ["group", "thing", "offset", "pattern"]) (sc := defScope d_are_offsets) (by decide +kernel)) (fun _ _ _ _ _ => (by exact pg_2 (i := 2) (j := 3) K rfl rfl sc_are_offsets.nd rfl rfl (Or.inl rfl) (Or.inl rfl) (by first | exact .inl rfl | exact .inr rfl) (by first | exact .inl rfl | exact .inr rfl))) (fun _ _ _ _ _ => pts_nil) (fun _ _ _ _ _ => (C8.pe_c (is_between_ok T) hr (by decide) rfl (pa_cons (pv 2) (pa_cons pe_int (pa_cons (pe_op op_sub (pe_ix (ix_tupK K rfl) (pv 3) pe_int (fun _ _ => rfl)) pe_int) pa_nil)))))) pa_nil))))), ?_⟩
    refine ⟨_, rfl, _, _, .type "tuple", .type "tuple", true, rfl, .ty _, tyx_tup hb, kit_tt K, true, rfl, ?_⟩
    refine ⟨_, rfl, b, _, rfl, .inr hb, _, rfl, a, _, rfl, .inr ha, rfl, false, ?_, ?_⟩
    · rw [List.length_map, hlen, h3]
      exact congrArg V.bl (by rw [decide_eq_true rfl]; rfl)
    refine ⟨_, rfl, _, rfl, b, a, _, _, rfl, .inr ⟨hb, ha, fun D hD => lcs (walk_zipT (n := g.length) (by rw [List.length_map]; omega)) ypair_same hD (fun H e => ⟨e.t hb, e.t ha⟩) (fun i H acc => Made V.bl (g.map fun _ => true) i acc) Made.zero (fun _ _ _ _ _ _ r => r) (fun _ _ _ r => r.len) (by omega) ?_ ?_⟩⟩
    · intro i x H1 H2 acc Ky Kn hi e r y ky kn
      obtain ⟨S, x1, x2, rfl, hS, rfl, g1, g2⟩ := y
      obtain ⟨o, go, rfl⟩ := ints_at g1
      obtain ⟨p, hpi, pv⟩ := pairedP_to hp g2
      obtain ⟨sv, ⟨c, rfl, hc⟩, _⟩ := pv.m e
      obtain ⟨o0, o1⟩ := ho.ok i o p go hpi
      refine ⟨S, _, rfl, SqT.of upd_same, rfl, _, _, rfl, _, _, rfl, rfl, rfl, ?_⟩
      refine ⟨_, rfl, _, rfl, c, _, _, _, rfl, rfl, hc, rfl, _, _, rfl, rfl, o, 0, p.per - 1, rfl, ?_⟩
      rw [decide_eq_true o0, decide_eq_true (show o ≤ p.per - 1 by omega)]
      refine ky _ _ (Same.refl _) (r.succ ?_)
      rw [List.getElem?_map, hpi]
      rfl
    · intro H1 acc e hl r
      have ea := r.all (by rw [List.length_map])
      refine ⟨D, _, rfl, SqL.of (by rw [hl, ea]), ?_⟩
      have hall : ((g.map fun _ => true).all id) = true := by
        rw [List.all_map]
        exact List.all_eq_true.mpr fun _ _ => rfl
      rw [hall]
      exact q _ e
theorem sc_need_offsets : FnScope ["group", "thing"] ["group", "thing"] (defScope d_need_offsets) := ⟨rfl, rfl, rfl, by decide +kernel, rfl, by decide +kernel, by decide +kernel⟩
theorem need_offsets_ok (T : Txt K mg) : C8.Cal P w K mg base 4 "need_offsets" (spOff K .non) [] := by
  refine cal T.f_d_need_offsets T.g_need_offsets sc_need_offsets (fun _ _ _ _ _ _ us hl => match us, hl with | [_, _], _ => rfl) (fun vs H Q E h => ?_) (fun cdv A outer s H vs Q E hr h => ?_)
  · obtain ⟨v, u, g, os, rfl, _⟩ := h
    rfl
  · obtain ⟨v, u, g, os, rfl, hv, hu, hg, ho, q⟩ := h
    refine ⟨_, (pss_one (ps_if (pt_not (pt_val (C8.pe_c (are_offsets_ok T) hr (by decide) rfl (pa_cons (pv 0) (pa_cons (pv 1) pa_nil))))) (pss_one ps_never) pss_nil)), ?_⟩
    exact ⟨_, rfl, _, rfl, v, u, g, os, rfl, hv, hu, hg, ho, fun H1 e => ⟨true, rfl, q H1 e⟩⟩
def spSender (K : PySem.W.Frag) : Sp := fun vs H Q _ => ∃ v xs i, vs = [v, .int i] ∧ TV K H v xs ∧ 0 ≤ i ∧ i < xs.length ∧ Q .non H
theorem sc_need_sender : FnScope ["group", "thing"] ["group", "thing"] (defScope d_need_sender) := ⟨rfl, rfl, rfl, by decide +kernel, rfl, by decide +kernel, by decide +kernel⟩
theorem need_sender_ok (T : Txt K mg) : C8.Cal P w K mg base 3 "need_sender" (spSender K) [] := by
  refine cal T.f_d_need_sender T.g_need_sender sc_need_sender (fun _ _ _ _ _ _ us hl => match us, hl with | [_, _], _ => rfl) (fun vs H Q E h => ?_) (fun cdv A outer s H vs Q E hr h => ?_)
  · obtain ⟨v, xs, i, rfl, _⟩ := h
    rfl
  · obtain ⟨v, xs, i, rfl, ⟨a, rfl, ha⟩, h0, h1, q⟩ := h
    refine ⟨_, (pss_one (ps_if (pt_not (pt_val (C8.pe_c (is_between_ok T) hr (by decide) rfl (pa_cons (pv 1) (pa_cons pe_int (pa_cons (pe_op op_sub (pe_callB (len_K K rfl) (by rfl) T.b_len PySem.boot_len (pa_cons (pv 0) pa_nil)) pe_int) pa_nil)))))) (pss_one ps_never) pss_nil)), ?_⟩
    refine ⟨_, rfl, _, rfl, a, _, rfl, .inr ha, _, _, rfl, rfl, i, 0, _, rfl, ?_⟩
    rw [decide_eq_true h0, decide_eq_true (show i ≤ (xs.length : Int) - 1 by omega)]
    exact ⟨true, rfl, q⟩
def spSpan (K : PySem.W.Frag) : Sp := fun vs H Q _ => ∃ v g, vs = [v] ∧ GrV K H v g ∧ GrpOk g ∧ Q (.int (spanN g : Nat)) H
theorem sc_span_of : FnScope ["group", "found", "period", "slots"] ["group"] (defScope d_span_of) := ⟨rfl, rfl, rfl, by decide +kernel, rfl, by decide +kernel, by decide +kernel⟩
theorem span_of_ok (T : Txt K mg) : C8.Cal P w K mg base 3 "span_of" (spSpan K) [] := by
  refine cal T.f_d_span_of T.g_span_of sc_span_of (fun _ _ _ _ _ _ us hl => match us, hl with | [_], _ => rfl) (fun vs H Q E h => ?_) (fun cdv A outer s H vs Q E hr h => ?_)
  · obtain ⟨v, g, rfl, _⟩ := h
    rfl
  · obtain ⟨v, g, rfl, ⟨vs, ⟨a, rfl, ha⟩, hp⟩, hg, q⟩ := h
    have hlen := pairedP_len hp
    refine ⟨_, (pss_cons (ps_set (i := 1) sc_span_of.nd rfl (Or.inl rfl) pe_int)
 (pss_cons (ps_for PassesOwn.never rfl (pi_tupK K rfl (pv 0)) (by exact pg_2 (i := 2) (j := 3) K rfl rfl sc_span_of.nd rfl rfl (Or.inl rfl) (Or.inl rfl) (by first | exact .inl rfl | exact .inr rfl) (by first | exact .inl rfl | exact .inr rfl)) (pss_one (ps_set (i := 1) sc_span_of.nd rfl (Or.inl rfl) (C8.pe_c (common_multiple_ok T) hr (by decide) rfl (pa_cons (pv 1) (pa_cons (pv 2) pa_nil))))))
 (pss_one (ps_ret (pv 1))))), ?_⟩
    refine ⟨_, rfl, a, rfl, ⟨_, ha⟩, for_it walk_tup (fun i σ H' => H' = H ∧ ∃ x y, σ = [some (.ref a), some (.int (spanN (g.take i) : Nat)), x, y]) ⟨rfl, none, none, rfl⟩ (fun i σ H' _ ⟨e, _⟩ => by rw [e]; exact ha) ?_ ?_⟩
    · rintro i x σ H1 H2 hi ⟨rfl, y1, y2, rfl⟩ ⟨rfl, hx⟩
      obtain ⟨p, hpi, ⟨sv, ⟨c, rfl, hc⟩, _⟩⟩ := pairedP_to hp hx
      have hpo := hg.at_ hpi
      have l1 := hpo.lo
      have l2 := hpo.hi
      obtain ⟨b1, b2⟩ := part_span hg (i := i) (by omega)
      refine ⟨c, _, rfl, hc, rfl, _, _, rfl, _, _, rfl, rfl, ?_⟩
      refine ⟨_, rfl, _, rfl, spanN (g.take i), p.per.toNat, ?_, ⟨b1, b2⟩, ⟨by omega, by omega⟩, ⟨rfl, some (.int p.per), some sv, ?_⟩⟩
      · show [V.int _, V.int p.per] = [V.int _, V.int ((p.per.toNat : Nat) : Int)]
        rw [Int.toNat_of_nonneg (by omega)]
      · rw [span_succ hpi]
        rfl
    · rintro σ H1 ⟨rfl, y1, y2, rfl⟩
      refine ⟨_, rfl, ?_⟩
      rw [hlen, List.take_length]
      exact q
def spNeedSpan (K : PySem.W.Frag) : Sp := fun vs H Q _ => ∃ v g, vs = [v] ∧ GrV K H v g ∧ GrpOk g ∧ spanN g ≤ 420 ∧ Q .non H
theorem sc_need_span : FnScope ["group", "found"] ["group"] (defScope d_need_span) := ⟨rfl, rfl, rfl, by decide +kernel, rfl, by decide +kernel, by decide +kernel⟩
theorem need_span_ok (T : Txt K mg) : C8.Cal P w K mg base 4 "need_span" (spNeedSpan K) [] := by
  refine cal T.f_d_need_span T.g_need_span sc_need_span (fun _ _ _ _ _ _ us hl => match us, hl with | [_], _ => rfl) (fun vs H Q E h => ?_) (fun cdv A outer s H vs Q E hr h => ?_)
  · obtain ⟨v, g, rfl, _⟩ := h
    rfl
  · obtain ⟨v, g, rfl, hv, hg, hs, q⟩ := h
    refine ⟨_, (pss_cons (ps_set (i := 1) sc_need_span.nd rfl (Or.inl rfl) (C8.pe_c (span_of_ok T) hr (by decide) rfl (pa_cons (pv 0) pa_nil)))
 (pss_one (ps_if (pt_cmpR op_gt (pv 1) (pe_ig T.c_LONGEST rfl) (nomark _)) (pss_one ps_never) pss_nil))), ?_⟩
    refine ⟨_, rfl, v, g, rfl, hv, hg, ?_⟩
    refine ⟨_, rfl, _, _, rfl, rfl, false, congrArg V.bl (decide_eq_false (by omega)), q⟩
def spProd (K : PySem.W.Frag) : Sp := fun vs H Q _ => ∃ v g, vs = [v] ∧ GrV K H v g ∧ GrpOk g ∧ Q (.int (prodN g : Nat)) H
theorem sc_product_of : FnScope ["group", "found", "period", "slots"] ["group"] (defScope d_product_of) := ⟨rfl, rfl, rfl, by decide +kernel, rfl, by decide +kernel, by decide +kernel⟩
theorem product_of_ok (T : Txt K mg) : C8.Cal P w K mg base 1 "product_of" (spProd K) [] := by
  refine cal T.f_d_product_of T.g_product_of sc_product_of (fun _ _ _ _ _ _ us hl => match us, hl with | [_], _ => rfl) (fun vs H Q E h => ?_) (fun cdv A outer s H vs Q E hr h => ?_)
  · obtain ⟨v, g, rfl, _⟩ := h
    rfl
  · obtain ⟨v, g, rfl, ⟨vs, ⟨a, rfl, ha⟩, hp⟩, hg, q⟩ := h
    have hlen := pairedP_len hp
    refine ⟨_, (pss_cons (ps_set (i := 1) sc_product_of.nd rfl (Or.inl rfl) pe_int)
 (pss_cons (ps_for PassesOwn.never rfl (pi_tupK K rfl (pv 0)) (by exact pg_2 (i := 2) (j := 3) K rfl rfl sc_product_of.nd rfl rfl (Or.inl rfl) (Or.inl rfl) (by first | exact .inl rfl | exact .inr rfl) (by first | exact .inl rfl | exact .inr rfl)) (pss_one (ps_set (i := 1) sc_product_of.nd rfl (Or.inl rfl) (pe_op op_mul (pv 1) (pv 2)))))
 (pss_one (ps_ret (pv 1))))), ?_⟩
    refine ⟨_, rfl, a, rfl, ⟨_, ha⟩, for_it walk_tup (fun i σ H' => H' = H ∧ ∃ x y, σ = [some (.ref a), some (.int (prodN (g.take i) : Nat)), x, y]) ⟨rfl, none, none, rfl⟩ (fun i σ H' _ ⟨e, _⟩ => by rw [e]; exact ha) ?_ ?_⟩
    · rintro i x σ H1 H2 hi ⟨rfl, y1, y2, rfl⟩ ⟨rfl, hx⟩
      obtain ⟨p, hpi, ⟨sv, ⟨c, rfl, hc⟩, _⟩⟩ := pairedP_to hp hx
      have hpo := hg.at_ hpi
      have l1 := hpo.lo
      have l2 := hpo.hi
      obtain ⟨b1, b2⟩ := part_prod hg (i := i) (by omega)
      refine ⟨c, _, rfl, hc, rfl, _, _, rfl, _, _, rfl, rfl, ?_⟩
      refine ⟨_, rfl, _, rfl, _, _, rfl, rfl, .inr ⟨by omega, by omega⟩, ⟨rfl, some (.int p.per), some sv, ?_⟩⟩
      rw [prod_succ hpi]
      have e : ((prodN (g.take i) * p.per.toNat : Nat) : Int) = (prodN (g.take i) : Int) * p.per := by
        rw [Int.natCast_mul, Int.toNat_of_nonneg (by omega)]
      rw [e]
      rfl
    · rintro σ H1 ⟨rfl, y1, y2, rfl⟩
      refine ⟨_, rfl, ?_⟩
      rw [hlen, List.take_length]
      exact q
def spFew (K : PySem.W.Frag) : Sp := fun vs H Q _ => ∃ v g, vs = [v] ∧ GrV K H v g ∧ FewOk g ∧ Q .non H
theorem sc_need_few : FnScope ["group", "many"] ["group"] (defScope d_need_few) := ⟨rfl, rfl, rfl, by decide +kernel, rfl, by decide +kernel, by decide +kernel⟩
theorem need_few_ok (T : Txt K mg) : C8.Cal P w K mg base 5 "need_few" (spFew K) [] := by
  refine cal T.f_d_need_few T.g_need_few sc_need_few (fun _ _ _ _ _ _ us hl => match us, hl with | [_], _ => rfl) (fun vs H Q E h => ?_) (fun cdv A outer s H vs Q E hr h => ?_)
  · obtain ⟨v, g, rfl, _⟩ := h
    rfl
  · obtain ⟨v, g, rfl, hv, hg, q⟩ := h
    have p0 := span_pos hg.ok
    have p1 := hg.span
    have p2 := hg.few
    refine ⟨_, (pss_cons (ps_expr (C8.pe_c (need_span_ok T) hr (by decide) rfl (pa_cons (pv 0) pa_nil)))
 (pss_cons (ps_set (i := 1) sc_need_few.nd rfl (Or.inl rfl) (pe_op op_fdiv (C8.pe_c (product_of_ok T) hr (by decide) rfl (pa_cons (pv 0) pa_nil)) (C8.pe_c (span_of_ok T) hr (by decide) rfl (pa_cons (pv 0) pa_nil))))
 (pss_one (ps_if (pt_cmpR op_gt (pv 1) (pe_ig T.c_MOST_CLASSES rfl) (nomark _)) (pss_one ps_never) pss_nil)))), ?_⟩
    refine ⟨_, rfl, v, g, rfl, hv, hg.ok, hg.span, ?_⟩
    refine ⟨_, rfl, v, g, rfl, hv, hg.ok, _, rfl, v, g, rfl, hv, hg.ok, _, _, rfl, rfl, ⟨by omega, by omega⟩, ?_⟩
    refine ⟨_, rfl, _, _, rfl, rfl, false, congrArg V.bl (decide_eq_false ?_), q⟩
    rw [← Int.natCast_ediv]
    omega
def spSpanG (K : PySem.W.Frag) : Sp := fun vs H Q _ => ∃ v g, vs = [v] ∧ GrV K H v g ∧ GrpOk g ∧ ∀ H', Same H H' → Q (.int (spanN g : Nat)) H'
theorem sc_span : FnScope ["group"] ["group"] (defScope d_span) := ⟨rfl, rfl, rfl, by decide +kernel, rfl, by decide +kernel, by decide +kernel⟩
theorem span_ok (T : Txt K mg) : C8.Cal P w K mg base 7 "span" (spSpanG K) [] := by
  refine cal T.f_d_span T.g_span sc_span (fun _ _ _ _ _ _ us hl => match us, hl with | [_], _ => rfl) (fun vs H Q E h => ?_) (fun cdv A outer s H vs Q E hr h => ?_)
  · obtain ⟨v, g, rfl, _⟩ := h
    rfl
  · obtain ⟨v, g, rfl, hv, hg, q⟩ := h
    refine ⟨_, (pss_cons (ps_expr (C8.pe_c (need_group_ok T) hr (by decide) rfl (pa_cons (pv 0) pa_nil)))
 (pss_one (ps_ret (C8.pe_c (span_of_ok T) hr (by decide) rfl (pa_cons (pv 0) pa_nil))))), ?_⟩
    exact ⟨_, rfl, v, g, rfl, hv, hg, fun H1 e => ⟨_, rfl, v, g, rfl, hv.m e, hg, q H1 e⟩⟩
end
end A72

set_option Elab.async false
set_option linter.all false
set_option maxRecDepth 100000
set_option maxHeartbeats 4000000
/-! anyshift.groups.classes_of -/
namespace A72
open PySem PySem.Spec PyProof.Rows L2
/-- a loop over a walk, whatever its turn asks -/
theorem w_core {J : It} {n : Nat} {G : Hp → Prop} {Y : Nat → Hp → V → Hp → Prop} (w : Walk J n G Y) {B : V → Hp → (Hp → Prop) → Prop} {Hs : Hp} {Qd : Hp → Prop} (Pv : Nat → Hp → Prop) (h0 : Pv 0 Hs) (hG : ∀ i H, i ≤ n → Pv i H → G H)
    (body : ∀ i x H H', i < n → Pv i H → Y i H x H' → B x H' (Pv (i + 1))) (hd : ∀ H, Pv n H → Qd H) :
    ∃ W : Nat → Nat → Hp → Prop, (∃ m, W 0 m Hs) ∧ ∀ i m H, W i m H → (J.stop i H ∧ Qd H) ∨ (J.go i H ∧ ∃ Nx : Hp → Prop, (∀ H', Nx H' → ∃ m', m' < m ∧ W (i + 1) m' H') ∧ ∀ x H', J.yld i H x H' → B x H' Nx) := by
  refine ⟨fun i m H => m = n - i ∧ i ≤ n ∧ Pv i H, ⟨n, by simp, Nat.zero_le _, h0⟩, ?_⟩
  rintro i m H ⟨rfl, hi, p⟩
  have q := hG i H hi p
  by_cases hlt : i < n
  · exact .inr ⟨w.goes i H hlt q, Pv (i + 1), fun H' p' => ⟨n - (i + 1), by omega, rfl, hlt, p'⟩, fun x H' y => body i x H H' hlt p (w.yields i H x H' hlt q y)⟩
  · have e : i = n := by omega
    subst e
    exact .inl ⟨w.stops H q, hd H p⟩
def ext (m : Nat) (row : List Int) : List (List Int) := (List.range m).map fun o => row ++ [((o : Nat) : Int)]
def clsStep (st : List (List Int) × Nat) (p : Pat) : List (List Int) × Nat := (st.1.flatMap (ext (Nat.gcd st.2 p.per.toNat)), Nat.lcm st.2 p.per.toNat)
def clsS (g : Grp) : List (List Int) × Nat := g.foldl clsStep ([[]], 1)
/-- all classes, ascending -/
def clsN (g : Grp) : List (List Int) := (clsS g).1
theorem clsS_succ {g : Grp} {i : Nat} {p : Pat} (h : g[i]? = some p) : clsS (g.take (i + 1)) = clsStep (clsS (g.take i)) p := by
  unfold clsS
  rw [take_snoc h, List.foldl_append] <;> rfl
theorem cls_span : ∀ (g : Grp) (st : List (List Int) × Nat), (g.foldl clsStep st).2 = g.foldl (fun m p => Nat.lcm m p.per.toNat) st.2
  | [], _ => rfl
  | p :: g, st => cls_span g (clsStep st p)
theorem clsS_span (g : Grp) : (clsS g).2 = spanN g := cls_span g _
theorem ext_len (m : Nat) (row : List Int) : (ext m row).length = m := by
  unfold ext
  rw [List.length_map, List.length_range]
theorem flat_len (m : Nat) : ∀ rows : List (List Int), (rows.flatMap (ext m)).length = rows.length * m
  | [] => by simp
  | r :: rows => by
    rw [List.flatMap_cons, List.length_append, ext_len, flat_len m rows, List.length_cons, Nat.succ_mul, Nat.add_comm]
theorem cls_len : ∀ (g : Grp) (st : List (List Int) × Nat), (∀ p ∈ g, PatOk p) → (g.foldl clsStep st).1.length ≤ st.1.length * 60 ^ g.length
  | [], st, _ => by simp
  | p :: g, st, hp => by
    have h1 := (hp p (List.mem_cons_self ..)).lo
    have h2 := (hp p (List.mem_cons_self ..)).hi
    have ih := cls_len g (clsStep st p) fun q hq => hp q (List.mem_cons_of_mem _ hq)
    have e : (clsStep st p).1.length ≤ st.1.length * 60 := by
      show (st.1.flatMap (ext (Nat.gcd st.2 p.per.toNat))).length ≤ _
      rw [flat_len]
      refine Nat.mul_le_mul_left _ (Nat.le_trans (Nat.gcd_le_right _ (by omega)) (by omega))
    rw [List.length_cons, Nat.pow_succ, Nat.mul_comm (60 ^ g.length) 60, ← Nat.mul_assoc]
    exact Nat.le_trans ih (Nat.mul_le_mul_right _ e)
theorem clsN_len {g : Grp} (hg : GrpOk g) (i : Nat) : (clsS (g.take i)).1.length ≤ 12960000 := by
  have := hg.hi
  have h := cls_len (g.take i) ([[]], 1) fun p hp => hg.ok p (List.mem_of_mem_take hp)
  refine Nat.le_trans h ?_
  show 1 * 60 ^ (g.take i).length ≤ _
  rw [Nat.one_mul, List.length_take]
  exact Nat.le_trans (Nat.pow_le_pow_right (by decide) (show min i g.length ≤ 4 by omega)) (by decide)
theorem flat_snoc {rows : List (List Int)} {i : Nat} {row : List Int} {f : List Int → List (List Int)} (h : rows[i]? = some row) : (rows.take (i + 1)).flatMap f = (rows.take i).flatMap f ++ f row := by
  rw [take_snoc h, List.flatMap_append] <;> simp
theorem ext_snoc {m : Nat} {row : List Int} {j : Nat} (h : j < m) : (ext m row).take (j + 1) = (ext m row).take j ++ [row ++ [(j : Int)]] := by
  refine take_snoc ?_
  unfold ext
  rw [List.getElem?_map, List.getElem?_range h] <;> rfl
theorem paired_app {α β : Type} {F : α → β → Prop} {as cs : List α} {bs ds : List β} (h : Paired F as bs) (q : Paired F cs ds) : Paired F (as ++ cs) (bs ++ ds) := by
  induction h with
  | nil => exact q
  | cons a r ih => exact .cons a ih
theorem paired_s {K : PySem.W.Frag} {S : List Addr} {H H' : Hp} {vs : List V} {rows : List (List Int)} (h : Paired (IV K H) vs rows) (e : Stp S H H') : Paired (IV K H') vs rows := Paired.mapP h fun _ _ z => TV.s z e
theorem cls_width : ∀ (g : Grp) (st : List (List Int) × Nat) (n : Nat), (∀ r ∈ st.1, r.length = n) → ∀ r ∈ (g.foldl clsStep st).1, r.length = n + g.length
  | [], st, n, h, r, hr => h r hr
  | p :: g, st, n, h, r, hr => by
    have z := cls_width g (clsStep st p) (n + 1) (fun q hq => by
      have hq' : q ∈ st.1.flatMap (ext (Nat.gcd st.2 p.per.toNat)) := hq
      obtain ⟨row, h1, h2⟩ := List.mem_flatMap.mp hq'
      unfold ext at h2
      obtain ⟨o, _, e⟩ := List.mem_map.mp h2
      rw [← e, List.length_append, h row h1, List.length_singleton]) r hr
    rw [z, List.length_cons]
    omega
theorem clsN_width {g : Grp} {r : Nat} {row : List Int} (h : (clsS g).1[r]? = some row) : row.length = g.length := by
  have z := cls_width g ([[]], 1) 0 (fun r hr => by rw [List.mem_singleton.mp hr] <;> rfl) row (List.mem_of_getElem? h)
  omega
section
variable {P : Program} {w : World} {K : PySem.W.Frag} {mg : Str → Option Value} {base : Heap}
def spCls (K : PySem.W.Frag) : Sp := fun vs H Q _ => ∃ v g, vs = [v] ∧ GrV K H v g ∧ GrpOk g ∧ ∀ H' p ws, Same H H' → H' p = some (.lst ws) → Paired (IV K H') ws (clsN g) → Q (.ref p) H'
theorem sc_classes_of : FnScope ["group", "found", "multiple", "period", "slots", "many", "row", "offset"] ["group"] (defScope d_classes_of) := ⟨rfl, rfl, rfl, by decide +kernel, rfl, by decide +kernel, by decide +kernel⟩
theorem classes_of_ok (T : Txt K mg) : C8.Cal P w K mg base 3 "classes_of" (spCls K) [] := by
  refine cal T.f_d_classes_of T.g_classes_of sc_classes_of (fun _ _ _ _ _ _ us hl => match us, hl with | [_], _ => rfl) (fun vs H Q E h => ?_) (fun cdv A outer s H vs Q E hr h => ?_)
  · obtain ⟨v, g, rfl, _⟩ := h
    rfl
  · obtain ⟨v, g, rfl, ⟨vs, ⟨a, rfl, ha⟩, hp⟩, hg, q⟩ := h
    have hlen := pairedP_len hp
    refine ⟨_, (pss_cons (ps_par (i := 1) (j := 2) rfl sc_classes_of.nd rfl rfl (by decide) rfl rfl (pa_cons (pe_lst (pa_cons (pe_tup pa_nil) pa_nil)) (pa_cons pe_int pa_nil)) (by rfl))
 (pss_cons (ps_for PassesOwn.never rfl (pi_tupK K rfl (pv 0)) (by exact pg_2 (i := 3) (j := 4) K rfl rfl sc_classes_of.nd rfl rfl (Or.inl rfl) (Or.inl rfl) (by first | exact .inl rfl | exact .inr rfl) (by first | exact .inl rfl | exact .inr rfl)) (pss_cons (ps_set (i := 5) sc_classes_of.nd rfl (Or.inr rfl) (C8.pe_c (divisor_ok T) hr (by decide) rfl (pa_cons (pv 2) (pa_cons (pv 3) pa_nil))))
 (pss_cons (ps_setLc2 (i := 1) (own := [("row", 6), ("offset", 7)]) (g := gName 6) (g1 := gName 7) (vs1 := [7]) (by rfl) sc_classes_of.nd rfl rfl (sw_true rfl rfl rfl (by decide +kernel)) (pi_listK K rfl (pv 1)) (blkOk_by (N := ["group", "found", "multiple", "period", "slots", "many", "row", "offset"]) (sc := defScope d_classes_of) (by decide +kernel)) (by decide) (fun _ _ _ _ _ => (pg_name (i := 6) sc_classes_of.nd rfl (Or.inl rfl))) (fun _ _ _ _ _ => pts_nil) (fun _ _ _ _ _ => (pi_range1 rfl T.b_range (pa_cons (pv 5) pa_nil))) (fun _ _ _ _ _ => (pg_name (i := 7) sc_classes_of.nd rfl (Or.inl rfl))) (fun _ _ _ _ _ => pts_nil) (fun _ _ _ _ _ => (pe_tup (star_K K rfl (pv 6) (pa_cons (pv 7) pa_nil)))))
 (pss_one (ps_set (i := 2) sc_classes_of.nd rfl (Or.inl rfl) (C8.pe_c (common_multiple_ok T) hr (by decide) rfl (pa_cons (pv 2) (pa_cons (pv 3) pa_nil))))))))
 (pss_one (ps_ret (pv 1))))), ?_⟩
    refine ⟨by show 0 ≤ sizeLine; exact Nat.zero_le _, fun t ht => ⟨by show 1 ≤ sizeLine; rw [sizeLine_eq]; decide, fun L hL => ⟨_, _, rfl, ?_⟩⟩⟩
    have ntL : t ≠ L := fun z => by
      rw [← z, upd_same] at hL
      cases hL
    have eA : Same H (upd (upd H t (.tup [])) L (.lst [.ref t])) := (Same.new ht).trans (Same.new hL)
    refine ⟨_, rfl, a, rfl, ⟨_, eA.t ha⟩, for_it walk_tup (fun i σ H' => Same H H' ∧ ∃ L ws x1 x2 x3, H' L = some (.lst ws) ∧ Paired (IV K H') ws (clsS (g.take i)).1 ∧
      σ = [some (.ref a), some (.ref L), some (.int (spanN (g.take i) : Nat)), x1, x2, x3, none, none]) ?_ (fun i σ H' _ ⟨e, _⟩ => e.t ha) ?_ ?_⟩
    · refine ⟨eA, L, [.ref t], none, none, none, upd_same, ?_, rfl⟩
      exact .cons ⟨t, rfl, SqT.of (by rw [upd_ne ntL, upd_same]; rfl)⟩ .nil
    · rintro i x σ H1 H2 hi ⟨e1, L, ws, x1, x2, x3, hL1, hws, rfl⟩ ⟨rfl, hx⟩
      obtain ⟨p, hpi, pv⟩ := pairedP_to hp hx
      obtain ⟨sv, ⟨c, rfl, hc⟩, _⟩ := pv.m e1
      have hpo := hg.at_ hpi
      have l1 := hpo.lo
      have l2 := hpo.hi
      have hi' : i < g.length := by omega
      obtain ⟨b1, b2⟩ := part_span hg hi'
      have hper : ((p.per.toNat : Nat) : Int) = p.per := Int.toNat_of_nonneg (by omega)
      refine ⟨c, _, rfl, hc, rfl, _, _, rfl, _, _, rfl, rfl, ?_⟩
      refine ⟨_, rfl, _, rfl, spanN (g.take i), p.per.toNat, by rw [hper]; rfl, ?_⟩
      generalize hm : Nat.gcd (spanN (g.take i)) p.per.toNat = m
      have hm1 : m ≤ 60 := by
        rw [← hm]
        exact Nat.le_trans (Nat.gcd_le_right _ (by omega)) (by omega)
      refine ⟨_, rfl, L, rfl, ⟨_, SqL.of hL1⟩, fun D hD => w_core walk_list (fun r H' => ∃ acc, Same H2 H' ∧ H' D = some (.lst acc) ∧ Paired (IV K H') acc (((clsS (g.take i)).1.take r).flatMap (ext m)))
        ⟨[], Same.new hD, upd_same, .nil⟩ (fun r H' _ ⟨acc, e, _⟩ => e.l (SqL.of hL1)) ?_ ?_⟩
      · rintro r y H3 H4 hr' ⟨acc, e3, hD3, hacc⟩ ⟨rfl, hy⟩
        obtain ⟨row, hrow, hyr⟩ := paired_at hws hy
        obtain ⟨d, rfl, hd⟩ := TV.m hyr e3
        refine ⟨rfl, _, rfl, _, rfl, by omega, by omega, w_core (walk_range (n := ((m : Nat) : Int).toNat)) (fun j H' => ∃ acc, Same H2 H' ∧ H' D = some (.lst acc) ∧ Paired (IV K H') acc (((clsS (g.take i)).1.take r).flatMap (ext m) ++ (ext m row).take j))
          ⟨acc, e3, hD3, by rw [List.take_zero, List.append_nil]; exact hacc⟩ (fun _ _ _ _ => trivial) ?_ ?_⟩
        · rintro j z H5 H6 hj ⟨acc5, e5, hD5, hacc5⟩ ⟨rfl, rfl⟩
          have hd5 : SqT K H6 d (row.map V.int) := e5.t (by
            obtain ⟨d', ed, hd'⟩ := hyr
            cases ed
            exact hd')
          have hjm : j < m := by omega
          refine ⟨rfl, _, rfl, d, _, rfl, .inl hd5, _, rfl, ?_, fun t6 ht6 => ?_⟩
          · refine Nat.le_trans (m := 1000) ?_ (by rw [sizeLine_eq]; decide)
            have hrl := clsN_width hrow
            rw [List.length_take] at hrl
            have := hg.hi
            show (row.map V.int ++ [V.int (0 + (j : Int))]).length ≤ 1000
            rw [List.length_append, List.length_map, List.length_singleton]
            omega
          · have nD6 : D ≠ t6 := ne_of_none hD5 ht6
            refine ⟨acc5, by rw [upd_ne nD6]; exact hD5, ?_, ?_⟩
            · have hwl : ws.length = (clsS (g.take i)).1.length := Paired.length hws
              have h1 := clsN_len hg (i + 1)
              rw [clsS_succ hpi] at h1
              have h2 : (clsStep (clsS (g.take i)) p).1.length = (clsS (g.take i)).1.length * m := by
                show ((clsS (g.take i)).1.flatMap (ext (Nat.gcd (clsS (g.take i)).2 p.per.toNat))).length = _
                rw [flat_len, clsS_span, hm]
              have h3 := Paired.length hacc5
              rw [List.length_append, flat_len, List.length_take, List.length_take, ext_len] at h3
              have h4 : min r (clsS (g.take i)).1.length * m ≤ (clsS (g.take i)).1.length * m := Nat.mul_le_mul_right _ (Nat.min_le_right _ _)
              rw [sizeLine_eq]
              omega
            · refine ⟨_, ((e5.trans (Same.new ht6)).up hD), upd_same, ?_⟩
              have s6 : Stp [D] (upd H6 t6 (.tup ((row.map V.int) ++ [.int (0 + (j : Int))]))) (upd (upd H6 t6 (.tup ((row.map V.int) ++ [.int (0 + (j : Int))]))) D (.lst (acc5 ++ [.ref t6]))) := Stp.upd (by rw [upd_ne nD6]; exact hD5) rfl (List.mem_singleton.mpr rfl)
              rw [ext_snoc hjm, ← List.append_assoc]
              refine paired_app (paired_s (paired_s hacc5 (Stp.new (S := []) ht6)) s6) (.cons ⟨t6, rfl, s6.t (SqT.of ?_)⟩ .nil)
              rw [upd_same, List.map_append, Int.zero_add]
              rfl
        · rintro H5 ⟨acc5, e5, hD5, hacc5⟩
          refine ⟨acc5, e5, hD5, ?_⟩
          rw [flat_snoc hrow]
          have et : (ext m row).take ((m : Nat) : Int).toNat = ext m row := List.take_of_length_le (by rw [ext_len]; omega)
          rw [et] at hacc5
          exact hacc5
      · rintro H3 ⟨acc, e3, hD3, hacc⟩
        have hwl : ws.length = (clsS (g.take i)).1.length := Paired.length hws
        rw [hwl, List.take_length] at hacc
        refine ⟨_, rfl, _, rfl, spanN (g.take i), p.per.toNat, by rw [hper]; rfl, ⟨b1, b2⟩, ⟨by omega, by omega⟩, ?_⟩
        refine ⟨e1.trans e3, D, acc, some (.int p.per), some sv, some (.int m), hD3, ?_, ?_⟩
        · rw [clsS_succ hpi]
          show Paired (IV K H3) acc ((clsS (g.take i)).1.flatMap (ext (Nat.gcd (clsS (g.take i)).2 p.per.toNat)))
          rw [clsS_span, hm]
          exact hacc
        · rw [span_succ hpi]
          rfl
    · rintro σ H1 ⟨e1, L, ws, x1, x2, x3, hL1, hws, rfl⟩
      refine ⟨_, rfl, q H1 L ws e1 hL1 ?_⟩
      rw [hlen, List.take_length] at hws
      exact hws
end
end A72

set_option Elab.async false
set_option linter.all false
set_option maxRecDepth 100000
set_option maxHeartbeats 4000000
/-! Rules over sequences of ints: ==, !=; a tuple made whole (for its methods). -/
namespace A72
open PySem PySem.Spec PyProof.Rows L2
/-- a list of these ints -/
abbrev LV (K : PySem.W.Frag) (H : Hp) (v : V) (ns : List Int) : Prop := ∃ a, v = .ref a ∧ SqL K H a (ns.map V.int)
theorem eqv_ints : ∀ ns ms : List Int, PyData.eqvAll (ns.map PyData.int) (ms.map PyData.int) = decide (ns = ms)
  | [], [] => by simp [PyData.eqvAll]
  | [], _ :: _ => by simp [PyData.eqvAll]
  | _ :: _, [] => by simp [PyData.eqvAll]
  | a :: r, b :: t => by
    simp only [List.map_cons, PyData.eqvAll, PyData.eqv, eqv_ints r t]
    by_cases h : a = b <;> by_cases h' : r = t <;> simp [h, h']
theorem shaped_tup (ns : List Int) : SeqAt.shaped (.tuple (ns.map PyData.int)) = true := by
  simp [SeqAt.shaped, PyData.canLay0, PyData.depth, PySem.W.ke_canLayAll0, PySem.W.ke_depthAll]
def rEqT (K : PySem.W.Frag) : R2 := fun x y H Q => ∃ ns ms, IV K H x ns ∧ IV K H y ms ∧ Q (.bl (decide (ns = ms))) H
def rNeT (K : PySem.W.Frag) : R2 := fun x y H Q => ∃ ns ms, IV K H x ns ∧ IV K H y ms ∧ Q (.bl (!decide (ns = ms))) H
def rEqL (K : PySem.W.Frag) : R2 := fun x y H Q => ∃ ns ms, LV K H x ns ∧ LV K H y ms ∧ Q (.bl (decide (ns = ms))) H
def rNeL (K : PySem.W.Frag) : R2 := fun x y H Q => ∃ ns ms, LV K H x ns ∧ LV K H y ms ∧ Q (.bl (!decide (ns = ms))) H
theorem LV.dp {K : PySem.W.Frag} {H : Hp} {v : V} {ns : List Int} (h : LV K H v ns) : Dp K H v (.list (ns.map .int)) := by
  obtain ⟨a, rfl, t⟩ := h
  exact .lst t (dp_ints ns)
section
variable {X : Cx} (K : PySem.W.Frag) (h : X.K = K)
include h
theorem eqT_K (hu : X.A.units + 64 < cLine) : OpR X (compareOp .Eq) (rEqT K) := fun pins s σ H x y v u Q I rx ry ⟨ns, ms, a, b, q⟩ =>
  eqD_K K h hu pins s σ H x y v u Q I rx ry ⟨_, _, IV.dp a, IV.dp b, shaped_tup _, shaped_tup _, by
    rw [show PyData.eqv (.tuple (ns.map PyData.int)) (.tuple (ms.map PyData.int)) = decide (ns = ms) from eqv_ints ns ms]
    exact q⟩
theorem neT_K (hu : X.A.units + 64 < cLine) : OpR X (compareOp .NotEq) (rNeT K) := fun pins s σ H x y v u Q I rx ry ⟨ns, ms, a, b, q⟩ =>
  neD_K K h hu pins s σ H x y v u Q I rx ry ⟨_, _, IV.dp a, IV.dp b, shaped_tup _, shaped_tup _, by
    rw [show PyData.eqv (.tuple (ns.map PyData.int)) (.tuple (ms.map PyData.int)) = decide (ns = ms) from eqv_ints ns ms]
    exact q⟩
theorem eqL_K (hu : X.A.units + 64 < cLine) : OpR X (compareOp .Eq) (rEqL K) := fun pins s σ H x y v u Q I rx ry ⟨ns, ms, a, b, q⟩ =>
  eqD_K K h hu pins s σ H x y v u Q I rx ry ⟨_, _, LV.dp a, LV.dp b, PySem.W.ke_shaped_ints _, PySem.W.ke_shaped_ints _, by
    rw [show PyData.eqv (.list (ns.map PyData.int)) (.list (ms.map PyData.int)) = decide (ns = ms) from eqv_ints ns ms]
    exact q⟩
theorem neL_K (hu : X.A.units + 64 < cLine) : OpR X (compareOp .NotEq) (rNeL K) := fun pins s σ H x y v u Q I rx ry ⟨ns, ms, a, b, q⟩ =>
  neD_K K h hu pins s σ H x y v u Q I rx ry ⟨_, _, LV.dp a, LV.dp b, PySem.W.ke_shaped_ints _, PySem.W.ke_shaped_ints _, by
    rw [show PyData.eqv (.list (ns.map PyData.int)) (.list (ms.map PyData.int)) = decide (ns = ms) from eqv_ints ns ms]
    exact q⟩
end
/-- a plain tuple's object -/
def PlainT (o : Obj) : Prop := o.cls = .type "tuple" ∧ o.dict = none
/-- tuple(l): its object known -/
def rTupF (K : PySem.W.Frag) : List V → Hp → VK → Prop := fun xs H Q => ∃ p ys, xs = [.ref p] ∧ SqL K H p ys ∧ ∀ l o, H l = none → PlainT o → Q (.ref l) (upd H l (.frz o (.tup ys)))
theorem upd_eq2 {H : Hp} {l : Addr} {o u : HO} : upd (upd H l o) l u = upd H l u := by
  funext b
  by_cases e : b = l
  · rw [e, upd_same, upd_same]
  · rw [upd_ne e, upd_ne e, upd_ne e]
section
variable {X : Cx} (K : PySem.W.Frag) (h : X.K = K)
include h
theorem tupF_K : CallR X (.type "tuple") (rTupF K) := by
  subst h
  intro pins s σ H xs us Q I r h
  obtain ⟨p, ys, rfl, hq, q⟩ := h
  obtain ⟨u, rfl, rx⟩ := vals1 r
  cases rx
  obtain ⟨its, r', pl, hz⟩ := I.list hq
  have hlen := r'.length
  refine call_tuple_list pl.isList (fun h' kp => ?_) (by simp only [List.size_toArray] <;> omega)
  have I1 : Inv X pins σ H { s with heap := h' } := I.kept (t' := s.toks) kp
  have hT : ∀ H2 : Hp, ObjOk X.prog X.w H2 (h'.push { cls := .type "tuple", data := .seq its.toArray }) h'.objs.size (.tup ys) := fun H2 => ⟨hz, its, r', IsTup.new _ _⟩
  have hg : (h'.push { cls := .type "tuple", data := .seq its.toArray }).get? h'.objs.size = some { cls := .type "tuple", data := .seq its.toArray } := Heap.get?_push_size _ rfl
  have I2 : Inv X pins σ (upd H h'.objs.size (.frz { cls := .type "tuple", data := .seq its.toArray } (.tup ys))) { s with heap := h'.push { cls := .type "tuple", data := .seq its.toArray } } :=
    I1.laid (t' := s.toks) (fun b o e => Heap.get?_push_of_some _ e) (Nat.le_refl _) (show ObjOk X.prog X.w _ _ _ (.frz _ (.tup ys)) from ⟨hg, hT _⟩)
  exact ⟨.ref h'.objs.size, _, I2, rfl, q _ _ (I1.hok.fresh (Nat.le_refl _)) ⟨rfl, rfl⟩⟩
end
/-- a tuple whose object is plain -/
def FzV (H : Hp) (v : V) (xs : List V) : Prop := ∃ a o, v = .ref a ∧ H a = some (.frz o (.tup xs)) ∧ PlainT o
theorem FzV.s {S : List Addr} {H H' : Hp} {v : V} {xs : List V} (h : FzV H v xs) (e : Stp S H H') : FzV H' v xs := let ⟨a, o, q, t, p⟩ := h; ⟨a, o, q, e.tu _ _ t rfl, p⟩
theorem FzV.m {H H' : Hp} {v : V} {xs : List V} (h : FzV H v xs) (e : Same H H') : FzV H' v xs := h.s (Same.stp (S := []) e)
theorem FzV.tv {K : PySem.W.Frag} {H : Hp} {v : V} {xs : List V} (h : FzV H v xs) : TV K H v xs := let ⟨a, o, q, t, p⟩ := h; ⟨a, q, .inl (.inr ⟨o, t⟩)⟩
def tFM (r : V → List V → Hp → VK → Prop) (to : TE) (t : TA) : TE := fun σ H Q => to σ H fun x H1 => (∃ xs, FzV H1 x xs) ∧ t σ H1 fun xs H2 => r x xs H2 Q
section
variable {X : Cx} {o e : Expr} {es : List Expr} {to : TE} {t : TA} {name : Str} {apos cpos : Pos} {T id : String} {r : V → List V → Hp → VK → Prop}
/-- t.m(e, ..), t a plain tuple -/
theorem pe_fm (pa : PlainAttrs "tuple") (slot : Slot "tuple" name id) (hty : typeOf (.builtin id) = pure (.type "method_descriptor")) (hm : MtR X id r) (ho : PE X o to) (ha : PA X (e :: es) t)
    (hbase : attributeBase o name X.env (eval o X.env) = eval o X.env := by rfl)
    (hfew : ((backTo cpos (starEach (e :: es) X.env)).all (fun x => !x.1) && (backToKw cpos (keywordEach [] X.env)).all (fun x => x.1.isSome)
      && decide ((e :: es).length + ([] : List Keyword).length + (if ([] : List Keyword).isEmpty then 0 else 1) < 30)) = true := by rfl)
    (hline : (apos.endLine == cpos.line) = true := by rfl) (hs : starEach (e :: es) X.env = (false, eval e X.env) :: starEach es X.env := by rfl) (hplain : (backTo cpos (starEach es X.env)).any (·.1) = false := by rfl) :
    PE X (.Call (.Attribute o name apos) (e :: es) [] cpos) (tFM r to t) := by
  refine ⟨fun pins s σ H Q I h => ?_⟩
  refine wpAny_Call_method_late hbase hfew hline rfl (thn (ho.run pins s σ H _ I h) fun v s1 ⟨x, H1, I1, r1, ⟨xs, a, ob, ex, hx, hc, hd⟩, q1⟩ => ?_)
  subst ex
  obtain rfl : v = Value.ref a := r1
  have hg : s1.heap.get? a = some ob := (I1.hok a _ hx).1
  refine ⟨"tuple", id, pa, slot, hty, ⟨ob, hg, hc⟩, fun b eb => by cases eb; exact ⟨ob, hg, hd⟩, ?_⟩
  have hA := ha.run cpos pins s1 σ H1 _ I1 q1
  rw [hs] at hA ⊢
  refine Calls.callWith_builtin (by show (false || (backTo cpos (starEach es X.env)).any (·.1)) = false; rw [hplain] <;> rfl) (Calls.evalArgs_plain ?_)
  exact thn hA fun us s2 ⟨vs, H2, I2, r2, q2⟩ => hm pins s2 σ H2 (.ref a) vs (.ref a) us Q I2 rfl r2 q2
/-- row.count(e), row a plain tuple of ints -/
theorem pe_tcount (K : PySem.W.Frag) (h : X.K = K) (ho : PE X o to) (ha : PA X [e] t)
    (hbase : attributeBase o "count" X.env (eval o X.env) = eval o X.env := by rfl)
    (hfew : ((backTo cpos (starEach [e] X.env)).all (fun x => !x.1) && (backToKw cpos (keywordEach [] X.env)).all (fun x => x.1.isSome)
      && decide (([e] : List Expr).length + ([] : List Keyword).length + (if ([] : List Keyword).isEmpty then 0 else 1) < 30)) = true := by rfl)
    (hline : (apos.endLine == cpos.line) = true := by rfl) (hs : starEach [e] X.env = (false, eval e X.env) :: starEach [] X.env := by rfl) (hplain : (backTo cpos (starEach [] X.env)).any (·.1) = false := by rfl) :
    PE X (.Call (.Attribute o "count" apos) [e] [] cpos) (tFM (rCntT K) to t) := pe_fm PySem.F.plainAttrs_tuple PySem.F.slot_tuple_count PySem.F.type_tuple_count (tcount_K K h) ho ha hbase hfew hline hs hplain
/-- l.count(e), l a list of ints -/
theorem pe_lcount (K : PySem.W.Frag) (h : X.K = K) (ho : PE X o to) (ha : PA X [e] t)
    (hbase : attributeBase o "count" X.env (eval o X.env) = eval o X.env := by rfl)
    (hfew : ((backTo cpos (starEach [e] X.env)).all (fun x => !x.1) && (backToKw cpos (keywordEach [] X.env)).all (fun x => x.1.isSome)
      && decide (([e] : List Expr).length + ([] : List Keyword).length + (if ([] : List Keyword).isEmpty then 0 else 1) < 30)) = true := by rfl)
    (hline : (apos.endLine == cpos.line) = true := by rfl) (hs : starEach [e] X.env = (false, eval e X.env) :: starEach [] X.env := by rfl) (hplain : (backTo cpos (starEach [] X.env)).any (·.1) = false := by rfl) :
    PE X (.Call (.Attribute o "count" apos) [e] [] cpos) (tBM K "list" (rCntI K) to t) := by
  subst h
  exact pe_bm PySem.F.plainAttrs_list PySem.F.slot_list_count PySem.F.type_list_count mt_lcount ho ha hbase hfew hline hs hplain
end
/-- an int where the tree writes a list's place -/
theorem atI_nat {xs : List V} {i : Nat} {v : V} (h : xs[i]? = some v) : atI xs (i : Int) = some v := by
  have hi := (List.getElem?_eq_some_iff.mp h).1
  unfold atI ixN
  rw [if_pos (by omega), if_pos (by omega)]
  exact h
theorem atI_last {xs : List V} {v : V} : atI (xs ++ [v]) (-1) = some v := by
  unfold atI ixN
  have e : (xs ++ [v]).length = xs.length + 1 := by rw [List.length_append, List.length_singleton]
  rw [if_neg (by omega), if_pos (by omega)]
  show (xs ++ [v])[_]? = some v
  rw [show (-1 + ((xs ++ [v]).length : Int)).toNat = xs.length by omega, List.getElem?_append_right (Nat.le_refl _), Nat.sub_self] <;> rfl
end A72

set_option Elab.async false
set_option linter.all false
set_option maxRecDepth 100000
set_option maxHeartbeats 4000000
/-! anyshift.counts -/
namespace A72
open PySem PySem.Spec PyProof.Rows L2
/-- the senders below n that f names -/
def sndF (n : Nat) (f : Nat → Bool) : List Int := ((List.range n).filter f).map fun i => ((i : Nat) : Int)
theorem sndF_succ (n : Nat) (f : Nat → Bool) : sndF (n + 1) f = sndF n f ++ (if f n = true then [((n : Nat) : Int)] else []) := by
  unfold sndF
  rw [List.range_succ, List.filter_append, List.map_append]
  congr 1
  by_cases h : f n = true
  · rw [if_pos h, List.filter_cons_of_pos h] <;> rfl
  · rw [if_neg h, List.filter_cons_of_neg h] <;> rfl
theorem sndF_len (n : Nat) (f : Nat → Bool) : (sndF n f).length ≤ n := by
  unfold sndF
  rw [List.length_map]
  exact Nat.le_trans (List.length_filter_le _ _) (by rw [List.length_range]; exact Nat.le_refl _)
def kindOf : List Int → Int
  | [] => -1
  | [x] => x
  | _ => -2
def sendAt (g : Grp) (os : List Int) (t : Int) (i : Nat) : Bool := match g[i]?, os[i]? with
  | some p, some o => sendB p o t
  | _, _ => false
def heardAt (g : Grp) (os : List Int) (t : Int) : Int := kindOf (sndF g.length (sendAt g os t))
def heardRow (g : Grp) (os : List Int) : List Int := (List.range (spanN g)).map fun t => heardAt g os ((t : Nat) : Int)
def cnt (row : List Int) (k : Int) : Int := ((row.count k : Nat) : Int)
def cntL (row : List Int) (n : Nat) : List Int := cnt row (-1) :: ((List.range n).map fun i => cnt row ((i : Nat) : Int)) ++ [cnt row (-2)]
theorem heardRow_len (g : Grp) (os : List Int) : (heardRow g os).length = spanN g := by
  unfold heardRow
  rw [List.length_map, List.length_range]
/-- what a filtering comprehension has made -/
def MadeF (f : Nat → Bool) (i : Nat) (acc : List V) : Prop := acc = (sndF i f).map V.int
theorem MadeF.len {f : Nat → Bool} {i : Nat} {acc : List V} (h : MadeF f i acc) : acc.length ≤ i := by
  rw [h, List.length_map]
  exact sndF_len i f
theorem MadeF.yes {f : Nat → Bool} {i : Nat} {acc : List V} (h : MadeF f i acc) (e : f i = true) : MadeF f (i + 1) (acc ++ [.int ((i : Nat) : Int)]) := by
  unfold MadeF at h ⊢
  rw [sndF_succ, if_pos e, h, List.map_append] <;> rfl
theorem MadeF.no {f : Nat → Bool} {i : Nat} {acc : List V} (h : MadeF f i acc) (e : f i = false) : MadeF f (i + 1) acc := by
  unfold MadeF at h ⊢
  rw [sndF_succ, if_neg (by rw [e]; exact Bool.false_ne_true), h, List.append_nil]
theorem getD_int {os : List Int} {i : Nat} (h : i < os.length) : ∃ o, os[i]? = some o := ⟨os[i], List.getElem?_eq_getElem h⟩
theorem range_at {n i : Nat} (h : i < n) : (List.range n)[i]? = some i := by
  rw [List.getElem?_range h]
section
variable {P : Program} {w : World} {K : PySem.W.Frag} {mg : Str → Option Value} {base : Heap}
def spSend (K : PySem.W.Frag) : Sp := fun vs H Q _ => ∃ v u g os t, vs = [v, u, .int t] ∧ GrV K H v g ∧ IV K H u os ∧ GrpOk g ∧ os.length = g.length ∧ ∀ H' x, Same H H' → LV K H' x (sndF g.length (sendAt g os t)) → Q x H'
theorem sc_senders_at : FnScope ["group", "offsets", "tick", "who", "pattern"] ["group", "offsets", "tick"] (defScope d_senders_at) := ⟨rfl, rfl, rfl, by decide +kernel, rfl, by decide +kernel, by decide +kernel⟩
theorem senders_at_ok (T : Txt K mg) : C8.Cal P w K mg base 2 "senders_at" (spSend K) [] := by
  refine cal T.f_d_senders_at T.g_senders_at sc_senders_at (fun _ _ _ _ _ _ us hl => match us, hl with | [_, _, _], _ => rfl) (fun vs H Q E h => ?_) (fun cdv A outer s H vs Q E hr h => ?_)
  · obtain ⟨v, u, g, os, t, rfl, _⟩ := h
    rfl
  · obtain ⟨v, u, g, os, t, rfl, ⟨vs, ⟨a, rfl, ha⟩, hp⟩, ⟨b, rfl, hb⟩, hg, ho, q⟩ := h
    have hlen := pairedP_len hp
    refine ⟨_, (pss_one (ps_ret (pe_lc (own := [("who", 3), ("pattern", 4)]) (g := gTup K 2 (gCons (gName 3) (gCons (gName 4) gNil))) (by rfl) sc_senders_at.nd (pi_enumK K rfl (by rfl) T.b_enumerate (pa_cons (pv 0) pa_nil)) (blkOk_by (N := ["group", "offsets", "tick", "who", "pattern"]) (sc := defScope d_senders_at) (by decide +kernel)) (fun _ _ _ _ _ => (by exact pg_2 (i := 3) (j := 4) K rfl rfl sc_senders_at.nd rfl rfl (Or.inl rfl) (Or.inl rfl) (by first | exact .inl rfl | exact .inr rfl) (by first | exact .inl rfl | exact .inr rfl))) (fun _ _ _ _ _ => pts_one (pt_val (C8.pe_c (does_send_ok T) hr (by decide) rfl (pa_cons (pv 4) (pa_cons (pe_ix (ix_tupK K rfl) (pv 1) (pv 3) (fun _ _ => rfl)) (pa_cons (pv 2) pa_nil)))))) (fun _ _ _ _ _ => (pv 3))))), ?_⟩
    refine ⟨_, rfl, a, _, rfl, ha, fun D hD => lcs walk_enumT ypair_same hD (fun H e => e.t ha) (fun i H acc => MadeF (sendAt g os t) i acc) rfl (fun _ _ _ _ _ _ r => r) (fun _ _ _ r => r.len) (by have := hg.hi; omega) ?_ ?_⟩
    · intro i x H1 H2 acc Ky Kn hi e r y ky kn
      obtain ⟨S, x1, x2, rfl, hS, rfl, g1, g2⟩ := y
      cases g1
      obtain ⟨p, hpi, pv⟩ := pairedP_to hp g2
      obtain ⟨o, hoi⟩ := getD_int (os := os) (i := i) (by omega)
      have eS := e
      refine ⟨S, _, rfl, SqT.of upd_same, rfl, _, _, rfl, _, _, rfl, rfl, rfl, ?_⟩
      refine ⟨_, rfl, _, rfl, _, rfl, b, _, _, _, rfl, rfl, eS.t hb, atI_nat (int_at hoi), _, rfl, x2, p, o, t, rfl, pv.m eS, (hg.at_ hpi).pos, ?_⟩
      have es : sendAt g os t i = sendB p o t := by
        unfold sendAt
        rw [hpi, hoi]
      by_cases hb : sendB p o t = true
      · rw [hb]
        exact ⟨true, rfl, _, rfl, ky _ _ (Same.refl _) (r.yes (es.trans hb))⟩
      · have hb' := Bool.not_eq_true _ ▸ hb
        rw [hb']
        exact ⟨false, rfl, kn _ (Same.refl _) (r.no (es.trans hb'))⟩
    · intro H1 acc e hl r
      refine q H1 _ e ⟨D, rfl, SqL.of ?_⟩
      rw [hl, r, hlen]
def spKind (K : PySem.W.Frag) : Sp := fun vs H Q _ => ∃ v ns, vs = [v] ∧ LV K H v ns ∧ ∀ H', Same H H' → Q (.int (kindOf ns)) H'
theorem sc_kind_of : FnScope ["senders"] ["senders"] (defScope d_kind_of) := ⟨rfl, rfl, rfl, by decide +kernel, rfl, by decide +kernel, by decide +kernel⟩
theorem kind_of_ok (T : Txt K mg) : C8.Cal P w K mg base 1 "kind_of" (spKind K) [] := by
  refine cal T.f_d_kind_of T.g_kind_of sc_kind_of (fun _ _ _ _ _ _ us hl => match us, hl with | [_], _ => rfl) (fun vs H Q E h => ?_) (fun cdv A outer s H vs Q E hr h => ?_)
  · obtain ⟨v, ns, rfl, _⟩ := h
    rfl
  · obtain ⟨v, ns, rfl, ⟨a, rfl, ha⟩, q⟩ := h
    have hu := hr.units
    refine ⟨_, (pss_cons (ps_if (pt_cmpR (eqL_K K rfl hu) (pv 0) (pe_lst pa_nil) (nomark _)) (pss_one (ps_ret (pe_ig T.c_QUIET rfl))) pss_nil)
 (pss_one (ps_ret (pe_ifExp (pt_cmpR op_eq (pe_callB (len_K K rfl) (by rfl) T.b_len PySem.boot_len (pa_cons (pv 0) pa_nil)) pe_int (nomark _)) (pe_ix (ix_listK K rfl) (pv 0) pe_int (fun _ _ => rfl)) (pe_ig T.c_COLLISION rfl))))), ?_⟩
    refine ⟨_, rfl, by show 0 ≤ sizeLine; exact Nat.zero_le _, fun L hL => ⟨ns, [], ⟨a, rfl, (Same.new hL).l ha⟩, ⟨L, rfl, SqL.of upd_same⟩, ?_⟩⟩
    match ns, ha, q with
    | [], ha, q => exact ⟨true, rfl, q _ (Same.new hL)⟩
    | [x], ha, q =>
      refine ⟨false, rfl, _, rfl, a, _, rfl, .inl ((Same.new hL).l ha), rfl, true, congrArg V.bl (by rw [dec_int]; rfl), ?_⟩
      exact ⟨_, rfl, a, _, _, _, rfl, rfl, (Same.new hL).l ha, rfl, q _ (Same.new hL)⟩
    | x :: y :: r, ha, q =>
      refine ⟨false, rfl, _, rfl, a, _, rfl, .inl ((Same.new hL).l ha), rfl, false, congrArg V.bl ?_, ?_⟩
      · rw [dec_int]
        refine beq_eq_false_iff_ne.mpr ?_
        rw [List.length_map, List.length_cons, List.length_cons]
        omega
      · exact q _ (Same.new hL)
def spHeard (K : PySem.W.Frag) : Sp := fun vs H Q _ => ∃ v u g os, vs = [v, u] ∧ GrV K H v g ∧ IV K H u os ∧ GrpOk g ∧ os.length = g.length ∧ spanN g ≤ 420 ∧ ∀ H' x, Same H H' → FzV H' x ((heardRow g os).map V.int) → Q x H'
theorem sc_heard_of : FnScope ["group", "offsets", "tick"] ["group", "offsets"] (defScope d_heard_of) := ⟨rfl, rfl, rfl, by decide +kernel, rfl, by decide +kernel, by decide +kernel⟩
theorem heard_of_ok (T : Txt K mg) : C8.Cal P w K mg base 4 "heard_of" (spHeard K) [] := by
  refine cal T.f_d_heard_of T.g_heard_of sc_heard_of (fun _ _ _ _ _ _ us hl => match us, hl with | [_, _], _ => rfl) (fun vs H Q E h => ?_) (fun cdv A outer s H vs Q E hr h => ?_)
  · obtain ⟨v, u, g, os, rfl, _⟩ := h
    rfl
  · obtain ⟨v, u, g, os, rfl, hv, hu, hg, ho, hs, q⟩ := h
    refine ⟨_, (pss_one (ps_ret (pe_callTy (tupF_K K rfl) (by rfl) T.b_tuple (by decide +kernel) (pa_cons (pe_lc (own := [("tick", 2)]) (g := gName 2) (by rfl) sc_heard_of.nd (pi_range1 rfl T.b_range (pa_cons (C8.pe_c (span_of_ok T) hr (by decide) rfl (pa_cons (pv 0) pa_nil)) pa_nil)) (blkOk_by (N := ["group", "offsets", "tick"]) (sc := defScope d_heard_of) (by decide +kernel)) (fun _ _ _ _ _ => (pg_name (i := 2) sc_heard_of.nd rfl (Or.inl rfl))) (fun _ _ _ _ _ => pts_nil) (fun _ _ _ _ _ => (C8.pe_c (kind_of_ok T) hr (by decide) rfl (pa_cons (C8.pe_c (senders_at_ok T) hr (by decide) rfl (pa_cons (pv 0) (pa_cons (pv 1) (pa_cons (pv 2) pa_nil)))) pa_nil)))) pa_nil)))), ?_⟩
    refine ⟨_, rfl, v, g, rfl, hv, hg, _, rfl, by omega, by omega, fun D hD => lcs (walk_range (n := ((spanN g : Nat) : Int).toNat)) yfn_same hD (fun H e => trivial) (fun i H acc => Made V.int (heardRow g os) i acc) Made.zero (fun _ _ _ _ _ _ r => r) (fun _ _ _ r => r.len) (by omega) ?_ ?_⟩
    · intro i x H1 H2 acc Ky Kn hi e r y ky kn
      obtain ⟨rfl, rfl⟩ := y
      refine ⟨rfl, _, rfl, _, rfl, _, rfl, v, u, g, os, _, rfl, hv.m e, TV.m hu e, hg, ho, fun H3 z e3 hz => ?_⟩
      refine ⟨z, _, rfl, hz, fun H4 e4 => ky _ _ (e3.trans e4) (r.succ ?_)⟩
      unfold heardRow
      rw [List.getElem?_map, range_at (by omega), Int.zero_add] <;> rfl
    · intro H1 acc e hl r
      have ea := r.all (by rw [heardRow_len]; omega)
      refine ⟨D, _, rfl, SqL.of (by rw [hl, ea]), fun L o hL po => q _ _ (e.trans (Same.new hL)) ⟨L, o, rfl, upd_same, po⟩⟩
def spCnts (K : PySem.W.Frag) : Sp := fun vs H Q _ => ∃ v u g os, vs = [v, u] ∧ GrV K H v g ∧ IV K H u os ∧ GrpOk g ∧ os.length = g.length ∧ spanN g ≤ 420 ∧ ∀ H' x, Same H H' → IV K H' x (cntL (heardRow g os) g.length) → Q x H'
theorem sc_counts_of : FnScope ["group", "offsets", "row", "who"] ["group", "offsets"] (defScope d_counts_of) := ⟨rfl, rfl, rfl, by decide +kernel, rfl, by decide +kernel, by decide +kernel⟩
theorem counts_of_ok (T : Txt K mg) : C8.Cal P w K mg base 5 "counts_of" (spCnts K) [] := by
  refine cal T.f_d_counts_of T.g_counts_of sc_counts_of (fun _ _ _ _ _ _ us hl => match us, hl with | [_, _], _ => rfl) (fun vs H Q E h => ?_) (fun cdv A outer s H vs Q E hr h => ?_)
  · obtain ⟨v, u, g, os, rfl, _⟩ := h
    rfl
  · obtain ⟨v, u, g, os, rfl, hv, hu, hg, ho, hs, q⟩ := h
    refine ⟨_, (pss_cons (ps_set (i := 2) sc_counts_of.nd rfl (Or.inr rfl) (C8.pe_c (heard_of_ok T) hr (by decide) rfl (pa_cons (pv 0) (pa_cons (pv 1) pa_nil))))
 (pss_one (ps_ret (pe_tup (pa_cons (pe_tcount K rfl (pv 2) (pa_cons (pe_ig T.c_QUIET rfl) pa_nil)) (star_K K rfl (pe_lc (own := [("who", 3)]) (g := gName 3) (by rfl) sc_counts_of.nd (pi_range1 rfl T.b_range (pa_cons (pe_callB (len_K K rfl) (by rfl) T.b_len PySem.boot_len (pa_cons (pv 0) pa_nil)) pa_nil)) (blkOk_by (N := ["group", "offsets", "row", "who"]) (sc := defScope d_counts_of) (by decide +kernel)) (fun _ _ _ _ _ => (pg_name (i := 3) sc_counts_of.nd rfl (Or.inl rfl))) (fun _ _ _ _ _ => pts_nil) (fun _ _ _ _ _ => (pe_tcount K rfl (pv 2) (pa_cons (pv 3) pa_nil)))) (pa_cons (pe_tcount K rfl (pv 2) (pa_cons (pe_ig T.c_COLLISION rfl) pa_nil)) pa_nil))))))), ?_⟩
    obtain ⟨vs, ⟨a, rfl, ha⟩, hp⟩ := hv
    have hlen := pairedP_len hp
    have h4 := hg.hi
    refine ⟨_, rfl, _, rfl, _, u, g, os, rfl, ⟨vs, ⟨a, rfl, ha⟩, hp⟩, hu, hg, ho, hs, fun H1 r e1 hr1 => ?_⟩
    refine ⟨_, rfl, ⟨_, hr1⟩, _, -1, rfl, FzV.tv hr1, ?_⟩
    refine ⟨_, rfl, a, _, rfl, .inr (e1.t ha), _, rfl, by omega, by omega, fun D hD => lcs (walk_range (n := ((vs.length : Nat) : Int).toNat)) yfn_same hD (fun H e => trivial) (fun i H acc => Made V.int ((List.range g.length).map fun i => cnt (heardRow g os) ((i : Nat) : Int)) i acc) Made.zero (fun _ _ _ _ _ _ r => r) (fun _ _ _ r => r.len) (by omega) ?_ ?_⟩
    · intro i x H2 H3 acc Ky Kn hi e r2 y ky kn
      obtain ⟨rfl, rfl⟩ := y
      have hr3 := hr1.m e
      refine ⟨rfl, _, rfl, ⟨_, hr3⟩, _, rfl, _, _, rfl, FzV.tv hr3, ky _ _ (Same.refl _) ?_⟩
      refine r2.succ ?_
      rw [List.getElem?_map, range_at (by omega), Int.zero_add] <;> rfl
    · intro H2 acc e hl r2
      have ea := r2.all (by rw [List.length_map, List.length_range]; omega)
      have hr2 := hr1.m e
      refine ⟨D, _, rfl, .inr (SqL.of hl), _, rfl, ⟨_, hr2⟩, _, -2, rfl, FzV.tv hr2, ?_⟩
      have hz : (V.int (cnt (heardRow g os) (-1)) :: (acc ++ [V.int (cnt (heardRow g os) (-2))])) = (cntL (heardRow g os) g.length).map V.int := by
        rw [ea]
        unfold cntL
        rw [List.map_append, List.map_cons] <;> rfl
      refine ⟨?_, fun p hp => q _ _ ((e1.trans e).trans (Same.new hp)) ⟨p, rfl, SqT.of ?_⟩⟩
      · show (V.int (cnt (heardRow g os) (-1)) :: (acc ++ [V.int (cnt (heardRow g os) (-2))])).length ≤ _
        rw [hz, List.length_map]
        unfold cntL
        rw [List.length_append, List.length_cons, List.length_map, List.length_range, List.length_singleton, sizeLine_eq]
        omega
      · rw [upd_same, ← hz]
        rfl
theorem cntL_at {row : List Int} {n i : Nat} (h : i < n) : (cntL row n)[i + 1]? = some (cnt row ((i : Nat) : Int)) := by
  unfold cntL
  rw [List.getElem?_append_left (by rw [List.length_cons, List.length_map, List.length_range]; omega), List.getElem?_cons_succ, List.getElem?_map, List.getElem?_range h] <;> rfl
def spPlace (K : PySem.W.Frag) : Sp := fun vs H Q _ => ∃ v xs k, vs = [v, .int k] ∧ TV K H v xs ∧ 0 ≤ k ∧ Q (.int (k + 1)) H
theorem sc_place_of : FnScope ["group", "kind"] ["group", "kind"] (defScope d_place_of) := ⟨rfl, rfl, rfl, by decide +kernel, rfl, by decide +kernel, by decide +kernel⟩
theorem place_of_ok (T : Txt K mg) : C8.Cal P w K mg base 1 "place_of" (spPlace K) [] := by
  refine cal T.f_d_place_of T.g_place_of sc_place_of (fun _ _ _ _ _ _ us hl => match us, hl with | [_, _], _ => rfl) (fun vs H Q E h => ?_) (fun cdv A outer s H vs Q E hr h => ?_)
  · obtain ⟨v, xs, k, rfl, _⟩ := h
    rfl
  · obtain ⟨v, xs, k, rfl, hv, hk, q⟩ := h
    refine ⟨_, (pss_one (ps_ret (pe_ifExp (pt_cmpR op_eq (pv 1) (pe_ig T.c_COLLISION rfl) (nomark _)) (pe_op op_add (pe_callB (len_K K rfl) (by rfl) T.b_len PySem.boot_len (pa_cons (pv 0) pa_nil)) pe_int) (pe_op op_add (pv 1) pe_int)))), ?_⟩
    refine ⟨_, rfl, rfl, false, congrArg V.bl ?_, ?_⟩
    · rw [dec_int]
      exact beq_eq_false_iff_ne.mpr (by omega)
    · exact ⟨_, rfl, _, _, rfl, rfl, q⟩
/-- a table's rows: how often who is heard, the class -/
def tabN (g : Grp) (who : Int) : List Row := (clsN g).map fun os => (cnt (heardRow g os) who, os)
def spTab (K : PySem.W.Frag) : Sp := fun vs H Q _ => ∃ v g i, vs = [v, .int ((i : Nat) : Int)] ∧ GrV K H v g ∧ GrpOk g ∧ spanN g ≤ 420 ∧ (clsN g).length ≤ 100000 ∧ i < g.length ∧
  ∀ H' p ws, Same H H' → H' p = some (.lst ws) → Paired (RowV K H') ws (tabN g (i : Nat)) → Q (.ref p) H'
theorem clsN_all {g : Grp} : (clsS g).1 = clsN g := rfl
theorem sc_table_of : FnScope ["group", "kind", "place", "offsets"] ["group", "kind"] (defScope d_table_of) := ⟨rfl, rfl, rfl, by decide +kernel, rfl, by decide +kernel, by decide +kernel⟩
theorem table_of_ok (T : Txt K mg) : C8.Cal P w K mg base 6 "table_of" (spTab K) [] := by
  refine cal T.f_d_table_of T.g_table_of sc_table_of (fun _ _ _ _ _ _ us hl => match us, hl with | [_, _], _ => rfl) (fun vs H Q E h => ?_) (fun cdv A outer s H vs Q E hr h => ?_)
  · obtain ⟨v, g, i, rfl, _⟩ := h
    rfl
  · obtain ⟨v, g, i, rfl, hv, hg, hs, hc, hi, q⟩ := h
    refine ⟨_, (pss_cons (ps_set (i := 2) sc_table_of.nd rfl (Or.inr rfl) (C8.pe_c (place_of_ok T) hr (by decide) rfl (pa_cons (pv 0) (pa_cons (pv 1) pa_nil))))
 (pss_one (ps_ret (pe_lc (own := [("offsets", 3)]) (g := gName 3) (by rfl) sc_table_of.nd (pi_listK K rfl (C8.pe_c (classes_of_ok T) hr (by decide) rfl (pa_cons (pv 0) pa_nil))) (blkOk_by (N := ["group", "kind", "place", "offsets"]) (sc := defScope d_table_of) (by decide +kernel)) (fun _ _ _ _ _ => (pg_name (i := 3) sc_table_of.nd rfl (Or.inl rfl))) (fun _ _ _ _ _ => pts_nil) (fun _ _ _ _ _ => (pe_tup (pa_cons (pe_ix (ix_tupK K rfl) (C8.pe_c (counts_of_ok T) hr (by decide) rfl (pa_cons (pv 0) (pa_cons (pv 3) pa_nil))) (pv 2) (fun _ _ => rfl)) (pa_cons (pv 3) pa_nil)))))))), ?_⟩
    obtain ⟨vs, ⟨a, rfl, ha⟩, hp⟩ := hv
    refine ⟨_, rfl, _, rfl, .ref a, vs, i, rfl, ⟨a, rfl, ha⟩, by omega, ?_⟩
    refine ⟨_, rfl, _, g, rfl, ⟨vs, ⟨a, rfl, ha⟩, hp⟩, hg, fun H1 L ws e1 hL hws => ?_⟩
    have hwl := Paired.length hws
    refine ⟨L, rfl, ⟨_, SqL.of hL⟩, fun D hD => lcs walk_list yat_same hD (fun H e => e.l (SqL.of hL)) (fun r H acc => Paired (RowV K H) acc ((tabN g (i : Nat)).take r)) .nil (fun _ _ _ _ _ e r => Paired.mapP r fun _ _ z => z.s e) (fun r _ acc z => ?_) (by omega) ?_ ?_⟩
    · have := Paired.length z
      rw [List.length_take] at this
      omega
    · intro r x H2 H3 acc Ky Kn hri e z y ky kn
      obtain ⟨rfl, hx⟩ := y
      obtain ⟨os, hos, hxo⟩ := paired_at hws hx
      have hw : os.length = g.length := clsN_width hos
      refine ⟨rfl, _, rfl, _, rfl, .ref a, x, g, os, rfl, ⟨vs, ⟨a, rfl, (e1.trans e).t ha⟩, Paired.mapP hp fun _ _ z => PtV.m z (e1.trans e)⟩, TV.m hxo e, hg, hw, hs, fun H4 y e4 hy => ?_⟩
      obtain ⟨c, rfl, hc⟩ := hy
      refine ⟨_, rfl, c, _, _, _, rfl, rfl, hc, atI_nat (i := i + 1) (int_at (cntL_at hi)), _, rfl, ?_, fun t ht => ?_⟩
      · show 2 ≤ sizeLine
        rw [sizeLine_eq]
        decide
      · refine ky _ _ (e4.trans (Same.new ht)) ?_
        have et : (tabN g (i : Nat))[r]? = some (cnt (heardRow g os) (i : Nat), os) := by
          unfold tabN
          rw [List.getElem?_map, hos] <;> rfl
        rw [take_snoc et]
        refine paired_app (Paired.mapP z fun _ _ k => k.s (Same.stp (S := []) (e4.trans (Same.new ht)))) (.cons ⟨x, ⟨t, rfl, SqT.of upd_same⟩, TV.m (TV.m hxo e) (e4.trans (Same.new ht))⟩ .nil)
    · intro H2 acc e hl z
      have hl2 : (tabN g (i : Nat)).length = ws.length := by
        unfold tabN
        rw [List.length_map, hwl]
      rw [← hl2, List.take_length] at z
      exact q _ D acc (e1.trans e) hl z
def spHeardG (K : PySem.W.Frag) : Sp := fun vs H Q _ => ∃ v u g os, vs = [v, u] ∧ GrV K H v g ∧ IV K H u os ∧ GrpOk g ∧ OffOk g os ∧ spanN g ≤ 420 ∧ ∀ H' x, Same H H' → IV K H' x (heardRow g os) → Q x H'
theorem sc_heard : FnScope ["group", "offsets"] ["group", "offsets"] (defScope d_heard) := ⟨rfl, rfl, rfl, by decide +kernel, rfl, by decide +kernel, by decide +kernel⟩
theorem heard_ok (T : Txt K mg) : C8.Cal P w K mg base 7 "heard" (spHeardG K) [] := by
  refine cal T.f_d_heard T.g_heard sc_heard (fun _ _ _ _ _ _ us hl => match us, hl with | [_, _], _ => rfl) (fun vs H Q E h => ?_) (fun cdv A outer s H vs Q E hr h => ?_)
  · obtain ⟨v, u, g, os, rfl, _⟩ := h
    rfl
  · obtain ⟨v, u, g, os, rfl, hv, hu, hg, ho, hs, q⟩ := h
    refine ⟨_, (pss_cons (ps_expr (C8.pe_c (need_group_ok T) hr (by decide) rfl (pa_cons (pv 0) pa_nil)))
 (pss_cons (ps_expr (C8.pe_c (need_offsets_ok T) hr (by decide) rfl (pa_cons (pv 0) (pa_cons (pv 1) pa_nil))))
 (pss_cons (ps_expr (C8.pe_c (need_span_ok T) hr (by decide) rfl (pa_cons (pv 0) pa_nil)))
 (pss_one (ps_ret (C8.pe_c (heard_of_ok T) hr (by decide) rfl (pa_cons (pv 0) (pa_cons (pv 1) pa_nil)))))))), ?_⟩
    refine ⟨_, rfl, v, g, rfl, hv, hg, fun H1 e1 => ?_⟩
    refine ⟨_, rfl, _, rfl, v, u, g, os, rfl, hv.m e1, TV.m hu e1, hg, ho, fun H2 e2 => ?_⟩
    have e := e1.trans e2
    refine ⟨_, rfl, v, g, rfl, hv.m e, hg, hs, ?_⟩
    exact ⟨_, rfl, _, rfl, v, u, g, os, rfl, hv.m e, TV.m hu e, hg, ho.len, hs, fun H3 x e3 hx => q _ _ (e.trans e3) (FzV.tv hx)⟩
def spCntsG (K : PySem.W.Frag) : Sp := fun vs H Q _ => ∃ v u g os, vs = [v, u] ∧ GrV K H v g ∧ IV K H u os ∧ GrpOk g ∧ OffOk g os ∧ spanN g ≤ 420 ∧ ∀ H' x, Same H H' → IV K H' x (cntL (heardRow g os) g.length) → Q x H'
theorem sc_counts : FnScope ["group", "offsets"] ["group", "offsets"] (defScope d_counts) := ⟨rfl, rfl, rfl, by decide +kernel, rfl, by decide +kernel, by decide +kernel⟩
theorem counts_ok (T : Txt K mg) : C8.Cal P w K mg base 7 "counts" (spCntsG K) [] := by
  refine cal T.f_d_counts T.g_counts sc_counts (fun _ _ _ _ _ _ us hl => match us, hl with | [_, _], _ => rfl) (fun vs H Q E h => ?_) (fun cdv A outer s H vs Q E hr h => ?_)
  · obtain ⟨v, u, g, os, rfl, _⟩ := h
    rfl
  · obtain ⟨v, u, g, os, rfl, hv, hu, hg, ho, hs, q⟩ := h
    refine ⟨_, (pss_cons (ps_expr (C8.pe_c (need_group_ok T) hr (by decide) rfl (pa_cons (pv 0) pa_nil)))
 (pss_cons (ps_expr (C8.pe_c (need_offsets_ok T) hr (by decide) rfl (pa_cons (pv 0) (pa_cons (pv 1) pa_nil))))
 (pss_cons (ps_expr (C8.pe_c (need_span_ok T) hr (by decide) rfl (pa_cons (pv 0) pa_nil)))
 (pss_one (ps_ret (C8.pe_c (counts_of_ok T) hr (by decide) rfl (pa_cons (pv 0) (pa_cons (pv 1) pa_nil)))))))), ?_⟩
    refine ⟨_, rfl, v, g, rfl, hv, hg, fun H1 e1 => ?_⟩
    refine ⟨_, rfl, _, rfl, v, u, g, os, rfl, hv.m e1, TV.m hu e1, hg, ho, fun H2 e2 => ?_⟩
    have e := e1.trans e2
    refine ⟨_, rfl, v, g, rfl, hv.m e, hg, hs, ?_⟩
    exact ⟨_, rfl, _, rfl, v, u, g, os, rfl, hv.m e, TV.m hu e, hg, ho.len, hs, fun H3 x e3 hx => q _ _ (e.trans e3) hx⟩
end
end A72

set_option Elab.async false
set_option linter.all false
set_option maxRecDepth 100000
set_option maxHeartbeats 4000000
/-! anyshift.lines: what a line holds; its small methods -/
namespace A72
open PySem PySem.Spec PyProof.Rows L2
/-- what a line's state holds -/
structure LSt where
  tick : Int
  begun : List (Option Int)
  thr : List Int
  coll : Int
  log : List Int
def StV (K : PySem.W.Frag) (H : Hp) (v : V) (s : LSt) : Prop := ∃ b t l, TV K H v [.int s.tick, b, t, .int s.coll, l] ∧ OV K H b s.begun ∧ IV K H t s.thr ∧ IV K H l s.log
/-- a line at x, of the class at C -/
def BoxV (K : PySem.W.Frag) (C : Addr) (H : Hp) (x : Addr) (g : Grp) (s : LSt) (n : Nat) : Prop :=
  ∃ dx p v q ps, H x = some (.ins C dx [("patterns", p), ("state", v), ("past", q)]) ∧ GrV K H p g ∧ StV K H v s ∧ TV K H q ps ∧ ps.length ≤ n
section
variable {K : PySem.W.Frag} {C : Addr} {S : List Addr} {H H' : Hp} {v : V} {st : LSt} {x : Addr} {g : Grp} {n : Nat}
theorem StV.s (h : StV K H v st) (e : Stp S H H') : StV K H' v st := let ⟨b, t, l, a, h1, h2, h3⟩ := h; ⟨b, t, l, TV.s a e, TV.s h1 e, TV.s h2 e, TV.s h3 e⟩
theorem StV.m (h : StV K H v st) (e : Same H H') : StV K H' v st := h.s (Same.stp (S := []) e)
theorem BoxV.s (h : BoxV K C H x g st n) (e : Stp S H H') (hx : x ∉ S) : BoxV K C H' x g st n := let ⟨dx, p, v, q, ps, a, h1, h2, h3, h4⟩ := h; ⟨dx, p, v, q, ps, e.kp _ _ a hx, h1.s e, h2.s e, TV.s h3 e, h4⟩
theorem BoxV.m (h : BoxV K C H x g st n) (e : Same H H') : BoxV K C H' x g st n := h.s (Same.stp (S := []) e) (fun z => nomatch z)
end
/-- what the rules ask of a line's class -/
structure LCls (K : PySem.W.Frag) (C : Addr) : Prop where
  cl : Cls K C
  ap : NoAttr K C "patterns"
  as : NoAttr K C "state"
  at_ : NoAttr K C "past"
  now : PropOf K C "now" (He.ma K (He.ga K "Line") "now") (gt K "Line" "now")
  active : PropOf K C "active" (He.ma K (He.ga K "Line") "active") (gt K "Line" "active")
  through : PropOf K C "through" (He.ma K (He.ga K "Line") "through") (gt K "Line" "through")
  collisions : PropOf K C "collisions" (He.ma K (He.ga K "Line") "collisions") (gt K "Line" "collisions")
  keep : Meth K C "keep" (He.ma K (He.ga K "Line") "keep")
  sends_now : Meth K C "sends_now" (He.ma K (He.ga K "Line") "sends_now")
  behind : Meth K C "behind" (He.ma K (He.ga K "Line") "behind")
  with_begun : Meth K C "with_begun" (He.ma K (He.ga K "Line") "with_begun")
  start : Meth K C "start" (He.ma K (He.ga K "Line") "start")
  stop : Meth K C "stop" (He.ma K (He.ga K "Line") "stop")
  run : Meth K C "run" (He.ma K (He.ga K "Line") "run")
  next_tick : Meth K C "next_tick" (He.ma K (He.ga K "Line") "next_tick")
  getitem : Meth K C "__getitem__" (He.ma K (He.ga K "Line") "__getitem__")
  call_ : Meth K C "__call__" (He.ma K (He.ga K "Line") "__call__")
  contains_ : Meth K C "__contains__" (He.ma K (He.ga K "Line") "__contains__")
section
variable {P : Program} {w : World} {K : PySem.W.Frag} {mg : Str → Option Value} {base : Heap} {C : Addr}
theorem lcl_Line (T : Txt K mg) : LCls K (He.ga K "Line") := ⟨T.cl_Line, T.na_Line_patterns, T.na_Line_state, T.na_Line_past, T.pr_Line_now, T.pr_Line_active, T.pr_Line_through, T.pr_Line_collisions, T.me_Line_keep, T.me_Line_sends_now, T.me_Line_behind, T.me_Line_with_begun, T.me_Line_start, T.me_Line_stop, T.me_Line_run, T.me_Line_next_tick, T.me_Line_getitem, T.me_Line_call, T.me_Line_contains⟩
theorem lcl_Logged (T : Txt K mg) : LCls K (He.ga K "Logged") := ⟨T.cl_Logged, T.na_Logged_patterns, T.na_Logged_state, T.na_Logged_past, T.pr_Logged_now, T.pr_Logged_active, T.pr_Logged_through, T.pr_Logged_collisions, T.me_Logged_keep, T.me_Logged_sends_now, T.me_Logged_behind, T.me_Logged_with_begun, T.me_Logged_start, T.me_Logged_stop, T.me_Logged_run, T.me_Logged_next_tick, T.me_Logged_getitem, T.me_Logged_call, T.me_Logged_contains⟩
theorem lcl_Both (T : Txt K mg) : LCls K (He.ga K "StoppingLogged") := ⟨T.cl_StoppingLogged, T.na_StoppingLogged_patterns, T.na_StoppingLogged_state, T.na_StoppingLogged_past, T.pr_StoppingLogged_now, T.pr_StoppingLogged_active, T.pr_StoppingLogged_through, T.pr_StoppingLogged_collisions, T.me_StoppingLogged_keep, T.me_StoppingLogged_sends_now, T.me_StoppingLogged_behind, T.me_StoppingLogged_with_begun, T.me_StoppingLogged_start, T.me_StoppingLogged_stop, T.me_StoppingLogged_run, T.me_StoppingLogged_next_tick, T.me_StoppingLogged_getitem, T.me_StoppingLogged_call, T.me_StoppingLogged_contains⟩

def spNow (K : PySem.W.Frag) (C : Addr) : Sp := fun vs H Q _ => ∃ x g s n, vs = [.ref x] ∧ BoxV K C H x g s n ∧ Q (.int s.tick) H
theorem sc_now : FnScope ["self"] ["self"] (defScope p_now) := ⟨rfl, rfl, rfl, by decide +kernel, rfl, by decide +kernel, by decide +kernel⟩
theorem now_ok (T : Txt K mg) (L : LCls K C) : At P w K mg base 1 (gt K "Line" "now") ["self"] (spNow K C) := by
  refine atf T.f_p_now sc_now (fun _ _ _ _ _ _ us hl => match us, hl with | [_], _ => rfl) (fun vs H Q E h => ?_) (fun cdv A outer s H vs Q E hr h => ?_)
  · obtain ⟨x, g, s, n, rfl, _⟩ := h
    rfl
  · obtain ⟨x, g, s, n, rfl, ⟨dx, p, v, q, ps, hx, hp, ⟨b, t, l, ⟨a, rfl, ha⟩, hb, ht, hl⟩, hq, hn⟩, k⟩ := h
    refine ⟨_, (pss_one (ps_ret (pe_ix (ix_tupK K rfl) (fld_K K rfl (pv 0)) pe_int (fun _ _ => rfl)))), ?_⟩
    exact ⟨_, rfl, x, C, dx, _, _, rfl, hx, L.cl, L.as, rfl, a, _, _, _, rfl, rfl, ha, rfl, k⟩
def spCol (K : PySem.W.Frag) (C : Addr) : Sp := fun vs H Q _ => ∃ x g s n, vs = [.ref x] ∧ BoxV K C H x g s n ∧ Q (.int s.coll) H
theorem sc_collisions : FnScope ["self"] ["self"] (defScope p_collisions) := ⟨rfl, rfl, rfl, by decide +kernel, rfl, by decide +kernel, by decide +kernel⟩
theorem collisions_ok (T : Txt K mg) (L : LCls K C) : At P w K mg base 1 (gt K "Line" "collisions") ["self"] (spCol K C) := by
  refine atf T.f_p_collisions sc_collisions (fun _ _ _ _ _ _ us hl => match us, hl with | [_], _ => rfl) (fun vs H Q E h => ?_) (fun cdv A outer s H vs Q E hr h => ?_)
  · obtain ⟨x, g, s, n, rfl, _⟩ := h
    rfl
  · obtain ⟨x, g, s, n, rfl, ⟨dx, p, v, q, ps, hx, hp, ⟨b, t, l, ⟨a, rfl, ha⟩, hb, ht, hl⟩, hq, hn⟩, k⟩ := h
    refine ⟨_, (pss_one (ps_ret (pe_ix (ix_tupK K rfl) (fld_K K rfl (pv 0)) pe_int (fun _ _ => rfl)))), ?_⟩
    exact ⟨_, rfl, x, C, dx, _, _, rfl, hx, L.cl, L.as, rfl, a, _, _, _, rfl, rfl, ha, rfl, k⟩
def spThr (K : PySem.W.Frag) (C : Addr) : Sp := fun vs H Q _ => ∃ x g s n, vs = [.ref x] ∧ BoxV K C H x g s n ∧ ∀ v, IV K H v s.thr → Q v H
theorem sc_through : FnScope ["self"] ["self"] (defScope p_through) := ⟨rfl, rfl, rfl, by decide +kernel, rfl, by decide +kernel, by decide +kernel⟩
theorem through_ok (T : Txt K mg) (L : LCls K C) : At P w K mg base 1 (gt K "Line" "through") ["self"] (spThr K C) := by
  refine atf T.f_p_through sc_through (fun _ _ _ _ _ _ us hl => match us, hl with | [_], _ => rfl) (fun vs H Q E h => ?_) (fun cdv A outer s H vs Q E hr h => ?_)
  · obtain ⟨x, g, s, n, rfl, _⟩ := h
    rfl
  · obtain ⟨x, g, s, n, rfl, ⟨dx, p, v, q, ps, hx, hp, ⟨b, t, l, ⟨a, rfl, ha⟩, hb, ht, hl⟩, hq, hn⟩, k⟩ := h
    refine ⟨_, (pss_one (ps_ret (pe_ix (ix_tupK K rfl) (fld_K K rfl (pv 0)) pe_int (fun _ _ => rfl)))), ?_⟩
    exact ⟨_, rfl, x, C, dx, _, _, rfl, hx, L.cl, L.as, rfl, a, _, _, _, rfl, rfl, ha, rfl, k _ ht⟩
def spLog (K : PySem.W.Frag) (C : Addr) : Sp := fun vs H Q _ => ∃ x g s n, vs = [.ref x] ∧ BoxV K C H x g s n ∧ ∀ v, IV K H v s.log → Q v H
theorem sc_log : FnScope ["self"] ["self"] (defScope p_log) := ⟨rfl, rfl, rfl, by decide +kernel, rfl, by decide +kernel, by decide +kernel⟩
theorem log_ok (T : Txt K mg) (L : LCls K C) : At P w K mg base 1 (gt K "Logged" "log") ["self"] (spLog K C) := by
  refine atf T.f_p_log sc_log (fun _ _ _ _ _ _ us hl => match us, hl with | [_], _ => rfl) (fun vs H Q E h => ?_) (fun cdv A outer s H vs Q E hr h => ?_)
  · obtain ⟨x, g, s, n, rfl, _⟩ := h
    rfl
  · obtain ⟨x, g, s, n, rfl, ⟨dx, p, v, q, ps, hx, hp, ⟨b, t, l, ⟨a, rfl, ha⟩, hb, ht, hl⟩, hq, hn⟩, k⟩ := h
    refine ⟨_, (pss_one (ps_ret (pe_ix (ix_tupK K rfl) (fld_K K rfl (pv 0)) pe_int (fun _ _ => rfl)))), ?_⟩
    exact ⟨_, rfl, x, C, dx, _, _, rfl, hx, L.cl, L.as, rfl, a, _, _, _, rfl, rfl, ha, rfl, k _ hl⟩
/-- who has begun -/
def actN (s : LSt) : List Int := sndF s.begun.length fun i => (s.begun.getD i none).isSome
theorem oV_non (o : Option Int) : (!decide (oV o = V.non)) = o.isSome := by
  cases o with
  | none => rfl
  | some i => rfl
theorem oints_at {os : List (Option Int)} {i : Nat} {v : V} (h : (os.map oV)[i]? = some v) : ∃ o, os[i]? = some o ∧ v = oV o := by
  rw [List.getElem?_map] at h
  cases e : os[i]? with
  | none =>
    rw [e] at h
    cases h
  | some o =>
    rw [e] at h
    exact ⟨o, rfl, (Option.some.inj h).symm⟩
theorem oint_at {os : List (Option Int)} {i : Nat} {o : Option Int} (h : os[i]? = some o) : (os.map oV)[i]? = some (oV o) := by
  rw [List.getElem?_map, h] <;> rfl
theorem getD_at {α : Type} {l : List α} {i : Nat} {x d : α} (h : l[i]? = some x) : l.getD i d = x := by
  rw [List.getD_eq_getElem?_getD, h] <;> rfl
def spAct (K : PySem.W.Frag) (C : Addr) : Sp := fun vs H Q _ => ∃ x g s n, vs = [.ref x] ∧ BoxV K C H x g s n ∧ s.begun.length ≤ 100 ∧ ∀ H' v, Same H H' → IV K H' v (actN s) → Q v H'
theorem sc_active : FnScope ["self", "who", "begun"] ["self"] (defScope p_active) := ⟨rfl, rfl, rfl, by decide +kernel, rfl, by decide +kernel, by decide +kernel⟩
theorem active_ok (T : Txt K mg) (L : LCls K C) : At P w K mg base 1 (gt K "Line" "active") ["self"] (spAct K C) := by
  refine atf T.f_p_active sc_active (fun _ _ _ _ _ _ us hl => match us, hl with | [_], _ => rfl) (fun vs H Q E h => ?_) (fun cdv A outer s H vs Q E hr h => ?_)
  · obtain ⟨x, g, s, n, rfl, _⟩ := h
    rfl
  · obtain ⟨x, g, s, n, rfl, ⟨dx, p, v, q, ps, hx, hp, ⟨b, t, l, ⟨a, rfl, ha⟩, ⟨c, rfl, hc⟩, ht, hl⟩, hq, hn⟩, hz, k⟩ := h
    refine ⟨_, (pss_one (ps_ret (pe_callTy (tuple_K K rfl) (by rfl) T.b_tuple (by decide +kernel) (pa_cons (pe_lc (own := [("who", 1), ("begun", 2)]) (g := gTup K 2 (gCons (gName 1) (gCons (gName 2) gNil))) (by rfl) sc_active.nd (pi_enumK K rfl (by rfl) T.b_enumerate (pa_cons (pe_ix (ix_tupK K rfl) (fld_K K rfl (pv 0)) pe_int (fun _ _ => rfl)) pa_nil)) (blkOk_by (N := ["self", "who", "begun"]) (sc := defScope p_active) (by decide +kernel)) (fun _ _ _ _ _ => (by exact pg_2 (i := 1) (j := 2) K rfl rfl sc_active.nd rfl rfl (Or.inl rfl) (Or.inl rfl) (by first | exact .inl rfl | exact .inr rfl) (by first | exact .inl rfl | exact .inr rfl))) (fun _ _ _ _ _ => pts_one (pt_cmpR op_notN (pv 2) pe_non (nomark _))) (fun _ _ _ _ _ => (pv 1))) pa_nil)))), ?_⟩
    refine ⟨_, rfl, x, C, dx, _, _, rfl, hx, L.cl, L.as, rfl, a, _, _, _, rfl, rfl, ha, rfl, c, _, rfl, hc, fun D hD => lcs walk_enumT ypair_same hD (fun H e => e.t hc) (fun i H acc => MadeF (fun i => (s.begun.getD i none).isSome) i acc) rfl (fun _ _ _ _ _ _ r => r) (fun _ _ _ r => r.len) (by rw [List.length_map]; omega) ?_ ?_⟩
    · intro i y H1 H2 acc Ky Kn hi e r y' ky kn
      obtain ⟨S, x1, x2, rfl, hS, rfl, g1, g2⟩ := y'
      cases g1
      obtain ⟨o, ho, rfl⟩ := oints_at g2
      refine ⟨S, _, rfl, SqT.of upd_same, rfl, _, _, rfl, _, _, rfl, rfl, rfl, ?_⟩
      refine ⟨_, rfl, rfl, _, rfl, ?_⟩
      rw [oV_non]
      have eg := getD_at (d := none) ho
      cases hb : o.isSome with
      | true => exact ⟨_, rfl, ky _ _ (Same.refl _) (r.yes (by rw [eg, hb]))⟩
      | false => exact kn _ (Same.refl _) (r.no (by rw [eg, hb]))
    · intro H1 acc e hl r
      refine ⟨D, _, rfl, .inl ⟨SqL.of hl, fun t ht => k _ _ (e.trans (Same.new ht)) ⟨t, rfl, SqT.of ?_⟩⟩⟩
      rw [upd_same, r, List.length_map]
      rfl
end
end A72

set_option Elab.async false
set_option linter.all false
set_option maxRecDepth 100000
set_option maxHeartbeats 4000000
/-! anyshift.lines: keep, ended, sends_now, behind, with_begun -/
namespace A72
open PySem PySem.Spec PyProof.Rows L2
/-- who is heard through ends (a stopping line) -/
def endF (st : Bool) (bs : List (Option Int)) (k : Int) : List (Option Int) := if st = true then bs.mapIdx fun i o => if ((i : Nat) : Int) = k then none else o else bs
def thrF (ts : List Int) (k : Int) : List Int := ts.mapIdx fun i m => m + if ((i : Nat) : Int) = k then 1 else 0
def sendsNow (g : Grp) (bs : List (Option Int)) (t : Int) (i : Nat) : Bool := match g[i]?, bs[i]? with
  | some p, some (some b) => sendB p (b % p.per) t
  | _, _ => false
def nowKind (g : Grp) (s : LSt) : Int := kindOf (sndF s.begun.length (sendsNow g s.begun s.tick))
def behindS (st : Bool) (g : Grp) (s : LSt) : LSt :=
  { tick := s.tick + 1, begun := endF st s.begun (nowKind g s), thr := thrF s.thr (nowKind g s), coll := s.coll + (if nowKind g s = -2 then 1 else 0), log := s.log ++ [nowKind g s] }
def putB (s : LSt) (i : Nat) (o : Option Int) : LSt := { s with begun := s.begun.set i o }
theorem endF_len (st : Bool) (bs : List (Option Int)) (k : Int) : (endF st bs k).length = bs.length := by
  unfold endF
  split
  · rw [List.length_mapIdx]
  · rfl
theorem thrF_len (ts : List Int) (k : Int) : (thrF ts k).length = ts.length := by
  unfold thrF
  rw [List.length_mapIdx]
theorem cut_take {xs : List V} {i : Nat} (h : i ≤ xs.length) : cutV xs none (some ((i : Nat) : Int)) = xs.take i := by
  unfold cutV
  rw [HT.sIx_none, HT.sIx_nat, List.drop_zero, Nat.sub_zero, Nat.min_eq_left h]
theorem cut_drop {xs : List V} {i : Nat} (h : i ≤ xs.length) : cutV xs (some ((i : Nat) : Int)) none = xs.drop i := by
  unfold cutV
  rw [HT.sIx_none, HT.sIx_nat, Nat.min_eq_left h, List.take_of_length_le (by rw [List.length_drop]; omega)]
theorem set_split {α : Type} : ∀ (l : List α) (i : Nat) (x : α), i < l.length → l.set i x = l.take i ++ x :: l.drop (i + 1)
  | [], i, x, h => absurd h (Nat.not_lt_zero i)
  | a :: l, 0, x, _ => rfl
  | a :: l, i + 1, x, h => by
    rw [List.set_cons_succ, set_split l i x (Nat.lt_of_succ_lt_succ h)] <;> rfl
section
variable {P : Program} {w : World} {K : PySem.W.Frag} {mg : Str → Option Value} {base : Heap} {C : Addr}
def spKeep (K : PySem.W.Frag) (C : Addr) : Sp := fun vs H Q _ => ∃ x g s n v s', vs = [.ref x, v] ∧ BoxV K C H x g s n ∧ StV K H v s' ∧ n ≤ 100000 ∧ ∀ H', Stp [x] H H' → BoxV K C H' x g s' (n + 1) → Q .non H'
theorem sc_keep : FnScope ["self", "state"] ["self", "state"] (defScope m_keep) := ⟨rfl, rfl, rfl, by decide +kernel, rfl, by decide +kernel, by decide +kernel⟩
theorem keep_ok (T : Txt K mg) (L : LCls K C) : At P w K mg base 1 (He.ma K (He.ga K "Line") "keep") ["self", "state"] (spKeep K C) := by
  refine atf T.f_m_keep sc_keep (fun _ _ _ _ _ _ us hl => match us, hl with | [_, _], _ => rfl) (fun vs H Q E h => ?_) (fun cdv A outer s H vs Q E hr h => ?_)
  · obtain ⟨x, g, s, n, v, s', rfl, _⟩ := h
    rfl
  · obtain ⟨x, g, s, n, v', s', rfl, ⟨dx, p, v, q, ps, hx, hp, hv, ⟨a, rfl, ha⟩, hn⟩, hs', hz, k⟩ := h
    refine ⟨_, (pss_cons (ps_fld (pv 0) (pe_tup (star_K K rfl (fld_K K rfl (pv 0)) (pa_cons (fld_K K rfl (pv 0)) pa_nil))) rfl)
 (pss_one (ps_fld (pv 0) (pv 1) rfl))), ?_⟩
    refine ⟨_, rfl, x, C, dx, _, _, rfl, hx, L.cl, L.at_, rfl, a, ps, rfl, .inl ha, _, rfl, x, C, dx, _, _, rfl, hx, L.cl, L.as, rfl, ?_, fun t ht => ?_⟩
    · show (ps ++ [v]).length ≤ sizeLine
      rw [List.length_append, List.length_singleton, sizeLine_eq]
      omega
    · have ne : x ≠ t := ne_of_none hx ht
      have e1 : Stp [x] H (upd H t (.tup (ps ++ [v]))) := Stp.new ht
      have hx1 : upd H t (.tup (ps ++ [v])) x = some (.ins C dx [("patterns", p), ("state", v), ("past", .ref a)]) := (upd_ne ne).trans hx
      refine ⟨_, rfl, x, C, dx, _, rfl, hx1, L.cl, L.at_, (by decide : (3 : Nat) < 1000), ?_⟩
      have e2 : Stp [x] (upd H t (.tup (ps ++ [v]))) (upd (upd H t (.tup (ps ++ [v]))) x (.ins C dx [("patterns", p), ("state", v), ("past", .ref t)])) := Stp.upd hx1 rfl (List.mem_singleton.mpr rfl)
      refine ⟨_, rfl, _, rfl, x, C, dx, [("patterns", p), ("state", v), ("past", .ref t)], rfl, upd_same, L.cl, L.as, (by decide : (3 : Nat) < 1000), ?_⟩
      have e3 : Stp [x] (upd (upd H t (.tup (ps ++ [v]))) x (.ins C dx [("patterns", p), ("state", v), ("past", .ref t)])) (upd (upd (upd H t (.tup (ps ++ [v]))) x (.ins C dx [("patterns", p), ("state", v), ("past", .ref t)])) x (.ins C dx [("patterns", p), ("state", v'), ("past", .ref t)])) := Stp.upd upd_same rfl (List.mem_singleton.mpr rfl)
      have e := (e1.trans e2).trans e3
      refine k _ e ⟨dx, p, v', .ref t, ps ++ [v], upd_same, hp.s e, hs'.s e, ⟨t, rfl, (e2.trans e3).t (SqT.of upd_same)⟩, ?_⟩
      rw [List.length_append, List.length_singleton]
      omega
def spEnd (K : PySem.W.Frag) (st : Bool) : Sp := fun vs H Q _ => ∃ x b bs k, vs = [x, b, .int k] ∧ OV K H b bs ∧ bs.length ≤ 100 ∧ ∀ H' v, Same H H' → OV K H' v (endF st bs k) → Q v H'
theorem sc_ended : FnScope ["self", "begun", "kind"] ["self", "begun", "kind"] (defScope m_ended) := ⟨rfl, rfl, rfl, by decide +kernel, rfl, by decide +kernel, by decide +kernel⟩
theorem ended_ok (T : Txt K mg) : At P w K mg base 1 (He.ma K (He.ga K "Line") "ended") ["self", "begun", "kind"] (spEnd K false) := by
  refine atf T.f_m_ended sc_ended (fun _ _ _ _ _ _ us hl => match us, hl with | [_, _, _], _ => rfl) (fun vs H Q E h => ?_) (fun cdv A outer s H vs Q E hr h => ?_)
  · obtain ⟨x, b, bs, k, rfl, _⟩ := h
    rfl
  · obtain ⟨x, b, bs, k, rfl, hb, hz, q⟩ := h
    refine ⟨_, (pss_one (ps_ret (pv 1))), ?_⟩
    exact ⟨_, rfl, q _ _ (Same.refl _) hb⟩
theorem endF_at {bs : List (Option Int)} {i : Nat} {o : Option Int} {k : Int} (h : bs[i]? = some o) : (endF true bs k)[i]? = some (if ((i : Nat) : Int) = k then none else o) := by
  unfold endF
  rw [if_pos rfl, List.getElem?_mapIdx, h] <;> rfl
theorem thrF_at {ts : List Int} {i : Nat} {m k : Int} (h : ts[i]? = some m) : (thrF ts k)[i]? = some (m + if ((i : Nat) : Int) = k then 1 else 0) := by
  unfold thrF
  rw [List.getElem?_mapIdx, h] <;> rfl
theorem sc_ended_s : FnScope ["self", "begun", "kind", "who", "tick"] ["self", "begun", "kind"] (defScope m_ended_s) := ⟨rfl, rfl, rfl, by decide +kernel, rfl, by decide +kernel, by decide +kernel⟩
theorem ended_s_ok (T : Txt K mg) : At P w K mg base 1 (He.ma K (He.ga K "Stopping") "ended") ["self", "begun", "kind"] (spEnd K true) := by
  refine atf T.f_m_ended_s sc_ended_s (fun _ _ _ _ _ _ us hl => match us, hl with | [_, _, _], _ => rfl) (fun vs H Q E h => ?_) (fun cdv A outer s H vs Q E hr h => ?_)
  · obtain ⟨x, b, bs, k, rfl, _⟩ := h
    rfl
  · obtain ⟨x, b, bs, k, rfl, ⟨a, rfl, ha⟩, hz, q⟩ := h
    refine ⟨_, (pss_one (ps_ret (pe_callTy (tuple_K K rfl) (by rfl) T.b_tuple (by decide +kernel) (pa_cons (pe_lc (own := [("who", 3), ("tick", 4)]) (g := gTup K 2 (gCons (gName 3) (gCons (gName 4) gNil))) (by rfl) sc_ended_s.nd (pi_enumK K rfl (by rfl) T.b_enumerate (pa_cons (pv 1) pa_nil)) (blkOk_by (N := ["self", "begun", "kind", "who", "tick"]) (sc := defScope m_ended_s) (by decide +kernel)) (fun _ _ _ _ _ => (by exact pg_2 (i := 3) (j := 4) K rfl rfl sc_ended_s.nd rfl rfl (Or.inl rfl) (Or.inl rfl) (by first | exact .inl rfl | exact .inr rfl) (by first | exact .inl rfl | exact .inr rfl))) (fun _ _ _ _ _ => pts_nil) (fun _ _ _ _ _ => (pe_ifExp (pt_cmpR op_eq (pv 3) (pv 2) (nomark _)) pe_non (pv 4)))) pa_nil)))), ?_⟩
    refine ⟨_, rfl, a, _, rfl, ha, fun D hD => lcs walk_enumT ypair_same hD (fun H e => e.t ha) (fun i H acc => Made oV (endF true bs k) i acc) Made.zero (fun _ _ _ _ _ _ r => r) (fun _ _ _ r => r.len) (by rw [List.length_map]; omega) ?_ ?_⟩
    · intro i y H1 H2 acc Ky Kn hi e r y' ky kn
      obtain ⟨S, x1, x2, rfl, hS, rfl, g1, g2⟩ := y'
      cases g1
      obtain ⟨o, ho, rfl⟩ := oints_at g2
      refine ⟨S, _, rfl, SqT.of upd_same, rfl, _, _, rfl, _, _, rfl, rfl, rfl, ?_⟩
      have ea := endF_at (k := k) ho
      refine ⟨_, rfl, _, rfl, rfl, decide (((i : Nat) : Int) = k), congrArg V.bl (by rw [dec_int]; rfl), ?_⟩
      by_cases hk : ((i : Nat) : Int) = k
      · rw [if_pos hk] at ea
        rw [decide_eq_true hk]
        exact ky _ _ (Same.refl _) (r.succ ea)
      · rw [if_neg hk] at ea
        rw [decide_eq_false hk]
        exact ⟨_, rfl, ky _ _ (Same.refl _) (r.succ ea)⟩
    · intro H1 acc e hl r
      have ea := r.all (by rw [endF_len, List.length_map])
      refine ⟨D, _, rfl, .inl ⟨SqL.of hl, fun t ht => q _ _ (e.trans (Same.new ht)) ⟨t, rfl, SqT.of ?_⟩⟩⟩
      rw [upd_same, ea]
def osB (p : Pat) (t : Int) : Option Int → Bool
  | none => false
  | some b => sendB p (b % p.per) t
theorem sendsNow_at {g : Grp} {bs : List (Option Int)} {t : Int} {i : Nat} {p : Pat} {o : Option Int} (hp : g[i]? = some p) (ho : bs[i]? = some o) : sendsNow g bs t i = osB p t o := by
  unfold sendsNow
  rw [hp, ho]
  cases o <;> rfl
def spSn (K : PySem.W.Frag) (C : Addr) : Sp := fun vs H Q _ => ∃ x g s n v s' i, vs = [.ref x, v, .int ((i : Nat) : Int)] ∧ BoxV K C H x g s n ∧ GrpOk g ∧ StV K H v s' ∧ s'.begun.length = g.length ∧ i < g.length ∧ Q (.bl (sendsNow g s'.begun s'.tick i)) H
theorem sc_sends_now : FnScope ["self", "state", "who", "tick", "begun"] ["self", "state", "who"] (defScope m_sends_now) := ⟨rfl, rfl, rfl, by decide +kernel, rfl, by decide +kernel, by decide +kernel⟩
theorem sends_now_ok (T : Txt K mg) (L : LCls K C) : At P w K mg base 2 (He.ma K (He.ga K "Line") "sends_now") ["self", "state", "who"] (spSn K C) := by
  refine atf T.f_m_sends_now sc_sends_now (fun _ _ _ _ _ _ us hl => match us, hl with | [_, _, _], _ => rfl) (fun vs H Q E h => ?_) (fun cdv A outer s H vs Q E hr h => ?_)
  · obtain ⟨x, g, s, n, v, s', i, rfl, _⟩ := h
    rfl
  · obtain ⟨x, g, s, n, v', s', i, rfl, ⟨dx, p, v, q, ps, hx, ⟨gvs, ⟨d, rfl, hd⟩, hpt⟩, hv, hq, hn⟩, hg, ⟨b, t, l, ⟨a, rfl, ha⟩, ⟨c, rfl, hc⟩, ht, hl⟩, hlen, hi, k⟩ := h
    refine ⟨_, (pss_cons (ps_par (i := 3) (j := 4) rfl sc_sends_now.nd rfl rfl (by decide) rfl rfl (pa_cons (pe_ix (ix_tupK K rfl) (pv 1) pe_int (fun _ _ => rfl)) (pa_cons (pe_ix (ix_tupK K rfl) (pe_ix (ix_tupK K rfl) (pv 1) pe_int (fun _ _ => rfl)) (pv 2) (fun _ _ => rfl)) pa_nil)) (by rfl))
 (pss_one (ps_ret (pe_and (pe_cmpR op_notN (pv 4) pe_non (nomark _)) (pe_one (C8.pe_c (does_send_ok T) hr (by decide) rfl (pa_cons (pe_ix (ix_tupK K rfl) (fld_K K rfl (pv 0)) (pv 2) (fun _ _ => rfl)) (pa_cons (pe_op op_mod (pv 4) (pe_ix (ix_tupK K rfl) (pe_ix (ix_tupK K rfl) (fld_K K rfl (pv 0)) (pv 2) (fun _ _ => rfl)) pe_int (fun _ _ => rfl))) (pa_cons (pv 3) pa_nil))))))))), ?_⟩
    obtain ⟨o, ho⟩ : ∃ o, s'.begun[i]? = some o := ⟨_, List.getElem?_eq_getElem (by omega)⟩
    obtain ⟨pt, hpi⟩ : ∃ pt, g[i]? = some pt := ⟨_, List.getElem?_eq_getElem hi⟩
    refine ⟨_, rfl, a, _, _, _, rfl, rfl, ha, rfl, _, rfl, a, _, _, _, rfl, rfl, ha, rfl, _, rfl, c, _, _, _, rfl, rfl, hc, atI_nat (oint_at ho), _, _, rfl, ?_⟩
    refine ⟨_, rfl, rfl, ?_⟩
    rw [sendsNow_at hpi ho] at k
    rw [oV_non]
    cases o with
    | none => exact ⟨_, rfl, k⟩
    | some b =>
      obtain ⟨vp, hvp, hpv⟩ := pairedP_at hpt hpi
      have hpp := (hg.at_ hpi).pos
      have hpv2 := hpv
      obtain ⟨sv, ⟨e, rfl, he⟩, _⟩ := hpv2
      refine ⟨_, rfl, _, rfl, x, C, dx, _, _, rfl, hx, L.cl, L.ap, rfl, _, rfl, d, _, _, _, rfl, rfl, hd, atI_nat hvp, ?_⟩
      refine ⟨_, rfl, _, rfl, x, C, dx, _, _, rfl, hx, L.cl, L.ap, rfl, _, rfl, d, _, _, _, rfl, rfl, hd, atI_nat hvp, e, _, _, _, rfl, rfl, he, rfl, _, _, rfl, rfl, hpp, ?_⟩
      exact ⟨_, rfl, _, pt, _, _, rfl, hpv, hpp, k⟩
end
end A72

set_option Elab.async false
set_option linter.all false
set_option maxRecDepth 100000
set_option maxHeartbeats 4000000
/-! anyshift.lines: behind, with_begun, start, stop, run and what is asked of a line -/
namespace A72
open PySem PySem.Spec PyProof.Rows L2
section
variable {P : Program} {w : World} {K : PySem.W.Frag} {mg : Str → Option Value} {base : Heap} {C : Addr} {st : Bool}
theorem walk_r0 {n : Nat} : Walk (Itr 0 n) n (fun _ => True) (YFn fun i => .int ((i : Nat) : Int)) := by
  have z := walk_range (lo := 0) (n := n)
  simp only [Int.zero_add] at z
  exact z
/-- the state's lists have the group's length -/
structure LOk (g : Grp) (s : LSt) : Prop where
  b : s.begun.length = g.length
  t : s.thr.length = g.length
theorem LOk.behind {g : Grp} {s : LSt} (h : LOk g s) : LOk g (behindS st g s) := ⟨by show (endF _ _ _).length = _; rw [endF_len, h.b], by show (thrF _ _).length = _; rw [thrF_len, h.t]⟩
theorem LOk.put {g : Grp} {s : LSt} {i : Nat} {o : Option Int} (h : LOk g s) : LOk g (putB s i o) := ⟨by show (s.begun.set i o).length = _; rw [List.length_set, h.b], h.t⟩
def spBeh (K : PySem.W.Frag) (C : Addr) (st : Bool) : Sp := fun vs H Q _ => ∃ x g s n v s', vs = [.ref x, v] ∧ BoxV K C H x g s n ∧ GrpOk g ∧ StV K H v s' ∧ LOk g s' ∧ s'.log.length ≤ 100000 ∧ ∀ H' v', Same H H' → StV K H' v' (behindS st g s') → Q v' H'
theorem sc_behind : FnScope ["self", "state", "tick", "begun", "through", "collisions", "log", "kind", "counted", "who", "many"] ["self", "state"] (defScope m_behind) := ⟨rfl, rfl, rfl, by decide +kernel, rfl, by decide +kernel, by decide +kernel⟩
theorem behind_ok (T : Txt K mg) (L : LCls K C) (hE : C8.Met P w K mg base 1 C "ended" (spEnd K st) []) : At P w K mg base 3 (He.ma K (He.ga K "Line") "behind") ["self", "state"] (spBeh K C st) := by
  refine atf T.f_m_behind sc_behind (fun _ _ _ _ _ _ us hl => match us, hl with | [_, _], _ => rfl) (fun vs H Q E h => ?_) (fun cdv A outer s H vs Q E hr h => ?_)
  · obtain ⟨x, g, s, n, v, s', rfl, _⟩ := h
    rfl
  · obtain ⟨x, g, s, n, v', s', rfl, hbox, hg, ⟨b, t, l, ⟨a, rfl, ha⟩, ⟨c, rfl, hc⟩, ⟨d, rfl, hd⟩, ⟨e, rfl, he⟩⟩, hok, hz, k⟩ := h
    have h4 := hg.hi
    refine ⟨_, (pss_cons (ps_asg (pv 1) (pg_tupK K rfl rfl (pgs_cons (pg_name (i := 2) sc_behind.nd rfl (Or.inl rfl)) (pgs_cons (pg_name (i := 3) sc_behind.nd rfl (Or.inl rfl)) (pgs_cons (pg_name (i := 4) sc_behind.nd rfl (Or.inl rfl)) (pgs_cons (pg_name (i := 5) sc_behind.nd rfl (Or.inl rfl)) (pgs_cons (pg_name (i := 6) sc_behind.nd rfl (Or.inl rfl)) pgs_nil)))))))
 (pss_cons (ps_set (i := 7) sc_behind.nd rfl (Or.inr rfl) (C8.pe_c (kind_of_ok T) hr (by decide) rfl (pa_cons (pe_lc (own := [("who", 9)]) (g := gName 9) (by rfl) sc_behind.nd (pi_range1 rfl T.b_range (pa_cons (pe_callB (len_K K rfl) (by rfl) T.b_len PySem.boot_len (pa_cons (pv 3) pa_nil)) pa_nil)) (blkOk_by (N := ["self", "state", "tick", "begun", "through", "collisions", "log", "kind", "counted", "who", "many"]) (sc := defScope m_behind) (by decide +kernel)) (fun _ _ _ _ _ => (pg_name (i := 9) sc_behind.nd rfl (Or.inl rfl))) (fun _ _ _ _ _ => pts_one (pt_val (C8.pe_mt ((sends_now_ok T L).met L.cl L.sends_now) hr (by decide) (pv 0) (pa_cons (pv 1) (pa_cons (pv 9) pa_nil))))) (fun _ _ _ _ _ => (pv 9))) pa_nil)))
 (pss_cons (ps_set (i := 8) sc_behind.nd rfl (Or.inl rfl) (pe_callTy (tuple_K K rfl) (by rfl) T.b_tuple (by decide +kernel) (pa_cons (pe_lc (own := [("who", 9), ("many", 10)]) (g := gTup K 2 (gCons (gName 9) (gCons (gName 10) gNil))) (by rfl) sc_behind.nd (pi_enumK K rfl (by rfl) T.b_enumerate (pa_cons (pv 4) pa_nil)) (blkOk_by (N := ["self", "state", "tick", "begun", "through", "collisions", "log", "kind", "counted", "who", "many"]) (sc := defScope m_behind) (by decide +kernel)) (fun _ _ _ _ _ => (by exact pg_2 (i := 9) (j := 10) K rfl rfl sc_behind.nd rfl rfl (Or.inl rfl) (Or.inl rfl) (by first | exact .inl rfl | exact .inr rfl) (by first | exact .inl rfl | exact .inr rfl))) (fun _ _ _ _ _ => pts_nil) (fun _ _ _ _ _ => (pe_op op_add (pv 10) (pe_callTy call_int1 (by rfl) T.b_int (by decide +kernel) (pa_cons (pe_cmpR op_eq (pv 9) (pv 7) (nomark _)) pa_nil))))) pa_nil)))
 (pss_one (ps_ret (pe_tup (pa_cons (pe_op op_add (pv 2) pe_int) (pa_cons (C8.pe_mt hE hr (by decide) (pv 0) (pa_cons (pv 3) (pa_cons (pv 7) pa_nil))) (pa_cons (pv 8) (pa_cons (pe_op op_add (pv 5) (pe_callTy call_int1 (by rfl) T.b_int (by decide +kernel) (pa_cons (pe_cmpR op_eq (pv 7) (pe_ig T.c_COLLISION rfl) (nomark _)) pa_nil))) (pa_cons (pe_tup (star_K K rfl (pv 6) (pa_cons (pv 7) pa_nil))) pa_nil))))))))))), ?_⟩
    refine ⟨_, rfl, a, _, rfl, ha, rfl, ?_⟩
    refine ⟨_, _, rfl, _, _, rfl, _, _, rfl, _, _, rfl, _, _, rfl, rfl, ?_⟩
    have hbox2 := hbox
    obtain ⟨dx, p0, v0, q0, ps0, hx, _⟩ := hbox2
    have hbl := hok.b
    have htl := hok.t
    have hst : StV K H (.ref a) s' := ⟨.ref c, .ref d, .ref e, ⟨a, rfl, ha⟩, ⟨c, rfl, hc⟩, ⟨d, rfl, hd⟩, ⟨e, rfl, he⟩⟩
    refine ⟨_, rfl, c, _, rfl, .inr hc, _, rfl, by rw [List.length_map]; omega, by rw [List.length_map]; omega, fun D hD => lcs (walk_r0 (n := (((List.map oV s'.begun).length : Nat) : Int).toNat)) yfn_same hD (fun H e => trivial) (fun i H acc => MadeF (sendsNow g s'.begun s'.tick) i acc) rfl (fun _ _ _ _ _ _ r => r) (fun _ _ _ r => r.len) (by rw [List.length_map]; omega) ?_ ?_⟩
    · intro i y H1 H2 acc Ky Kn hi e1 r yy ky kn
      obtain ⟨rfl, rfl⟩ := yy
      rw [List.length_map] at hi
      refine ⟨rfl, _, rfl, x, dx, _, rfl, e1 _ _ hx, rfl, _, rfl, _, rfl, x, g, s, n, .ref a, s', i, rfl, hbox.m e1, hg, hst.m e1, hbl, by omega, ?_⟩
      cases hb : sendsNow g s'.begun s'.tick i with
      | true => exact ⟨true, rfl, _, rfl, ky _ _ (Same.refl _) (r.yes hb)⟩
      | false => exact ⟨false, rfl, kn _ (Same.refl _) (r.no hb)⟩
    · intro H1 acc e1 hl r
      have ea : acc = (sndF s'.begun.length (sendsNow g s'.begun s'.tick)).map V.int := by
        rw [List.length_map] at r
        exact r
      refine ⟨.ref D, _, rfl, ⟨D, rfl, SqL.of (by rw [hl, ea])⟩, fun H2 e2 => ?_⟩
      have e12 := e1.trans e2
      refine ⟨_, rfl, d, _, rfl, e12.t hd, fun D2 hD2 => lcs walk_enumT ypair_same hD2 (fun H e => e.t (e12.t hd)) (fun i H acc => Made V.int (thrF s'.thr (nowKind g s')) i acc) Made.zero (fun _ _ _ _ _ _ r => r) (fun _ _ _ r => r.len) (by rw [List.length_map]; omega) ?_ ?_⟩
      · intro i y H3 H4 acc2 Ky Kn hi e3 r2 yy ky kn
        obtain ⟨S, x1, x2, rfl, hS, rfl, g1, g2⟩ := yy
        cases g1
        obtain ⟨m, hm, rfl⟩ := ints_at g2
        refine ⟨S, _, rfl, SqT.of upd_same, rfl, _, _, rfl, _, _, rfl, rfl, rfl, ?_⟩
        refine ⟨_, rfl, _, rfl, _, rfl, rfl, .inr ⟨decide (((i : Nat) : Int) = nowKind g s'), congrArg (fun b => [V.bl b]) (by rw [dec_int]; rfl), _, _, rfl, rfl, ?_⟩⟩
        have et := thrF_at (k := nowKind g s') hm
        by_cases hk : ((i : Nat) : Int) = nowKind g s'
        · rw [if_pos hk] at et
          rw [decide_eq_true hk]
          exact ky _ _ (Same.refl _) (r2.succ et)
        · rw [if_neg hk] at et
          rw [decide_eq_false hk]
          exact ky _ _ (Same.refl _) (r2.succ et)
      · intro H3 acc2 e3 hl2 r2
        have ea2 := r2.all (by rw [thrF_len, List.length_map])
        refine ⟨D2, _, rfl, .inl ⟨SqL.of hl2, fun t2 ht2 => ?_⟩⟩
        have e4 : Same H (upd H3 t2 (.tup acc2)) := (e12.trans e3).trans (Same.new ht2)
        refine ⟨_, rfl, _, _, rfl, rfl, _, rfl, x, dx, _, rfl, e4 _ _ hx, rfl, _, rfl, _, rfl, .ref x, .ref c, s'.begun, _, rfl, ⟨c, rfl, e4.t hc⟩, by omega, fun H5 vb e5 hvb => ?_⟩
        have e45 := e4.trans e5
        refine ⟨_, rfl, _, rfl, _, rfl, rfl, .inr ⟨decide (nowKind g s' = -2), congrArg (fun b => [V.bl b]) (by rw [dec_int]; rfl), _, _, rfl, rfl, ?_⟩⟩
        refine ⟨_, rfl, e, _, rfl, .inl (e45.t he), _, rfl, ?_, fun t6 ht6 => ?_⟩
        · show (s'.log.map V.int ++ [V.int (nowKind g s')]).length ≤ sizeLine
          rw [List.length_append, List.length_map, List.length_singleton, sizeLine_eq]
          omega
        · refine ⟨?_, fun t7 ht7 => k _ _ ((e45.trans (Same.new ht6)).trans (Same.new ht7)) ⟨vb, .ref t2, .ref t6, ⟨t7, rfl, SqT.of ?_⟩, ?_, ?_, ?_⟩⟩
          · show 5 ≤ sizeLine
            rw [sizeLine_eq]
            decide
          · rw [upd_same]
            show some (HO.tup [V.int (s'.tick + 1), vb, .ref t2, V.int (s'.coll + if decide (nowKind g s' = -2) = true then 1 else 0), .ref t6]) = some (HO.tup [V.int (s'.tick + 1), vb, .ref t2, V.int (s'.coll + if nowKind g s' = -2 then 1 else 0), .ref t6])
            by_cases hk : nowKind g s' = -2
            · rw [decide_eq_true hk, if_pos rfl, if_pos hk]
            · rw [decide_eq_false hk, if_neg Bool.false_ne_true, if_neg hk]
          · exact TV.m hvb ((Same.new ht6).trans (Same.new ht7))
          · refine ⟨t2, rfl, Same.t ((e5.trans (Same.new ht6)).trans (Same.new ht7)) (SqT.of ?_)⟩
            rw [upd_same, ea2] <;> rfl
          · refine ⟨t6, rfl, (Same.new ht7).t (SqT.of ?_)⟩
            rw [upd_same]
            show some (HO.tup (s'.log.map V.int ++ [V.int (nowKind g s')])) = some (HO.tup ((s'.log ++ [nowKind g s']).map V.int))
            rw [List.map_append] <;> rfl
end
end A72

set_option Elab.async false
set_option linter.all false
set_option maxRecDepth 100000
set_option maxHeartbeats 4000000
/-! anyshift.lines: with_begun, start, stop, run -/
namespace A72
open PySem PySem.Spec PyProof.Rows L2
section
variable {P : Program} {w : World} {K : PySem.W.Frag} {mg : Str → Option Value} {base : Heap} {C : Addr} {st : Bool}
def spWb (K : PySem.W.Frag) (C : Addr) : Sp := fun vs H Q _ => ∃ x g s n i o, vs = [.ref x, .int ((i : Nat) : Int), oV o] ∧ BoxV K C H x g s n ∧ i < s.begun.length ∧ s.begun.length ≤ 100 ∧ ∀ H' v', Same H H' → StV K H' v' (putB s i o) → Q v' H'
theorem sc_with_begun : FnScope ["self", "who", "tick", "now", "begun", "through", "collisions", "log"] ["self", "who", "tick"] (defScope m_with_begun) := ⟨rfl, rfl, rfl, by decide +kernel, rfl, by decide +kernel, by decide +kernel⟩
theorem with_begun_ok (T : Txt K mg) (L : LCls K C) : At P w K mg base 1 (He.ma K (He.ga K "Line") "with_begun") ["self", "who", "tick"] (spWb K C) := by
  refine atf T.f_m_with_begun sc_with_begun (fun _ _ _ _ _ _ us hl => match us, hl with | [_, _, _], _ => rfl) (fun vs H Q E h => ?_) (fun cdv A outer s H vs Q E hr h => ?_)
  · obtain ⟨x, g, s, n, i, o, rfl, _⟩ := h
    rfl
  · obtain ⟨x, g, s, n, i, o, rfl, ⟨dx, p, v, q, ps, hx, hp, ⟨b, t, l, ⟨a, rfl, ha⟩, ⟨c, rfl, hc⟩, ht, hl⟩, hq, hn⟩, hi, hz, k⟩ := h
    refine ⟨_, (pss_cons (ps_asg (fld_K K rfl (pv 0)) (pg_tupK K rfl rfl (pgs_cons (pg_name (i := 3) sc_with_begun.nd rfl (Or.inl rfl)) (pgs_cons (pg_name (i := 4) sc_with_begun.nd rfl (Or.inl rfl)) (pgs_cons (pg_name (i := 5) sc_with_begun.nd rfl (Or.inl rfl)) (pgs_cons (pg_name (i := 6) sc_with_begun.nd rfl (Or.inl rfl)) (pgs_cons (pg_name (i := 7) sc_with_begun.nd rfl (Or.inl rfl)) pgs_nil)))))))
 (pss_one (ps_ret (pe_tup (pa_cons (pv 3) (pa_cons (pe_tup (star_K K rfl (pe_slice (sl_tupK K rfl) (pv 4) po_none (po_some (pv 1))) (pa_cons (pv 2) (star_K K rfl (pe_slice (sl_tupK K rfl) (pv 4) (po_some (pe_op op_add (pv 1) pe_int)) po_none) pa_nil)))) (pa_cons (pv 5) (pa_cons (pv 6) (pa_cons (pv 7) pa_nil))))))))), ?_⟩
    refine ⟨_, rfl, x, C, dx, _, _, rfl, hx, L.cl, L.as, rfl, a, _, rfl, ha, rfl, ?_⟩
    refine ⟨_, _, rfl, _, _, rfl, _, _, rfl, _, _, rfl, _, _, rfl, rfl, ?_⟩
    refine ⟨_, rfl, _, rfl, _, rfl, _, rfl, c, _, rfl, hc, fun d1 H1 e1 hd1 => ?_⟩
    rw [cut_take (by rw [List.length_map]; omega)] at hd1
    refine ⟨d1, _, rfl, .inl hd1, _, rfl, _, rfl, _, rfl, _, _, rfl, rfl, _, rfl, c, _, rfl, e1.t hc, fun d2 H2 e2 hd2 => ?_⟩
    have hcut : cutV (s.begun.map oV) (some (((i : Nat) : Int) + 1)) none = (s.begun.map oV).drop (i + 1) := cut_drop (i := i + 1) (by rw [List.length_map]; omega)
    rw [hcut] at hd2
    have e12 := e1.trans e2
    have hsp : (s.begun.map oV).take i ++ (oV o :: ((s.begun.map oV).drop (i + 1) ++ [])) = (s.begun.set i o).map oV := by
      rw [set_split _ _ _ hi, List.map_append, List.map_cons, List.map_take, List.map_drop, List.append_nil]
    refine ⟨d2, _, rfl, .inl hd2, ?_, fun t3 ht3 => ?_⟩
    · show ((s.begun.map oV).take i ++ (oV o :: ((s.begun.map oV).drop (i + 1) ++ []))).length ≤ sizeLine
      rw [hsp, List.length_map, List.length_set, sizeLine_eq]
      omega
    · refine ⟨_, rfl, _, rfl, _, rfl, ?_, fun t4 ht4 => k _ _ ((e12.trans (Same.new ht3)).trans (Same.new ht4)) ⟨.ref t3, t, l, ⟨t4, rfl, SqT.of upd_same⟩, ?_, ?_, ?_⟩⟩
      · show 5 ≤ sizeLine
        rw [sizeLine_eq]
        decide
      · refine ⟨t3, rfl, (Same.new ht4).t (SqT.of ?_)⟩
        rw [upd_same]
        exact congrArg (fun z => some (HO.tup z)) hsp
      · exact TV.m ht ((e12.trans (Same.new ht3)).trans (Same.new ht4))
      · exact TV.m hl ((e12.trans (Same.new ht3)).trans (Same.new ht4))
def spStart (K : PySem.W.Frag) (C : Addr) : Sp := fun vs H Q _ => ∃ x g s n i, vs = [.ref x, .int ((i : Nat) : Int)] ∧ BoxV K C H x g s n ∧ GrpOk g ∧ LOk g s ∧ s.begun[i]? = some none ∧ n ≤ 100000 ∧
  ∀ H', Stp [x] H H' → BoxV K C H' x g (putB s i (some s.tick)) (n + 1) → Q .non H'
theorem sc_start : FnScope ["self", "who"] ["self", "who"] (defScope m_start) := ⟨rfl, rfl, rfl, by decide +kernel, rfl, by decide +kernel, by decide +kernel⟩
theorem start_ok (T : Txt K mg) (L : LCls K C) : At P w K mg base 4 (He.ma K (He.ga K "Line") "start") ["self", "who"] (spStart K C) := by
  refine atf T.f_m_start sc_start (fun _ _ _ _ _ _ us hl => match us, hl with | [_, _], _ => rfl) (fun vs H Q E h => ?_) (fun cdv A outer s H vs Q E hr h => ?_)
  · obtain ⟨x, g, s, n, i, rfl, _⟩ := h
    rfl
  · obtain ⟨x, g, s, n, i, rfl, hbox, hg, hok, ho, hz, k⟩ := h
    have hbox2 := hbox
    obtain ⟨dx, p, v, q, ps, hx, ⟨gvs, ⟨d, rfl, hd⟩, hpt⟩, ⟨b, t, l, ⟨a, rfl, ha⟩, ⟨c, rfl, hc⟩, ht, hl⟩, hq, hn⟩ := hbox2
    have hi : i < s.begun.length := (List.getElem?_eq_some_iff.mp ho).1
    have hbl := hok.b
    have h4 := hg.hi
    have hlen := pairedP_len hpt
    refine ⟨_, (pss_cons (ps_expr (C8.pe_c (need_sender_ok T) hr (by decide) rfl (pa_cons (fld_K K rfl (pv 0)) (pa_cons (pv 1) pa_nil))))
 (pss_cons (ps_if (pt_cmpR op_notN (pe_ix (ix_tupK K rfl) (pe_ix (ix_tupK K rfl) (fld_K K rfl (pv 0)) pe_int (fun _ _ => rfl)) (pv 1) (fun _ _ => rfl)) pe_non (nomark _)) (pss_one ps_never) pss_nil)
 (pss_one (ps_expr (C8.pe_mt ((keep_ok T L).met L.cl L.keep) hr (by decide) (pv 0) (pa_cons (C8.pe_mt ((with_begun_ok T L).met L.cl L.with_begun) hr (by decide) (pv 0) (pa_cons (pv 1) (pa_cons (pe_pr (pv 0) L.cl L.now (now_ok T L) hr (by decide)) pa_nil))) pa_nil)))))), ?_⟩
    refine ⟨_, rfl, x, C, dx, _, _, rfl, hx, L.cl, L.ap, rfl, _, rfl, .ref d, gvs, _, rfl, ⟨d, rfl, hd⟩, by omega, by omega, ?_⟩
    refine ⟨_, rfl, x, C, dx, _, _, rfl, hx, L.cl, L.as, rfl, a, _, _, _, rfl, rfl, ha, rfl, _, rfl, c, _, _, _, rfl, rfl, hc, atI_nat (oint_at ho), rfl, false, rfl, ?_⟩
    refine ⟨_, rfl, x, dx, _, rfl, hx, rfl, _, rfl, x, dx, _, rfl, hx, rfl, _, rfl, _, rfl, x, dx, _, rfl, hx, x, g, s, n, rfl, hbox, ?_⟩
    refine ⟨x, g, s, n, i, some s.tick, rfl, hbox, hi, by omega, fun H1 v1 e1 hv1 => ?_⟩
    exact ⟨x, g, s, n, v1, _, rfl, hbox.m e1, hv1, hz, fun H2 e2 hb2 => k H2 (e1.stp.trans e2) hb2⟩
def spStop (K : PySem.W.Frag) (C : Addr) : Sp := fun vs H Q _ => ∃ x g s n i o, vs = [.ref x, .int ((i : Nat) : Int)] ∧ BoxV K C H x g s n ∧ GrpOk g ∧ LOk g s ∧ s.begun[i]? = some (some o) ∧ n ≤ 100000 ∧
  ∀ H', Stp [x] H H' → BoxV K C H' x g (putB s i none) (n + 1) → Q .non H'
theorem sc_stop : FnScope ["self", "who"] ["self", "who"] (defScope m_stop) := ⟨rfl, rfl, rfl, by decide +kernel, rfl, by decide +kernel, by decide +kernel⟩
theorem stop_ok (T : Txt K mg) (L : LCls K C) : At P w K mg base 4 (He.ma K (He.ga K "Line") "stop") ["self", "who"] (spStop K C) := by
  refine atf T.f_m_stop sc_stop (fun _ _ _ _ _ _ us hl => match us, hl with | [_, _], _ => rfl) (fun vs H Q E h => ?_) (fun cdv A outer s H vs Q E hr h => ?_)
  · obtain ⟨x, g, s, n, i, o, rfl, _⟩ := h
    rfl
  · obtain ⟨x, g, s, n, i, o, rfl, hbox, hg, hok, ho, hz, k⟩ := h
    have hbox2 := hbox
    obtain ⟨dx, p, v, q, ps, hx, ⟨gvs, ⟨d, rfl, hd⟩, hpt⟩, ⟨b, t, l, ⟨a, rfl, ha⟩, ⟨c, rfl, hc⟩, ht, hl⟩, hq, hn⟩ := hbox2
    have hi : i < s.begun.length := (List.getElem?_eq_some_iff.mp ho).1
    have hbl := hok.b
    have h4 := hg.hi
    have hlen := pairedP_len hpt
    refine ⟨_, (pss_cons (ps_expr (C8.pe_c (need_sender_ok T) hr (by decide) rfl (pa_cons (fld_K K rfl (pv 0)) (pa_cons (pv 1) pa_nil))))
 (pss_cons (ps_if (pt_cmpR op_isN (pe_ix (ix_tupK K rfl) (pe_ix (ix_tupK K rfl) (fld_K K rfl (pv 0)) pe_int (fun _ _ => rfl)) (pv 1) (fun _ _ => rfl)) pe_non (nomark _)) (pss_one ps_never) pss_nil)
 (pss_one (ps_expr (C8.pe_mt ((keep_ok T L).met L.cl L.keep) hr (by decide) (pv 0) (pa_cons (C8.pe_mt ((with_begun_ok T L).met L.cl L.with_begun) hr (by decide) (pv 0) (pa_cons (pv 1) (pa_cons pe_non pa_nil))) pa_nil)))))), ?_⟩
    refine ⟨_, rfl, x, C, dx, _, _, rfl, hx, L.cl, L.ap, rfl, _, rfl, .ref d, gvs, _, rfl, ⟨d, rfl, hd⟩, by omega, by omega, ?_⟩
    refine ⟨_, rfl, x, C, dx, _, _, rfl, hx, L.cl, L.as, rfl, a, _, _, _, rfl, rfl, ha, rfl, _, rfl, c, _, _, _, rfl, rfl, hc, atI_nat (oint_at ho), rfl, false, rfl, ?_⟩
    refine ⟨_, rfl, x, dx, _, rfl, hx, rfl, _, rfl, x, dx, _, rfl, hx, rfl, _, rfl, ?_⟩
    refine ⟨x, g, s, n, i, none, rfl, hbox, hi, by omega, fun H1 v1 e1 hv1 => ?_⟩
    exact ⟨x, g, s, n, v1, _, rfl, hbox.m e1, hv1, hz, fun H2 e2 hb2 => k H2 (e1.stp.trans e2) hb2⟩
end
end A72

set_option Elab.async false
set_option linter.all false
set_option maxRecDepth 100000
set_option maxHeartbeats 4000000
/-! anyshift.lines: run and what is asked of a line -/
namespace A72
open PySem PySem.Spec PyProof.Rows L2
def runS (st : Bool) (g : Grp) : Nat → LSt → LSt
  | 0, s => s
  | n + 1, s => behindS st g (runS st g n s)
def told (st : Bool) (g : Grp) (s : LSt) (n : Nat) : List Int := (runS st g n s).log.drop s.log.length
theorem runS_ok {st : Bool} {g : Grp} {s : LSt} (h : LOk g s) : ∀ n : Nat, LOk g (runS st g n s)
  | 0 => h
  | n + 1 => (runS_ok h n).behind
theorem runS_log {st : Bool} {g : Grp} {s : LSt} : ∀ n : Nat, (runS st g n s).log.length = s.log.length + n
  | 0 => rfl
  | n + 1 => by
    show ((runS st g n s).log ++ [_]).length = _
    rw [List.length_append, runS_log n, List.length_singleton]
    omega
theorem cut_last {xs : List V} {n : Nat} (h : n ≤ xs.length) (h0 : 1 ≤ n) : cutV xs (some (-((n : Nat) : Int))) none = xs.drop (xs.length - n) := by
  unfold cutV
  have e : HT.sIx xs.length 0 (some (-((n : Nat) : Int))) = xs.length - n := by
    show (if (-((n : Nat) : Int)) < 0 then ((-((n : Nat) : Int)) + (xs.length : Int)).toNat else min (-((n : Nat) : Int)).toNat xs.length) = _
    rw [if_pos (by omega)]
    omega
  rw [HT.sIx_none, e, List.take_of_length_le (by rw [List.length_drop]; omega)]
section
variable {P : Program} {w : World} {K : PySem.W.Frag} {mg : Str → Option Value} {base : Heap} {C : Addr} {st : Bool}
def spRun (K : PySem.W.Frag) (C : Addr) (st : Bool) : Sp := fun vs H Q _ => ∃ x g s m n, vs = [.ref x, .int ((n : Nat) : Int)] ∧ 1 ≤ n ∧ n ≤ 200 ∧ BoxV K C H x g s m ∧ GrpOk g ∧ LOk g s ∧ s.log.length + n ≤ 100000 ∧ m ≤ 100000 ∧
  ∀ H' v, Stp [x] H H' → BoxV K C H' x g (runS st g n s) (m + 1) → IV K H' v (told st g s n) → Q v H'
theorem sc_run : FnScope ["self", "ticks", "state", "turn"] ["self", "ticks"] (defScope m_run) := ⟨rfl, rfl, rfl, by decide +kernel, rfl, by decide +kernel, by decide +kernel⟩
theorem run_ok (T : Txt K mg) (L : LCls K C) (hE : C8.Met P w K mg base 1 C "ended" (spEnd K st) []) : At P w K mg base 4 (He.ma K (He.ga K "Line") "run") ["self", "ticks"] (spRun K C st) := by
  refine atf T.f_m_run sc_run (fun _ _ _ _ _ _ us hl => match us, hl with | [_, _], _ => rfl) (fun vs H Q E h => ?_) (fun cdv A outer s H vs Q E hr h => ?_)
  · obtain ⟨x, g, s, m, n, rfl, _⟩ := h
    rfl
  · obtain ⟨x, g, s, m, n, rfl, n1, n2, hbox, hg, hok, hz, hm, k⟩ := h
    have hbox2 := hbox
    obtain ⟨dx, p, v, q, ps, hx, hp, hst, hq, hn⟩ := hbox2
    refine ⟨_, (pss_cons (ps_if (pt_not (pt_val (C8.pe_c (is_between_ok T) hr (by decide) rfl (pa_cons (pv 1) (pa_cons pe_int (pa_cons (pe_ig T.c_MOST_RUN rfl) pa_nil)))))) (pss_one ps_never) pss_nil)
 (pss_cons (ps_set (i := 2) sc_run.nd rfl (Or.inl rfl) (fld_K K rfl (pv 0)))
 (pss_cons (ps_for PassesOwn.never rfl (pi_range1 rfl T.b_range (pa_cons (pv 1) pa_nil)) (pg_name (i := 3) sc_run.nd rfl (Or.inl rfl)) (pss_one (ps_set (i := 2) sc_run.nd rfl (Or.inl rfl) (C8.pe_mt ((behind_ok T L hE).met L.cl L.behind) hr (by decide) (pv 0) (pa_cons (pv 2) pa_nil)))))
 (pss_cons (ps_expr (C8.pe_mt ((keep_ok T L).met L.cl L.keep) hr (by decide) (pv 0) (pa_cons (pv 2) pa_nil)))
 (pss_one (ps_ret (pe_slice (sl_tupK K rfl) (pe_ix (ix_tupK K rfl) (pv 2) pe_int (fun _ _ => rfl)) (po_some (pe_un un_neg (pv 1))) po_none))))))), ?_⟩
    refine ⟨_, rfl, n, 1, 200, rfl, true, congrArg V.bl ?_, ?_⟩
    · rw [decide_eq_true (show (1 : Int) ≤ n by omega), decide_eq_true (show (n : Int) ≤ 200 by omega)]
      rfl
    refine ⟨_, rfl, x, C, dx, _, _, rfl, hx, L.cl, L.as, rfl, _, rfl, _, rfl, by omega, by omega, for_it (walk_r0 (n := ((n : Nat) : Int).toNat)) (fun i σ H' => Same H H' ∧ ∃ v1 y, StV K H' v1 (runS st g i s) ∧ σ = [some (.ref x), some (.int (n : Int)), some v1, y]) ⟨Same.refl _, v, none, hst, rfl⟩ (fun _ _ _ _ _ => trivial) ?_ ?_⟩
    · rintro i y σ H1 H2 hi ⟨e1, v1, y1, hv1, rfl⟩ ⟨rfl, rfl⟩
      refine ⟨_, rfl, x, dx, _, rfl, e1 _ _ hx, rfl, _, rfl, x, g, s, m, v1, _, rfl, hbox.m e1, hg, hv1, runS_ok hok i, ?_, fun H3 v3 e3 hv3 => ?_⟩
      · rw [runS_log]
        omega
      · exact ⟨e1.trans e3, v3, some (.int i), hv3, rfl⟩
    · rintro σ H1 ⟨e1, v1, y1, hv1, rfl⟩
      have en : ((n : Nat) : Int).toNat = n := by omega
      rw [en] at hv1
      refine ⟨_, rfl, x, dx, _, rfl, e1 _ _ hx, rfl, _, rfl, x, g, s, m, v1, _, rfl, hbox.m e1, hv1, hm, fun H2 e2 hb2 => ?_⟩
      have hv2 := hv1.s e2
      obtain ⟨b, t, l, ⟨a, rfl, ha⟩, hb, ht, ⟨d, rfl, hd⟩⟩ := hv2
      refine ⟨_, rfl, a, _, _, _, rfl, rfl, ha, rfl, _, rfl, _, rfl, _, rfl, d, _, rfl, hd, fun b3 H3 e3 hb3 => ?_⟩
      have hll := runS_log (st := st) (g := g) (s := s) n
      rw [cut_last (by rw [List.length_map]; omega) n1, List.length_map, show (runS st g n s).log.length - n = s.log.length by omega, ← List.map_drop] at hb3
      exact k H3 _ ((e1.stp.trans e2).trans e3.stp) (hb2.m e3) ⟨b3, rfl, hb3⟩
end
end A72

set_option Elab.async false
set_option linter.all false
set_option maxRecDepth 100000
set_option maxHeartbeats 4000000
/-! anyshift.lines: what is asked of a line; a line made -/
namespace A72
open PySem PySem.Spec PyProof.Rows L2
section
variable {P : Program} {w : World} {K : PySem.W.Frag} {mg : Str → Option Value} {base : Heap} {C : Addr} {st : Bool}
def spNext (K : PySem.W.Frag) (C : Addr) : Sp := fun vs H Q _ => ∃ x g s n i o p, vs = [.ref x, .int ((i : Nat) : Int)] ∧ BoxV K C H x g s n ∧ GrpOk g ∧ s.begun[i]? = some (some o) ∧ g[i]? = some p ∧ ∀ H' m, Same H H' → 0 ≤ m → m < p.per → Q (.int m) H'
theorem sc_next_tick : FnScope ["self", "who", "begun", "period", "slots", "slot"] ["self", "who"] (defScope m_next_tick) := ⟨rfl, rfl, rfl, by decide +kernel, rfl, by decide +kernel, by decide +kernel⟩
theorem next_tick_ok (T : Txt K mg) (L : LCls K C) : At P w K mg base 3 (He.ma K (He.ga K "Line") "next_tick") ["self", "who"] (spNext K C) := by
  refine atf T.f_m_next_tick sc_next_tick (fun _ _ _ _ _ _ us hl => match us, hl with | [_, _], _ => rfl) (fun vs H Q E h => ?_) (fun cdv A outer s H vs Q E hr h => ?_)
  · obtain ⟨x, g, s, n, i, o, p, rfl, _⟩ := h
    rfl
  · obtain ⟨x, g, s, n, i, o, pt, rfl, hbox, hg, ho, hpi, k⟩ := h
    have hbox2 := hbox
    obtain ⟨dx, p, v, q, ps, hx, ⟨gvs, ⟨d, rfl, hd⟩, hpt⟩, ⟨b, t, l, ⟨a, rfl, ha⟩, ⟨c, rfl, hc⟩, ht, hl⟩, hq, hn⟩ := hbox2
    obtain ⟨vp, hvp, hpv⟩ := pairedP_at hpt hpi
    obtain ⟨sv, ⟨e, rfl, he⟩, ⟨f, rfl, hf⟩⟩ := hpv
    have hpo := hg.at_ hpi
    have hpp := hpo.pos
    have h60 := hpo.few
    have h1 := hpo.some_
    refine ⟨_, (pss_cons (ps_set (i := 2) sc_next_tick.nd rfl (Or.inr rfl) (pe_ix (ix_tupK K rfl) (pe_ix (ix_tupK K rfl) (fld_K K rfl (pv 0)) pe_int (fun _ _ => rfl)) (pv 1) (fun _ _ => rfl)))
 (pss_cons (ps_if (pt_cmpR op_isN (pv 2) pe_non (nomark _)) (pss_one (ps_ret pe_non)) pss_nil)
 (pss_cons (ps_asg (pe_ix (ix_tupK K rfl) (fld_K K rfl (pv 0)) (pv 1) (fun _ _ => rfl)) (by exact pg_2 (i := 3) (j := 4) K rfl rfl sc_next_tick.nd rfl rfl (Or.inr rfl) (Or.inl rfl) (by first | exact .inl rfl | exact .inr rfl) (by first | exact .inl rfl | exact .inr rfl)))
 (pss_one (ps_ret (pe_callB (min_K K rfl rfl) (by rfl) T.b_min (by decide +kernel) (pa_cons (pe_lc (own := [("slot", 5)]) (g := gName 5) (by rfl) sc_next_tick.nd (pi_tupK K rfl (pv 4)) (blkOk_by (N := ["self", "who", "begun", "period", "slots", "slot"]) (sc := defScope m_next_tick) (by decide +kernel)) (fun _ _ _ _ _ => (pg_name (i := 5) sc_next_tick.nd rfl (Or.inl rfl))) (fun _ _ _ _ _ => pts_nil) (fun _ _ _ _ _ => (pe_op op_mod (pe_op op_sub (pe_op op_add (pv 5) (pv 2)) (pe_pr (pv 0) L.cl L.now (now_ok T L) hr (by decide))) (pv 3)))) pa_nil))))))), ?_⟩
    refine ⟨_, rfl, x, C, dx, _, _, rfl, hx, L.cl, L.as, rfl, a, _, _, _, rfl, rfl, ha, rfl, _, rfl, c, _, _, _, rfl, rfl, hc, atI_nat (oint_at ho), ?_⟩
    refine ⟨_, rfl, rfl, false, rfl, ?_⟩
    refine ⟨_, rfl, x, C, dx, _, _, rfl, hx, L.cl, L.ap, rfl, _, rfl, d, _, _, _, rfl, rfl, hd, atI_nat hvp, ?_⟩
    refine ⟨e, _, rfl, he, rfl, _, _, rfl, _, _, rfl, rfl, ?_⟩
    refine ⟨_, rfl, f, rfl, ⟨_, hf⟩, fun D hD => lcs walk_tup yat_same hD (fun H e => e.t hf) (fun i H acc => Made V.int (pt.sl.map fun z => (z + o - s.tick) % pt.per) i acc) Made.zero (fun _ _ _ _ _ _ r => r) (fun _ _ _ r => r.len) (by rw [List.length_map]; omega) ?_ ?_⟩
    · intro j y H1 H2 acc Ky Kn hi e1 r yy ky kn
      obtain ⟨rfl, hy⟩ := yy
      obtain ⟨z, hz, rfl⟩ := ints_at hy
      refine ⟨rfl, _, rfl, _, rfl, _, _, rfl, rfl, _, rfl, x, dx, _, rfl, e1 _ _ hx, x, g, s, n, rfl, hbox.m e1, _, _, rfl, rfl, _, rfl, _, _, rfl, rfl, hpp, ky _ _ (Same.refl _) (r.succ ?_)⟩
      rw [List.getElem?_map, hz] <;> rfl
    · intro H1 acc e1 hl1 r
      have ea := r.all (by rw [List.length_map, List.length_map])
      refine ⟨D, pt.sl.map fun z => (z + o - s.tick) % pt.per, rfl, SqL.of (by rw [hl1, ea]), by rw [List.length_map]; omega, fun m hm _ => ?_⟩
      obtain ⟨z, _, rfl⟩ := List.mem_map.mp hm
      exact k H1 _ e1 (Int.emod_nonneg _ (by omega)) (Int.emod_lt_of_pos _ hpp)
def spGet (K : PySem.W.Frag) (C : Addr) : Sp := fun vs H Q _ => ∃ x g s n i o, vs = [.ref x, .int ((i : Nat) : Int)] ∧ BoxV K C H x g s n ∧ LOk g s ∧ s.begun[i]? = some o ∧ Q (oV o) H
theorem sc_getitem : FnScope ["self", "who"] ["self", "who"] (defScope m_getitem) := ⟨rfl, rfl, rfl, by decide +kernel, rfl, by decide +kernel, by decide +kernel⟩
theorem getitem_ok (T : Txt K mg) (L : LCls K C) : At P w K mg base 4 (He.ma K (He.ga K "Line") "__getitem__") ["self", "who"] (spGet K C) := by
  refine atf T.f_m_getitem sc_getitem (fun _ _ _ _ _ _ us hl => match us, hl with | [_, _], _ => rfl) (fun vs H Q E h => ?_) (fun cdv A outer s H vs Q E hr h => ?_)
  · obtain ⟨x, g, s, n, i, o, rfl, _⟩ := h
    rfl
  · obtain ⟨x, g, s, n, i, o, rfl, hbox, hok, ho, k⟩ := h
    obtain ⟨dx, p, v, q, ps, hx, ⟨gvs, ⟨d, rfl, hd⟩, hpt⟩, ⟨b, t, l, ⟨a, rfl, ha⟩, ⟨c, rfl, hc⟩, ht, hl⟩, hq, hn⟩ := hbox
    have hi : i < s.begun.length := (List.getElem?_eq_some_iff.mp ho).1
    have hbl := hok.b
    have hlen := pairedP_len hpt
    refine ⟨_, (pss_cons (ps_expr (C8.pe_c (need_sender_ok T) hr (by decide) rfl (pa_cons (fld_K K rfl (pv 0)) (pa_cons (pv 1) pa_nil))))
 (pss_one (ps_ret (pe_ix (ix_tupK K rfl) (pe_ix (ix_tupK K rfl) (fld_K K rfl (pv 0)) pe_int (fun _ _ => rfl)) (pv 1) (fun _ _ => rfl))))), ?_⟩
    refine ⟨_, rfl, x, C, dx, _, _, rfl, hx, L.cl, L.ap, rfl, _, rfl, .ref d, gvs, _, rfl, ⟨d, rfl, hd⟩, by omega, by omega, ?_⟩
    exact ⟨_, rfl, x, C, dx, _, _, rfl, hx, L.cl, L.as, rfl, a, _, _, _, rfl, rfl, ha, rfl, _, rfl, c, _, _, _, rfl, rfl, hc, atI_nat (oint_at ho), k⟩
def spCallL (K : PySem.W.Frag) (C : Addr) : Sp := fun vs H Q _ => ∃ x g s n i o p, vs = [.ref x, .int ((i : Nat) : Int)] ∧ BoxV K C H x g s n ∧ GrpOk g ∧ LOk g s ∧ s.begun[i]? = some (some o) ∧ g[i]? = some p ∧ ∀ H' m, Same H H' → 0 ≤ m → m < p.per → Q (.int m) H'
theorem sc_call : FnScope ["self", "who"] ["self", "who"] (defScope m_call) := ⟨rfl, rfl, rfl, by decide +kernel, rfl, by decide +kernel, by decide +kernel⟩
theorem call_ok (T : Txt K mg) (L : LCls K C) : At P w K mg base 4 (He.ma K (He.ga K "Line") "__call__") ["self", "who"] (spCallL K C) := by
  refine atf T.f_m_call sc_call (fun _ _ _ _ _ _ us hl => match us, hl with | [_, _], _ => rfl) (fun vs H Q E h => ?_) (fun cdv A outer s H vs Q E hr h => ?_)
  · obtain ⟨x, g, s, n, i, o, p, rfl, _⟩ := h
    rfl
  · obtain ⟨x, g, s, n, i, o, pt, rfl, hbox, hg, hok, ho, hpi, k⟩ := h
    have hbox2 := hbox
    obtain ⟨dx, p, v, q, ps, hx, ⟨gvs, ⟨d, rfl, hd⟩, hpt⟩, _⟩ := hbox2
    have hi : i < s.begun.length := (List.getElem?_eq_some_iff.mp ho).1
    have hbl := hok.b
    have hlen := pairedP_len hpt
    refine ⟨_, (pss_cons (ps_expr (C8.pe_c (need_sender_ok T) hr (by decide) rfl (pa_cons (fld_K K rfl (pv 0)) (pa_cons (pv 1) pa_nil))))
 (pss_one (ps_ret (C8.pe_mt ((next_tick_ok T L).met L.cl L.next_tick) hr (by decide) (pv 0) (pa_cons (pv 1) pa_nil))))), ?_⟩
    refine ⟨_, rfl, x, C, dx, _, _, rfl, hx, L.cl, L.ap, rfl, _, rfl, .ref d, gvs, _, rfl, ⟨d, rfl, hd⟩, by omega, by omega, ?_⟩
    exact ⟨_, rfl, x, dx, _, rfl, hx, rfl, _, rfl, x, g, s, n, i, o, pt, rfl, hbox, hg, ho, hpi, k⟩
def spHas (K : PySem.W.Frag) (C : Addr) : Sp := fun vs H Q _ => ∃ x g s n i o, vs = [.ref x, .int ((i : Nat) : Int)] ∧ BoxV K C H x g s n ∧ LOk g s ∧ s.begun[i]? = some o ∧ Q (.bl o.isSome) H
theorem sc_contains : FnScope ["self", "thing"] ["self", "thing"] (defScope m_contains) := ⟨rfl, rfl, rfl, by decide +kernel, rfl, by decide +kernel, by decide +kernel⟩
theorem contains_ok (T : Txt K mg) (L : LCls K C) : At P w K mg base 3 (He.ma K (He.ga K "Line") "__contains__") ["self", "thing"] (spHas K C) := by
  refine atf T.f_m_contains sc_contains (fun _ _ _ _ _ _ us hl => match us, hl with | [_, _], _ => rfl) (fun vs H Q E h => ?_) (fun cdv A outer s H vs Q E hr h => ?_)
  · obtain ⟨x, g, s, n, i, o, rfl, _⟩ := h
    rfl
  · obtain ⟨x, g, s, n, i, o, rfl, hbox, hok, ho, k⟩ := h
    obtain ⟨dx, p, v, q, ps, hx, ⟨gvs, ⟨d, rfl, hd⟩, hpt⟩, ⟨b, t, l, ⟨a, rfl, ha⟩, ⟨c, rfl, hc⟩, ht, hl⟩, hq, hn⟩ := hbox
    have hi : i < s.begun.length := (List.getElem?_eq_some_iff.mp ho).1
    have hbl := hok.b
    have hlen := pairedP_len hpt
    refine ⟨_, (pss_one (ps_ret (pe_and (C8.pe_c (is_between_ok T) hr (by decide) rfl (pa_cons (pv 1) (pa_cons pe_int (pa_cons (pe_op op_sub (pe_callB (len_K K rfl) (by rfl) T.b_len PySem.boot_len (pa_cons (fld_K K rfl (pv 0)) pa_nil)) pe_int) pa_nil)))) (pe_one (pe_cmpR op_notN (pe_ix (ix_tupK K rfl) (pe_ix (ix_tupK K rfl) (fld_K K rfl (pv 0)) pe_int (fun _ _ => rfl)) (pv 1) (fun _ _ => rfl)) pe_non (nomark _)))))), ?_⟩
    refine ⟨_, rfl, _, rfl, x, C, dx, _, _, rfl, hx, L.cl, L.ap, rfl, d, _, rfl, .inr hd, _, _, rfl, rfl, i, 0, _, rfl, ?_⟩
    refine ⟨true, congrArg V.bl ?_, ?_⟩
    · rw [decide_eq_true (show (0 : Int) ≤ i by omega), decide_eq_true (show (i : Int) ≤ (gvs.length : Int) - 1 by omega)]
      rfl
    · refine ⟨_, rfl, x, C, dx, _, _, rfl, hx, L.cl, L.as, rfl, a, _, _, _, rfl, rfl, ha, rfl, _, rfl, c, _, _, _, rfl, rfl, hc, atI_nat (oint_at ho), rfl, ?_⟩
      rw [oV_non]
      exact k
def spEq (C D : Addr) : Sp := fun vs H Q _ => ∃ x y dx dy fs gs, vs = [.ref x, .ref y] ∧ H x = some (.ins C dx fs) ∧ H y = some (.ins D dy gs) ∧ fs.lookup ("LABEL" : Str) = none ∧ gs.lookup ("LABEL" : Str) = none ∧ Q (.bl false) H
theorem sc_eq : FnScope ["self", "other"] ["self", "other"] (defScope m_eq) := ⟨rfl, rfl, rfl, by decide +kernel, rfl, by decide +kernel, by decide +kernel⟩
theorem eq_ok (T : Txt K mg) : At P w K mg base 1 (He.ma K (He.ga K "Line") "__eq__") ["self", "other"] (spEq (He.ga K "Logged") (He.ga K "Line")) := by
  refine atf T.f_m_eq sc_eq (fun _ _ _ _ _ _ us hl => match us, hl with | [_, _], _ => rfl) (fun vs H Q E h => ?_) (fun cdv A outer s H vs Q E hr h => ?_)
  · obtain ⟨x, y, dx, dy, fs, gs, rfl, _⟩ := h
    rfl
  · obtain ⟨x, y, dx, dy, fs, gs, rfl, hx, hy, lf, lg, k⟩ := h
    have hu := hr.units
    obtain ⟨u1, c1⟩ := T.la_Logged
    obtain ⟨u2, c2⟩ := T.la_Line
    refine ⟨_, (pss_cons (ps_if (PW.pt (pw_or (pt_not (pt_val (pe_callB (C8.call_isC T.ic_Line) (by rfl) T.b_isinstance (by decide +kernel) (pa_cons (pv 1) (pa_cons (C8.pe_gc (v := .ref (He.ga K "Line")) rfl ⟨_, T.k_Line, rfl⟩) pa_nil))))) (pw_or (pt_cmpR op_ne (pe_con (pv 0) rfl) (pe_con (pv 1) rfl) (nomark _)) (pw_or1 (pt_cmpR op_ne (fld_K K rfl (pv 0)) (fld_K K rfl (pv 1)) (nomark _)))))) (pss_one (ps_ret pe_bl)) pss_nil)
 (pss_one (ps_ret (pe_cmpR op_eq (pe_slice (sl_tupK K rfl) (fld_K K rfl (pv 0)) po_none (po_some pe_int)) (pe_slice (sl_tupK K rfl) (fld_K K rfl (pv 1)) po_none (po_some pe_int)) (nomark _))))), ?_⟩
    refine ⟨_, rfl, y, dy, gs, rfl, hy, true, rfl, ?_⟩
    refine ⟨_, rfl, x, _, dx, fs, _, u1, rfl, hx, T.cl_Logged, c1, lf, ?_⟩
    refine ⟨_, rfl, y, _, dy, gs, _, u2, rfl, hy, T.cl_Line, c2, lg, rfl, true, rfl, ?_⟩
    exact k
/-- a new line -/
def initS (n : Nat) : LSt := { tick := 0, begun := List.replicate n none, thr := List.replicate n 0, coll := 0, log := [] }
theorem rep_flat {α : Type} (x : α) : ∀ n : Nat, (List.replicate n [x]).flatten = List.replicate n x
  | 0 => rfl
  | n + 1 => by
    rw [List.replicate_succ, List.flatten_cons, rep_flat x n] <;> rfl
theorem sqT_eq {H : Hp} {a : Addr} {xs ys : List V} (e : xs = ys) (h : SqT K H a xs) : SqT K H a ys := by
  subst e
  exact h
def spInit (K : PySem.W.Frag) (C : Addr) : Sp := fun vs H Q _ => ∃ x dx pv g, vs = [.ref x, pv] ∧ H x = some (.ins C dx []) ∧ GrV K H pv g ∧ GrpOk g ∧ ∀ H', Stp [x] H H' → BoxV K C H' x g (initS g.length) 0 → Q .non H'
/-- the call of __init__ with its items beside self -/
def spInitR (K : PySem.W.Frag) (C : Addr) : Sp := fun vs H Q E => ∃ ws rest, vs = ws ++ rest ∧ ws.length = 1 ∧ rest.length ≤ sizeLine ∧ ∀ p, H p = Option.none → spInit K C (ws ++ [V.ref p]) (upd H p (.tup rest)) Q E
theorem sc_init : FnScope ["self", "patterns"] ["self", "patterns"] (defScope m_init) := ⟨rfl, rfl, rfl, by decide +kernel, rfl, by decide +kernel, by decide +kernel⟩
theorem init_ok (T : Txt K mg) (L : LCls K C) : FnR P w K mg base C8.CX0 7 (He.ma K (He.ga K "Line") "__init__") (spInitR K C) := by
  obtain ⟨fd, F⟩ := T.f_m_init
  obtain ⟨oc, od, kV, doc, pm, an, cdv, ct, osl, rfl, lk, hcd⟩ := F.ex
  refine StX.fn_star (ps := ["self"]) (pv := "patterns") lk hcd sc_init StX.cxUp_none (fun us rest hl => match us, rest, hl with | [_], [], _ => rfl | [_], _ :: _, _ => rfl) fun A outer s H vs Q E hr h => ?_
  obtain ⟨x, dx, pv', g, rfl, hx, ⟨gvs, ⟨d, rfl, hd⟩, hpt⟩, hg, k⟩ := h
  have hlen := pairedP_len hpt
  have h1 := hg.lo
  have h2 := hg.hi
  have hv : GrV K H (.ref d) g := ⟨gvs, ⟨d, rfl, hd⟩, hpt⟩
  suffices z : ∃ t, PSs (cxOf C8.CX0 P w K mg base ["self", "patterns"] "Line.__init__" (defScope m_init) (He.ma K (He.ga K "Line") "__init__") cdv A outer s H E).nox (defBody m_init) t ∧ t { nx := fun _ H' => Q .non H', rt := Q } (start ["self", "patterns"] [.ref x, .ref d]) H by
    obtain ⟨t, a, b⟩ := z
    exact ⟨t, a.nox, b⟩
  refine ⟨_, (pss_cons (ps_expr (C8.pe_c (need_group_ok T) hr (by decide) rfl (pa_cons (pv 1) pa_nil)))
 (pss_cons (ps_fld (pv 0) (pv 1) rfl)
 (pss_cons (ps_fld (pv 0) (pe_tup (pa_cons pe_int (pa_cons (pe_op (rep_K K rfl) (pe_tup (pa_cons pe_non pa_nil)) (pe_callB (len_K K rfl) (by rfl) T.b_len PySem.boot_len (pa_cons (pv 1) pa_nil))) (pa_cons (pe_op (rep_K K rfl) (pe_tup (pa_cons pe_int pa_nil)) (pe_callB (len_K K rfl) (by rfl) T.b_len PySem.boot_len (pa_cons (pv 1) pa_nil))) (pa_cons pe_int (pa_cons (pe_tup pa_nil) pa_nil)))))) rfl)
 (pss_one (ps_fld (pv 0) (pe_tup pa_nil) rfl))))), ?_⟩
  refine ⟨_, rfl, .ref d, g, rfl, hv, hg, fun H1 e1 => ?_⟩
  have hx1 := e1 _ _ hx
  refine ⟨_, rfl, _, rfl, x, C, dx, [], rfl, hx1, L.cl, L.ap, (by decide : (0 : Nat) < 1000), ?_⟩
  have e2 : Stp [x] H1 (upd H1 x (.ins C dx [("patterns", .ref d)])) := Stp.upd hx1 rfl (List.mem_singleton.mpr rfl)
  have e12 := e1.stp.trans e2
  have len1 : ∀ z : V, ([z] : List V).length ≤ sizeLine := fun z => by
    show 1 ≤ sizeLine
    rw [sizeLine_eq]
    decide
  have len0 : ([] : List V).length ≤ sizeLine := Nat.zero_le _
  refine ⟨len1 _, fun p1 h1' => ?_⟩
  have s1 := Same.new (o := .tup [V.non]) h1'
  refine ⟨_, rfl, d, _, rfl, .inr ((e12.trans s1.stp).t hd), p1, _, [V.non], rfl, rfl, SqT.of upd_same, by simp, by omega, by omega, by show 1 ≤ 1000; decide, fun p2 h2' => ?_⟩
  have s2 := s1.trans (Same.new (o := .tup (List.replicate ((gvs.length : Int)).toNat [V.non]).flatten) h2')
  refine ⟨len1 _, fun p3 h3' => ?_⟩
  have s3 := Same.new (o := .tup [V.int 0]) h3'
  refine ⟨_, rfl, d, _, rfl, .inr ((e12.trans (s2.trans s3).stp).t hd), p3, _, [V.int 0], rfl, rfl, SqT.of upd_same, by simp, by omega, by omega, by show 1 ≤ 1000; decide, fun p4 h4' => ?_⟩
  have s4 := Same.new (o := .tup (List.replicate ((gvs.length : Int)).toNat [V.int 0]).flatten) h4'
  refine ⟨len0, fun p5 h5' => ⟨?_, fun p6 h6' => ?_⟩⟩
  · show 5 ≤ sizeLine
    rw [sizeLine_eq]
    decide
  have s5 := Same.new (o := .tup []) h5'
  have s6 := Same.new (o := .tup [V.int 0, V.ref p2, V.ref p4, V.int 0, V.ref p5]) h6'
  have hx6 := (((s2.trans s3).trans s4).trans (s5.trans s6)) x _ upd_same
  refine ⟨_, rfl, x, C, dx, _, rfl, hx6, L.cl, L.as, (by decide : (1 : Nat) < 1000), ?_⟩
  have e9 := Stp.upd (S := [x]) (o := .ins C dx (putF "state" (V.ref p6) (putF "patterns" (.ref d) []))) hx6 rfl (List.mem_singleton.mpr rfl)
  refine ⟨len0, fun p7 h7' => ?_⟩
  have s7 := Same.new (o := .tup []) h7'
  have hx7 := s7 x _ upd_same
  refine ⟨_, rfl, x, C, dx, _, rfl, hx7, L.cl, L.at_, (by decide : (2 : Nat) < 1000), ?_⟩
  have e11 := Stp.upd (S := [x]) (o := .ins C dx (putF "past" (V.ref p7) (putF "state" (V.ref p6) (putF "patterns" (.ref d) [])))) hx7 rfl (List.mem_singleton.mpr rfl)
  have eE := (e9.trans s7.stp).trans e11
  have eA := e12.trans ((((s2.trans s3).trans s4).trans (s5.trans s6)).stp.trans eE)
  refine k _ eA ⟨dx, .ref d, .ref p6, .ref p7, [], upd_same, hv.s eA, ⟨.ref p2, .ref p4, .ref p5, ⟨p6, rfl, eE.t (SqT.of upd_same)⟩, ⟨p2, rfl, ?_⟩, ⟨p4, rfl, ?_⟩, ⟨p5, rfl, ?_⟩⟩, ⟨p7, rfl, e11.t (SqT.of upd_same)⟩, Nat.le_refl _⟩
  · have z : SqT K _ p2 (List.replicate ((gvs.length : Int)).toNat [V.non]).flatten := ((s3.trans s4).trans (s5.trans s6)).stp.t (S := [x]) (SqT.of upd_same)
    have ez : (List.replicate ((gvs.length : Int)).toNat [V.non]).flatten = (initS g.length).begun.map oV := by
      rw [rep_flat]
      show _ = (List.replicate g.length none).map oV
      rw [List.map_replicate, ← hlen, Int.toNat_natCast] <;> rfl
    exact sqT_eq ez (eE.t z)
  · have z : SqT K _ p4 (List.replicate ((gvs.length : Int)).toNat [V.int 0]).flatten := (s5.trans s6).stp.t (S := [x]) (SqT.of upd_same)
    have ez : (List.replicate ((gvs.length : Int)).toNat [V.int 0]).flatten = (initS g.length).thr.map V.int := by
      rw [rep_flat]
      show _ = (List.replicate g.length 0).map V.int
      rw [List.map_replicate, ← hlen, Int.toNat_natCast]
    exact sqT_eq ez (eE.t z)
  · exact eE.t (s6.stp.t (S := [x]) (SqT.of upd_same))
end
end A72

set_option Elab.async false
set_option linter.all false
set_option maxRecDepth 100000
set_option maxHeartbeats 4000000
/-! anyshift.shuts, anyshift.waits: shut_of, wait_of, longest_wait -/
namespace A72
open PySem PySem.Spec PyProof.Rows L2
/-! ### how many classes -/
theorem cls_mul : ∀ (g : Grp) (st : List (List Int) × Nat), (g.foldl clsStep st).1.length * (g.foldl clsStep st).2 = g.foldl (fun m p => m * p.per.toNat) (st.1.length * st.2)
  | [], st => rfl
  | p :: g, st => by
    have e : (clsStep st p).1.length * (clsStep st p).2 = st.1.length * st.2 * p.per.toNat := by
      show (st.1.flatMap (ext (Nat.gcd st.2 p.per.toNat))).length * Nat.lcm st.2 p.per.toNat = _
      rw [flat_len, Nat.mul_assoc, Nat.gcd_mul_lcm, Nat.mul_assoc]
    rw [List.foldl_cons, List.foldl_cons, cls_mul g (clsStep st p), e]
theorem clsN_mul (g : Grp) : (clsN g).length * spanN g = prodN g := by
  have h := cls_mul g ([[]], 1)
  rw [← clsS_span]
  exact h
theorem prod_pos {g : Grp} (hg : GrpOk g) : 1 ≤ prodN g := (prod_bound g 1 hg.ok (by decide)).1
theorem clsN_pos {g : Grp} (hg : GrpOk g) : 1 ≤ (clsN g).length := by
  have h := clsN_mul g
  have h1 := prod_pos hg
  cases e : (clsN g).length with
  | zero =>
    rw [e, Nat.zero_mul] at h
    omega
  | succ n => omega
theorem clsN_few {g : Grp} (hg : FewOk g) : (clsN g).length ≤ 240 := by
  have h := clsN_mul g
  have h1 := span_pos hg.ok
  have h2 := hg.few
  rw [← h, Nat.mul_div_cancel _ (by omega)] at h2
  exact h2
/-! ### the greatest of a list -/
def maxL : List Int → Int
  | [] => 0
  | a :: r => r.foldl max a
theorem foldl_max : ∀ (r : List Int) (a : Int), a ≤ r.foldl max a ∧ (∀ y ∈ r, y ≤ r.foldl max a) ∧ (r.foldl max a = a ∨ r.foldl max a ∈ r)
  | [], a => ⟨Int.le_refl _, fun _ h => (nomatch h), .inl rfl⟩
  | b :: r, a => by
    obtain ⟨h1, h2, h3⟩ := foldl_max r (max a b)
    rw [List.foldl_cons]
    refine ⟨by omega, fun y hy => ?_, ?_⟩
    · rcases List.mem_cons.mp hy with e | e
      · rw [e]
        omega
      · exact h2 y e
    · rcases h3 with e | e
      · rw [e]
        by_cases hab : a ≤ b
        · exact .inr (by rw [Int.max_eq_right hab]; exact List.mem_cons_self ..)
        · exact .inl (Int.max_eq_left (by omega))
      · exact .inr (List.mem_cons_of_mem _ e)
theorem maxL_mem : ∀ {ns : List Int}, ns ≠ [] → maxL ns ∈ ns
  | [], h => absurd rfl h
  | a :: r, _ => by
    rcases (foldl_max r a).2.2 with e | e
    · show r.foldl max a ∈ _
      rw [e]
      exact List.mem_cons_self ..
    · exact List.mem_cons_of_mem _ e
theorem maxL_le : ∀ {ns : List Int} {y : Int}, y ∈ ns → y ≤ maxL ns
  | [], y, h => (nomatch h)
  | a :: r, y, h => by
    rcases List.mem_cons.mp h with e | e
    · rw [e]
      exact (foldl_max r a).1
    · exact (foldl_max r a).2.1 y e
theorem maxL_eq {ns : List Int} {m : Int} (h : m ∈ ns) (hl : ∀ y, y ∈ ns → y ≤ m) : m = maxL ns := by
  have h1 := maxL_le h
  have h2 := hl _ (maxL_mem (fun z => by rw [z] at h; cases h))
  omega
/-! ### the ticks at which who is heard, the gaps between them -/
def ticksN (row : List Int) (who : Int) : List Int := sndF row.length fun i => decide (row.getD i 0 = who)
def laterN (ts : List Int) (n : Int) : List Int := ts.drop 1 ++ [ts.headD 0 + n]
def gapsN (ts : List Int) (n : Int) : List Int := (ts.zip (laterN ts n)).map fun p => p.2 - p.1 - 1
def waitN (row : List Int) (who : Int) : Int := maxL (gapsN (ticksN row who) (row.length : Nat))
theorem laterN_len (ts : List Int) (n : Int) (h : ts ≠ []) : (laterN ts n).length = ts.length := by
  unfold laterN
  rw [List.length_append, List.length_drop, List.length_singleton]
  have := List.length_pos_iff.mpr h
  omega
section
variable {P : Program} {w : World} {K : PySem.W.Frag} {mg : Str → Option Value} {base : Heap}
def spShut (K : PySem.W.Frag) : Sp := fun vs H Q _ => ∃ v g i, vs = [v, .int ((i : Nat) : Int)] ∧ GrV K H v g ∧ FewOk g ∧ i < g.length ∧
  (∀ H' a xs, Same H H' → SqT K H' a xs → Q (.ref a) H') ∧ (∀ H', Same H H' → (∀ os ∈ clsN g, 0 < cnt (heardRow g os) (i : Nat)) → Q .non H')
theorem sc_shut_of : FnScope ["group", "who", "many", "offsets"] ["group", "who"] (defScope d_shut_of) := ⟨rfl, rfl, rfl, by decide +kernel, rfl, by decide +kernel, by decide +kernel⟩
theorem shut_of_ok (T : Txt K mg) : C8.Cal P w K mg base 7 "shut_of" (spShut K) [] := by
  refine cal T.f_d_shut_of T.g_shut_of sc_shut_of (fun _ _ _ _ _ _ us hl => match us, hl with | [_, _], _ => rfl) (fun vs H Q E h => ?_) (fun cdv A outer s H vs Q E hr h => ?_)
  · obtain ⟨v, g, i, rfl, _⟩ := h
    rfl
  · obtain ⟨v, g, i, rfl, hv, hg, hi, q1, q2⟩ := h
    have hu := hr.units
    refine ⟨_, (pss_cons (ps_asg (pe_callB (minT_K K rfl rfl hu) (by rfl) T.b_min (by decide +kernel) (pa_cons (C8.pe_c (table_of_ok T) hr (by decide) rfl (pa_cons (pv 0) (pa_cons (pv 1) pa_nil))) pa_nil)) (by exact pg_2 (i := 2) (j := 3) K rfl rfl sc_shut_of.nd rfl rfl (Or.inl rfl) (Or.inl rfl) (by first | exact .inl rfl | exact .inr rfl) (by first | exact .inl rfl | exact .inr rfl)))
 (pss_one (ps_ret (pe_ifExp (pt_cmpR op_eq (pv 2) pe_int (nomark _)) (pv 3) pe_non)))), ?_⟩
    have hn : (tabN g (i : Nat)).length = (clsN g).length := by
      unfold tabN
      rw [List.length_map]
    have hpos := clsN_pos hg.ok
    have hfew := clsN_few hg
    refine ⟨_, rfl, _, rfl, v, g, i, rfl, hv, hg.ok, hg.span, by omega, hi, fun H1 p ws e hp hw => ?_⟩
    refine ⟨p, ws, _, rfl, SqL.of hp, hw, (fun z => by rw [z] at hn; rw [← hn] at hpos; exact absurd hpos (by decide)), fun j x m hx hm hl => ?_⟩
    obtain ⟨m', hm', hrow⟩ := paired_at hw hx
    rw [hm] at hm'
    cases hm'
    obtain ⟨t, ⟨a, rfl, ha⟩, ⟨b, rfl, hb⟩⟩ := hrow
    refine ⟨a, _, rfl, ha, rfl, _, _, rfl, _, _, rfl, rfl, ?_⟩
    refine ⟨_, rfl, rfl, decide (m.1 = 0), congrArg V.bl (by rw [dec_int]; rfl), ?_⟩
    by_cases h0 : m.1 = 0
    · rw [decide_eq_true h0]
      exact ⟨_, rfl, q1 H1 b _ e hb⟩
    · rw [decide_eq_false h0]
      refine q2 H1 e fun os hos => ?_
      have hin : (cnt (heardRow g os) (i : Nat), os) ∈ tabN g (i : Nat) := List.mem_map.mpr ⟨os, hos, rfl⟩
      have h1 := hl _ hin
      have hmm : m ∈ tabN g (i : Nat) := List.mem_of_getElem? hm
      obtain ⟨os2, _, e2⟩ := List.mem_map.mp hmm
      have h2 : 0 ≤ m.1 := by
        rw [← e2]
        exact Int.natCast_nonneg _
      have h3 : m.1 ≤ cnt (heardRow g os) (i : Nat) := h1
      omega
theorem headD_at {ts : List Int} (h : ts ≠ []) : ts[0]? = some (ts.headD 0) := by
  cases ts with
  | nil => exact absurd rfl h
  | cons a r => rfl
def spWait (K : PySem.W.Frag) : Sp := fun vs H Q _ => ∃ v u g os i, vs = [v, u, .int ((i : Nat) : Int)] ∧ GrV K H v g ∧ IV K H u os ∧ GrpOk g ∧ os.length = g.length ∧ spanN g ≤ 420 ∧ ticksN (heardRow g os) (i : Nat) ≠ [] ∧
  ∀ H', Same H H' → Q (.int (waitN (heardRow g os) (i : Nat))) H'
theorem sc_wait_of : FnScope ["group", "offsets", "who", "row", "ticks", "later", "tick", "kind", "one", "other"] ["group", "offsets", "who"] (defScope d_wait_of) := ⟨rfl, rfl, rfl, by decide +kernel, rfl, by decide +kernel, by decide +kernel⟩
theorem wait_of_ok (T : Txt K mg) : C8.Cal P w K mg base 5 "wait_of" (spWait K) [] := by
  refine cal T.f_d_wait_of T.g_wait_of sc_wait_of (fun _ _ _ _ _ _ us hl => match us, hl with | [_, _, _], _ => rfl) (fun vs H Q E h => ?_) (fun cdv A outer s H vs Q E hr h => ?_)
  · obtain ⟨v, u, g, os, i, rfl, _⟩ := h
    rfl
  · obtain ⟨v, u, g, os, i, rfl, hv, hu, hg, ho, hs, hne, q⟩ := h
    refine ⟨_, (pss_cons (ps_set (i := 3) sc_wait_of.nd rfl (Or.inl rfl) (C8.pe_c (heard_of_ok T) hr (by decide) rfl (pa_cons (pv 0) (pa_cons (pv 1) pa_nil))))
 (pss_cons (ps_setLc (i := 4) (own := [("tick", 6), ("kind", 7)]) (g := gTup K 2 (gCons (gName 6) (gCons (gName 7) gNil))) (by rfl) sc_wait_of.nd rfl rfl (sw_true rfl rfl rfl (by decide +kernel)) (pi_enumK K rfl (by rfl) T.b_enumerate (pa_cons (pv 3) pa_nil)) (blkOk_by (N := ["group", "offsets", "who", "row", "ticks", "later", "tick", "kind", "one", "other"]) (sc := defScope d_wait_of) (by decide +kernel)) (fun _ _ _ _ _ => (by exact pg_2 (i := 6) (j := 7) K rfl rfl sc_wait_of.nd rfl rfl (Or.inl rfl) (Or.inl rfl) (by first | exact .inl rfl | exact .inr rfl) (by first | exact .inl rfl | exact .inr rfl))) (fun _ _ _ _ _ => pts_one (pt_cmpR op_eq (pv 7) (pv 2) (nomark _))) (fun _ _ _ _ _ => (pv 6)))
 (pss_cons (ps_set (i := 5) sc_wait_of.nd rfl (Or.inl rfl) (pe_op op_cat (pe_slice (sl_listK K rfl) (pv 4) (po_some pe_int) po_none) (pe_lst (pa_cons (pe_op op_add (pe_ix (ix_listK K rfl) (pv 4) pe_int (fun _ _ => rfl)) (pe_callB (len_K K rfl) (by rfl) T.b_len PySem.boot_len (pa_cons (pv 3) pa_nil))) pa_nil))))
 (pss_one (ps_ret (pe_callB (max_K K rfl rfl) (by rfl) T.b_max (by decide +kernel) (pa_cons (pe_lc (own := [("one", 8), ("other", 9)]) (g := gTup K 2 (gCons (gName 8) (gCons (gName 9) gNil))) (by rfl) sc_wait_of.nd (pi_zipK K rfl (by rfl) T.b_zip (pa_cons (pv 4) (pa_cons (pv 5) pa_nil))) (blkOk_by (N := ["group", "offsets", "who", "row", "ticks", "later", "tick", "kind", "one", "other"]) (sc := defScope d_wait_of) (by decide +kernel)) (fun _ _ _ _ _ => (by exact pg_2 (i := 8) (j := 9) K rfl rfl sc_wait_of.nd rfl rfl (Or.inl rfl) (Or.inl rfl) (by first | exact .inl rfl | exact .inr rfl) (by first | exact .inl rfl | exact .inr rfl))) (fun _ _ _ _ _ => pts_nil) (fun _ _ _ _ _ => (pe_op op_sub (pe_op op_sub (pv 9) (pv 8)) pe_int))) pa_nil))))))), ?_⟩
    have hrl := heardRow_len g os
    refine ⟨_, rfl, _, rfl, v, u, g, os, rfl, hv, hu, hg, ho, hs, fun H1 r e1 hr1 => ?_⟩
    obtain ⟨a, rfl, ha⟩ := FzV.tv (K := K) hr1
    refine ⟨_, rfl, a, _, rfl, ha, fun D hD => lcs walk_enumT ypair_same hD (fun H e => e.t ha) (fun j H acc => MadeF (fun j => decide ((heardRow g os).getD j 0 = ((i : Nat) : Int))) j acc) rfl (fun _ _ _ _ _ _ r => r) (fun _ _ _ r => r.len) (by rw [List.length_map]; omega) ?_ ?_⟩
    · intro j x H2 H3 acc Ky Kn hj e r y ky kn
      obtain ⟨S, x1, x2, rfl, hS, rfl, g1, g2⟩ := y
      cases g1
      obtain ⟨z, hz, rfl⟩ := ints_at g2
      refine ⟨S, _, rfl, SqT.of upd_same, rfl, _, _, rfl, _, _, rfl, rfl, rfl, ?_⟩
      refine ⟨_, rfl, _, rfl, rfl, decide (z = ((i : Nat) : Int)), congrArg V.bl (by rw [dec_int]; rfl), ?_⟩
      have eg := getD_at (d := 0) hz
      by_cases hk : z = ((i : Nat) : Int)
      · rw [decide_eq_true hk]
        exact ⟨_, rfl, ky _ _ (Same.refl _) (r.yes (by rw [eg]; exact decide_eq_true hk))⟩
      · rw [decide_eq_false hk]
        exact kn _ (Same.refl _) (r.no (by rw [eg]; exact decide_eq_false hk))
    · intro H2 acc e hl r
      have ea : acc = (ticksN (heardRow g os) (i : Nat)).map V.int := by
        rw [List.length_map] at r
        exact r
      have hlt : (ticksN (heardRow g os) (i : Nat)).length ≤ spanN g := by
        unfold ticksN
        exact Nat.le_trans (sndF_len _ _) (by omega)
      have hL : SqL K H2 D ((ticksN (heardRow g os) (i : Nat)).map V.int) := SqL.of (by rw [hl, ea])
      refine ⟨_, rfl, _, rfl, D, _, rfl, hL, fun p3 h3 => ?_⟩
      have e3 := Same.new (o := .lst (cutV ((ticksN (heardRow g os) (i : Nat)).map V.int) (some 1) none)) h3
      refine ⟨_, rfl, D, _, _, _, rfl, rfl, e3.l hL, atI_nat (i := 0) (int_at (headD_at hne)), _, rfl, a, _, rfl, .inr ((e.trans e3).t ha), _, _, rfl, rfl, ?_⟩
      refine ⟨by show 1 ≤ sizeLine; rw [sizeLine_eq]; decide, fun p4 h4 => ?_⟩
      have n34 : p3 ≠ p4 := ne_of_none upd_same h4
      refine ⟨p3, p4, _, _, rfl, rfl, (upd_ne n34).trans upd_same, upd_same, ?_, fun p5 h5 => ?_⟩
      · rw [cut_from1, List.length_map, List.length_drop, sizeLine_eq]
        show _ + 1 ≤ _
        omega
      have e45 := (e3.trans (Same.new (o := .lst [V.int ((ticksN (heardRow g os) (i : Nat)).headD 0 + ((((heardRow g os).map V.int).length : Nat) : Int))]) h4)).trans (Same.new (o := .lst (cutV ((ticksN (heardRow g os) (i : Nat)).map V.int) (some 1) none ++ [V.int ((ticksN (heardRow g os) (i : Nat)).headD 0 + ((((heardRow g os).map V.int).length : Nat) : Int))])) h5)
      have hla : ∀ G : Hp, SqL K (upd G p5 (.lst (cutV ((ticksN (heardRow g os) (i : Nat)).map V.int) (some 1) none ++ [V.int ((ticksN (heardRow g os) (i : Nat)).headD 0 + ((((heardRow g os).map V.int).length : Nat) : Int))]))) p5 ((laterN (ticksN (heardRow g os) (i : Nat)) ((heardRow g os).length : Nat)).map V.int) := fun G => SqL.of (by
        rw [upd_same, cut_from1]
        unfold laterN
        rw [List.map_append, List.length_map] <;> rfl)
      have hll := laterN_len (ticksN (heardRow g os) (i : Nat)) ((heardRow g os).length : Nat) hne
      refine ⟨_, rfl, _, rfl, D, p5, _, _, rfl, .inl ⟨e45.l hL, hla _, fun D6 hD6 => lcs (walk_zip (n := (ticksN (heardRow g os) (i : Nat)).length) (by simp only [List.length_map, hll, Nat.min_self])) ypair_same hD6 (fun H e => ⟨e.l (e45.l hL), e.l (hla _)⟩) (fun j H acc => Made V.int (gapsN (ticksN (heardRow g os) (i : Nat)) ((heardRow g os).length : Nat)) j acc) Made.zero (fun _ _ _ _ _ _ r => r) (fun _ _ _ r => r.len) (by omega) ?_ ?_⟩⟩
      · intro j x H6 H7 acc2 Ky Kn hj e6 r2 y ky kn
        obtain ⟨S, x1, x2, rfl, hS, rfl, g1, g2⟩ := y
        obtain ⟨z1, hz1, rfl⟩ := ints_at g1
        obtain ⟨z2, hz2, rfl⟩ := ints_at g2
        refine ⟨S, _, rfl, SqT.of upd_same, rfl, _, _, rfl, _, _, rfl, rfl, rfl, ?_⟩
        refine ⟨_, rfl, _, rfl, _, _, rfl, rfl, _, _, rfl, rfl, ky _ _ (Same.refl _) (r2.succ ?_)⟩
        unfold gapsN
        rw [List.getElem?_map, zip_at hz1 hz2] <;> rfl
      · intro H6 acc2 e6 hl2 r2
        have hgl : (gapsN (ticksN (heardRow g os) (i : Nat)) ((heardRow g os).length : Nat)).length = (ticksN (heardRow g os) (i : Nat)).length := by
          unfold gapsN
          rw [List.length_map, List.length_zip, hll, Nat.min_self]
        have ea2 := r2.all hgl.symm
        refine ⟨D6, _, rfl, SqL.of (by rw [hl2, ea2]), by rw [hgl]; exact List.length_pos_iff.mpr hne, fun m hm hub => ?_⟩
        rw [maxL_eq hm hub]
        exact q _ (((e1.trans e).trans e45).trans e6)
end
end A72

set_option Elab.async false
set_option linter.all false
set_option maxRecDepth 100000
set_option maxHeartbeats 4000000
/-! anyshift.waits: longest_wait -/
namespace A72
open PySem PySem.Spec PyProof.Rows L2
theorem ticksN_ne {row : List Int} {k : Int} (h : 0 < cnt row k) : ticksN row k ≠ [] := by
  have hc : 0 < row.count k := by
    unfold cnt at h
    omega
  have hm : k ∈ row := List.count_pos_iff.mp hc
  obtain ⟨j, hj, e⟩ := List.getElem_of_mem hm
  unfold ticksN sndF
  intro z
  have z2 := List.map_eq_nil_iff.mp z
  have z3 := List.filter_eq_nil_iff.mp z2 j (List.mem_range.mpr hj)
  refine z3 (decide_eq_true ?_)
  rw [List.getD_eq_getElem?_getD, List.getElem?_eq_getElem hj, e] <;> rfl
def waitRows (g : Grp) (i : Nat) : List Row := (clsN g).map fun os => (waitN (heardRow g os) (i : Nat), os)
theorem waitRows_len (g : Grp) (i : Nat) : (waitRows g i).length = (clsN g).length := by
  unfold waitRows
  rw [List.length_map]
/-- what the last comprehension of longest_wait has made -/
structure Best (K : PySem.W.Frag) (rows : List Row) (m : Int) (r : Nat) (H : Hp) (acc : List V) : Prop where
  all : ∀ y ∈ acc, ∃ z, TV K H y [.int m, z]
  some_ : ∀ (j : Nat) (q : Row), j < r → rows[j]? = some q → q.1 = m → acc ≠ []
  len : acc.length ≤ r
section
variable {P : Program} {w : World} {K : PySem.W.Frag} {mg : Str → Option Value} {base : Heap}
def spLong (K : PySem.W.Frag) : Sp := fun vs H Q _ => ∃ v g i, vs = [v, .int ((i : Nat) : Int)] ∧ GrV K H v g ∧ FewOk g ∧ i < g.length ∧
  (∀ H' x z, Same H H' → TV K H' x [.non, z] → Q x H') ∧
  (∀ H' x z m, Same H H' → TV K H' x [.int m, z] → (∀ os ∈ clsN g, 0 < cnt (heardRow g os) (i : Nat)) → (∀ os ∈ clsN g, waitN (heardRow g os) (i : Nat) ≤ m) → (∃ os ∈ clsN g, m = waitN (heardRow g os) (i : Nat)) → Q x H')
theorem sc_longest_wait : FnScope ["group", "who", "shut", "table", "most", "offsets", "ticks", "row"] ["group", "who"] (defScope d_longest_wait) := ⟨rfl, rfl, rfl, by decide +kernel, rfl, by decide +kernel, by decide +kernel⟩
theorem longest_wait_ok (T : Txt K mg) : C8.Cal P w K mg base 8 "longest_wait" (spLong K) [] := by
  refine cal T.f_d_longest_wait T.g_longest_wait sc_longest_wait (fun _ _ _ _ _ _ us hl => match us, hl with | [_, _], _ => rfl) (fun vs H Q E h => ?_) (fun cdv A outer s H vs Q E hr h => ?_)
  · obtain ⟨v, g, i, rfl, _⟩ := h
    rfl
  · obtain ⟨v, g, i, rfl, hv, hg, hi, q1, q2⟩ := h
    refine ⟨_, (pss_cons (ps_expr (C8.pe_c (need_group_ok T) hr (by decide) rfl (pa_cons (pv 0) pa_nil)))
 (pss_cons (ps_expr (C8.pe_c (need_sender_ok T) hr (by decide) rfl (pa_cons (pv 0) (pa_cons (pv 1) pa_nil))))
 (pss_cons (ps_expr (C8.pe_c (need_few_ok T) hr (by decide) rfl (pa_cons (pv 0) pa_nil)))
 (pss_cons (ps_set (i := 2) sc_longest_wait.nd rfl (Or.inl rfl) (C8.pe_c (shut_of_ok T) hr (by decide) rfl (pa_cons (pv 0) (pa_cons (pv 1) pa_nil))))
 (pss_cons (ps_if (pt_cmpR op_notN (pv 2) pe_non (nomark _)) (pss_one (ps_ret (pe_tup (pa_cons pe_non (pa_cons (pv 2) pa_nil))))) pss_nil)
 (pss_cons (ps_setLc (i := 3) (own := [("offsets", 5)]) (g := gName 5) (by rfl) sc_longest_wait.nd rfl rfl (sw_true rfl rfl rfl (by decide +kernel)) (pi_listK K rfl (C8.pe_c (classes_of_ok T) hr (by decide) rfl (pa_cons (pv 0) pa_nil))) (blkOk_by (N := ["group", "who", "shut", "table", "most", "offsets", "ticks", "row"]) (sc := defScope d_longest_wait) (by decide +kernel)) (fun _ _ _ _ _ => (pg_name (i := 5) sc_longest_wait.nd rfl (Or.inl rfl))) (fun _ _ _ _ _ => pts_nil) (fun _ _ _ _ _ => (pe_tup (pa_cons (C8.pe_c (wait_of_ok T) hr (by decide) rfl (pa_cons (pv 0) (pa_cons (pv 5) (pa_cons (pv 1) pa_nil)))) (pa_cons (pv 5) pa_nil)))))
 (pss_cons (ps_set (i := 4) sc_longest_wait.nd rfl (Or.inr rfl) (pe_callB (max_K K rfl rfl) (by rfl) T.b_max (by decide +kernel) (pa_cons (pe_lc (own := [("ticks", 6), ("offsets", 5)]) (g := gTup K 2 (gCons (gName 6) (gCons (gName 5) gNil))) (by rfl) sc_longest_wait.nd (pi_listK K rfl (pv 3)) (blkOk_by (N := ["group", "who", "shut", "table", "most", "offsets", "ticks", "row"]) (sc := defScope d_longest_wait) (by decide +kernel)) (fun _ _ _ _ _ => (by exact pg_2 (i := 6) (j := 5) K rfl rfl sc_longest_wait.nd rfl rfl (Or.inl rfl) (Or.inl rfl) (by first | exact .inl rfl | exact .inr rfl) (by first | exact .inl rfl | exact .inr rfl))) (fun _ _ _ _ _ => pts_nil) (fun _ _ _ _ _ => (pv 6))) pa_nil)))
 (pss_one (ps_ret (pe_ix (ix_listK K rfl) (pe_lc (own := [("row", 7)]) (g := gName 7) (by rfl) sc_longest_wait.nd (pi_listK K rfl (pv 3)) (blkOk_by (N := ["group", "who", "shut", "table", "most", "offsets", "ticks", "row"]) (sc := defScope d_longest_wait) (by decide +kernel)) (fun _ _ _ _ _ => (pg_name (i := 7) sc_longest_wait.nd rfl (Or.inl rfl))) (fun _ _ _ _ _ => pts_one (pt_cmpR op_eq (pe_ix (ix_tupK K rfl) (pv 7) pe_int (fun _ _ => rfl)) (pv 4) (nomark _))) (fun _ _ _ _ _ => (pv 7))) pe_int (fun _ _ => rfl))))))))))), ?_⟩
    have hv0 := hv
    obtain ⟨gvs, tv, hp0⟩ := hv0
    have hlen := pairedP_len hp0
    refine ⟨_, rfl, v, g, rfl, hv, hg.ok, fun H1 e1 => ?_⟩
    refine ⟨_, rfl, _, rfl, v, gvs, i, rfl, TV.m tv e1, by omega, by omega, ?_⟩
    refine ⟨_, rfl, v, g, rfl, hv.m e1, hg, ?_⟩
    refine ⟨_, rfl, _, rfl, v, g, i, rfl, hv.m e1, hg, hi, fun H2 a xs e2 ha => ?_, fun H2 e2 hpos => ?_⟩
    · refine ⟨_, rfl, rfl, true, rfl, ?_⟩
      exact ⟨_, rfl, by show 2 ≤ sizeLine; rw [sizeLine_eq]; decide, fun p hp => q1 _ _ _ ((e1.trans e2).trans (Same.new hp)) ⟨p, rfl, SqT.of upd_same⟩⟩
    · have e12 := e1.trans e2
      refine ⟨_, rfl, rfl, false, rfl, ?_⟩
      refine ⟨_, rfl, v, g, rfl, hv.m e12, hg.ok, fun H3 L ws e3 hL hws => ?_⟩
      have hwl := Paired.length hws
      have hfew := clsN_few hg
      have e13 := e12.trans e3
      refine ⟨L, rfl, ⟨_, SqL.of hL⟩, fun D hD => lcs walk_list yat_same hD (fun H e => e.l (SqL.of hL)) (fun r H acc => Paired (RowV K H) acc ((waitRows g i).take r)) .nil (fun _ _ _ _ _ e r => Paired.mapP r fun _ _ z => z.s e) (fun r _ acc z => ?_) (by omega) ?_ ?_⟩
      · have := Paired.length z
        rw [List.length_take] at this
        omega
      · intro r x H4 H5 acc Ky Kn hri e z y ky kn
        obtain ⟨rfl, hx⟩ := y
        obtain ⟨os, hos, hxo⟩ := paired_at hws hx
        have hw : os.length = g.length := clsN_width hos
        have hin : os ∈ clsN g := List.mem_of_getElem? hos
        refine ⟨rfl, _, rfl, _, rfl, _, rfl, v, x, g, os, i, rfl, hv.m (e13.trans e), TV.m hxo e, hg.ok, hw, hg.span, ticksN_ne (hpos os hin), fun H6 e6 => ?_⟩
        refine ⟨_, rfl, by show 2 ≤ sizeLine; rw [sizeLine_eq]; decide, fun t ht => ky _ _ (e6.trans (Same.new ht)) ?_⟩
        have et : (waitRows g i)[r]? = some (waitN (heardRow g os) (i : Nat), os) := by
          unfold waitRows
          rw [List.getElem?_map, hos] <;> rfl
        rw [take_snoc et]
        exact paired_app (Paired.mapP z fun _ _ k => k.s (Same.stp (S := []) (e6.trans (Same.new ht)))) (.cons ⟨x, ⟨t, rfl, SqT.of upd_same⟩, TV.m (TV.m hxo e) (e6.trans (Same.new ht))⟩ .nil)
      · intro H4 acc e hl z
        have hl2 : (waitRows g i).length = ws.length := by rw [waitRows_len, hwl]
        rw [← hl2, List.take_length] at z
        have hal := Paired.length z
        refine ⟨_, rfl, D, rfl, ⟨_, SqL.of hl⟩, fun D2 hD2 => lcs walk_list yat_same hD2 (fun H e => e.l (SqL.of hl)) (fun r H acc2 => Made V.int ((waitRows g i).map fun q : Row => q.1) r acc2) Made.zero (fun _ _ _ _ _ _ r => r) (fun _ _ _ r => r.len) (by omega) ?_ ?_⟩
        · intro r x H5 H6 acc2 Ky Kn hri e5 z2 y ky kn
          obtain ⟨rfl, hx⟩ := y
          obtain ⟨q, hq, hrow⟩ := paired_at z hx
          obtain ⟨t, ⟨b, rfl, hb⟩, ht⟩ := hrow
          refine ⟨b, _, rfl, e5.t hb, rfl, _, _, rfl, _, _, rfl, rfl, rfl, ?_⟩
          refine ⟨_, rfl, ky _ _ (Same.refl _) (z2.succ ?_)⟩
          rw [List.getElem?_map, hq] <;> rfl
        · intro H5 acc2 e5 hl5 z2
          have ea2 := z2.all (by rw [List.length_map, hal])
          have hpos2 := clsN_pos hg.ok
          refine ⟨D2, _, rfl, SqL.of (by rw [hl5, ea2]), by rw [List.length_map, waitRows_len]; omega, fun m hm hub => ?_⟩
          have hub2 : ∀ os ∈ clsN g, waitN (heardRow g os) (i : Nat) ≤ m := fun os hos => hub _ (List.mem_map.mpr ⟨(waitN (heardRow g os) (i : Nat), os), List.mem_map.mpr ⟨os, hos, rfl⟩, rfl⟩)
          obtain ⟨q0, hq0, em⟩ := List.mem_map.mp hm
          obtain ⟨os0, hos0, eq0⟩ := List.mem_map.mp hq0
          have hex : ∃ os ∈ clsN g, m = waitN (heardRow g os) (i : Nat) := ⟨os0, hos0, by rw [← em, ← eq0]⟩
          refine ⟨_, rfl, D, rfl, ⟨_, e5.l (SqL.of hl)⟩, fun D3 hD3 => lcs walk_list yat_same hD3 (fun H e => e.l (e5.l (SqL.of hl))) (fun r H acc3 => Best K (waitRows g i) m r H acc3) ⟨fun y hy => (nomatch hy), fun j q hj => absurd hj (Nat.not_lt_zero _), Nat.le_refl _⟩ (fun _ _ _ _ _ e b => ⟨fun y hy => let ⟨c, hc⟩ := b.all y hy; ⟨c, hc.s e⟩, b.some_, b.len⟩) (fun _ _ _ r => r.len) (by omega) ?_ ?_⟩
          · intro r x H6 H7 acc3 Ky Kn hri e6 b y ky kn
            obtain ⟨rfl, hx⟩ := y
            obtain ⟨q, hq, hrow⟩ := paired_at z hx
            have hrow2 := (hrow.s (e5.stp (S := []))).s (e6.stp (S := []))
            obtain ⟨t, ⟨c, rfl, hc⟩, ht⟩ := hrow2
            refine ⟨rfl, _, rfl, c, _, _, _, rfl, rfl, hc, rfl, _, rfl, rfl, decide (q.1 = m), congrArg V.bl (by rw [dec_int]; rfl), ?_⟩
            by_cases hk : q.1 = m
            · rw [decide_eq_true hk]
              refine ⟨_, rfl, ky _ _ (Same.refl _) ⟨fun y hy => ?_, fun j q2 hj hq2 e2 => ?_, ?_⟩⟩
              · rcases List.mem_append.mp hy with h | h
                · exact b.all y h
                · rw [List.mem_singleton.mp h]
                  exact ⟨t, c, rfl, by rw [← hk]; exact hc⟩
              · simp
              · have := b.len
                rw [List.length_append, List.length_singleton]
                omega
            · rw [decide_eq_false hk]
              refine kn _ (Same.refl _) ⟨b.all, fun j q2 hj hq2 e2 => ?_, Nat.le_succ_of_le b.len⟩
              by_cases hjr : j = r
              · rw [hjr, hq] at hq2
                cases hq2
                exact absurd e2 hk
              · exact b.some_ j q2 (by omega) hq2 e2
          · intro H6 acc3 e6 hl6 b
            have hne : acc3 ≠ [] := by
              obtain ⟨j, hj, ej⟩ := List.getElem_of_mem hq0
              exact b.some_ j q0 (by omega) (by rw [List.getElem?_eq_getElem hj, ej]) em
            cases acc3 with
            | nil => exact absurd rfl hne
            | cons y r3 =>
              obtain ⟨c, hc⟩ := b.all y (List.mem_cons_self ..)
              refine ⟨D3, _, _, y, rfl, rfl, SqL.of hl6, atI_nat (i := 0) rfl, ?_⟩
              exact q2 _ _ _ _ (((e13.trans e).trans e5).trans e6) hc hpos hub2 hex
end
end A72

set_option Elab.async false
set_option linter.all false
set_option maxRecDepth 100000
set_option maxHeartbeats 4000000
/-! anyshift.waits: stops_of, stop_ticks -/
namespace A72
open PySem PySem.Spec PyProof.Rows L2
theorem upd_none {H : Hp} {a p : Addr} {o : HO} (h : upd H a o p = none) : H p = none := by
  by_cases e : p = a
  · rw [e, upd_same] at h
    cases h
  · rw [upd_ne e] at h
    exact h
structure SSt where
  found : List (Option Int)
  tick : Nat
  idle : Nat
def stopF (g : Grp) (os : List Int) (s : SSt) (i : Nat) : Bool := sendAt g os (s.tick : Nat) i && (s.found.getD i none).isNone
def stopK (g : Grp) (os : List Int) (s : SSt) : Int := kindOf (sndF g.length (stopF g os s))
def stopStep (g : Grp) (os : List Int) (s : SSt) : SSt :=
  if 0 ≤ stopK g os s then { found := s.found.set (stopK g os s).toNat (some (s.tick : Nat)), tick := s.tick + 1, idle := 0 } else { found := s.found, tick := s.tick + 1, idle := s.idle + 1 }
def stopIt (g : Grp) (os : List Int) : Nat → SSt
  | 0 => { found := List.replicate g.length none, tick := 0, idle := 0 }
  | k + 1 => stopStep g os (stopIt g os k)
def stopGo (g : Grp) (s : SSt) : Bool := s.found.any (·.isNone) && decide (s.idle < spanN g)
theorem kindOf_mem : ∀ {ns : List Int}, 0 ≤ kindOf ns → kindOf ns ∈ ns
  | [], h => absurd h (by decide)
  | [x], _ => List.mem_cons_self ..
  | _ :: _ :: _, h => absurd h (by decide : ¬ (0 : Int) ≤ -2)
theorem mem_sndF {n : Nat} {f : Nat → Bool} {k : Int} (h : k ∈ sndF n f) : ∃ i : Nat, i < n ∧ f i = true ∧ k = ((i : Nat) : Int) := by
  unfold sndF at h
  obtain ⟨i, hi, e⟩ := List.mem_map.mp h
  obtain ⟨h1, h2⟩ := List.mem_filter.mp hi
  exact ⟨i, List.mem_range.mp h1, h2, e.symm⟩
theorem stopStep_len (g : Grp) (os : List Int) (s : SSt) : (stopStep g os s).found.length = s.found.length := by
  unfold stopStep
  split
  · exact List.length_set ..
  · rfl
theorem stopIt_len (g : Grp) (os : List Int) : ∀ k, (stopIt g os k).found.length = g.length
  | 0 => List.length_replicate ..
  | k + 1 => (stopStep_len g os _).trans (stopIt_len g os k)
theorem stopK_at {g : Grp} {os : List Int} {s : SSt} (h : 0 ≤ stopK g os s) : ∃ i : Nat, i < g.length ∧ stopK g os s = ((i : Nat) : Int) ∧ sendAt g os (s.tick : Nat) i = true ∧ s.found.getD i none = none := by
  obtain ⟨i, hi, hf, e⟩ := mem_sndF (kindOf_mem h)
  refine ⟨i, hi, e, ?_, ?_⟩
  · exact (He.ba hf).1
  · exact Option.isNone_iff_eq_none.mp (He.ba hf).2
def noneN (os : List (Option Int)) : Nat := os.countP (·.isNone)
theorem noneN_set : ∀ {os : List (Option Int)} {i : Nat} {x : Int}, i < os.length → os.getD i none = none → noneN (os.set i (some x)) + 1 = noneN os
  | [], i, x, h, _ => absurd h (Nat.not_lt_zero i)
  | o :: os, 0, x, _, e => by
    have e' : o = none := e
    subst e'
    unfold noneN
    rw [List.set_cons_zero, List.countP_cons_of_neg (by simp), List.countP_cons_of_pos (by simp)]
  | o :: os, i + 1, x, h, e => by
    have ih := noneN_set (os := os) (i := i) (x := x) (Nat.lt_of_succ_lt_succ h) e
    unfold noneN at ih ⊢
    rw [List.set_cons_succ, List.countP_cons, List.countP_cons]
    omega
def stopMu (g : Grp) (s : SSt) : Nat := noneN s.found * spanN g + (spanN g - s.idle)
theorem stop_less {g : Grp} {os : List Int} {s : SSt} (hl : s.found.length = g.length) (h : stopGo g s = true) : stopMu g (stopStep g os s) < stopMu g s := by
  have hi : s.idle < spanN g := of_decide_eq_true (He.ba h).2
  unfold stopStep stopMu
  split
  · rename_i hk
    obtain ⟨i, hin, e, _, hf⟩ := stopK_at hk
    have hz := noneN_set (x := ((s.tick : Nat) : Int)) (by omega : i < s.found.length) hf
    rw [e, Int.toNat_natCast]
    show noneN (s.found.set i (some (s.tick : Nat))) * spanN g + (spanN g - 0) < _
    rw [← hz, Nat.succ_mul]
    omega
  · show noneN s.found * spanN g + (spanN g - (s.idle + 1)) < _
    omega
theorem inV_none : ∀ os : List (Option Int), inV .non (os.map oV) = os.any (·.isNone)
  | [] => rfl
  | o :: os => by
    have ih := inV_none os
    unfold inV at ih ⊢
    rw [List.map_cons, List.any_cons, List.any_cons, ih]
    cases o <;> rfl
theorem flat_o (os : List (Option Int)) : (os.map oV).all flatV = true := by
  rw [List.all_eq_true]
  intro x hx
  obtain ⟨n, _, rfl⟩ := List.mem_map.mp hx
  cases n <;> rfl
theorem filter_sndF (n : Nat) (f h : Nat → Bool) : ((List.range n).filter f).filter h = (List.range n).filter fun i => f i && h i := by
  rw [List.filter_filter]
  exact congrArg (fun z => List.filter z (List.range n)) (funext fun i => Bool.and_comm ..)
theorem sndF_at {n : Nat} {f : Nat → Bool} {j : Nat} {v : V} (h : ((sndF n f).map V.int)[j]? = some v) : ∃ i : Nat, ((List.range n).filter f)[j]? = some i ∧ i < n ∧ v = .int ((i : Nat) : Int) := by
  obtain ⟨k, hk, e⟩ := ints_at h
  unfold sndF at hk
  rw [List.getElem?_map] at hk
  cases q : ((List.range n).filter f)[j]? with
  | none =>
    rw [q] at hk
    cases hk
  | some i =>
    rw [q] at hk
    have hm := List.mem_of_getElem? q
    refine ⟨i, rfl, List.mem_range.mp (List.mem_filter.mp hm).1, ?_⟩
    rw [e]
    exact congrArg V.int (Option.some.inj hk).symm
section
variable {P : Program} {w : World} {K : PySem.W.Frag} {mg : Str → Option Value} {base : Heap}
def spStops (K : PySem.W.Frag) : Sp := fun vs H Q _ => ∃ v u g os, vs = [v, u] ∧ GrV K H v g ∧ IV K H u os ∧ GrpOk g ∧ os.length = g.length ∧
  ∀ H' x k, Same H H' → (∀ j, j < k → stopGo g (stopIt g os j) = true) → stopGo g (stopIt g os k) = false → OV K H' x (stopIt g os k).found → Q x H'
theorem sc_stops_of : FnScope ["group", "offsets", "found", "tick", "idle", "whole", "kind", "who"] ["group", "offsets"] (defScope d_stops_of) := ⟨rfl, rfl, rfl, by decide +kernel, rfl, by decide +kernel, by decide +kernel⟩
theorem stops_of_ok (T : Txt K mg) : C8.Cal P w K mg base 4 "stops_of" (spStops K) [] := by
  refine cal T.f_d_stops_of T.g_stops_of sc_stops_of (fun _ _ _ _ _ _ us hl => match us, hl with | [_, _], _ => rfl) (fun vs H Q E h => ?_) (fun cdv A outer s H vs Q E hr h => ?_)
  · obtain ⟨v, u, g, os, rfl, _⟩ := h
    rfl
  · obtain ⟨v, u, g, os, rfl, hv, hu, hg, ho, q⟩ := h
    have hv0 := hv
    obtain ⟨gvs, ⟨a, rfl, ha⟩, hp0⟩ := hv0
    have hlen := pairedP_len hp0
    have h1 := hg.lo
    have h2 := hg.hi
    refine ⟨_, (pss_cons (ps_asg (pe_tup (pa_cons (pe_op op_rep (pe_lst (pa_cons pe_non pa_nil)) (pe_callB (len_K K rfl) (by rfl) T.b_len PySem.boot_len (pa_cons (pv 0) pa_nil))) (pa_cons pe_int (pa_cons pe_int pa_nil)))) (pg_tupK K rfl rfl (pgs_cons (pg_name (i := 2) sc_stops_of.nd rfl (Or.inr rfl)) (pgs_cons (pg_name (i := 3) sc_stops_of.nd rfl (Or.inl rfl)) (pgs_cons (pg_name (i := 4) sc_stops_of.nd rfl (Or.inl rfl)) pgs_nil)))))
 (pss_cons (ps_set (i := 5) sc_stops_of.nd rfl (Or.inl rfl) (C8.pe_c (span_of_ok T) hr (by decide) rfl (pa_cons (pv 0) pa_nil)))
 (pss_cons (ps_while PassesOwn.never (PW.pt (pw_and (pt_cmpR (in_K K rfl) pe_non (pv 2) (by rfl)) (pw_and1 (pt_cmpR op_lt (pv 4) (pv 5) (nomark _))))) (pss_cons (ps_set (i := 6) sc_stops_of.nd rfl (Or.inl rfl) (C8.pe_c (kind_of_ok T) hr (by decide) rfl (pa_cons (pe_lc (own := [("who", 7)]) (g := gName 7) (by rfl) sc_stops_of.nd (pi_listK K rfl (C8.pe_c (senders_at_ok T) hr (by decide) rfl (pa_cons (pv 0) (pa_cons (pv 1) (pa_cons (pv 3) pa_nil))))) (blkOk_by (N := ["group", "offsets", "found", "tick", "idle", "whole", "kind", "who"]) (sc := defScope d_stops_of) (by decide +kernel)) (fun _ _ _ _ _ => (pg_name (i := 7) sc_stops_of.nd rfl (Or.inl rfl))) (fun _ _ _ _ _ => pts_one (pt_cmpR op_isN (pe_ix (ix_listK K rfl) (pv 2) (pv 7) (fun _ _ => rfl)) pe_non (nomark _))) (fun _ _ _ _ _ => (pv 7))) pa_nil)))
 (pss_cons (ps_set (i := 4) sc_stops_of.nd rfl (Or.inl rfl) (pe_op op_add (pv 4) pe_int))
 (pss_cons (ps_if (pt_cmpR op_ge (pv 6) pe_int (nomark _)) (pss_one (ps_asg (pe_tup (pa_cons (pv 3) (pa_cons pe_int pa_nil))) (pg_tupK K rfl rfl (pgs_cons (pg_sub (pv 2) (pv 6) set_list) (pgs_cons (pg_name (i := 4) sc_stops_of.nd rfl (Or.inl rfl)) pgs_nil))))) pss_nil)
 (pss_one (ps_set (i := 3) sc_stops_of.nd rfl (Or.inl rfl) (pe_op op_add (pv 3) pe_int)))))))
 (pss_one (ps_ret (pe_callTy (tuple_K K rfl) (by rfl) T.b_tuple (by decide +kernel) (pa_cons (pv 2) pa_nil))))))), ?_⟩
    refine ⟨by show 1 ≤ sizeLine; rw [sizeLine_eq]; decide, fun p0 hp0' => ?_⟩
    have e0 := Same.new (o := .lst [V.non]) hp0'
    refine ⟨_, rfl, a, _, rfl, .inr (e0.t ha), p0, _, [V.non], rfl, rfl, upd_same, by omega, by omega, ?_, fun p hp => ?_⟩
    · rw [sizeLine_eq, List.length_singleton]
      omega
    have e1 := e0.trans (Same.new (o := .lst (List.replicate ((gvs.length : Int)).toNat [V.non]).flatten) hp)
    refine ⟨by show 3 ≤ sizeLine; rw [sizeLine_eq]; decide, fun t ht => ?_⟩
    have e2 := e1.trans (Same.new (o := .tup [V.ref p, V.int 0, V.int 0]) ht)
    have npt : p ≠ t := ne_of_none upd_same ht
    refine ⟨t, _, rfl, SqT.of upd_same, rfl, _, _, rfl, _, _, rfl, _, _, rfl, rfl, ?_⟩
    have hv2 := hv.m e2
    refine ⟨_, rfl, _, g, rfl, hv2, hg, ?_⟩
    refine ⟨fun m σ H' => ∃ k x, m = stopMu g (stopIt g os k) ∧ (∀ j, j < k → stopGo g (stopIt g os j) = true) ∧ Same H H' ∧ H' p = some (.lst ((stopIt g os k).found.map oV)) ∧
      σ = [some (.ref a), some u, some (.ref p), some (.int ((stopIt g os k).tick : Nat)), some (.int ((stopIt g os k).idle : Nat)), some (.int (spanN g : Nat)), x, none], ⟨_, 0, none, rfl, fun j hj => absurd hj (Nat.not_lt_zero j), e2, ?_, rfl⟩, ?_⟩
    · refine (upd_ne npt).trans (upd_same.trans ?_)
      rw [rep_flat]
      show _ = some (HO.lst ((List.replicate g.length none).map oV))
      rw [List.map_replicate, ← hlen, Int.toNat_natCast] <;> rfl
    · rintro m σ H3 ⟨k, x, rfl, hgos, e3, hp3, rfl⟩
      have hl3 := stopIt_len g os k
      generalize hs : stopIt g os k = s at hp3 hl3 ⊢
      refine ⟨_, rfl, p, _, rfl, .inl (SqL.of hp3), rfl, flat_o _, s.found.any (·.isNone), congrArg V.bl (inV_none _), ?_⟩
      cases hany : s.found.any (·.isNone) with
      | false =>
        refine ⟨_, rfl, p, _, rfl, .inl ⟨SqL.of hp3, fun l hl => q _ _ k (e3.trans (Same.new hl)) hgos ?_ ⟨l, rfl, SqT.of ?_⟩⟩⟩
        · unfold stopGo
          rw [hs, hany] <;> rfl
        · rw [upd_same, hs]
      | true =>
        refine ⟨_, rfl, _, rfl, _, _, rfl, rfl, decide (s.idle < spanN g), ?_, ?_⟩
        · exact congrArg V.bl (by rw [Bool.eq_iff_iff, decide_eq_true_iff, decide_eq_true_iff]; omega)
        cases hid : decide (s.idle < spanN g) with
        | false =>
          refine ⟨_, rfl, p, _, rfl, .inl ⟨SqL.of hp3, fun l hl => q _ _ k (e3.trans (Same.new hl)) hgos ?_ ⟨l, rfl, SqT.of ?_⟩⟩⟩
          · unfold stopGo
            rw [hs, hany, hid] <;> rfl
          · rw [upd_same, hs]
        | true =>
          have hgo : stopGo g s = true := by
            unfold stopGo
            rw [hany, hid] <;> rfl
          have hless := stop_less (os := os) hl3 hgo
          refine ⟨fun σ' H' => ∃ x, Same H H' ∧ H' p = some (.lst ((stopStep g os s).found.map oV)) ∧
            σ' = [some (.ref a), some u, some (.ref p), some (.int ((stopStep g os s).tick : Nat)), some (.int ((stopStep g os s).idle : Nat)), some (.int (spanN g : Nat)), x, none], ?_, ?_⟩
          · rintro σ' H' ⟨x', e', hp', rfl⟩
            refine ⟨stopMu g (stopStep g os s), hless, k + 1, x', ?_, ?_, e', ?_, ?_⟩
            · show _ = stopMu g (stopStep g os (stopIt g os k))
              rw [hs]
            · intro j hj
              by_cases hjk : j = k
              · rw [hjk, hs]
                exact hgo
              · exact hgos j (by omega)
            · show _ = some (HO.lst ((stopStep g os (stopIt g os k)).found.map oV))
              rw [hs]
              exact hp'
            · show _ = [some (.ref a), some u, some (.ref p), some (.int ((stopStep g os (stopIt g os k)).tick : Nat)), some (.int ((stopStep g os (stopIt g os k)).idle : Nat)), some (.int (spanN g : Nat)), x', none]
              rw [hs]
          · refine ⟨_, rfl, _, rfl, _, rfl, .ref a, u, g, os, _, rfl, hv.m e3, TV.m hu e3, hg, ho, fun H4 y e4 hy => ?_⟩
            obtain ⟨b, rfl, hb⟩ := hy
            have hp4 := e4 _ _ hp3
            refine ⟨b, rfl, ⟨_, hb⟩, fun D hD => lcs walk_list yat_same hD (fun H e => e.l hb) (fun j H acc => acc = ((((List.range g.length).filter (sendAt g os (s.tick : Nat))).take j).filter fun i => (s.found.getD i none).isNone).map fun i => V.int ((i : Nat) : Int)) rfl (fun _ _ _ _ _ _ r => r) (fun j _ acc r => ?_) ?_ ?_ ?_⟩
            · rw [r, List.length_map]
              exact Nat.le_trans (List.length_filter_le _ _) (by rw [List.length_take]; omega)
            · rw [List.length_map]
              have := sndF_len g.length (sendAt g os (s.tick : Nat))
              omega
            · intro j y H5 H6 acc Ky Kn hj e5 r yy ky kn
              obtain ⟨rfl, hy⟩ := yy
              obtain ⟨i, hi, hin, rfl⟩ := sndF_at hy
              obtain ⟨o, ho2⟩ : ∃ o, s.found[i]? = some o := ⟨_, List.getElem?_eq_getElem (by omega)⟩
              refine ⟨rfl, _, rfl, _, rfl, p, _, _, _, rfl, rfl, SqL.of (e5 _ _ hp4), atI_nat (oint_at ho2), rfl, ?_⟩
              have eg := getD_at (d := none) ho2
              cases o with
              | none =>
                refine ⟨true, rfl, _, rfl, ky _ _ (Same.refl _) ?_⟩
                rw [r, take_snoc hi, List.filter_append, List.map_append, List.filter_cons_of_pos (by rw [eg]; rfl)] <;> rfl
              | some o =>
                refine ⟨false, rfl, kn _ (Same.refl _) ?_⟩
                rw [r, take_snoc hi, List.filter_append, List.filter_cons_of_neg (by rw [eg]; simp)]
                simp
            · intro H5 acc e5 hl5 r
              have ea : acc = (sndF g.length (stopF g os s)).map V.int := by
                rw [r, List.length_map]
                unfold sndF
                rw [List.length_map, List.take_length, filter_sndF, List.map_map] <;> rfl
              refine ⟨.ref D, _, rfl, ⟨D, rfl, SqL.of (by rw [hl5, ea])⟩, fun H6 e6 => ?_⟩
              have e36 := (e4.trans e5).trans e6
              have hp6 := e36 _ _ hp3
              have e06 := e3.trans e36
              refine ⟨_, rfl, _, _, rfl, rfl, ?_⟩
              by_cases hk : 0 ≤ stopK g os s
              · obtain ⟨i, hin, ei, _, hf⟩ := stopK_at hk
                refine ⟨_, rfl, _, _, rfl, rfl, true, congrArg V.bl (decide_eq_true hk), ?_⟩
                refine ⟨_, rfl, by show 2 ≤ sizeLine; rw [sizeLine_eq]; decide, fun t7 ht7 => ?_⟩
                have np7 := ne_of_none hp6 ht7
                have hstep : stopStep g os s = { found := s.found.set i (some (s.tick : Nat)), tick := s.tick + 1, idle := 0 } := by
                  unfold stopStep
                  rw [if_pos hk, ei, Int.toNat_natCast]
                refine ⟨t7, _, rfl, SqT.of upd_same, rfl, _, _, rfl, ?_⟩
                refine ⟨_, rfl, _, rfl, p, _, _, i, rfl, congrArg V.int ei, (upd_ne np7).trans hp6, ?_, ?_⟩
                · unfold ixN
                  rw [if_pos (by omega), if_pos (by rw [List.length_map]; omega), Int.toNat_natCast]
                · refine ⟨_, _, rfl, rfl, ?_⟩
                  refine ⟨_, rfl, _, _, rfl, rfl, some (.int (stopK g os s)), ((e06.trans (Same.new ht7)).up ?_), ?_, ?_⟩
                  · exact upd_none hp
                  · rw [upd_same, hstep]
                    show some (HO.lst ((s.found.map oV).set i (oV (some ((s.tick : Nat) : Int))))) = some (HO.lst ((s.found.set i (some ((s.tick : Nat) : Int))).map oV))
                    rw [List.map_set]
                  · rw [hstep]
                    rfl
              · have hstep : stopStep g os s = { found := s.found, tick := s.tick + 1, idle := s.idle + 1 } := by
                  unfold stopStep
                  rw [if_neg hk]
                refine ⟨_, rfl, _, _, rfl, rfl, false, congrArg V.bl (decide_eq_false hk), ?_⟩
                refine ⟨_, rfl, _, _, rfl, rfl, some (.int (stopK g os s)), e06, ?_, ?_⟩
                · rw [hstep]
                  exact hp6
                · rw [hstep]
                  rfl
def spStopT (K : PySem.W.Frag) : Sp := fun vs H Q _ => ∃ v u g os, vs = [v, u] ∧ GrV K H v g ∧ IV K H u os ∧ GrpOk g ∧ OffOk g os ∧ spanN g ≤ 420 ∧
  ∀ H' x k, Same H H' → (∀ j, j < k → stopGo g (stopIt g os j) = true) → stopGo g (stopIt g os k) = false → OV K H' x (stopIt g os k).found → Q x H'
theorem sc_stop_ticks : FnScope ["group", "offsets"] ["group", "offsets"] (defScope d_stop_ticks) := ⟨rfl, rfl, rfl, by decide +kernel, rfl, by decide +kernel, by decide +kernel⟩
theorem stop_ticks_ok (T : Txt K mg) : C8.Cal P w K mg base 7 "stop_ticks" (spStopT K) [] := by
  refine cal T.f_d_stop_ticks T.g_stop_ticks sc_stop_ticks (fun _ _ _ _ _ _ us hl => match us, hl with | [_, _], _ => rfl) (fun vs H Q E h => ?_) (fun cdv A outer s H vs Q E hr h => ?_)
  · obtain ⟨v, u, g, os, rfl, _⟩ := h
    rfl
  · obtain ⟨v, u, g, os, rfl, hv, hu, hg, ho, hs, q⟩ := h
    refine ⟨_, (pss_cons (ps_expr (C8.pe_c (need_group_ok T) hr (by decide) rfl (pa_cons (pv 0) pa_nil)))
 (pss_cons (ps_expr (C8.pe_c (need_offsets_ok T) hr (by decide) rfl (pa_cons (pv 0) (pa_cons (pv 1) pa_nil))))
 (pss_cons (ps_expr (C8.pe_c (need_span_ok T) hr (by decide) rfl (pa_cons (pv 0) pa_nil)))
 (pss_one (ps_ret (C8.pe_c (stops_of_ok T) hr (by decide) rfl (pa_cons (pv 0) (pa_cons (pv 1) pa_nil)))))))), ?_⟩
    refine ⟨_, rfl, v, g, rfl, hv, hg, fun H1 e1 => ?_⟩
    refine ⟨_, rfl, _, rfl, v, u, g, os, rfl, hv.m e1, TV.m hu e1, hg, ho, fun H2 e2 => ?_⟩
    have e := e1.trans e2
    refine ⟨_, rfl, v, g, rfl, hv.m e, hg, hs, ?_⟩
    exact ⟨_, rfl, _, rfl, v, u, g, os, rfl, hv.m e, TV.m hu e, hg, ho.len, fun H3 x k e3 hg1 hgo hx => q _ _ k (e.trans e3) hg1 hgo hx⟩
end
end A72

set_option Elab.async false
set_option linter.all false
set_option maxRecDepth 100000
set_option maxHeartbeats 4000000
/-! plain mathematics: periods, classes, waits -/
namespace A72
open PySem PySem.Spec PyProof.Rows L2
/-! ### periods -/
theorem lcm_fold : ∀ (g : Grp) (m : Nat), m ∣ g.foldl (fun m p => Nat.lcm m p.per.toNat) m ∧ ∀ p ∈ g, p.per.toNat ∣ g.foldl (fun m p => Nat.lcm m p.per.toNat) m
  | [], m => ⟨Nat.dvd_refl m, fun _ h => (nomatch h)⟩
  | p :: g, m => by
    obtain ⟨h1, h2⟩ := lcm_fold g (Nat.lcm m p.per.toNat)
    rw [List.foldl_cons]
    refine ⟨Nat.dvd_trans (Nat.dvd_lcm_left _ _) h1, fun q hq => ?_⟩
    rcases List.mem_cons.mp hq with e | e
    · rw [e]
      exact Nat.dvd_trans (Nat.dvd_lcm_right _ _) h1
    · exact h2 q e
theorem per_dvd {g : Grp} {p : Pat} (h : p ∈ g) (hp : 0 < p.per) : p.per ∣ ((spanN g : Nat) : Int) := by
  have z := (lcm_fold g 1).2 p h
  have z2 := Int.natCast_dvd_natCast.mpr z
  rw [Int.toNat_of_nonneg (by omega)] at z2
  exact z2
theorem sendB_mod {p : Pat} {o t t' : Int} (h : t % p.per = t' % p.per) : sendB p o t = sendB p o t' := by
  unfold sendB
  rw [Int.sub_emod t, Int.sub_emod t', h]
theorem mod_down {t t' n m : Int} (h : t % n = t' % n) (d : m ∣ n) : t % m = t' % m := by
  rw [← Int.emod_emod_of_dvd t d, ← Int.emod_emod_of_dvd t' d, h]
theorem sendAt_mod {g : Grp} {os : List Int} {t t' : Int} {i : Nat} (hg : GrpOk g) (h : t % ((spanN g : Nat) : Int) = t' % ((spanN g : Nat) : Int)) : sendAt g os t i = sendAt g os t' i := by
  unfold sendAt
  cases hp : g[i]? with
  | none => rfl
  | some p =>
    cases ho : os[i]? with
    | none => rfl
    | some o => exact sendB_mod (mod_down h (per_dvd (List.mem_of_getElem? hp) (hg.at_ hp).pos))
theorem heardAt_mod {g : Grp} {os : List Int} {t t' : Int} (hg : GrpOk g) (h : t % ((spanN g : Nat) : Int) = t' % ((spanN g : Nat) : Int)) : heardAt g os t = heardAt g os t' := by
  unfold heardAt
  rw [show sendAt g os t = sendAt g os t' from funext fun i => sendAt_mod hg h]
theorem row_at {g : Grp} {os : List Int} {i : Nat} (h : i < spanN g) : (heardRow g os)[i]? = some (heardAt g os ((i : Nat) : Int)) := by
  unfold heardRow
  rw [List.getElem?_map, List.getElem?_range h] <;> rfl
/-! ### every offsets tuple is a class of its own, turned -/
def Shift (g : Grp) (os c : List Int) (s : Int) : Prop := ∀ (j : Nat) (p : Pat) (o : Int), g[j]? = some p → os[j]? = some o → ∃ k, c[j]? = some k ∧ (o - k - s) % p.per = 0
theorem bezout (a b : Nat) : ∃ x y : Int, (a : Int) * x + (b : Int) * y = ((Nat.gcd a b : Nat) : Int) := by
  induction a, b using Nat.gcd.induction with
  | H0 n => exact ⟨0, 1, by simp⟩
  | H1 m n hm ih =>
    obtain ⟨x, y, h⟩ := ih
    refine ⟨y - ((n / m : Nat) : Int) * x, x, ?_⟩
    rw [Nat.gcd_rec, ← h]
    have e : (n : Int) = (m : Int) * ((n / m : Nat) : Int) + ((n % m : Nat) : Int) := by
      rw [← Int.natCast_mul, ← Int.natCast_add, Nat.div_add_mod]
    generalize ((n / m : Nat) : Int) = q at e ⊢
    generalize ((n % m : Nat) : Int) = r at e ⊢
    rw [e, Int.mul_sub, Int.add_mul, Int.mul_assoc]
    omega
theorem mod0_of_dvd {a n : Int} (h : n ∣ a) : a % n = 0 := Int.emod_eq_zero_of_dvd h
theorem shift_ex {g : Grp} (hg : GrpOk g) {os : List Int} (ho : OffOk g os) : ∀ i, i ≤ g.length → ∃ c s, c ∈ (clsS (g.take i)).1 ∧ c.length = i ∧ ∀ (j : Nat) (p : Pat) (o : Int), j < i → g[j]? = some p → os[j]? = some o → ∃ k, c[j]? = some k ∧ (o - k - s) % p.per = 0
  | 0, _ => ⟨[], 0, List.mem_singleton.mpr rfl, rfl, fun j p o hj => absurd hj (Nat.not_lt_zero j)⟩
  | i + 1, hi => by
    obtain ⟨c, s, hc, hl, hs⟩ := shift_ex hg ho i (Nat.le_of_succ_le hi)
    obtain ⟨p, hp⟩ : ∃ p, g[i]? = some p := ⟨_, List.getElem?_eq_getElem (by omega)⟩
    obtain ⟨o, hoi⟩ : ∃ o, os[i]? = some o := ⟨_, List.getElem?_eq_getElem (by have := ho.len; omega)⟩
    have hpo := hg.at_ hp
    have hpos := hpo.pos
    obtain ⟨x, y, hb⟩ := bezout (spanN (g.take i)) p.per.toNat
    generalize hd : Nat.gcd (spanN (g.take i)) p.per.toNat = d at hb
    have hd0 : 0 < d := by
      rw [← hd]
      exact Nat.gcd_pos_of_pos_right _ (by omega)
    have k0 : 0 ≤ (o - s) % (d : Int) := Int.emod_nonneg _ (by omega)
    have k1 : (o - s) % (d : Int) < d := Int.emod_lt_of_pos _ (by omega)
    have kd := Int.emod_add_mul_ediv (o - s) (d : Int)
    generalize (o - s) % (d : Int) = k at k0 k1 kd
    generalize (o - s) / (d : Int) = q at kd
    rw [Int.toNat_of_nonneg (by omega)] at hb
    refine ⟨c ++ [k], s + (spanN (g.take i) : Int) * (x * q), ?_, by rw [List.length_append, List.length_singleton, hl], fun j p' o' hj hpj hoj => ?_⟩
    · rw [clsS_succ hp]
      show _ ∈ (clsS (g.take i)).1.flatMap (ext (Nat.gcd (clsS (g.take i)).2 p.per.toNat))
      rw [clsS_span, hd]
      refine List.mem_flatMap.mpr ⟨c, hc, ?_⟩
      unfold ext
      refine List.mem_map.mpr ⟨k.toNat, List.mem_range.mpr (by omega), ?_⟩
      rw [Int.toNat_of_nonneg k0]
    · by_cases hji : j = i
      · rw [hji] at hpj hoj
        rw [hp] at hpj
        rw [hoi] at hoj
        cases hpj
        cases hoj
        refine ⟨k, by rw [hji, List.getElem?_append_right (by omega), hl, Nat.sub_self] <;> rfl, mod0_of_dvd ⟨y * q, ?_⟩⟩
        have e1 : (spanN (g.take i) : Int) * (x * q) = (spanN (g.take i) : Int) * x * q := (Int.mul_assoc ..).symm
        have e2 : p.per * (y * q) = p.per * y * q := (Int.mul_assoc ..).symm
        have e3 : ((d : Nat) : Int) * q = (spanN (g.take i) : Int) * x * q + p.per * y * q := by rw [← Int.add_mul, hb]
        rw [e1, e2]
        omega
      · obtain ⟨k', hk', hm⟩ := hs j p' o' (by omega) hpj hoj
        refine ⟨k', by rw [List.getElem?_append_left (by omega)]; exact hk', ?_⟩
        have hdv : p'.per ∣ ((spanN (g.take i) : Nat) : Int) := per_dvd (List.mem_of_getElem? (show (g.take i)[j]? = some p' by rw [List.getElem?_take_of_lt (by omega)]; exact hpj)) (hg.at_ hpj).pos
        have h1 : p'.per ∣ o' - k' - s := Int.dvd_of_emod_eq_zero hm
        have h2 : p'.per ∣ ((spanN (g.take i) : Nat) : Int) * (x * q) := Int.dvd_trans hdv (Int.dvd_mul_right _ _)
        have h3 := Int.dvd_sub h1 h2
        rw [show o' - k' - (s + ((spanN (g.take i) : Nat) : Int) * (x * q)) = o' - k' - s - ((spanN (g.take i) : Nat) : Int) * (x * q) by omega]
        exact mod0_of_dvd h3
theorem shift_send {g : Grp} {os c : List Int} {s t : Int} {i : Nat} (hl : os.length = g.length) (h : Shift g os c s) : sendAt g os t i = sendAt g c (t - s) i := by
  unfold sendAt
  cases hp : g[i]? with
  | none => rfl
  | some p =>
    have hi : i < g.length := (List.getElem?_eq_some_iff.mp hp).1
    obtain ⟨o, ho⟩ : ∃ o, os[i]? = some o := ⟨_, List.getElem?_eq_getElem (by omega)⟩
    obtain ⟨k, hk, hm⟩ := h i p o hp ho
    rw [ho, hk]
    show sendB p o t = sendB p k (t - s)
    unfold sendB
    obtain ⟨z, hz⟩ := Int.dvd_of_emod_eq_zero hm
    have e : t - o = (t - s - k) + p.per * (-z) := by
      rw [Int.mul_neg]
      omega
    rw [e, Int.add_mul_emod_self_left]
theorem shift_heard {g : Grp} {os c : List Int} {s t : Int} (hl : os.length = g.length) (h : Shift g os c s) : heardAt g os t = heardAt g c (t - s) := by
  unfold heardAt
  rw [show sendAt g os t = sendAt g c (t - s) from funext fun i => shift_send hl h]
/-! ### no wait is longer than the greatest gap -/
theorem gap_next : ∀ (ts : List Int) (a e W r : Int), 0 ≤ W → (∀ y ∈ ((a :: ts).zip (ts ++ [e])).map (fun p => p.2 - p.1 - 1), y ≤ W) → a ≤ r → r ≤ e → ∃ x, (x ∈ a :: ts ∨ x = e) ∧ r ≤ x ∧ x - r ≤ W
  | [], a, e, W, r, hW, h, h1, h2 => by
    by_cases ha : r = a
    · exact ⟨a, .inl (List.mem_cons_self ..), by omega, by omega⟩
    · have := h (e - a - 1) (List.mem_singleton.mpr rfl)
      exact ⟨e, .inr rfl, h2, by omega⟩
  | b :: ts, a, e, W, r, hW, h, h1, h2 => by
    by_cases ha : r = a
    · exact ⟨a, .inl (List.mem_cons_self ..), by omega, by omega⟩
    · by_cases hb : r ≤ b
      · have := h (b - a - 1) (List.mem_cons_self ..)
        exact ⟨b, .inl (List.mem_cons_of_mem _ (List.mem_cons_self ..)), hb, by omega⟩
      · obtain ⟨x, hx, h3, h4⟩ := gap_next ts b e W r hW (fun y hy => h y (List.mem_cons_of_mem _ hy)) (by omega) h2
        refine ⟨x, ?_, h3, h4⟩
        rcases hx with hx | hx
        · exact .inl (List.mem_cons_of_mem _ hx)
        · exact .inr hx
theorem ticks_asc (row : List Int) (k : Int) : (ticksN row k).Pairwise (· < ·) := by
  unfold ticksN sndF
  refine List.pairwise_map.mpr ((List.pairwise_lt_range.sublist List.filter_sublist).imp fun {a b} h => ?_)
  omega
theorem ticks_mem {row : List Int} {k x : Int} (h : x ∈ ticksN row k) : ∃ i : Nat, i < row.length ∧ x = ((i : Nat) : Int) ∧ row.getD i 0 = k := by
  obtain ⟨i, h1, h2, h3⟩ := mem_sndF h
  exact ⟨i, h1, h3, of_decide_eq_true h2⟩
theorem wait_ok {g : Grp} (hg : GrpOk g) {c : List Int} {who : Int} (h : ticksN (heardRow g c) who ≠ []) : 0 ≤ waitN (heardRow g c) who ∧ ∀ t : Int, ∃ j : Int, 0 ≤ j ∧ j ≤ waitN (heardRow g c) who ∧ heardAt g c (t + j) = who := by
  have hn : 0 < spanN g := span_pos hg
  have hlen := heardRow_len g c
  unfold waitN
  rw [hlen]
  have hasc := ticks_asc (heardRow g c) who
  have hmem : ∀ x ∈ ticksN (heardRow g c) who, 0 ≤ x ∧ x < (spanN g : Nat) ∧ heardAt g c x = who := fun x hx => by
    obtain ⟨i, h1, h2, h3⟩ := ticks_mem hx
    rw [hlen] at h1
    rw [List.getD_eq_getElem?_getD, row_at h1] at h3
    refine ⟨by omega, by omega, ?_⟩
    rw [h2]
    exact h3
  generalize ticksN (heardRow g c) who = ts at h hasc hmem
  cases ts with
  | nil => exact absurd rfl h
  | cons a ts =>
    have ha := hmem a (List.mem_cons_self ..)
    have hW : 0 ≤ maxL (gapsN (a :: ts) (spanN g : Nat)) := by
      cases ts with
      | nil =>
        have : a + (spanN g : Nat) - a - 1 ≤ maxL (gapsN [a] (spanN g : Nat)) := maxL_le (List.mem_singleton.mpr rfl)
        omega
      | cons b ts =>
        have h1 : b - a - 1 ≤ maxL (gapsN (a :: b :: ts) (spanN g : Nat)) := maxL_le (List.mem_cons_self ..)
        have h2 := (List.pairwise_cons.mp hasc).1 b (List.mem_cons_self ..)
        omega
    refine ⟨hW, fun t => ?_⟩
    have r0 : 0 ≤ (t - a) % ((spanN g : Nat) : Int) := Int.emod_nonneg _ (by omega)
    have r1 : (t - a) % ((spanN g : Nat) : Int) < (spanN g : Nat) := Int.emod_lt_of_pos _ (by omega)
    have re := Int.emod_add_mul_ediv (t - a) ((spanN g : Nat) : Int)
    obtain ⟨x, hx, h3, h4⟩ := gap_next ts a (a + (spanN g : Nat)) (maxL (gapsN (a :: ts) (spanN g : Nat))) (a + (t - a) % ((spanN g : Nat) : Int)) hW (fun y hy => maxL_le hy) (by omega) (by omega)
    refine ⟨x - (a + (t - a) % ((spanN g : Nat) : Int)), by omega, h4, ?_⟩
    generalize (t - a) % ((spanN g : Nat) : Int) = r at *
    generalize (t - a) / ((spanN g : Nat) : Int) = z at re
    have et : t + (x - (a + r)) = x + ((spanN g : Nat) : Int) * z := by omega
    rw [et, heardAt_mod hg (Int.add_mul_emod_self_left x _ z)]
    rcases hx with hx | hx
    · exact (hmem x hx).2.2
    · rw [hx, heardAt_mod (t' := a) hg (by rw [Int.add_emod_right])]
      exact ha.2.2
/-- whatever the offsets: within the greatest wait of all classes and one tick more -/
theorem heard_within {g : Grp} (hg : GrpOk g) {os : List Int} (ho : OffOk g os) {who m : Int} (h1 : ∀ c ∈ clsN g, 0 < cnt (heardRow g c) who) (h2 : ∀ c ∈ clsN g, waitN (heardRow g c) who ≤ m) (t : Int) : ∃ j : Int, 0 ≤ j ∧ j ≤ m ∧ heardAt g os (t + j) = who := by
  obtain ⟨c, s, hc, hl, hs⟩ := shift_ex hg ho g.length (Nat.le_refl _)
  rw [List.take_length] at hc
  have hS : Shift g os c s := fun j p o hp hoj => hs j p o (List.getElem?_eq_some_iff.mp hp).1 hp hoj
  obtain ⟨_, hw⟩ := wait_ok hg (ticksN_ne (h1 c hc))
  obtain ⟨j, h3, h4, h5⟩ := hw (t - s)
  refine ⟨j, h3, Int.le_trans h4 (h2 c hc), ?_⟩
  rw [shift_heard ho.len hS, show t + j - s = t - s + j by omega, h5]
end A72

set_option Elab.async false
set_option linter.all false
set_option maxRecDepth 100000
set_option maxHeartbeats 4000000
/-! the law's pen: cell, pen, draw, pick, sender -/
namespace A72
open PySem PySem.Spec PyProof.Rows L2
theorem Stp.up {S : List Addr} {H H' : Hp} {p : Addr} {o : HO} (e : Stp S H H') (h : H p = none) : Stp S H (L2.upd H' p o) :=
  ⟨fun a u ha n => by
    rw [upd_ne (ne_of_none ha h)]
    exact e.kp a u ha n, fun a u ha t => by
    rw [upd_ne (ne_of_none ha h)]
    exact e.tu a u ha t⟩
theorem Stp.l {K : PySem.W.Frag} {S : List Addr} {H H' : Hp} {a : Addr} {xs : List V} (e : Stp S H H') (h : SqL K H a xs) (n : a ∉ S) : SqL K H' a xs := by
  rcases h with (h | ⟨o, h⟩) | h
  · exact .inl (.inl (e.kp _ _ h n))
  · exact .inl (.inr ⟨o, e.kp _ _ h n⟩)
  · exact .inr h
/-- a comprehension whose turns may change what stands at S -/
theorem lcp {J : It} {n : Nat} {G : Hp → Prop} {Y : Nat → Hp → V → Hp → Prop} (w : Walk J n G Y) (hY : ∀ i H x H', Y i H x H' → Same H H') {g : TG} {tt : TT} {te : TE} {vs : List Nat} {σ : L2.St} {H0 : Hp} {D : Addr} {Qd : Hp → Prop} (S : List Addr) (hS : ∀ p ∈ S, H0 p ≠ none) (hD : H0 D = none)
    (hG : ∀ H, Stp S H0 H → G H) (R : Nat → Hp → List V → Prop) (h0 : R 0 H0 []) (mono : ∀ i acc T H H', (∀ p ∈ S, p ∉ T) → Stp T H H' → R i H acc → R i H' acc) (hz : ∀ i H acc, R i H acc → acc.length ≤ i) (hn : n ≤ 100000)
    (turn : ∀ i x H H' acc (Ky : V → Hp → Prop) (Kn : Hp → Prop), i < n → Stp S H0 H' → R i H' acc → Y i H x H' → (∀ y H4, Stp S H' H4 → R (i + 1) H4 (acc ++ [y]) → Ky y H4) → (∀ H3, Stp S H' H3 → R (i + 1) H3 acc → Kn H3) →
      g x (wipe σ vs) H' fun σ2 H2 => wipe σ2 vs = wipe σ vs ∧ tt σ2 H2 fun b H3 => if b = true then te σ2 H3 Ky else Kn H3)
    (hd : ∀ H acc, Stp S H0 H → H D = some (.lst acc) → R n H acc → Qd H) :
    ∃ W : Nat → Nat → Hp → Prop, (∃ m, W 0 m (upd H0 D (.lst []))) ∧ ∀ i m H, W i m H →
      (J.stop i H ∧ Qd H) ∨ (J.go i H ∧ ∃ Nx : Hp → Prop, (∀ H', Nx H' → ∃ m', m' < m ∧ W (i + 1) m' H') ∧ ∀ x H', J.yld i H x H' → g x (wipe σ vs) H' fun σ2 H2 => wipe σ2 vs = wipe σ vs ∧ tt σ2 H2 fun b H3 =>
        if b = true then te σ2 H3 fun y H4 => ∃ acc, H4 D = some (.lst acc) ∧ acc.length < sizeLine ∧ Nx (upd H4 D (.lst (acc ++ [y]))) else Nx H3) := by
  have nD : D ∉ S := fun z => hS D z hD
  have nT : ∀ p ∈ S, p ∉ [D] := fun p hp z => nD (by rw [← List.mem_singleton.mp z]; exact hp)
  have nE : ∀ p ∈ S, p ∉ ([] : List Addr) := fun p _ z => nomatch z
  refine lc_it w (fun i H => ∃ acc, Stp S H0 H ∧ H D = some (.lst acc) ∧ R i H acc) ⟨[], Stp.new hD, upd_same, mono 0 [] [] _ _ nE (Stp.new hD) h0⟩ (fun i H hi ⟨acc, e, _, _⟩ => hG H e) ?_ (fun H ⟨acc, e, hl, r⟩ => hd H acc e hl r)
  rintro i x H H' hi ⟨acc, e, hl, r⟩ y
  have s1 := hY i H x H' y
  refine turn i x H H' acc _ _ hi (e.trans s1.stp) (mono i acc [] H H' nE s1.stp r) y (fun z H4 s4 r4 => ?_) fun H3 s3 r3 => ?_
  · have hl4 : H4 D = some (.lst acc) := s4.kp _ _ (s1 _ _ hl) nD
    have hz' := hz i H acc r
    refine ⟨acc, hl4, Nat.lt_of_le_of_lt hz' (Nat.lt_of_lt_of_le (Nat.lt_of_lt_of_le hi hn) (by rw [sizeLine_eq]; decide)), acc ++ [z], ((e.trans s1.stp).trans s4).up hD, upd_same, ?_⟩
    exact mono (i + 1) _ [D] _ _ nT (Stp.upd hl4 rfl (List.mem_singleton.mpr rfl)) r4
  · exact ⟨acc, (e.trans s1.stp).trans s3, s3.kp _ _ (s1 _ _ hl) nD, r3⟩
/-- a pen -/
def PenV (H : Hp) (p : Addr) : Prop := ∃ a b c : Int, H p = some (.lst [.int a, .int b, .int c]) ∧ 0 ≤ a ∧ 0 ≤ b ∧ b < 2147483648
theorem PenV.s {S : List Addr} {H H' : Hp} {p : Addr} (h : PenV H p) (e : Stp S H H') (n : p ∉ S) : PenV H' p := let ⟨a, b, c, q, r⟩ := h; ⟨a, b, c, e.kp _ _ q n, r⟩
theorem PenV.m {H H' : Hp} {p : Addr} (h : PenV H p) (e : Same H H') : PenV H' p := h.s (Same.stp (S := []) e) (fun z => nomatch z)
theorem PenV.ne {H : Hp} {p : Addr} (h : PenV H p) : H p ≠ none := fun z => by
  obtain ⟨a, b, c, q, r⟩ := h
  rw [z] at q
  cases q
section
variable {P : Program} {w : World} {K : PySem.W.Frag} {mg : Str → Option Value} {base : Heap}
def spCell (K : PySem.W.Frag) : Sp := fun vs H Q _ => ∃ v ns k, vs = [v, .int ((k : Nat) : Int)] ∧ LV K H v ns ∧ ∀ z, Q (.int z) H
theorem sc_law_cell : FnScope ["_law_script", "_law_k"] ["_law_script", "_law_k"] (defScope d_law_cell) := ⟨rfl, rfl, rfl, by decide +kernel, rfl, by decide +kernel, by decide +kernel⟩
theorem law_cell_ok (T : Txt K mg) : C8.Cal P w K mg base 1 "_law_cell" (spCell K) [] := by
  refine cal T.f_d_law_cell T.g_law_cell sc_law_cell (fun _ _ _ _ _ _ us hl => match us, hl with | [_, _], _ => rfl) (fun vs H Q E h => ?_) (fun cdv A outer s H vs Q E hr h => ?_)
  · obtain ⟨v, ns, k, rfl, _⟩ := h
    rfl
  · obtain ⟨v, ns, k, rfl, ⟨a, rfl, ha⟩, q⟩ := h
    refine ⟨_, (pss_cons (ps_if (pt_cmpR op_lt (pv 1) (pe_callB (len_K K rfl) (by rfl) T.b_len PySem.boot_len (pa_cons (pv 0) pa_nil)) (nomark _)) (pss_one (ps_ret (pe_ix (ix_listK K rfl) (pv 0) (pv 1) (fun _ _ => rfl)))) pss_nil)
 (pss_one (ps_ret pe_int))), ?_⟩
    refine ⟨_, rfl, _, rfl, a, _, rfl, .inl ha, _, _, rfl, rfl, decide (k < ns.length), congrArg V.bl (by rw [List.length_map, Bool.eq_iff_iff, decide_eq_true_iff, decide_eq_true_iff]; omega), ?_⟩
    cases hd : decide (k < ns.length) with
    | true =>
      have hk := of_decide_eq_true hd
      exact ⟨_, rfl, _, rfl, a, _, _, _, rfl, rfl, ha, atI_nat (int_at (List.getElem?_eq_getElem hk)), q _⟩
    | false => exact q _
def spPen : Sp := fun vs H Q _ => ∃ z : Int, vs = [.int z] ∧ ∀ H' p, Same H H' → H p = none → PenV H' p → Q (.ref p) H'
theorem sc_law_pen : FnScope ["_law_cell_here"] ["_law_cell_here"] (defScope d_law_pen) := ⟨rfl, rfl, rfl, by decide +kernel, rfl, by decide +kernel, by decide +kernel⟩
theorem law_pen_ok (T : Txt K mg) : C8.Cal P w K mg base 1 "_law_pen" spPen [] := by
  refine cal T.f_d_law_pen T.g_law_pen sc_law_pen (fun _ _ _ _ _ _ us hl => match us, hl with | [_], _ => rfl) (fun vs H Q E h => ?_) (fun cdv A outer s H vs Q E hr h => ?_)
  · obtain ⟨z, rfl, _⟩ := h
    rfl
  · obtain ⟨z, rfl, q⟩ := h
    refine ⟨_, (pss_one (ps_ret (pe_lst (pa_cons (pe_callB (call_max2 rfl) (by rfl) T.b_max (by decide +kernel) (pa_cons pe_int (pa_cons (pe_op op_sub (pv 0) (pe_op op_pow pe_int pe_int)) pa_nil))) (pa_cons (pe_op op_add (pe_op op_mod (pv 0) pe_int) pe_int) (pa_cons pe_int pa_nil)))))), ?_⟩
    refine ⟨_, rfl, _, _, rfl, rfl, ⟨by omega, by omega, by decide⟩, _, _, rfl, rfl, _, _, rfl, ?_⟩
    refine ⟨_, rfl, _, _, rfl, rfl, by omega, _, _, rfl, rfl, ?_⟩
    refine ⟨by show 3 ≤ sizeLine; rw [sizeLine_eq]; decide, fun p hp => q _ p (Same.new hp) hp ⟨_, _, _, upd_same, ?_, ?_, ?_⟩⟩
    · split <;> omega
    · have := Int.emod_nonneg z (show (2147483629 : Int) ≠ 0 by decide)
      omega
    · have := Int.emod_lt_of_pos z (show (0 : Int) < 2147483629 by decide)
      omega
def spDraw : Sp := fun vs H Q _ => ∃ (p : Addr) (n : Int), vs = [.ref p, .int n] ∧ PenV H p ∧ 1 ≤ n ∧ n ≤ 1000 ∧ ∀ H' k, Stp [p] H H' → PenV H' p → 0 ≤ k → k < n → Q (.int k) H'
theorem sc_law_draw : FnScope ["_law_pen_here", "_law_amount", "_law_found", "_law_mixed"] ["_law_pen_here", "_law_amount"] (defScope d_law_draw) := ⟨rfl, rfl, rfl, by decide +kernel, rfl, by decide +kernel, by decide +kernel⟩
theorem law_draw_ok (T : Txt K mg) : C8.Cal P w K mg base 1 "_law_draw" spDraw [] := by
  refine cal T.f_d_law_draw T.g_law_draw sc_law_draw (fun _ _ _ _ _ _ us hl => match us, hl with | [_, _], _ => rfl) (fun vs H Q E h => ?_) (fun cdv A outer s H vs Q E hr h => ?_)
  · obtain ⟨p, n, rfl, _⟩ := h
    rfl
  · obtain ⟨p, n, rfl, ⟨a, b, c, hp, ha, hb, hb2⟩, h1, h2, q⟩ := h
    refine ⟨_, (pss_cons (ps_if (pt_cmpR op_gt (pe_ix (ix_listK K rfl) (pv 0) pe_int (fun _ _ => rfl)) pe_int (nomark _)) (pss_cons (ps_set (i := 2) sc_law_draw.nd rfl (Or.inl rfl) (pe_op op_mod (pe_ix (ix_listK K rfl) (pv 0) pe_int (fun _ _ => rfl)) (pv 1)))
 (pss_cons (ps_asg (pe_op op_fdiv (pe_ix (ix_listK K rfl) (pv 0) pe_int (fun _ _ => rfl)) (pv 1)) (pg_sub (pv 0) pe_int set_list))
 (pss_one (ps_ret (pv 2))))) pss_nil)
 (pss_cons (ps_asg (pe_op op_add (pe_ix (ix_listK K rfl) (pv 0) pe_int (fun _ _ => rfl)) pe_int) (pg_sub (pv 0) pe_int set_list))
 (pss_cons (ps_asg (pe_op op_mod (pe_op op_add (pe_op op_add (pe_op op_mul (pe_ix (ix_listK K rfl) (pv 0) pe_int (fun _ _ => rfl)) pe_int) (pe_op op_mul pe_int (pe_ix (ix_listK K rfl) (pv 0) pe_int (fun _ _ => rfl)))) pe_int) pe_int) (pg_sub (pv 0) pe_int set_list))
 (pss_cons (ps_set (i := 3) sc_law_draw.nd rfl (Or.inl rfl) (pe_op op_mod (pe_op op_add (pe_op op_add (pe_op op_mul (pe_ix (ix_listK K rfl) (pv 0) pe_int (fun _ _ => rfl)) (pe_ix (ix_listK K rfl) (pv 0) pe_int (fun _ _ => rfl))) (pe_op op_mul pe_int (pe_ix (ix_listK K rfl) (pv 0) pe_int (fun _ _ => rfl)))) pe_int) pe_int))
 (pss_cons (ps_set (i := 3) sc_law_draw.nd rfl (Or.inl rfl) (pe_op op_mod (pe_op op_add (pe_op op_mul (pv 3) (pv 3)) (pe_op op_mul pe_int (pv 3))) pe_int))
 (pss_one (ps_ret (pe_op op_mod (pe_op op_fdiv (pv 3) pe_int) (pv 1))))))))), ?_⟩
    refine ⟨_, rfl, p, _, _, _, rfl, rfl, SqL.of hp, rfl, _, _, rfl, rfl, decide (0 < a), congrArg V.bl rfl, ?_⟩
    cases hd : decide (0 < a) with
    | true =>
      refine ⟨_, rfl, p, _, _, _, rfl, rfl, SqL.of hp, rfl, _, rfl, _, _, rfl, rfl, by omega, ?_⟩
      refine ⟨_, rfl, p, _, _, _, rfl, rfl, SqL.of hp, rfl, _, rfl, _, _, rfl, rfl, ⟨by omega, by omega⟩, _, rfl, p, _, _, 0, rfl, rfl, hp, rfl, ?_⟩
      refine ⟨_, rfl, q _ _ (Stp.upd hp rfl (List.mem_singleton.mpr rfl)) ⟨_, b, c, upd_same, Int.ediv_nonneg ha (by omega), hb, hb2⟩ (Int.emod_nonneg _ (by omega)) (Int.emod_lt_of_pos _ (by omega))⟩
    | false =>
      refine ⟨_, rfl, p, _, _, _, rfl, rfl, SqL.of hp, rfl, _, _, rfl, rfl, _, rfl, p, _, _, 2, rfl, rfl, hp, rfl, ?_⟩
      have e1 : Stp [p] H (upd H p (.lst [.int a, .int b, .int (c + 1)])) := Stp.upd hp rfl (List.mem_singleton.mpr rfl)
      have hp1 : upd H p (.lst [.int a, .int b, .int (c + 1)]) p = some (.lst [.int a, .int b, .int (c + 1)]) := upd_same
      refine ⟨_, rfl, p, _, _, _, rfl, rfl, SqL.of hp1, rfl, _, _, rfl, rfl, .inl ⟨by omega, by omega⟩, _, rfl, p, _, _, _, rfl, rfl, SqL.of hp1, rfl, _, _, rfl, rfl, .inl ⟨by omega, by omega⟩, _, _, rfl, rfl, _, _, rfl, rfl, _, _, rfl, rfl, by omega, _, rfl, p, _, _, 1, rfl, rfl, hp1, rfl, ?_⟩
      generalize hb' : (b * 48271 + 1009 * (c + 1) + 7) % 2147483647 = b'
      have b0 : 0 ≤ b' := by
        rw [← hb']
        exact Int.emod_nonneg _ (by decide)
      have b1 : b' < 2147483647 := by
        rw [← hb']
        exact Int.emod_lt_of_pos _ (by decide)
      have e2 := e1.trans (Stp.upd (o := .lst [.int a, .int b', .int (c + 1)]) hp1 rfl (List.mem_singleton.mpr rfl))
      have hp2 : upd (upd H p (.lst [.int a, .int b, .int (c + 1)])) p (.lst [.int a, .int b', .int (c + 1)]) p = some (.lst [.int a, .int b', .int (c + 1)]) := upd_same
      have hs2 : SqL K _ p [.int a, .int b', .int (c + 1)] := SqL.of hp2
      refine ⟨_, rfl, p, _, _, _, rfl, rfl, (by rw [← hb'] at hs2; exact hs2), rfl, ?_⟩
      rw [← hb'] at hs2 e2 b0 b1 hp2
      refine ⟨_, rfl, p, _, _, _, rfl, rfl, hs2, rfl, _, _, rfl, rfl, .inl ⟨by omega, by omega⟩, _, rfl, p, _, _, _, rfl, rfl, hs2, rfl, _, _, rfl, rfl, .inl ⟨by omega, by omega⟩, _, _, rfl, rfl, _, _, rfl, rfl, _, _, rfl, rfl, by omega, ?_⟩
      refine ⟨_, rfl, _, rfl, _, _, rfl, rfl, .inl ⟨?_, ?_⟩, _, rfl, _, _, rfl, rfl, .inl ⟨by omega, by omega⟩, _, _, rfl, rfl, _, _, rfl, rfl, by omega, ?_⟩
      · have := Int.emod_nonneg ((b * 48271 + 1009 * (c + 1) + 7) % 2147483647 * ((b * 48271 + 1009 * (c + 1) + 7) % 2147483647) + 69621 * ((b * 48271 + 1009 * (c + 1) + 7) % 2147483647) + 11) (show (2147483629 : Int) ≠ 0 by decide)
        omega
      · have := Int.emod_lt_of_pos ((b * 48271 + 1009 * (c + 1) + 7) % 2147483647 * ((b * 48271 + 1009 * (c + 1) + 7) % 2147483647) + 69621 * ((b * 48271 + 1009 * (c + 1) + 7) % 2147483647) + 11) (show (0 : Int) < 2147483629 by decide)
        omega
      refine ⟨_, rfl, _, _, rfl, rfl, ⟨by omega, by omega⟩, _, rfl, _, _, rfl, rfl, by omega, ?_⟩
      exact q _ _ e2 ⟨a, _, c + 1, hp2, ha, b0, by omega⟩ (Int.emod_nonneg _ (by omega)) (Int.emod_lt_of_pos _ (by omega))
end
end A72

set_option Elab.async false
set_option linter.all false
set_option maxRecDepth 100000
set_option maxHeartbeats 4000000
/-! the law's pick, sender -/
namespace A72
open PySem PySem.Spec PyProof.Rows L2
theorem asc_of_pairwise : ∀ {ns : List Int}, ns.Pairwise (· < ·) → asc ns = true
  | [], _ => rfl
  | [_], _ => rfl
  | a :: b :: r, h => by
    obtain ⟨h1, h2⟩ := List.pairwise_cons.mp h
    show (decide (a < b) && asc (b :: r)) = true
    rw [asc_of_pairwise h2, decide_eq_true (h1 b (List.mem_cons_self ..))] <;> rfl
/-- ascending numbers from 0 to below n -/
structure Sub (ns : List Int) (n : Int) : Prop where
  asc : ns.Pairwise (· < ·)
  lo : ∀ x ∈ ns, 0 ≤ x
  hi : ∀ x ∈ ns, x < n
theorem Sub.snoc {ns : List Int} {n : Int} (h : Sub ns n) (h0 : 0 ≤ n) : Sub (ns ++ [n]) (n + 1) := by
  refine ⟨List.pairwise_append.mpr ⟨h.asc, List.pairwise_singleton _ _, fun a ha b hb => ?_⟩, fun x hx => ?_, fun x hx => ?_⟩
  · rw [List.mem_singleton.mp hb]
    exact h.hi a ha
  · rcases List.mem_append.mp hx with e | e
    · exact h.lo x e
    · rw [List.mem_singleton.mp e]
      exact h0
  · rcases List.mem_append.mp hx with e | e
    · have := h.hi x e
      omega
    · rw [List.mem_singleton.mp e]
      omega
theorem Sub.up {ns : List Int} {n m : Int} (h : Sub ns n) (hm : n ≤ m) : Sub ns m := ⟨h.asc, h.lo, fun x hx => by
  have := h.hi x hx
  omega⟩
theorem Sub.tail {ns : List Int} {n : Int} (h : Sub ns n) : Sub (ns.drop 1) n :=
  ⟨h.asc.sublist (List.drop_sublist 1 ns), fun x hx => h.lo x (List.mem_of_mem_drop hx), fun x hx => h.hi x (List.mem_of_mem_drop hx)⟩
theorem Sub.set {ns : List Int} {n : Int} (h : Sub ns n) : setB ns 0 (n - 1) = true := by
  unfold setB
  rw [asc_of_pairwise h.asc, Bool.and_true, List.all_eq_true]
  intro x hx
  have h1 := h.lo x hx
  have h2 := h.hi x hx
  rw [decide_eq_true h1, decide_eq_true (show x ≤ n - 1 by omega)] <;> rfl
theorem Sub.pat {ns : List Int} {n : Int} (h : Sub ns n) (h2 : 2 ≤ n) (h60 : n ≤ 60) (h1 : 1 ≤ ns.length) (hl : (ns.length : Int) < n) : PatOk ⟨n, ns⟩ := ⟨h2, h60, h.set, h1, hl⟩
section
variable {P : Program} {w : World} {K : PySem.W.Frag} {mg : Str → Option Value} {base : Heap}
def spPick (K : PySem.W.Frag) : Sp := fun vs H Q _ => ∃ (p a : Addr) (ns : List Int), vs = [.ref p, .ref a] ∧ PenV H p ∧ a ≠ p ∧ SqL K H a (ns.map V.int) ∧ 1 ≤ ns.length ∧ ns.length ≤ 1000 ∧ ∀ H' x, Stp [p] H H' → PenV H' p → x ∈ ns → Q (.int x) H'
theorem sc_law_pick : FnScope ["_law_pen_here", "_law_some"] ["_law_pen_here", "_law_some"] (defScope d_law_pick) := ⟨rfl, rfl, rfl, by decide +kernel, rfl, by decide +kernel, by decide +kernel⟩
theorem law_pick_ok (T : Txt K mg) : C8.Cal P w K mg base 2 "_law_pick" (spPick K) [] := by
  refine cal T.f_d_law_pick T.g_law_pick sc_law_pick (fun _ _ _ _ _ _ us hl => match us, hl with | [_, _], _ => rfl) (fun vs H Q E h => ?_) (fun cdv A outer s H vs Q E hr h => ?_)
  · obtain ⟨p, a, ns, rfl, _⟩ := h
    rfl
  · obtain ⟨p, a, ns, rfl, hp, hne, ha, h1, h2, q⟩ := h
    refine ⟨_, (pss_one (ps_ret (pe_ix (ix_listK K rfl) (pv 1) (C8.pe_c (law_draw_ok T) hr (by decide) rfl (pa_cons (pv 0) (pa_cons (pe_callB (len_K K rfl) (by rfl) T.b_len PySem.boot_len (pa_cons (pv 1) pa_nil)) pa_nil))) (fun _ _ => rfl)))), ?_⟩
    refine ⟨_, rfl, _, rfl, _, rfl, a, _, rfl, .inl ha, p, _, rfl, hp, by rw [List.length_map]; omega, by rw [List.length_map]; omega, fun H1 k e1 hp1 k0 k1 => ?_⟩
    rw [List.length_map] at k1
    have hlt : k.toNat < ns.length := by omega
    have hx : ns[k.toNat]? = some ns[k.toNat] := List.getElem?_eq_getElem hlt
    have ek : k = ((k.toNat : Nat) : Int) := by omega
    rw [ek]
    exact ⟨a, _, _, _, rfl, rfl, e1.l ha (by simp [hne]), atI_nat (int_at hx), q _ _ e1 hp1 (List.getElem_mem hlt)⟩
def spMkS (K : PySem.W.Frag) : Sp := fun vs H Q _ => ∃ (p : Addr) (n : Int), vs = [.ref p, .int n] ∧ PenV H p ∧ 2 ≤ n ∧ n ≤ 60 ∧ ∀ H' v pt, Stp [p] H H' → PenV H' p → PtV K H' v pt → PatOk pt → pt.per ≤ n → Q v H'
theorem sc_law_sender : FnScope ["_law_pen_here", "_law_longest", "_law_size", "_law_thin", "_law_some", "_law_at"] ["_law_pen_here", "_law_longest"] (defScope d_law_sender) := ⟨rfl, rfl, rfl, by decide +kernel, rfl, by decide +kernel, by decide +kernel⟩
theorem law_sender_ok (T : Txt K mg) : C8.Cal P w K mg base 3 "_law_sender" (spMkS K) [] := by
  refine cal T.f_d_law_sender T.g_law_sender sc_law_sender (fun _ _ _ _ _ _ us hl => match us, hl with | [_, _], _ => rfl) (fun vs H Q E h => ?_) (fun cdv A outer s H vs Q E hr h => ?_)
  · obtain ⟨p, n, rfl, _⟩ := h
    rfl
  · obtain ⟨p, n, rfl, hp, h1, h2, q⟩ := h
    have hu := hr.units
    refine ⟨_, (pss_cons (ps_asg (pe_tup (pa_cons (pe_op op_add pe_int (C8.pe_c (law_draw_ok T) hr (by decide) rfl (pa_cons (pv 0) (pa_cons (pe_op op_sub (pv 1) pe_int) pa_nil)))) (pa_cons (C8.pe_c (law_pick_ok T) hr (by decide) rfl (pa_cons (pv 0) (pa_cons (pe_lst (pa_cons pe_int (pa_cons pe_int (pa_cons pe_int pa_nil)))) pa_nil))) pa_nil))) (by exact pg_2 (i := 2) (j := 3) K rfl rfl sc_law_sender.nd rfl rfl (Or.inl rfl) (Or.inr rfl) (by first | exact .inl rfl | exact .inr rfl) (by first | exact .inl rfl | exact .inr rfl)))
 (pss_cons (ps_setLc (i := 4) (own := [("_law_at", 5)]) (g := gName 5) (by rfl) sc_law_sender.nd rfl rfl (sw_true rfl rfl rfl (by decide +kernel)) (pi_range1 rfl T.b_range (pa_cons (pv 2) pa_nil)) (blkOk_by (N := ["_law_pen_here", "_law_longest", "_law_size", "_law_thin", "_law_some", "_law_at"]) (sc := defScope d_law_sender) (by decide +kernel)) (fun _ _ _ _ _ => (pg_name (i := 5) sc_law_sender.nd rfl (Or.inl rfl))) (fun _ _ _ _ _ => pts_one (pt_cmpR op_eq (C8.pe_c (law_draw_ok T) hr (by decide) rfl (pa_cons (pv 0) (pa_cons (pv 3) pa_nil))) pe_int (nomark _))) (fun _ _ _ _ _ => (pv 5)))
 (pss_cons (ps_set (i := 4) sc_law_sender.nd rfl (Or.inl rfl) (pe_ifExp (pt_cmpR (neL_K K rfl hu) (pv 4) (pe_lst pa_nil) (nomark _)) (pv 4) (pe_lst (pa_cons (C8.pe_c (law_draw_ok T) hr (by decide) rfl (pa_cons (pv 0) (pa_cons (pv 2) pa_nil))) pa_nil))))
 (pss_one (ps_ret (pe_tup (pa_cons (pv 2) (pa_cons (pe_callTy (tuple_K K rfl) (by rfl) T.b_tuple (by decide +kernel) (pa_cons (pe_ifExp (pt_cmpR op_lt (pe_callB (len_K K rfl) (by rfl) T.b_len PySem.boot_len (pa_cons (pv 4) pa_nil)) (pv 2) (nomark _)) (pv 4) (pe_slice (sl_listK K rfl) (pv 4) (po_some pe_int) po_none)) pa_nil)) pa_nil)))))))), ?_⟩
    refine ⟨_, rfl, _, rfl, _, _, rfl, rfl, p, _, rfl, hp, by omega, by omega, fun H1 k e1 hp1 k0 k1 => ?_⟩
    refine ⟨_, _, rfl, rfl, _, rfl, by show 3 ≤ sizeLine; rw [sizeLine_eq]; decide, fun l3 hl3 => ?_⟩
    have e3 := Same.new (o := .lst [V.int 2, V.int 3, V.int 5]) hl3
    have np3 : l3 ≠ p := fun z => by
      rw [z] at hl3
      exact hp1.ne hl3
    refine ⟨p, l3, [2, 3, 5], rfl, hp1.m e3, np3, SqL.of upd_same, by decide, by decide, fun H4 thin e4 hp4 hthin => ?_⟩
    have ht2 : 1 ≤ thin ∧ thin ≤ 1000 := by
      rcases List.mem_cons.mp hthin with z | z
      · omega
      rcases List.mem_cons.mp z with z | z
      · omega
      rw [List.mem_singleton.mp z]
      omega
    refine ⟨by show 2 ≤ sizeLine; rw [sizeLine_eq]; decide, fun t5 ht5 => ?_⟩
    have e5 := Same.new (o := .tup [V.int (2 + k), V.int thin]) ht5
    refine ⟨t5, _, rfl, SqT.of upd_same, rfl, _, _, rfl, _, _, rfl, rfl, ?_⟩
    have hp5 := hp4.m e5
    have e05 := (e1.trans e3.stp).trans (e4.trans e5.stp)
    refine ⟨_, rfl, _, rfl, by omega, by omega, fun D hD => lcp (walk_r0 (n := (2 + k).toNat)) yfn_same [p] (fun a ha => by rw [List.mem_singleton.mp ha]; exact hp5.ne) hD (fun H e => trivial) (fun i H acc => PenV H p ∧ ∃ ns : List Int, acc = ns.map V.int ∧ Sub ns (i : Nat) ∧ ns.length ≤ i)
      ⟨hp5, [], rfl, ⟨List.Pairwise.nil, fun _ h => (nomatch h), fun _ h => (nomatch h)⟩, Nat.le_refl _⟩ (fun i acc S H H' hn e ⟨a, b⟩ => ⟨a.s e (hn p (List.mem_singleton.mpr rfl)), b⟩) (fun i H acc ⟨_, ns, e, _, hl⟩ => by rw [e, List.length_map]; exact hl) (by omega) ?_ ?_⟩
    · rintro i x H6 H7 acc Ky Kn hi e6 ⟨hp6, ns, rfl, hsub, hlen⟩ ⟨rfl, rfl⟩ ky kn
      refine ⟨rfl, _, rfl, _, rfl, p, thin, rfl, hp6, ht2.1, ht2.2, fun H8 d e8 hp8 d0 d1 => ?_⟩
      refine ⟨rfl, decide (d = 0), congrArg V.bl (by rw [dec_int]; rfl), ?_⟩
      by_cases hd0 : d = 0
      · rw [decide_eq_true hd0]
        refine ⟨_, rfl, ky _ _ e8 ⟨hp8, ns ++ [((i : Nat) : Int)], by rw [List.map_append] <;> rfl, hsub.snoc (by omega), ?_⟩⟩
        rw [List.length_append, List.length_singleton]
        omega
      · rw [decide_eq_false hd0]
        exact kn _ e8 ⟨hp8, ns, rfl, hsub.up (by omega), by omega⟩
    · rintro H6 acc e6 hl6 ⟨hp6, ns, rfl, hsub, hlen⟩
      have e06 := e05.trans e6
      have hsub := hsub.up (show (((2 + k).toNat : Nat) : Int) ≤ 2 + k by omega)
      refine ⟨_, rfl, by show 0 ≤ sizeLine; exact Nat.zero_le _, fun l7 hl7 => ?_⟩
      have e7 := Same.new (o := .lst []) hl7
      have hl67 := e7 _ _ hl6
      have hp7 := hp6.m e7
      refine ⟨ns, [], ⟨D, rfl, SqL.of hl67⟩, ⟨l7, rfl, SqL.of upd_same⟩, !decide (ns = []), rfl, ?_⟩
      by_cases hns : ns = []
      · rw [decide_eq_true hns]
        refine ⟨_, rfl, _, rfl, p, 2 + k, rfl, hp7, by omega, by omega, fun H8 d e8 hp8 d0 d1 => ?_⟩
        refine ⟨by show 1 ≤ sizeLine; rw [sizeLine_eq]; decide, fun l9 hl9 => ?_⟩
        have e9 := Same.new (o := .lst [V.int d]) hl9
        have hl99 : upd H8 l9 (.lst [V.int d]) l9 = some (.lst ([d].map V.int)) := upd_same
        have hp9 := hp8.m e9
        have e09 := (e06.trans e7.stp).trans (e8.trans e9.stp)
        have hsub9 : Sub [d] (2 + k) := ⟨List.pairwise_singleton _ _, fun x hx => by rw [List.mem_singleton.mp hx]; exact d0, fun x hx => by rw [List.mem_singleton.mp hx]; exact d1⟩
        have hlen9 : ([d] : List Int).length = 1 := rfl
        refine ⟨_, rfl, _, rfl, l9, _, rfl, .inl (SqL.of hl99), _, rfl, _, _, rfl, rfl, decide (([d].length : Int) < 2 + k), congrArg V.bl (by rw [List.length_map]), ?_⟩
        cases hd : decide (([d].length : Int) < 2 + k) with
        | true =>
          refine ⟨_, rfl, l9, _, rfl, .inl ⟨SqL.of hl99, fun t1 ht1 => ⟨by show 2 ≤ sizeLine; rw [sizeLine_eq]; decide, fun t2 ht2 => ?_⟩⟩⟩
          have eN := (Same.new (o := .tup ([d].map V.int)) ht1).trans (Same.new (o := .tup [.int (2 + k), .ref t1]) ht2)
          refine q _ _ ⟨2 + k, [d]⟩ (e09.trans eN.stp) (hp9.m eN) ⟨.ref t1, ⟨t2, rfl, SqT.of upd_same⟩, ⟨t1, rfl, (Same.new ht2).t (SqT.of upd_same)⟩⟩ (hsub9.pat (by omega) (by omega) (by omega) (of_decide_eq_true hd)) (by show 2 + k ≤ n; omega)
        | false =>
          have hge := of_decide_eq_false hd
          refine ⟨_, rfl, _, rfl, l9, _, rfl, SqL.of hl99, fun c hc => ?_⟩
          have ec := Same.new (o := .lst (cutV ([d].map V.int) (some 1) none)) hc
          refine ⟨c, _, rfl, .inl ⟨SqL.of upd_same, fun t1 ht1 => ⟨by show 2 ≤ sizeLine; rw [sizeLine_eq]; decide, fun t2 ht2 => ?_⟩⟩⟩
          have eN := (Same.new (o := .tup (cutV ([d].map V.int) (some 1) none)) ht1).trans (Same.new (o := .tup [.int (2 + k), .ref t1]) ht2)
          have hdl : ([d].drop 1).length = [d].length - 1 := List.length_drop ..
          refine q _ _ ⟨2 + k, [d].drop 1⟩ (e09.trans (ec.trans eN).stp) (hp9.m (ec.trans eN)) ⟨.ref t1, ⟨t2, rfl, SqT.of upd_same⟩, ⟨t1, rfl, (Same.new ht2).t (SqT.of ?_)⟩⟩ (hsub9.tail.pat (by omega) (by omega) (by omega) (by omega)) (by show 2 + k ≤ n; omega)
          rw [upd_same, cut_from1]
      · rw [decide_eq_false hns]
        have hlp := List.length_pos_iff.mpr hns
        have e09 := e06.trans e7.stp
        refine ⟨_, rfl, ?_⟩
        refine ⟨_, rfl, _, rfl, D, _, rfl, .inl (SqL.of hl67), _, rfl, _, _, rfl, rfl, decide ((ns.length : Int) < 2 + k), congrArg V.bl (by rw [List.length_map]), ?_⟩
        cases hd : decide ((ns.length : Int) < 2 + k) with
        | true =>
          refine ⟨_, rfl, D, _, rfl, .inl ⟨SqL.of hl67, fun t1 ht1 => ⟨by show 2 ≤ sizeLine; rw [sizeLine_eq]; decide, fun t2 ht2 => ?_⟩⟩⟩
          have eN := (Same.new (o := .tup (ns.map V.int)) ht1).trans (Same.new (o := .tup [.int (2 + k), .ref t1]) ht2)
          refine q _ _ ⟨2 + k, ns⟩ (e09.trans eN.stp) (hp7.m eN) ⟨.ref t1, ⟨t2, rfl, SqT.of upd_same⟩, ⟨t1, rfl, (Same.new ht2).t (SqT.of upd_same)⟩⟩ (hsub.pat (by omega) (by omega) (by omega) (of_decide_eq_true hd)) (by show 2 + k ≤ n; omega)
        | false =>
          have hge := of_decide_eq_false hd
          refine ⟨_, rfl, _, rfl, D, _, rfl, SqL.of hl67, fun c hc => ?_⟩
          have ec := Same.new (o := .lst (cutV (ns.map V.int) (some 1) none)) hc
          refine ⟨c, _, rfl, .inl ⟨SqL.of upd_same, fun t1 ht1 => ⟨by show 2 ≤ sizeLine; rw [sizeLine_eq]; decide, fun t2 ht2 => ?_⟩⟩⟩
          have eN := (Same.new (o := .tup (cutV (ns.map V.int) (some 1) none)) ht1).trans (Same.new (o := .tup [.int (2 + k), .ref t1]) ht2)
          have hdl : (ns.drop 1).length = ns.length - 1 := List.length_drop ..
          refine q _ _ ⟨2 + k, ns.drop 1⟩ (e09.trans (ec.trans eN).stp) (hp7.m (ec.trans eN)) ⟨.ref t1, ⟨t2, rfl, SqT.of upd_same⟩, ⟨t1, rfl, (Same.new ht2).t (SqT.of ?_)⟩⟩ (hsub.tail.pat (by omega) (by omega) (by omega) (by omega)) (by show 2 + k ≤ n; omega)
          rw [upd_same, cut_from1]
end
end A72

set_option Elab.async false
set_option linter.all false
set_option maxRecDepth 100000
set_option maxHeartbeats 4000000
/-! the law's lines, teams -/
namespace A72
open PySem PySem.Spec PyProof.Rows L2
theorem pe_no {X : Cx} {e : Expr} : PE X e (fun _ _ _ => False) := ⟨fun _ _ _ _ _ _ h => h.elim⟩
section
variable {X : Cx} {o e : Expr} {es : List Expr} {to : TE} {t : TA} {name : Str} {apos cpos : Pos} {T id : String} {r : V → List V → Hp → VK → Prop}
theorem pe_bmK (K : PySem.W.Frag) (h : X.K = K) (pa : PlainAttrs T) (slot : Slot T name id) (hty : typeOf (.builtin id) = pure (.type "method_descriptor")) (hm : MtR X id r) (ho : PE X o to) (ha : PA X (e :: es) t)
    (hbase : attributeBase o name X.env (eval o X.env) = eval o X.env := by rfl)
    (hfew : ((backTo cpos (starEach (e :: es) X.env)).all (fun x => !x.1) && (backToKw cpos (keywordEach [] X.env)).all (fun x => x.1.isSome)
      && decide ((e :: es).length + ([] : List Keyword).length + (if ([] : List Keyword).isEmpty then 0 else 1) < 30)) = true := by rfl)
    (hline : (apos.endLine == cpos.line) = true := by rfl) (hs : starEach (e :: es) X.env = (false, eval e X.env) :: starEach es X.env := by rfl) (hplain : (backTo cpos (starEach es X.env)).any (·.1) = false := by rfl) :
    PE X (.Call (.Attribute o name apos) (e :: es) [] cpos) (tBM K T r to t) := by
  subst h
  exact pe_bm pa slot hty hm ho ha hbase hfew hline hs hplain
end
theorem paired_nil {α β : Type} {F : α → β → Prop} {bs : List β} (h : Paired F [] bs) : bs = [] := by cases h; rfl
section
variable {P : Program} {w : World} {K : PySem.W.Frag} {mg : Str → Option Value} {base : Heap}
def spMakeL (K : PySem.W.Frag) (C : Addr) : Sp := fun vs H Q _ => ∃ v g, vs = [v] ∧ GrV K H v g ∧ GrpOk g ∧ ∀ H' x, Same H H' → H x = none → BoxV K C H' x g (initS g.length) 0 → Q (.ref x) H'
theorem few_size {xs : List V} (h : xs.length ≤ 100) : xs.length ≤ sizeLine := by
  rw [sizeLine_eq]
  omega
/-- the making told: items in a new tuple -/
theorem mk_told {C : Addr} {H : Hp} {gvs : List V} {g : Grp} {Q : V → Hp → Prop} (hp : Paired (PtV K H) gvs g) (hg : GrpOk g) (q : ∀ H' x, Same H H' → H x = none → BoxV K C H' x g (initS g.length) 0 → Q (.ref x) H') {x dx : Addr} (hx : H x = none) (hdx : H dx = none) (hne : dx ≠ x) :
    spInitR K C (V.ref x :: gvs) (upd (upd H dx (.own x)) x (.ins C dx [])) (fun v H2 => v = .non ∧ Q (.ref x) H2) C8.E0 := by
  have hl := pairedP_len hp
  have h4 := hg.hi
  refine ⟨[V.ref x], gvs, rfl, rfl, few_size (by omega), fun p hpn => ?_⟩
  have e1 : Same H (upd H dx (.own x)) := Same.new hdx
  have e2 : Same H (upd (upd H dx (.own x)) x (.ins C dx [])) := e1.up hx
  have e3 := e2.trans (Same.new (o := .tup gvs) hpn)
  refine ⟨x, dx, .ref p, g, rfl, Same.new hpn x _ upd_same, ⟨gvs, ⟨p, rfl, SqT.of upd_same⟩, Paired.mapP hp fun _ _ z => PtV.m z e3⟩, hg, fun H' e hb => ⟨rfl, q H' x ?_ hx hb⟩⟩
  intro a o ha
  exact e.kp a o (e3 a o ha) (fun z => ne_of_none ha hx (List.mem_singleton.mp z))
theorem sc_law_plain : FnScope ["_law_team"] ["_law_team"] (defScope d_law_plain) := ⟨rfl, rfl, rfl, by decide +kernel, rfl, by decide +kernel, by decide +kernel⟩
theorem law_plain_ok (T : Txt K mg) : C8.Cal P w K mg base 9 "_law_plain" (spMakeL K (He.ga K "Line")) [] := by
  refine cal T.f_d_law_plain T.g_law_plain sc_law_plain (fun _ _ _ _ _ _ us hl => match us, hl with | [_], _ => rfl) (fun vs H Q E h => ?_) (fun cdv A outer s H vs Q E hr h => ?_)
  · obtain ⟨v, g, rfl, _⟩ := h
    rfl
  · obtain ⟨v, g, rfl, ⟨gvs, ⟨a, rfl, ha⟩, hp⟩, hg, q⟩ := h
    refine ⟨_, (pss_cons (ps_if (pt_cmpR op_eq (pe_callB (len_K K rfl) (by rfl) T.b_len PySem.boot_len (pa_cons (pv 0) pa_nil)) pe_int (nomark _)) (pss_one (ps_ret (StX.pe_makeR T.mk_Line (init_ok T (lcl_Line T)) (hr.mono (by decide)) rfl T.k_Line (C8.pass0 (E := C8.E0)) (pa_cons (pe_ix (ix_tupK K rfl) (pv 0) pe_int (fun _ _ => rfl)) (pa_cons (pe_ix (ix_tupK K rfl) (pv 0) pe_int (fun _ _ => rfl)) pa_nil))))) pss_nil)
 (pss_cons (ps_if (pt_cmpR op_eq (pe_callB (len_K K rfl) (by rfl) T.b_len PySem.boot_len (pa_cons (pv 0) pa_nil)) pe_int (nomark _)) (pss_one (ps_ret (StX.pe_makeR T.mk_Line (init_ok T (lcl_Line T)) (hr.mono (by decide)) rfl T.k_Line (C8.pass0 (E := C8.E0)) (pa_cons (pe_ix (ix_tupK K rfl) (pv 0) pe_int (fun _ _ => rfl)) (pa_cons (pe_ix (ix_tupK K rfl) (pv 0) pe_int (fun _ _ => rfl)) (pa_cons (pe_ix (ix_tupK K rfl) (pv 0) pe_int (fun _ _ => rfl)) pa_nil)))))) pss_nil)
 (pss_one (ps_ret (StX.pe_makeR T.mk_Line (init_ok T (lcl_Line T)) (hr.mono (by decide)) rfl T.k_Line (C8.pass0 (E := C8.E0)) (pa_cons (pe_ix (ix_tupK K rfl) (pv 0) pe_int (fun _ _ => rfl)) (pa_cons (pe_ix (ix_tupK K rfl) (pv 0) pe_int (fun _ _ => rfl)) (pa_cons (pe_ix (ix_tupK K rfl) (pv 0) pe_int (fun _ _ => rfl)) (pa_cons (pe_ix (ix_tupK K rfl) (pv 0) pe_int (fun _ _ => rfl)) pa_nil))))))))), ?_⟩
    have hl := pairedP_len hp
    have h1 := hg.lo
    have h2 := hg.hi
    match gvs, hl, ha, hp with
    | [], hl, ha, hp => exact absurd hl (by show ¬ 0 = _; omega)
    | [_], hl, ha, hp => exact absurd hl (by show ¬ 1 = _; omega)
    | [v0, v1], hl, ha, hp =>
      refine ⟨_, rfl, a, _, rfl, .inr ha, rfl, true, rfl, ?_⟩
      exact ⟨_, rfl, a, _, _, _, rfl, rfl, ha, rfl, _, rfl, a, _, _, _, rfl, rfl, ha, rfl, fun x dx hx hdx hne => mk_told hp hg q hx hdx hne⟩
    | [v0, v1, v2], hl, ha, hp =>
      refine ⟨_, rfl, a, _, rfl, .inr ha, rfl, false, rfl, ?_⟩
      refine ⟨_, rfl, a, _, rfl, .inr ha, rfl, true, rfl, ?_⟩
      exact ⟨_, rfl, a, _, _, _, rfl, rfl, ha, rfl, _, rfl, a, _, _, _, rfl, rfl, ha, rfl, _, rfl, a, _, _, _, rfl, rfl, ha, rfl, fun x dx hx hdx hne => mk_told hp hg q hx hdx hne⟩
    | [v0, v1, v2, v3], hl, ha, hp =>
      refine ⟨_, rfl, a, _, rfl, .inr ha, rfl, false, rfl, ?_⟩
      refine ⟨_, rfl, a, _, rfl, .inr ha, rfl, false, rfl, ?_⟩
      exact ⟨_, rfl, a, _, _, _, rfl, rfl, ha, rfl, _, rfl, a, _, _, _, rfl, rfl, ha, rfl, _, rfl, a, _, _, _, rfl, rfl, ha, rfl, _, rfl, a, _, _, _, rfl, rfl, ha, rfl, fun x dx hx hdx hne => mk_told hp hg q hx hdx hne⟩
    | v0 :: v1 :: v2 :: v3 :: v4 :: r, hl, ha, hp => exact absurd hl (by simp only [List.length_cons]; omega)
theorem sc_law_logged : FnScope ["_law_team"] ["_law_team"] (defScope d_law_logged) := ⟨rfl, rfl, rfl, by decide +kernel, rfl, by decide +kernel, by decide +kernel⟩
theorem law_logged_ok (T : Txt K mg) : C8.Cal P w K mg base 9 "_law_logged" (spMakeL K (He.ga K "Logged")) [] := by
  refine cal T.f_d_law_logged T.g_law_logged sc_law_logged (fun _ _ _ _ _ _ us hl => match us, hl with | [_], _ => rfl) (fun vs H Q E h => ?_) (fun cdv A outer s H vs Q E hr h => ?_)
  · obtain ⟨v, g, rfl, _⟩ := h
    rfl
  · obtain ⟨v, g, rfl, ⟨gvs, ⟨a, rfl, ha⟩, hp⟩, hg, q⟩ := h
    refine ⟨_, (pss_cons (ps_if (pt_cmpR op_eq (pe_callB (len_K K rfl) (by rfl) T.b_len PySem.boot_len (pa_cons (pv 0) pa_nil)) pe_int (nomark _)) (pss_one (ps_ret (StX.pe_makeR T.mk_Logged (init_ok T (lcl_Logged T)) (hr.mono (by decide)) rfl T.k_Logged (C8.pass0 (E := C8.E0)) (pa_cons (pe_ix (ix_tupK K rfl) (pv 0) pe_int (fun _ _ => rfl)) (pa_cons (pe_ix (ix_tupK K rfl) (pv 0) pe_int (fun _ _ => rfl)) pa_nil))))) pss_nil)
 (pss_cons (ps_if (pt_cmpR op_eq (pe_callB (len_K K rfl) (by rfl) T.b_len PySem.boot_len (pa_cons (pv 0) pa_nil)) pe_int (nomark _)) (pss_one (ps_ret (StX.pe_makeR T.mk_Logged (init_ok T (lcl_Logged T)) (hr.mono (by decide)) rfl T.k_Logged (C8.pass0 (E := C8.E0)) (pa_cons (pe_ix (ix_tupK K rfl) (pv 0) pe_int (fun _ _ => rfl)) (pa_cons (pe_ix (ix_tupK K rfl) (pv 0) pe_int (fun _ _ => rfl)) (pa_cons (pe_ix (ix_tupK K rfl) (pv 0) pe_int (fun _ _ => rfl)) pa_nil)))))) pss_nil)
 (pss_one (ps_ret (StX.pe_makeR T.mk_Logged (init_ok T (lcl_Logged T)) (hr.mono (by decide)) rfl T.k_Logged (C8.pass0 (E := C8.E0)) (pa_cons (pe_ix (ix_tupK K rfl) (pv 0) pe_int (fun _ _ => rfl)) (pa_cons (pe_ix (ix_tupK K rfl) (pv 0) pe_int (fun _ _ => rfl)) (pa_cons (pe_ix (ix_tupK K rfl) (pv 0) pe_int (fun _ _ => rfl)) (pa_cons (pe_ix (ix_tupK K rfl) (pv 0) pe_int (fun _ _ => rfl)) pa_nil))))))))), ?_⟩
    have hl := pairedP_len hp
    have h1 := hg.lo
    have h2 := hg.hi
    match gvs, hl, ha, hp with
    | [], hl, ha, hp => exact absurd hl (by show ¬ 0 = _; omega)
    | [_], hl, ha, hp => exact absurd hl (by show ¬ 1 = _; omega)
    | [v0, v1], hl, ha, hp =>
      refine ⟨_, rfl, a, _, rfl, .inr ha, rfl, true, rfl, ?_⟩
      exact ⟨_, rfl, a, _, _, _, rfl, rfl, ha, rfl, _, rfl, a, _, _, _, rfl, rfl, ha, rfl, fun x dx hx hdx hne => mk_told hp hg q hx hdx hne⟩
    | [v0, v1, v2], hl, ha, hp =>
      refine ⟨_, rfl, a, _, rfl, .inr ha, rfl, false, rfl, ?_⟩
      refine ⟨_, rfl, a, _, rfl, .inr ha, rfl, true, rfl, ?_⟩
      exact ⟨_, rfl, a, _, _, _, rfl, rfl, ha, rfl, _, rfl, a, _, _, _, rfl, rfl, ha, rfl, _, rfl, a, _, _, _, rfl, rfl, ha, rfl, fun x dx hx hdx hne => mk_told hp hg q hx hdx hne⟩
    | [v0, v1, v2, v3], hl, ha, hp =>
      refine ⟨_, rfl, a, _, rfl, .inr ha, rfl, false, rfl, ?_⟩
      refine ⟨_, rfl, a, _, rfl, .inr ha, rfl, false, rfl, ?_⟩
      exact ⟨_, rfl, a, _, _, _, rfl, rfl, ha, rfl, _, rfl, a, _, _, _, rfl, rfl, ha, rfl, _, rfl, a, _, _, _, rfl, rfl, ha, rfl, _, rfl, a, _, _, _, rfl, rfl, ha, rfl, fun x dx hx hdx hne => mk_told hp hg q hx hdx hne⟩
    | v0 :: v1 :: v2 :: v3 :: v4 :: r, hl, ha, hp => exact absurd hl (by simp only [List.length_cons]; omega)
theorem sc_law_both : FnScope ["_law_team"] ["_law_team"] (defScope d_law_both) := ⟨rfl, rfl, rfl, by decide +kernel, rfl, by decide +kernel, by decide +kernel⟩
theorem law_both_ok (T : Txt K mg) : C8.Cal P w K mg base 9 "_law_both" (spMakeL K (He.ga K "StoppingLogged")) [] := by
  refine cal T.f_d_law_both T.g_law_both sc_law_both (fun _ _ _ _ _ _ us hl => match us, hl with | [_], _ => rfl) (fun vs H Q E h => ?_) (fun cdv A outer s H vs Q E hr h => ?_)
  · obtain ⟨v, g, rfl, _⟩ := h
    rfl
  · obtain ⟨v, g, rfl, ⟨gvs, ⟨a, rfl, ha⟩, hp⟩, hg, q⟩ := h
    refine ⟨_, (pss_cons (ps_if (pt_cmpR op_eq (pe_callB (len_K K rfl) (by rfl) T.b_len PySem.boot_len (pa_cons (pv 0) pa_nil)) pe_int (nomark _)) (pss_one (ps_ret (StX.pe_makeR T.mk_StoppingLogged (init_ok T (lcl_Both T)) (hr.mono (by decide)) rfl T.k_StoppingLogged (C8.pass0 (E := C8.E0)) (pa_cons (pe_ix (ix_tupK K rfl) (pv 0) pe_int (fun _ _ => rfl)) (pa_cons (pe_ix (ix_tupK K rfl) (pv 0) pe_int (fun _ _ => rfl)) pa_nil))))) pss_nil)
 (pss_cons (ps_if (pt_cmpR op_eq (pe_callB (len_K K rfl) (by rfl) T.b_len PySem.boot_len (pa_cons (pv 0) pa_nil)) pe_int (nomark _)) (pss_one (ps_ret (StX.pe_makeR T.mk_StoppingLogged (init_ok T (lcl_Both T)) (hr.mono (by decide)) rfl T.k_StoppingLogged (C8.pass0 (E := C8.E0)) (pa_cons (pe_ix (ix_tupK K rfl) (pv 0) pe_int (fun _ _ => rfl)) (pa_cons (pe_ix (ix_tupK K rfl) (pv 0) pe_int (fun _ _ => rfl)) (pa_cons (pe_ix (ix_tupK K rfl) (pv 0) pe_int (fun _ _ => rfl)) pa_nil)))))) pss_nil)
 (pss_one (ps_ret (StX.pe_makeR T.mk_StoppingLogged (init_ok T (lcl_Both T)) (hr.mono (by decide)) rfl T.k_StoppingLogged (C8.pass0 (E := C8.E0)) (pa_cons (pe_ix (ix_tupK K rfl) (pv 0) pe_int (fun _ _ => rfl)) (pa_cons (pe_ix (ix_tupK K rfl) (pv 0) pe_int (fun _ _ => rfl)) (pa_cons (pe_ix (ix_tupK K rfl) (pv 0) pe_int (fun _ _ => rfl)) (pa_cons (pe_ix (ix_tupK K rfl) (pv 0) pe_int (fun _ _ => rfl)) pa_nil))))))))), ?_⟩
    have hl := pairedP_len hp
    have h1 := hg.lo
    have h2 := hg.hi
    match gvs, hl, ha, hp with
    | [], hl, ha, hp => exact absurd hl (by show ¬ 0 = _; omega)
    | [_], hl, ha, hp => exact absurd hl (by show ¬ 1 = _; omega)
    | [v0, v1], hl, ha, hp =>
      refine ⟨_, rfl, a, _, rfl, .inr ha, rfl, true, rfl, ?_⟩
      exact ⟨_, rfl, a, _, _, _, rfl, rfl, ha, rfl, _, rfl, a, _, _, _, rfl, rfl, ha, rfl, fun x dx hx hdx hne => mk_told hp hg q hx hdx hne⟩
    | [v0, v1, v2], hl, ha, hp =>
      refine ⟨_, rfl, a, _, rfl, .inr ha, rfl, false, rfl, ?_⟩
      refine ⟨_, rfl, a, _, rfl, .inr ha, rfl, true, rfl, ?_⟩
      exact ⟨_, rfl, a, _, _, _, rfl, rfl, ha, rfl, _, rfl, a, _, _, _, rfl, rfl, ha, rfl, _, rfl, a, _, _, _, rfl, rfl, ha, rfl, fun x dx hx hdx hne => mk_told hp hg q hx hdx hne⟩
    | [v0, v1, v2, v3], hl, ha, hp =>
      refine ⟨_, rfl, a, _, rfl, .inr ha, rfl, false, rfl, ?_⟩
      refine ⟨_, rfl, a, _, rfl, .inr ha, rfl, false, rfl, ?_⟩
      exact ⟨_, rfl, a, _, _, _, rfl, rfl, ha, rfl, _, rfl, a, _, _, _, rfl, rfl, ha, rfl, _, rfl, a, _, _, _, rfl, rfl, ha, rfl, _, rfl, a, _, _, _, rfl, rfl, ha, rfl, fun x dx hx hdx hne => mk_told hp hg q hx hdx hne⟩
    | v0 :: v1 :: v2 :: v3 :: v4 :: r, hl, ha, hp => exact absurd hl (by simp only [List.length_cons]; omega)
def spBoxL (K : PySem.W.Frag) : Sp := fun vs H Q _ => ∃ f v g, vs = [.int f, v] ∧ (f = 0 ∨ f = 2) ∧ GrV K H v g ∧ GrpOk g ∧
  ∀ H' x C, (C = He.ga K "Line" ∨ C = He.ga K "Logged") → Same H H' → H x = none → BoxV K C H' x g (initS g.length) 0 → Q (.ref x) H'
theorem sc_law_box : FnScope ["_law_form", "_law_team"] ["_law_form", "_law_team"] (defScope d_law_box) := ⟨rfl, rfl, rfl, by decide +kernel, rfl, by decide +kernel, by decide +kernel⟩
theorem law_box_ok (T : Txt K mg) : C8.Cal P w K mg base 10 "_law_box" (spBoxL K) [] := by
  refine cal T.f_d_law_box T.g_law_box sc_law_box (fun _ _ _ _ _ _ us hl => match us, hl with | [_, _], _ => rfl) (fun vs H Q E h => ?_) (fun cdv A outer s H vs Q E hr h => ?_)
  · obtain ⟨f, v, g, rfl, _⟩ := h
    rfl
  · obtain ⟨f, v, g, rfl, hf, hv, hg, q⟩ := h
    refine ⟨_, (pss_cons (ps_if (pt_cmpR op_lt (pv 0) pe_int (nomark _)) (pss_one (ps_ret (pe_ifExp (pt_cmpR op_eq (pv 0) pe_int (nomark _)) (C8.pe_c (law_plain_ok T) hr (by decide) rfl (pa_cons (pv 1) pa_nil)) pe_no))) pss_nil)
 (pss_one (ps_ret (pe_ifExp (pt_cmpR op_eq (pv 0) pe_int (nomark _)) (C8.pe_c (law_logged_ok T) hr (by decide) rfl (pa_cons (pv 1) pa_nil)) pe_no)))), ?_⟩
    rcases hf with rfl | rfl
    · refine ⟨_, rfl, _, _, rfl, rfl, true, rfl, ?_⟩
      refine ⟨_, rfl, rfl, true, rfl, ?_⟩
      exact ⟨_, rfl, v, g, rfl, hv, hg, fun H' x e hx hb => q H' x _ (.inl rfl) e hx hb⟩
    · refine ⟨_, rfl, _, _, rfl, rfl, false, rfl, ?_⟩
      refine ⟨_, rfl, rfl, true, rfl, ?_⟩
      exact ⟨_, rfl, v, g, rfl, hv, hg, fun H' x e hx hb => q H' x _ (.inr rfl) e hx hb⟩
/-- the groups that the law builds -/
def SmallG (g : Grp) : Prop := (g.length = 2 ∧ ∀ p ∈ g, p.per ≤ 9) ∨ (g.length = 3 ∧ ∀ p ∈ g, p.per ≤ 6) ∨ (g.length = 4 ∧ ∀ p ∈ g, p.per ≤ 5)
/-- what a team's making has -/
structure Team (K : PySem.W.Frag) (m : Int) (i : Nat) (H : Hp) (acc : List V) (g : Grp) : Prop where
  vs : Paired (PtV K H) acc g
  ok : ∀ q ∈ g, PatOk q
  le : ∀ q ∈ g, q.per ≤ m
  len : g.length = i
theorem Team.s {m : Int} {i : Nat} {S : List Addr} {H H' : Hp} {acc : List V} {g : Grp} (h : Team K m i H acc g) (e : Stp S H H') : Team K m i H' acc g := ⟨Paired.mapP h.vs fun _ _ z => z.s e, h.ok, h.le, h.len⟩
theorem Team.snoc {m : Int} {i : Nat} {S : List Addr} {H H' : Hp} {acc : List V} {g : Grp} {v : V} {q : Pat} (h : Team K m i H acc g) (e : Stp S H H') (hv : PtV K H' v q) (ho : PatOk q) (hl : q.per ≤ m) : Team K m (i + 1) H' (acc ++ [v]) (g ++ [q]) := by
  refine ⟨paired_app (h.s e).vs (.cons hv .nil), fun z hz => ?_, fun z hz => ?_, ?_⟩
  · rcases List.mem_append.mp hz with y | y
    · exact h.ok z y
    · rw [List.mem_singleton.mp y]
      exact ho
  · rcases List.mem_append.mp hz with y | y
    · exact h.le z y
    · rw [List.mem_singleton.mp y]
      exact hl
  · rw [List.length_append, List.length_singleton, h.len]
theorem Team.alen {m : Int} {i : Nat} {H : Hp} {acc : List V} {g : Grp} (h : Team K m i H acc g) : acc.length = i := by
  rw [pairedP_len h.vs, h.len]
def spFewL (K : PySem.W.Frag) : Sp := fun vs H Q _ => ∃ (p : Addr) (n : Int), vs = [.ref p, .int n] ∧ PenV H p ∧ (n = 2 ∨ n = 3 ∨ n = 4) ∧ ∀ H' v g, Stp [p] H H' → PenV H' p → GrV K H' v g → GrpOk g → SmallG g → g.length = n.toNat → Q v H'
/-- the bound of the periods -/
def perM (n c4 : Int) : Int := if n = 2 then 9 else if n = 3 then 6 else c4
theorem per_at {n c4 : Int} (h : n = 2 ∨ n = 3 ∨ n = 4) : atI [V.int 9, V.int 6, V.int c4] (n - 2) = some (.int (perM n c4)) := by
  rcases h with rfl | rfl | rfl <;> rfl
theorem Team.small {m n c4 : Int} {H : Hp} {acc : List V} {g : Grp} (h : Team K (perM n c4) n.toNat H acc g) (hc : c4 ≤ 5) (hn : n = 2 ∨ n = 3 ∨ n = 4) : GrpOk g ∧ SmallG g := by
  have hl := h.len
  rcases hn with rfl | rfl | rfl
  · exact ⟨⟨by rw [hl]; decide, by rw [hl]; decide, h.ok⟩, .inl ⟨hl, h.le⟩⟩
  · exact ⟨⟨by rw [hl]; decide, by rw [hl]; decide, h.ok⟩, .inr (.inl ⟨hl, h.le⟩)⟩
  · exact ⟨⟨by rw [hl]; decide, by rw [hl]; decide, h.ok⟩, .inr (.inr ⟨hl, fun q hq => Int.le_trans (h.le q hq) hc⟩)⟩
theorem sc_law_few : FnScope ["_law_pen_here", "_law_amount", "_law_turn"] ["_law_pen_here", "_law_amount"] (defScope d_law_few) := ⟨rfl, rfl, rfl, by decide +kernel, rfl, by decide +kernel, by decide +kernel⟩
theorem law_few_ok (T : Txt K mg) : C8.Cal P w K mg base 4 "_law_few" (spFewL K) [] := by
  refine cal T.f_d_law_few T.g_law_few sc_law_few (fun _ _ _ _ _ _ us hl => match us, hl with | [_, _], _ => rfl) (fun vs H Q E h => ?_) (fun cdv A outer s H vs Q E hr h => ?_)
  · obtain ⟨p, n, rfl, _⟩ := h
    rfl
  · obtain ⟨p, n, rfl, hp, hn, q⟩ := h
    refine ⟨_, (pss_one (ps_ret (pe_callTy (tuple_K K rfl) (by rfl) T.b_tuple (by decide +kernel) (pa_cons (pe_lc (own := [("_law_turn", 2)]) (g := gName 2) (by rfl) sc_law_few.nd (pi_range1 rfl T.b_range (pa_cons (pv 1) pa_nil)) (blkOk_by (N := ["_law_pen_here", "_law_amount", "_law_turn"]) (sc := defScope d_law_few) (by decide +kernel)) (fun _ _ _ _ _ => (pg_name (i := 2) sc_law_few.nd rfl (Or.inl rfl))) (fun _ _ _ _ _ => pts_nil) (fun _ _ _ _ _ => (C8.pe_c (law_sender_ok T) hr (by decide) rfl (pa_cons (pv 0) (pa_cons (pe_ix (ix_listK K rfl) (pe_lst (pa_cons pe_int (pa_cons pe_int (pa_cons pe_int pa_nil)))) (pe_op op_sub (pv 1) pe_int) (fun _ _ => rfl)) pa_nil))))) pa_nil)))), ?_⟩
    have hb : 2 ≤ n ∧ n ≤ 4 := by omega
    have hm : 2 ≤ perM n 4 ∧ perM n 4 ≤ 60 := by
      unfold perM
      split
      · omega
      · split <;> omega
    refine ⟨_, rfl, _, rfl, by omega, by omega, fun D hD => lcp (walk_r0 (n := n.toNat)) yfn_same [p] (fun a ha => by rw [List.mem_singleton.mp ha]; exact hp.ne) hD (fun H e => trivial) (fun i H acc => PenV H p ∧ ∃ g, Team K (perM n 4) i H acc g)
      ⟨hp, [], .nil, fun _ h => (nomatch h), fun _ h => (nomatch h), rfl⟩ (fun i acc S H H' hn e ⟨a, g, b⟩ => ⟨a.s e (hn p (List.mem_singleton.mpr rfl)), g, b.s e⟩) (fun i H acc ⟨_, g, b⟩ => by rw [b.alen]; exact Nat.le_refl _) (by omega) ?_ ?_⟩
    · rintro i x H1 H2 acc Ky Kn hi e1 ⟨hp1, g, hT⟩ ⟨rfl, rfl⟩ ky kn
      refine ⟨rfl, _, rfl, by show 3 ≤ sizeLine; rw [sizeLine_eq]; decide, fun l2 hl2 => ?_⟩
      have e2 := Same.new (o := .lst [V.int 9, V.int 6, V.int 4]) hl2
      refine ⟨_, rfl, _, _, rfl, rfl, l2, _, _, _, rfl, rfl, SqL.of upd_same, per_at hn, ?_⟩
      refine ⟨p, perM n 4, rfl, hp1.m e2, hm.1, hm.2, fun H3 v pt e3 hp3 hv hok hle => ?_⟩
      exact ky _ _ (e2.stp.trans e3) ⟨hp3, _, hT.snoc (e2.stp.trans e3) hv hok hle⟩
    · rintro H1 acc e1 hl1 ⟨hp1, g, hT⟩
      refine ⟨D, _, rfl, .inl ⟨SqL.of hl1, fun t ht => ?_⟩⟩
      have e2 := Same.new (o := .tup acc) ht
      obtain ⟨ho, hs⟩ := hT.small (m := 0) (by decide) hn
      exact q _ _ g (e1.trans e2.stp) (hp1.m e2) ⟨acc, ⟨t, rfl, SqT.of upd_same⟩, (hT.s (e2.stp (S := []))).vs⟩ ho hs hT.len
end
end A72

set_option Elab.async false
set_option linter.all false
set_option maxRecDepth 100000
set_option maxHeartbeats 4000000
/-! the law's sparse -/
namespace A72
open PySem PySem.Spec PyProof.Rows L2
theorem sub_told {i j : Int} {H : Hp} {Q : VK} (h : ∀ z, z = i - j → Q (.int z) H) : rI0 (fun i j => .int (i - j)) (.int i) (.int j) H Q := ⟨i, j, rfl, rfl, h _ rfl⟩
section
variable {P : Program} {w : World} {K : PySem.W.Frag} {mg : Str → Option Value} {base : Heap}
theorem sc_law_sparse : FnScope ["_law_pen_here", "_law_amount", "_law_found", "_law_turn", "_law_size", "_law_lap"] ["_law_pen_here", "_law_amount"] (defScope d_law_sparse) := ⟨rfl, rfl, rfl, by decide +kernel, rfl, by decide +kernel, by decide +kernel⟩
theorem law_sparse_ok (T : Txt K mg) : C8.Cal P w K mg base 2 "_law_sparse" (spFewL K) [] := by
  refine cal T.f_d_law_sparse T.g_law_sparse sc_law_sparse (fun _ _ _ _ _ _ us hl => match us, hl with | [_, _], _ => rfl) (fun vs H Q E h => ?_) (fun cdv A outer s H vs Q E hr h => ?_)
  · obtain ⟨p, n, rfl, _⟩ := h
    rfl
  · obtain ⟨p, n, rfl, hp, hn, q⟩ := h
    refine ⟨_, (pss_cons (ps_set (i := 2) sc_law_sparse.nd rfl (Or.inl rfl) (pe_lst pa_nil))
 (pss_cons (ps_for PassesOwn.never rfl (pi_range1 rfl T.b_range (pa_cons (pv 1) pa_nil)) (pg_name (i := 3) sc_law_sparse.nd rfl (Or.inl rfl)) (pss_cons (ps_set (i := 4) sc_law_sparse.nd rfl (Or.inr rfl) (pe_op op_sub (pe_ix (ix_listK K rfl) (pe_lst (pa_cons pe_int (pa_cons pe_int (pa_cons pe_int pa_nil)))) (pe_op op_sub (pv 1) pe_int) (fun _ _ => rfl)) (C8.pe_c (law_draw_ok T) hr (by decide) rfl (pa_cons (pv 0) (pa_cons pe_int pa_nil)))))
 (pss_one (ps_expr (pe_bmK K rfl PySem.F.plainAttrs_list PySem.F.slot_list_append PySem.F.type_list_append mt_append (pv 2) (pa_cons (pe_tup (pa_cons (pv 4) (pa_cons (pe_callTy (tuple_K K rfl) (by rfl) T.b_tuple (by decide +kernel) (pa_cons (pe_callB (cr_sortedSet rfl) (by rfl) T.b_sorted (by decide +kernel) (pa_cons (pe_callTy (cr_setI rfl) (by rfl) T.b_set (by decide +kernel) (pa_cons (pe_lc (own := [("_law_lap", 5)]) (g := gName 5) (by rfl) sc_law_sparse.nd (pi_tupK K rfl (pe_tup (pa_cons pe_int (pa_cons pe_int pa_nil)))) (blkOk_by (N := ["_law_pen_here", "_law_amount", "_law_found", "_law_turn", "_law_size", "_law_lap"]) (sc := defScope d_law_sparse) (by decide +kernel)) (fun _ _ _ _ _ => (pg_name (i := 5) sc_law_sparse.nd rfl (Or.inl rfl))) (fun _ _ _ _ _ => pts_nil) (fun _ _ _ _ _ => (C8.pe_c (law_draw_ok T) hr (by decide) rfl (pa_cons (pv 0) (pa_cons (pv 4) pa_nil))))) pa_nil)) pa_nil)) pa_nil)) pa_nil))) pa_nil))))))
 (pss_one (ps_ret (pe_callTy (tuple_K K rfl) (by rfl) T.b_tuple (by decide +kernel) (pa_cons (pv 2) pa_nil)))))), ?_⟩
    have hb : 2 ≤ n ∧ n ≤ 4 := by omega
    have hm : 5 ≤ perM n 5 ∧ perM n 5 ≤ 60 := by
      unfold perM
      split
      · omega
      · split <;> omega
    refine ⟨by show 0 ≤ sizeLine; exact Nat.zero_le _, fun F hF => ?_⟩
    have nF : F ≠ p := fun z => by
      rw [z] at hF
      exact hp.ne hF
    have nF' : p ∉ [F] := fun z => nF (List.mem_singleton.mp z).symm
    have nFp : F ∉ [p] := fun z => nF (List.mem_singleton.mp z)
    have e0 := Same.new (o := .lst []) hF
    refine ⟨_, rfl, _, rfl, by omega, by omega, for_it (walk_r0 (n := n.toNat)) (fun i σ H' => Stp [p] H H' ∧ PenV H' p ∧ ∃ acc g x1 x2, H' F = some (.lst acc) ∧ Team K (perM n 5) i H' acc g ∧ σ = [some (.ref p), some (.int n), some (.ref F), x1, x2, none])
      ⟨e0.stp, hp.m e0, [], [], none, none, upd_same, ⟨.nil, fun _ h => (nomatch h), fun _ h => (nomatch h), rfl⟩, rfl⟩ (fun _ _ _ _ _ => trivial) ?_ ?_⟩
    · rintro i x σ H1 H1' hi ⟨e1, hp1, acc, g, x1, x2, hl1, hT, rfl⟩ ⟨rfl, rfl⟩
      refine ⟨by show 3 ≤ sizeLine; rw [sizeLine_eq]; decide, fun l2 hl2 => ?_⟩
      have e2 := Same.new (o := .lst [V.int 9, V.int 6, V.int 5]) hl2
      refine ⟨_, rfl, _, _, rfl, rfl, l2, _, _, _, rfl, rfl, SqL.of upd_same, per_at hn, ?_⟩
      refine ⟨_, rfl, p, 3, rfl, hp1.m e2, by decide, by decide, fun H3 d e3 hp3 d0 d1 => ?_⟩
      have e23 := e2.stp.trans e3
      have hl3 := e23.kp _ _ hl1 nFp
      refine sub_told fun z hz => ?_
      have z1 : 3 ≤ z ∧ z ≤ perM n 5 := by omega
      refine ⟨_, rfl, .inl ⟨rfl, _, SqL.of hl3⟩, _, rfl, ?_⟩
      refine ⟨by show 2 ≤ sizeLine; rw [sizeLine_eq]; decide, fun t4 ht4 => ?_⟩
      have e4 := Same.new (o := .tup [V.int 0, V.int 1]) ht4
      have hp4 := hp3.m e4
      refine ⟨t4, rfl, ⟨_, SqT.of upd_same⟩, fun D hD => lcp (walk_tup (xs := [V.int 0, V.int 1])) yat_same [p] (fun a ha => by rw [List.mem_singleton.mp ha]; exact hp4.ne) hD (fun H e => e.t (SqT.of upd_same)) (fun i H acc => PenV H p ∧ ∃ ns : List Int, acc = ns.map V.int ∧ (∀ k ∈ ns, 0 ≤ k ∧ k < z) ∧ ns.length = i)
        ⟨hp4, [], rfl, fun _ h => (nomatch h), rfl⟩ (fun i acc S H H' hn e ⟨a, b⟩ => ⟨a.s e (hn p (List.mem_singleton.mpr rfl)), b⟩) (fun i H acc ⟨_, ns, e, _, hl⟩ => by rw [e, List.length_map, hl]; exact Nat.le_refl _) (by decide) ?_ ?_⟩
      · rintro j y H5 H6 acc5 Ky Kn hj e5 ⟨hp5, ns, rfl, hin, hlen⟩ ⟨rfl, hy⟩ ky kn
        refine ⟨rfl, _, rfl, _, rfl, p, z, rfl, hp5, by omega, by omega, fun H7 k e7 hp7 k0 k1 => ky _ _ e7 ⟨hp7, ns ++ [k], by rw [List.map_append] <;> rfl, fun u hu => ?_, by rw [List.length_append, List.length_singleton, hlen]⟩⟩
        rcases List.mem_append.mp hu with v | v
        · exact hin u v
        · rw [List.mem_singleton.mp v]
          exact ⟨k0, k1⟩
      · rintro H5 acc5 e5 hl5 ⟨hp5, ns, rfl, hin, hlen⟩
        have hlen2 : ns.length = 2 := hlen
        refine ⟨D, ns, rfl, SqL.of hl5, by omega, fun b c hc hb => ?_⟩
        have e6 := Same.new (o := SetO w b (fun j => decide (j ∈ ns)) c) hb
        refine ⟨b, _, c, rfl, upd_same, by omega, fun ms p7 hasc hmem hml h7 => ?_⟩
        have e7 := Same.new (o := .lst (ms.map V.int)) h7
        refine ⟨p7, _, rfl, .inl ⟨SqL.of upd_same, fun t8 ht8 => ?_⟩⟩
        have e8 := Same.new (o := .tup (ms.map V.int)) ht8
        refine ⟨by show 2 ≤ sizeLine; rw [sizeLine_eq]; decide, fun t9 ht9 => ?_⟩
        have e9 := Same.new (o := .tup [V.int z, .ref t8]) ht9
        have e69 := (e6.trans e7).trans (e8.trans e9)
        have hl9 := e69 _ _ (e5.kp _ _ (e4 _ _ hl3) nFp)
        have hsub : Sub ms z := ⟨hasc, fun x hx => (hin x (of_decide_eq_true ((hmem x).mp hx))).1, fun x hx => (hin x (of_decide_eq_true ((hmem x).mp hx))).2⟩
        have hne : 1 ≤ ms.length := by
          obtain ⟨k, hk⟩ : ∃ k, k ∈ ns := by
            cases ns with
            | nil => exact absurd hlen2 (by decide)
            | cons k r => exact ⟨k, List.mem_cons_self ..⟩
          exact List.length_pos_of_mem ((hmem k).mpr (decide_eq_true hk))
        have hms : ms.length ≤ 2 := by omega
        have hok : PatOk ⟨z, ms⟩ := hsub.pat (by omega) (by omega) hne (by omega)
        refine ⟨F, acc, _, rfl, rfl, hl9, ?_, ?_⟩
        · rw [hT.alen, sizeLine_eq]
          omega
        · have eAll := (e23.trans e4.stp).trans (e5.trans e69.stp)
          have hpt : PtV K _ (.ref t9) ⟨z, ms⟩ := ⟨.ref t8, ⟨t9, rfl, SqT.of upd_same⟩, ⟨t8, rfl, e9.t (SqT.of upd_same)⟩⟩
          have hT9 := hT.snoc eAll hpt hok z1.2
          have eF := Stp.upd (S := [F]) (o := .lst (acc ++ [.ref t9])) hl9 rfl (List.mem_singleton.mpr rfl)
          refine ⟨⟨fun a o ha hn => ?_, fun a o ha ht => eF.tu _ _ ((e1.trans eAll).tu _ _ ha ht) ht⟩, ((hp5.m e69).s eF nF'), acc ++ [.ref t9], g ++ [⟨z, ms⟩], _, _, upd_same, hT9.s eF, rfl⟩
          have na : a ∉ [F] := fun y => by
            rw [List.mem_singleton.mp y] at ha
            rw [hF] at ha
            cases ha
          exact eF.kp _ _ ((e1.trans eAll).kp _ _ ha hn) na
    · rintro σ H1 ⟨e1, hp1, acc, g, x1, x2, hl1, hT, rfl⟩
      refine ⟨_, rfl, F, _, rfl, .inl ⟨SqL.of hl1, fun t ht => ?_⟩⟩
      have e2 := Same.new (o := .tup acc) ht
      obtain ⟨ho, hs⟩ := hT.small (m := 0) (by decide) hn
      exact q _ _ g (e1.trans e2.stp) (hp1.m e2) ⟨acc, ⟨t, rfl, SqT.of upd_same⟩, (hT.s (e2.stp (S := []))).vs⟩ ho hs hT.len
end
end A72

set_option Elab.async false
set_option linter.all false
set_option maxRecDepth 100000
set_option maxHeartbeats 4000000
/-! plain mathematics: small groups, lines on which all have begun -/
namespace A72
open PySem PySem.Spec PyProof.Rows L2
set_option synthInstance.maxHeartbeats 4000000
set_option synthInstance.maxSize 100000
/-! ### small groups -/
theorem two_ok : ∀ a < 10, ∀ b < 10, 2 ≤ a → 2 ≤ b → Nat.lcm (Nat.lcm 1 a) b ≤ 100 ∧ 1 * a * b / Nat.lcm (Nat.lcm 1 a) b ≤ 240 := by decide +kernel
theorem three_ok : ∀ a < 7, ∀ b < 7, ∀ c < 7, 2 ≤ a → 2 ≤ b → 2 ≤ c → Nat.lcm (Nat.lcm (Nat.lcm 1 a) b) c ≤ 100 ∧ 1 * a * b * c / Nat.lcm (Nat.lcm (Nat.lcm 1 a) b) c ≤ 240 := by decide +kernel
theorem four_ok : ∀ a < 6, ∀ b < 6, ∀ c < 6, ∀ d < 6, 2 ≤ a → 2 ≤ b → 2 ≤ c → 2 ≤ d → Nat.lcm (Nat.lcm (Nat.lcm (Nat.lcm 1 a) b) c) d ≤ 100 ∧ 1 * a * b * c * d / Nat.lcm (Nat.lcm (Nat.lcm (Nat.lcm 1 a) b) c) d ≤ 240 := by decide +kernel
theorem small_few {g : Grp} (hg : GrpOk g) (hs : SmallG g) : FewOk g ∧ spanN g ≤ 100 := by
  have z : spanN g ≤ 100 ∧ prodN g / spanN g ≤ 240 := by
    have lo : ∀ p ∈ g, 2 ≤ p.per.toNat := fun p hp => by
      have := (hg.ok p hp).lo
      omega
    rcases hs with ⟨hl, h⟩ | ⟨hl, h⟩ | ⟨hl, h⟩
    · match g, hl, h, lo with
      | [a, b], _, h, lo =>
        have h1 := h a (by simp)
        have h2 := h b (by simp)
        exact two_ok a.per.toNat (by omega) b.per.toNat (by omega) (lo a (by simp)) (lo b (by simp))
    · match g, hl, h, lo with
      | [a, b, c], _, h, lo =>
        have h1 := h a (by simp)
        have h2 := h b (by simp)
        have h3 := h c (by simp)
        exact three_ok a.per.toNat (by omega) b.per.toNat (by omega) c.per.toNat (by omega) (lo a (by simp)) (lo b (by simp)) (lo c (by simp))
    · match g, hl, h, lo with
      | [a, b, c, d], _, h, lo =>
        have h1 := h a (by simp)
        have h2 := h b (by simp)
        have h3 := h c (by simp)
        have h4 := h d (by simp)
        exact four_ok a.per.toNat (by omega) b.per.toNat (by omega) c.per.toNat (by omega) d.per.toNat (by omega) (lo a (by simp)) (lo b (by simp)) (lo c (by simp)) (lo d (by simp))
  exact ⟨⟨hg, Nat.le_trans z.1 (by decide), z.2⟩, z.1⟩
/-! ### runs -/
theorem runS_tick {st : Bool} {g : Grp} {s : LSt} : ∀ n : Nat, (runS st g n s).tick = s.tick + (n : Nat)
  | 0 => by
    show s.tick = s.tick + 0
    omega
  | n + 1 => by
    show (runS st g n s).tick + 1 = _
    rw [runS_tick n]
    omega
theorem runS_begun {g : Grp} {s : LSt} : ∀ n : Nat, (runS false g n s).begun = s.begun
  | 0 => rfl
  | n + 1 => runS_begun n
theorem runS_add {st : Bool} {g : Grp} {s : LSt} (m : Nat) : ∀ n : Nat, runS st g n (runS st g m s) = runS st g (m + n) s
  | 0 => rfl
  | n + 1 => by
    show behindS st g (runS st g n (runS st g m s)) = behindS st g (runS st g (m + n) s)
    rw [runS_add m n]
/-- all have begun, with these offsets -/
structure AllB (g : Grp) (os : List Int) (s : LSt) : Prop where
  ok : LOk g s
  len : os.length = g.length
  at_ : ∀ (i : Nat) (p : Pat), g[i]? = some p → ∃ t, s.begun[i]? = some (some t) ∧ os[i]? = some (t % p.per)
theorem nowKind_all {g : Grp} {os : List Int} {s : LSt} (h : AllB g os s) : nowKind g s = heardAt g os s.tick := by
  unfold nowKind heardAt
  rw [h.ok.b]
  congr 2
  funext i
  unfold sendsNow sendAt
  cases hp : g[i]? with
  | none => rfl
  | some p =>
    obtain ⟨t, h1, h2⟩ := h.at_ i p hp
    rw [h1, h2]
def tel (g : Grp) (os : List Int) (T : Int) (n : Nat) : List Int := (List.range n).map fun j => heardAt g os (T + ((j : Nat) : Int))
theorem tel_succ (g : Grp) (os : List Int) (T : Int) (n : Nat) : tel g os T (n + 1) = tel g os T n ++ [heardAt g os (T + ((n : Nat) : Int))] := by
  unfold tel
  rw [List.range_succ, List.map_append] <;> rfl
theorem tel_len (g : Grp) (os : List Int) (T : Int) (n : Nat) : (tel g os T n).length = n := by
  unfold tel
  rw [List.length_map, List.length_range]
theorem cnt_snoc (xs : List Int) (x k : Int) : cnt (xs ++ [x]) k = cnt xs k + if x = k then 1 else 0 := by
  unfold cnt
  rw [List.count_append, List.count_singleton]
  by_cases h : x = k
  · rw [if_pos h, if_pos (beq_iff_eq.mpr h)]
    omega
  · rw [if_neg h, if_neg (fun z => h (beq_iff_eq.mp z))]
    omega
/-- what a run of a line leaves on which all have begun -/
structure Ran (g : Grp) (os : List Int) (s : LSt) (n : Nat) (s' : LSt) : Prop where
  all : AllB g os s'
  tick : s'.tick = s.tick + (n : Nat)
  log : s'.log = s.log ++ tel g os s.tick n
  thr : ∀ (i : Nat) (m : Int), s.thr[i]? = some m → s'.thr[i]? = some (m + cnt (tel g os s.tick n) (i : Nat))
  coll : s'.coll = s.coll + cnt (tel g os s.tick n) (-2)
theorem run_all {g : Grp} {os : List Int} {s : LSt} (h : AllB g os s) : ∀ n : Nat, Ran g os s n (runS false g n s)
  | 0 => ⟨h, by show s.tick = s.tick + 0; omega, by show s.log = s.log ++ []; rw [List.append_nil], fun i m hm => by
      rw [show m + cnt (tel g os s.tick 0) (i : Nat) = m from Int.add_zero m]
      exact hm, (Int.add_zero _).symm⟩
  | n + 1 => by
    have r := run_all h n
    have hk := nowKind_all r.all
    rw [r.tick] at hk
    have hb : (behindS false g (runS false g n s)).begun = (runS false g n s).begun := rfl
    refine ⟨⟨r.all.ok.behind, r.all.len, fun i p hp => r.all.at_ i p hp⟩, ?_, ?_, fun i m hm => ?_, ?_⟩
    · show (runS false g n s).tick + 1 = _
      rw [r.tick]
      omega
    · show (runS false g n s).log ++ [nowKind g (runS false g n s)] = _
      rw [r.log, hk, tel_succ, List.append_assoc]
    · show (thrF (runS false g n s).thr (nowKind g (runS false g n s)))[i]? = _
      rw [thrF_at (r.thr i m hm), hk, tel_succ, cnt_snoc]
      congr 1
      by_cases z : ((i : Nat) : Int) = heardAt g os (s.tick + ((n : Nat) : Int))
      · rw [if_pos z, if_pos z.symm]
        omega
      · rw [if_neg z, if_neg (fun y => z y.symm)]
        omega
    · show (runS false g n s).coll + (if nowKind g (runS false g n s) = -2 then 1 else 0) = _
      rw [r.coll, hk, tel_succ, cnt_snoc]
      omega
theorem told_all {g : Grp} {os : List Int} {s : LSt} (h : AllB g os s) (n : Nat) : told false g s n = tel g os s.tick n := by
  unfold told
  rw [(run_all h n).log, List.drop_append_of_le_length (Nat.le_refl _), List.drop_length, List.nil_append]
/-! ### a span is the row, turned -/
theorem tel_rot {g : Grp} (hg : GrpOk g) {os : List Int} {T : Int} {b : Nat} (hb : T % ((spanN g : Nat) : Int) = ((b : Nat) : Int)) : tel g os T (spanN g) = (heardRow g os).drop b ++ (heardRow g os).take b := by
  have hn : 0 < spanN g := span_pos hg
  have hbn : b < spanN g := by
    have := Int.emod_lt_of_pos T (show (0 : Int) < ((spanN g : Nat) : Int) by omega)
    omega
  have hl := heardRow_len g os
  have he := Int.emod_add_mul_ediv T ((spanN g : Nat) : Int)
  rw [hb] at he
  refine List.ext_getElem? fun i => ?_
  by_cases hi : i < spanN g
  · have e1 : (tel g os T (spanN g))[i]? = some (heardAt g os (T + ((i : Nat) : Int))) := by
      unfold tel
      rw [List.getElem?_map, List.getElem?_range hi] <;> rfl
    rw [e1]
    by_cases hib : i < spanN g - b
    · rw [List.getElem?_append_left (by rw [List.length_drop]; omega), List.getElem?_drop, row_at (by omega)]
      congr 1
      refine heardAt_mod hg ?_
      rw [← he, show ((b : Nat) : Int) + ((spanN g : Nat) : Int) * (T / ((spanN g : Nat) : Int)) + ((i : Nat) : Int) = (((b + i : Nat) : Nat) : Int) + ((spanN g : Nat) : Int) * (T / ((spanN g : Nat) : Int)) by omega, Int.add_mul_emod_self_left]
    · rw [List.getElem?_append_right (by rw [List.length_drop]; omega), List.length_drop, hl, List.getElem?_take_of_lt (by omega), row_at (by omega)]
      congr 1
      refine heardAt_mod hg ?_
      rw [← he, show ((b : Nat) : Int) + ((spanN g : Nat) : Int) * (T / ((spanN g : Nat) : Int)) + ((i : Nat) : Int) = ((((i - (spanN g - b) : Nat) : Nat) : Int) + ((spanN g : Nat) : Int)) + ((spanN g : Nat) : Int) * (T / ((spanN g : Nat) : Int)) by omega, Int.add_mul_emod_self_left, Int.add_emod_right]
  · rw [List.getElem?_eq_none (by rw [tel_len]; omega), List.getElem?_eq_none (by rw [List.length_append, List.length_drop, List.length_take, hl]; omega)]
theorem cnt_rot (row : List Int) (b : Nat) (k : Int) : cnt (row.drop b ++ row.take b) k = cnt row k := by
  unfold cnt
  have h : (row.take b ++ row.drop b).count k = row.count k := by rw [List.take_append_drop]
  rw [List.count_append] at h ⊢
  omega
theorem cut_mid (a z : V) (xs : List V) : cutV (a :: (xs ++ [z])) (some 1) (some (-1)) = xs := by
  unfold cutV
  have hl : (a :: (xs ++ [z])).length = xs.length + 2 := by simp
  have e1 : HT.sIx (a :: (xs ++ [z])).length 0 (some 1) = 1 := by
    rw [hl, show (1 : Int) = ((1 : Nat) : Int) from rfl, HT.sIx_nat]
    omega
  have e2 : HT.sIx (a :: (xs ++ [z])).length (a :: (xs ++ [z])).length (some (-1)) = xs.length + 1 := by
    rw [hl]
    show (if (-1 : Int) < 0 then ((-1 : Int) + ((xs.length + 2 : Nat) : Int)).toNat else min (-1 : Int).toNat (xs.length + 2)) = _
    rw [if_pos (by decide)]
    omega
  rw [e1, e2, List.drop_succ_cons, List.drop_zero, Nat.add_sub_cancel, List.take_append_of_le_length (Nat.le_refl _), List.take_length]
/-- the middle of what counts tells -/
def midN (row : List Int) (n : Nat) : List Int := (List.range n).map fun i => cnt row ((i : Nat) : Int)
theorem cntL_eq (row : List Int) (n : Nat) : (cntL row n).map V.int = V.int (cnt row (-1)) :: ((midN row n).map V.int ++ [V.int (cnt row (-2))]) := by
  unfold cntL midN
  rw [List.map_append, List.map_cons] <;> rfl
/-- what each got through in a span is what counts tells -/
theorem more_eq {g : Grp} (hg : GrpOk g) {os : List Int} {s s' : LSt} (h : Ran g os s (spanN g) s') (ht : s.thr.length = g.length) : (s'.thr.zip s.thr).map (fun p => p.1 - p.2) = midN (heardRow g os) g.length := by
  have hT0 : 0 ≤ s.tick % ((spanN g : Nat) : Int) := Int.emod_nonneg _ (by have := span_pos hg; omega)
  obtain ⟨b, hb⟩ : ∃ b : Nat, s.tick % ((spanN g : Nat) : Int) = ((b : Nat) : Int) := ⟨_, (Int.toNat_of_nonneg hT0).symm⟩
  have hl' := h.all.ok.t
  refine List.ext_getElem? fun i => ?_
  unfold midN
  by_cases hi : i < g.length
  · obtain ⟨m, hm⟩ : ∃ m, s.thr[i]? = some m := ⟨_, List.getElem?_eq_getElem (by omega)⟩
    have hm' := h.thr i m hm
    rw [List.getElem?_map, zip_at hm' hm, List.getElem?_map, List.getElem?_range hi, tel_rot hg hb, cnt_rot]
    show some (m + cnt (heardRow g os) (i : Nat) - m) = some (cnt (heardRow g os) (i : Nat))
    congr 1
    omega
  · rw [List.getElem?_eq_none (by rw [List.length_map, List.length_zip]; omega), List.getElem?_eq_none (by rw [List.length_map, List.length_range]; omega)]
theorem coll_eq {g : Grp} (hg : GrpOk g) {os : List Int} {s s' : LSt} (h : Ran g os s (spanN g) s') : s'.coll - s.coll = cnt (heardRow g os) (-2) := by
  have hT0 : 0 ≤ s.tick % ((spanN g : Nat) : Int) := Int.emod_nonneg _ (by have := span_pos hg; omega)
  obtain ⟨b, hb⟩ : ∃ b : Nat, s.tick % ((spanN g : Nat) : Int) = ((b : Nat) : Int) := ⟨_, (Int.toNat_of_nonneg hT0).symm⟩
  rw [h.coll, tel_rot hg hb, cnt_rot]
  omega
/-- who is heard within so many ticks -/
theorem mem_tel {g : Grp} {os : List Int} {T j who : Int} {n : Nat} (h0 : 0 ≤ j) (h1 : j < (n : Nat)) (h : heardAt g os (T + j) = who) : who ∈ tel g os T n := by
  unfold tel
  refine List.mem_map.mpr ⟨j.toNat, List.mem_range.mpr (by omega), ?_⟩
  rw [Int.toNat_of_nonneg h0, h]
theorem act_all {g : Grp} {os : List Int} {s : LSt} (h : AllB g os s) : actN s = (List.range g.length).map fun i => ((i : Nat) : Int) := by
  unfold actN sndF
  rw [h.ok.b]
  congr 1
  refine List.filter_eq_self.mpr fun i hi => ?_
  have hi' := List.mem_range.mp hi
  obtain ⟨t, h1, _⟩ := h.at_ i g[i] (List.getElem?_eq_getElem hi')
  rw [getD_at h1] <;> rfl
end A72

set_option Elab.async false
set_option linter.all false
set_option maxRecDepth 100000
set_option maxHeartbeats 4000000
/-! plain mathematics: a stopping line and stops_of -/
namespace A72
open PySem PySem.Spec PyProof.Rows L2
theorem sndF_congr {n : Nat} {f h : Nat → Bool} (e : ∀ i, i < n → f i = h i) : sndF n f = sndF n h := by
  unfold sndF
  rw [List.filter_congr fun i hi => e i (List.mem_range.mp hi)]
theorem sndF_none {n : Nat} {f : Nat → Bool} (e : ∀ i, i < n → f i = false) : sndF n f = [] := by
  unfold sndF
  rw [List.filter_eq_nil_iff.mpr fun i hi => by rw [e i (List.mem_range.mp hi)]; exact Bool.false_ne_true] <;> rfl
/-! ### it goes on for so long, then nothing changes any more -/
/-- the last idle ticks: nobody got through -/
def IdleI (g : Grp) (os : List Int) (q : SSt) : Prop := ∀ d : Nat, d < q.idle → ¬ 0 ≤ kindOf (sndF g.length fun i => sendAt g os (((q.tick : Nat) : Int) - 1 - ((d : Nat) : Int)) i && (q.found.getD i none).isNone)
theorem idle_step {g : Grp} {os : List Int} {q : SSt} (h : IdleI g os q) : IdleI g os (stopStep g os q) := by
  unfold stopStep
  split
  · intro d hd
    exact absurd hd (Nat.not_lt_zero d)
  · rename_i hk
    intro d hd
    have hd : d < q.idle + 1 := hd
    show ¬ 0 ≤ kindOf (sndF g.length fun i => sendAt g os (((q.tick + 1 : Nat) : Int) - 1 - ((d : Nat) : Int)) i && (q.found.getD i none).isNone)
    cases d with
    | zero =>
      rw [show (((q.tick + 1 : Nat) : Int) - 1 - ((0 : Nat) : Int)) = ((q.tick : Nat) : Int) by omega]
      exact hk
    | succ d =>
      rw [show (((q.tick + 1 : Nat) : Int) - 1 - ((d + 1 : Nat) : Int)) = ((q.tick : Nat) : Int) - 1 - ((d : Nat) : Int) by omega]
      exact h d (by omega)
theorem idle_it (g : Grp) (os : List Int) : ∀ k, IdleI g os (stopIt g os k)
  | 0 => fun d hd => absurd hd (Nat.not_lt_zero d)
  | k + 1 => idle_step (idle_it g os k)
theorem stop_never {g : Grp} (hg : GrpOk g) {os : List Int} {k : Nat} (h : stopGo g (stopIt g os k) = false) (q : SSt) (hq : q.found = (stopIt g os k).found) : ¬ 0 ≤ stopK g os q := by
  unfold stopK stopF
  rw [hq]
  have hl := stopIt_len g os k
  have hI := idle_it g os k
  generalize stopIt g os k = s at h hl hI hq
  unfold stopGo at h
  cases hany : s.found.any (·.isNone) with
  | false =>
    rw [sndF_none fun i hi => ?_]
    · decide
    · obtain ⟨o, ho⟩ : ∃ o, s.found[i]? = some o := ⟨_, List.getElem?_eq_getElem (by omega)⟩
      rw [getD_at ho]
      have z := List.any_eq_false.mp hany o (List.mem_of_getElem? ho)
      cases o with
      | none => exact absurd rfl z
      | some t => exact Bool.and_false _
  | true =>
    rw [hany, Bool.true_and] at h
    have hid := of_decide_eq_false h
    have hn : 0 < spanN g := span_pos hg
    have d0 : 0 ≤ (((s.tick : Nat) : Int) - 1 - ((q.tick : Nat) : Int)) % ((spanN g : Nat) : Int) := Int.emod_nonneg _ (by omega)
    have d1 : (((s.tick : Nat) : Int) - 1 - ((q.tick : Nat) : Int)) % ((spanN g : Nat) : Int) < (spanN g : Nat) := Int.emod_lt_of_pos _ (by omega)
    have de := Int.emod_add_mul_ediv (((s.tick : Nat) : Int) - 1 - ((q.tick : Nat) : Int)) ((spanN g : Nat) : Int)
    obtain ⟨d, hd⟩ : ∃ d : Nat, (((s.tick : Nat) : Int) - 1 - ((q.tick : Nat) : Int)) % ((spanN g : Nat) : Int) = ((d : Nat) : Int) := ⟨_, (Int.toNat_of_nonneg d0).symm⟩
    rw [hd] at d1 de
    have z := hI d (by omega)
    have e : (((s.tick : Nat) : Int) - 1 - ((d : Nat) : Int)) = ((q.tick : Nat) : Int) + ((spanN g : Nat) : Int) * ((((s.tick : Nat) : Int) - 1 - ((q.tick : Nat) : Int)) / ((spanN g : Nat) : Int)) := by omega
    have e2 : (fun i => sendAt g os (((s.tick : Nat) : Int) - 1 - ((d : Nat) : Int)) i && (s.found.getD i none).isNone) = fun i => sendAt g os ((q.tick : Nat) : Int) i && (s.found.getD i none).isNone := by
      funext i
      rw [sendAt_mod (t' := ((q.tick : Nat) : Int)) hg (by rw [e, Int.add_mul_emod_self_left])]
    rw [e2] at z
    exact z
theorem stop_const {g : Grp} (hg : GrpOk g) {os : List Int} {k : Nat} (h : stopGo g (stopIt g os k) = false) : ∀ j, (stopIt g os (k + j)).found = (stopIt g os k).found
  | 0 => rfl
  | j + 1 => by
    have ih := stop_const hg h j
    show (stopStep g os (stopIt g os (k + j))).found = _
    unfold stopStep
    rw [if_neg (stop_never hg h _ ih)]
    exact ih
theorem noneN_rep : ∀ n : Nat, noneN (List.replicate n none) = n
  | 0 => rfl
  | n + 1 => by
    have ih := noneN_rep n
    unfold noneN at ih ⊢
    rw [List.replicate_succ, List.countP_cons_of_pos rfl, ih]
theorem stop_bound {g : Grp} {os : List Int} {k : Nat} (h : ∀ j, j < k → stopGo g (stopIt g os j) = true) : k ≤ (g.length + 1) * spanN g := by
  have z : ∀ j, j ≤ k → stopMu g (stopIt g os j) + j ≤ (g.length + 1) * spanN g := by
    intro j
    induction j with
    | zero =>
      intro _
      show noneN (List.replicate g.length none) * spanN g + (spanN g - 0) + 0 ≤ _
      rw [noneN_rep, Nat.succ_mul]
      omega
    | succ j ih =>
      intro hj
      have h1 := ih (by omega)
      have h2 : stopMu g (stopIt g os (j + 1)) < stopMu g (stopIt g os j) := stop_less (os := os) (stopIt_len g os j) (h j (by omega))
      omega
  have := z k (Nat.le_refl _)
  omega
/-! ### the line walks with it -/
/-- a line on which all have begun at tick 0 -/
structure ZeroB (g : Grp) (s : LSt) : Prop where
  ok : LOk g s
  tick : s.tick = 0
  b : ∀ i, i < g.length → s.begun[i]? = some (some 0)
  t : ∀ i, i < g.length → s.thr[i]? = some 0
  log : s.log = []
structure Sim (g : Grp) (S : LSt) (q : SSt) : Prop where
  ok : LOk g S
  tick : S.tick = ((q.tick : Nat) : Int)
  fl : q.found.length = g.length
  log : S.log.length = q.tick
  no : ∀ i : Nat, q.found[i]? = some none → S.begun[i]? = some (some 0) ∧ S.thr[i]? = some 0 ∧ cnt S.log (i : Nat) = 0
  yes : ∀ (i : Nat) (t : Int), q.found[i]? = some (some t) → S.begun[i]? = some none ∧ S.thr[i]? = some 1 ∧ cnt S.log (i : Nat) = 1 ∧ ∃ n : Nat, t = ((n : Nat) : Int) ∧ S.log[n]? = some ((i : Nat) : Int)
abbrev zeros (g : Grp) : List Int := List.replicate g.length 0
theorem sim_zero {g : Grp} {s : LSt} (h : ZeroB g s) : Sim g s (stopIt g (zeros g) 0) := by
  refine ⟨h.ok, h.tick, List.length_replicate .., by rw [h.log] <;> rfl, fun i hi => ?_, fun i t hi => ?_⟩
  · have hl : i < g.length := by
      have z := (List.getElem?_eq_some_iff.mp hi).1
      rw [show (stopIt g (zeros g) 0).found = List.replicate g.length none from rfl, List.length_replicate] at z
      exact z
    exact ⟨h.b i hl, h.t i hl, by rw [h.log]; rfl⟩
  · rw [show (stopIt g (zeros g) 0).found = List.replicate g.length none from rfl, List.getElem?_replicate] at hi
    split at hi <;> cases hi
theorem sim_kind {g : Grp} (hg : GrpOk g) {S : LSt} {q : SSt} (h : Sim g S q) : nowKind g S = stopK g (zeros g) q := by
  unfold nowKind stopK
  rw [h.ok.b]
  congr 1
  refine sndF_congr fun i hi => ?_
  obtain ⟨p, hp⟩ : ∃ p, g[i]? = some p := ⟨_, List.getElem?_eq_getElem hi⟩
  obtain ⟨f, hf⟩ : ∃ f, q.found[i]? = some f := ⟨_, List.getElem?_eq_getElem (by have := h.fl; omega)⟩
  have hz : (zeros g)[i]? = some 0 := by
    rw [List.getElem?_replicate, if_pos hi]
  unfold stopF
  rw [getD_at hf]
  have hs : sendAt g (zeros g) ((q.tick : Nat) : Int) i = sendB p 0 ((q.tick : Nat) : Int) := by
    unfold sendAt
    rw [hp, hz]
  rw [hs]
  cases f with
  | none =>
    rw [sendsNow_at hp (h.no i hf).1, h.tick]
    show sendB p (0 % p.per) _ = _
    rw [Int.zero_emod]
    exact (Bool.and_true _).symm
  | some t =>
    rw [sendsNow_at hp (h.yes i t hf).1]
    exact (Bool.and_false _).symm
theorem sim_step {g : Grp} (hg : GrpOk g) {S : LSt} {q : SSt} (h : Sim g S q) : Sim g (behindS true g S) (stopStep g (zeros g) q) := by
  have hk := sim_kind hg h
  have hlen : (stopStep g (zeros g) q).found.length = g.length := (stopStep_len ..).trans h.fl
  have hlog : ∀ q2 : Nat, q2 = q.tick + 1 → (behindS true g S).log.length = q2 := fun q2 e => by
    show (S.log ++ [nowKind g S]).length = q2
    rw [List.length_append, List.length_singleton, h.log, e]
  have other : ∀ (i : Nat), ((i : Nat) : Int) ≠ nowKind g S → ∀ (b : Option Int) (m : Int), S.begun[i]? = some b → S.thr[i]? = some m → (behindS true g S).begun[i]? = some b ∧ (behindS true g S).thr[i]? = some m ∧ cnt (behindS true g S).log (i : Nat) = cnt S.log (i : Nat) := fun i hne b m hb hm => by
    refine ⟨?_, ?_, ?_⟩
    · show (endF true S.begun (nowKind g S))[i]? = _
      rw [endF_at hb, if_neg hne]
    · show (thrF S.thr (nowKind g S))[i]? = _
      rw [thrF_at hm, if_neg hne, Int.add_zero]
    · show cnt (S.log ++ [nowKind g S]) _ = _
      rw [cnt_snoc, if_neg (fun z => hne z.symm), Int.add_zero]
  have keepl : ∀ {n : Nat} {x : Int}, S.log[n]? = some x → (behindS true g S).log[n]? = some x := fun {n x} e => by
    show (S.log ++ [nowKind g S])[n]? = _
    rw [List.getElem?_append_left (List.getElem?_eq_some_iff.mp e).1]
    exact e
  by_cases h0 : 0 ≤ stopK g (zeros g) q
  · obtain ⟨i0, hi0, e0, _, hf0⟩ := stopK_at h0
    have hstep : stopStep g (zeros g) q = { found := q.found.set i0 (some ((q.tick : Nat) : Int)), tick := q.tick + 1, idle := 0 } := by
      unfold stopStep
      rw [if_pos h0, e0, Int.toNat_natCast]
    have hk0 : nowKind g S = ((i0 : Nat) : Int) := hk.trans e0
    have hf0' : q.found[i0]? = some none := by
      obtain ⟨f, hf⟩ : ∃ f, q.found[i0]? = some f := ⟨_, List.getElem?_eq_getElem (by have := h.fl; omega)⟩
      rw [getD_at hf] at hf0
      rw [hf, hf0]
    obtain ⟨hb0, ht0, hc0⟩ := h.no i0 hf0'
    have hset : ∀ i, (q.found.set i0 (some ((q.tick : Nat) : Int)))[i]? = if i0 = i then some (some ((q.tick : Nat) : Int)) else q.found[i]? := fun i => by
      rw [List.getElem?_set]
      by_cases e : i0 = i
      · rw [if_pos e, if_pos e, if_pos (by have := h.fl; omega)]
      · rw [if_neg e, if_neg e]
    rw [hstep] at hlen ⊢
    refine ⟨h.ok.behind, ?_, hlen, hlog _ rfl, fun i hi => ?_, fun i t hi => ?_⟩
    · show S.tick + 1 = ((q.tick + 1 : Nat) : Int)
      rw [h.tick]
      omega
    · rw [hset] at hi
      by_cases e : i0 = i
      · rw [if_pos e] at hi
        cases hi
      · rw [if_neg e] at hi
        obtain ⟨a, b, c⟩ := h.no i hi
        obtain ⟨a', b', c'⟩ := other i (by rw [hk0]; omega) _ _ a b
        exact ⟨a', b', c'.trans c⟩
    · rw [hset] at hi
      by_cases e : i0 = i
      · rw [if_pos e] at hi
        cases hi
        subst e
        refine ⟨?_, ?_, ?_, q.tick, rfl, ?_⟩
        · show (endF true S.begun (nowKind g S))[i0]? = _
          rw [endF_at hb0, if_pos hk0.symm]
        · show (thrF S.thr (nowKind g S))[i0]? = _
          rw [thrF_at ht0, if_pos hk0.symm] <;> rfl
        · show cnt (S.log ++ [nowKind g S]) _ = _
          rw [cnt_snoc, if_pos hk0, hc0] <;> rfl
        · show (S.log ++ [nowKind g S])[q.tick]? = _
          rw [List.getElem?_append_right (by rw [h.log]; exact Nat.le_refl _), h.log, Nat.sub_self, hk0] <;> rfl
      · rw [if_neg e] at hi
        obtain ⟨a, b, c, n, d, f⟩ := h.yes i t hi
        obtain ⟨a', b', c'⟩ := other i (by rw [hk0]; omega) _ _ a b
        exact ⟨a', b', c'.trans c, n, d, keepl f⟩
  · have hstep : stopStep g (zeros g) q = { found := q.found, tick := q.tick + 1, idle := q.idle + 1 } := by
      unfold stopStep
      rw [if_neg h0]
    have hkn : ∀ i : Nat, ((i : Nat) : Int) ≠ nowKind g S := fun i z => h0 (by rw [← hk, ← z]; omega)
    rw [hstep] at hlen ⊢
    refine ⟨h.ok.behind, ?_, hlen, hlog _ rfl, fun i hi => ?_, fun i t hi => ?_⟩
    · show S.tick + 1 = ((q.tick + 1 : Nat) : Int)
      rw [h.tick]
      omega
    · obtain ⟨a, b, c⟩ := h.no i hi
      obtain ⟨a', b', c'⟩ := other i (hkn i) _ _ a b
      exact ⟨a', b', c'.trans c⟩
    · obtain ⟨a, b, c, n, d, f⟩ := h.yes i t hi
      obtain ⟨a', b', c'⟩ := other i (hkn i) _ _ a b
      exact ⟨a', b', c'.trans c, n, d, keepl f⟩
theorem sim_run {g : Grp} (hg : GrpOk g) {s : LSt} (h : ZeroB g s) : ∀ n, Sim g (runS true g n s) (stopIt g (zeros g) n)
  | 0 => sim_zero h
  | n + 1 => sim_step hg (sim_run hg h n)
/-- at the end of the law's ticks the line stands as stop_ticks tells -/
theorem stops_final {g : Grp} (hg : GrpOk g) {s : LSt} (h : ZeroB g s) {k N : Nat} (h1 : ∀ j, j < k → stopGo g (stopIt g (zeros g) j) = true) (h2 : stopGo g (stopIt g (zeros g) k) = false) (hN : (g.length + 1) * spanN g ≤ N) :
    ∃ q : SSt, q.found = (stopIt g (zeros g) k).found ∧ Sim g (runS true g N s) q := by
  have hk := stop_bound h1
  obtain ⟨j, hj⟩ : ∃ j, N = k + j := ⟨N - k, by omega⟩
  refine ⟨stopIt g (zeros g) N, ?_, sim_run hg h N⟩
  rw [hj]
  exact stop_const hg h2 j
end A72

set_option Elab.async false
set_option linter.all false
set_option maxRecDepth 100000
set_option maxHeartbeats 4000000
/-! the law's begun -/
namespace A72
open PySem PySem.Spec PyProof.Rows L2
theorem Stp.own {S : List Addr} {H H1 H2 : Hp} {F : Addr} (e : Stp S H H1) (hF : H F = none) (eF : Stp [F] H1 H2) : Stp S H H2 :=
  ⟨fun a o ha hn => eF.kp _ _ (e.kp _ _ ha hn) fun y => (by
    rw [List.mem_singleton.mp y, hF] at ha
    cases ha), fun a o ha ht => eF.tu _ _ (e.tu _ _ ha ht) ht⟩
structure Beg (g : Grp) (i : Nat) (s : LSt) (os : List Int) : Prop where
  ok : LOk g s
  tick : s.tick = ((s.log.length : Nat) : Int)
  lg : s.log.length ≤ 5 * i
  len : os.length = i
  done : ∀ (j : Nat) (p : Pat), j < i → g[j]? = some p → ∃ t, s.begun[j]? = some (some t) ∧ os[j]? = some (t % p.per)
  todo : ∀ j : Nat, i ≤ j → j < g.length → s.begun[j]? = some none
theorem initS_ok (g : Grp) : LOk g (initS g.length) := ⟨List.length_replicate .., List.length_replicate ..⟩
theorem beg_zero (g : Grp) : Beg g 0 (initS g.length) [] :=
  ⟨initS_ok g, rfl, Nat.le_refl _, rfl, fun j p hj => absurd hj (Nat.not_lt_zero j), fun j _ hj => by
    show (List.replicate g.length none)[j]? = _
    rw [List.getElem?_replicate, if_pos hj]⟩
theorem beg_step {g : Grp} {i d : Nat} {s : LSt} {os : List Int} {p : Pat} (h : Beg g i s os) (hp : g[i]? = some p) (hd : d ≤ 5) :
    Beg g (i + 1) (putB (runS false g d s) i (some (runS false g d s).tick)) (os ++ [(runS false g d s).tick % p.per]) := by
  have hi : i < g.length := (List.getElem?_eq_some_iff.mp hp).1
  have hok := runS_ok (st := false) h.ok d
  have hlog := runS_log (st := false) (g := g) (s := s) d
  have htick := runS_tick (st := false) (g := g) (s := s) d
  have hb := runS_begun (g := g) (s := s) d
  generalize runS false g d s = s1 at hok hlog htick hb ⊢
  have hlg := h.lg
  have htk := h.tick
  refine ⟨hok.put, ?_, ?_, by rw [List.length_append, List.length_singleton, h.len], fun j q hj hq => ?_, fun j h1 h2 => ?_⟩
  · show s1.tick = ((s1.log.length : Nat) : Int)
    rw [hlog, htick]
    omega
  · show s1.log.length ≤ 5 * (i + 1)
    omega
  · show ∃ t, (s1.begun.set i (some s1.tick))[j]? = some (some t) ∧ _
    by_cases e : j = i
    · rw [e] at hq ⊢
      rw [hp] at hq
      cases hq
      refine ⟨s1.tick, ?_, ?_⟩
      · rw [List.getElem?_set_self (by rw [hok.b]; exact hi)]
      · rw [List.getElem?_append_right (by rw [h.len]; exact Nat.le_refl _), h.len, Nat.sub_self] <;> rfl
    · obtain ⟨t, a, b⟩ := h.done j q (by omega) hq
      refine ⟨t, ?_, ?_⟩
      · rw [List.getElem?_set_ne (fun z => e z.symm), hb]
        exact a
      · rw [List.getElem?_append_left (by rw [h.len]; omega)]
        exact b
  · show (s1.begun.set i (some s1.tick))[j]? = some none
    rw [List.getElem?_set_ne (by omega), hb]
    exact h.todo j (by omega) h2
theorem beg_all {g : Grp} (hg : GrpOk g) {s : LSt} {os : List Int} (h : Beg g g.length s os) : AllB g os s ∧ OffOk g os := by
  refine ⟨⟨h.ok, h.len, fun i p hp => h.done i p (List.getElem?_eq_some_iff.mp hp).1 hp⟩, h.len, fun i o p ho hp => ?_⟩
  obtain ⟨t, _, b⟩ := h.done i p (List.getElem?_eq_some_iff.mp hp).1 hp
  rw [ho] at b
  cases b
  have hpos := (hg.at_ hp).pos
  exact ⟨Int.emod_nonneg _ (by omega), Int.emod_lt_of_pos _ hpos⟩
section
variable {P : Program} {w : World} {K : PySem.W.Frag} {mg : Str → Option Value} {base : Heap} {C : Addr}
abbrev Plain2 (K : PySem.W.Frag) (C : Addr) : Prop := C = He.ga K "Line" ∨ C = He.ga K "Logged"
theorem plain_cls (T : Txt K mg) (h : Plain2 K C) : LCls K C ∧ C8.Met P w K mg base 1 C "ended" (spEnd K false) [] := by
  rcases h with rfl | rfl
  · exact ⟨lcl_Line T, (ended_ok T).met T.cl_Line T.me_Line_ended⟩
  · exact ⟨lcl_Logged T, (ended_ok T).met T.cl_Logged T.me_Logged_ended⟩
theorem box_ne_pen {H : Hp} {p x : Addr} {g : Grp} {s : LSt} {n : Nat} (hp : PenV H p) (hb : BoxV K C H x g s n) : x ≠ p := fun z => by
  obtain ⟨a, b, c, q, _⟩ := hp
  obtain ⟨dx, _, _, _, _, r, _⟩ := hb
  rw [z, q] at r
  cases r
theorem BoxV.ex {H : Hp} {x : Addr} {g : Grp} {s : LSt} {n : Nat} (h : BoxV K C H x g s n) : ∃ dx fs, H x = some (.ins C dx fs) ∧ (∀ m : Str, m ≠ "patterns" → m ≠ "state" → m ≠ "past" → fs.lookup m = none) := by
  obtain ⟨dx, p, v, q, ps, r, _⟩ := h
  refine ⟨dx, _, r, fun m h1 h2 h3 => ?_⟩
  rw [List.lookup_cons, beq_eq_false_iff_ne.mpr h1, List.lookup_cons, beq_eq_false_iff_ne.mpr h2, List.lookup_cons, beq_eq_false_iff_ne.mpr h3] <;> rfl
def spBegun (K : PySem.W.Frag) : Sp := fun vs H Q _ => ∃ (p x C : Addr) (v : V) (g : Grp), vs = [.ref p, .ref x, v] ∧ Plain2 K C ∧ PenV H p ∧ BoxV K C H x g (initS g.length) 0 ∧ GrV K H v g ∧ GrpOk g ∧
  ∀ H' v' os s m, Stp [p, x] H H' → PenV H' p → BoxV K C H' x g s m → AllB g os s → OffOk g os → s.log.length ≤ 20 → s.tick = ((s.log.length : Nat) : Int) → m ≤ 8 → IV K H' v' os → Q v' H'
theorem sc_law_begun : FnScope ["_law_pen_here", "_law_box_here", "_law_team", "_law_found", "_law_who", "_law_one"] ["_law_pen_here", "_law_box_here", "_law_team"] (defScope d_law_begun) := ⟨rfl, rfl, rfl, by decide +kernel, rfl, by decide +kernel, by decide +kernel⟩
theorem law_begun_ok (T : Txt K mg) : C8.Cal P w K mg base 5 "_law_begun" (spBegun K) [] := by
  refine cal T.f_d_law_begun T.g_law_begun sc_law_begun (fun _ _ _ _ _ _ us hl => match us, hl with | [_, _, _], _ => rfl) (fun vs H Q E h => ?_) (fun cdv A outer s H vs Q E hr h => ?_)
  · obtain ⟨p, x, C, v, g, rfl, _⟩ := h
    rfl
  · obtain ⟨p, x, C, v, g, rfl, hC, hp, hb, ⟨gvs, ⟨a, rfl, ha⟩, hpt⟩, hg, q⟩ := h
    obtain ⟨L, hE⟩ := plain_cls (P := P) (w := w) (base := base) T hC
    have hlen := pairedP_len hpt
    have h4 := hg.hi
    have nxp := box_ne_pen hp hb
    have mp : p ∉ [x] := fun z => nxp (List.mem_singleton.mp z).symm
    have mx : x ∉ [p] := fun z => nxp (List.mem_singleton.mp z)
    have sp1 : ∀ z ∈ [p], z ∈ [p, x] := fun z hz => by rw [List.mem_singleton.mp hz]; exact List.mem_cons_self ..
    have sp2 : ∀ z ∈ [x], z ∈ [p, x] := fun z hz => by rw [List.mem_singleton.mp hz]; exact List.mem_cons_of_mem _ (List.mem_cons_self ..)
    refine ⟨_, (pss_cons (ps_set (i := 3) sc_law_begun.nd rfl (Or.inl rfl) (pe_lst pa_nil))
 (pss_cons (ps_for PassesOwn.never rfl (pi_enumK K rfl (by rfl) T.b_enumerate (pa_cons (pv 2) pa_nil)) (by exact pg_2 (i := 4) (j := 5) K rfl rfl sc_law_begun.nd rfl rfl (Or.inl rfl) (Or.inl rfl) (by first | exact .inl rfl | exact .inr rfl) (by first | exact .inl rfl | exact .inr rfl)) (pss_cons (ps_expr (C8.pe_mt ((run_ok T L hE).met L.cl L.run) hr (by decide) (pv 1) (pa_cons (pe_op op_add pe_int (C8.pe_c (law_draw_ok T) hr (by decide) rfl (pa_cons (pv 0) (pa_cons pe_int pa_nil)))) pa_nil)))
 (pss_cons (ps_expr (C8.pe_mt ((start_ok T L).met L.cl L.start) hr (by decide) (pv 1) (pa_cons (pv 4) pa_nil)))
 (pss_one (ps_expr (pe_bmK K rfl PySem.F.plainAttrs_list PySem.F.slot_list_append PySem.F.type_list_append mt_append (pv 3) (pa_cons (pe_op op_mod (pe_pr (pv 1) L.cl L.now (now_ok T L) hr (by decide)) (pe_ix (ix_tupK K rfl) (pv 5) pe_int (fun _ _ => rfl))) pa_nil)))))))
 (pss_one (ps_ret (pe_callTy (tuple_K K rfl) (by rfl) T.b_tuple (by decide +kernel) (pa_cons (pv 3) pa_nil)))))), ?_⟩
    refine ⟨by show 0 ≤ sizeLine; exact Nat.zero_le _, fun F hF => ?_⟩
    have e0 := Same.new (o := .lst []) hF
    have nF : F ∉ [p, x] := fun z => by
      rcases List.mem_cons.mp z with z | z
      · rw [z] at hF
        exact hp.ne hF
      · obtain ⟨dx, fs, hx, _⟩ := hb.ex
        rw [List.mem_singleton.mp z, hx] at hF
        cases hF
    refine ⟨_, rfl, a, _, rfl, e0.t ha, for_it walk_enumT (fun i σ H' => Stp [p, x] H H' ∧ PenV H' p ∧ ∃ os s y1 y2, BoxV K C H' x g s (2 * i) ∧ Beg g i s os ∧ H' F = some (.lst (os.map V.int)) ∧ σ = [some (.ref p), some (.ref x), some (.ref a), some (.ref F), y1, y2])
      ⟨e0.stp, hp.m e0, [], _, none, none, hb.m e0, beg_zero g, upd_same, rfl⟩ (fun i σ H' _ ⟨e, _⟩ => e.t ha) ?_ ?_⟩
    · rintro i y σ H1 H2 hi ⟨e1, hp1, os, s1, y1, y2, hb1, hB, hF1, rfl⟩ ⟨Tt, u1, u2, rfl, hTt, rfl, g1, g2⟩
      cases g1
      obtain ⟨pt, hpi, pv⟩ := pairedP_to hpt g2
      have eT := Same.new (o := .tup [V.int (i : Nat), u2]) hTt
      refine ⟨Tt, _, rfl, SqT.of upd_same, rfl, _, _, rfl, _, _, rfl, rfl, ?_⟩
      have hbT := hb1.m eT
      obtain ⟨dx, fs, hx, hno⟩ := hbT.ex
      refine ⟨_, rfl, x, dx, fs, rfl, hx, hno _ (by decide) (by decide) (by decide), ?_⟩
      refine ⟨_, rfl, p, 5, rfl, hp1.m eT, by decide, by decide, fun H3 k e3 hp3 k0 k1 => ?_⟩
      have hb3 := hbT.s e3 mx
      obtain ⟨kn, rfl⟩ : ∃ kn : Nat, k = ((kn : Nat) : Int) := ⟨k.toNat, (Int.toNat_of_nonneg k0).symm⟩
      have hlg := hB.lg
      refine ⟨_, _, rfl, rfl, x, g, s1, 2 * i, 1 + kn, (by rw [Int.natCast_add]; rfl), by omega, by omega, hb3, hg, hB.ok, by omega, by omega, fun H4 v4 e4 hb4 hv4 => ?_⟩
      have hp4 := hp3.s e4 mp
      obtain ⟨dx4, fs4, hx4, hno4⟩ := hb4.ex
      have hst := beg_step (d := 1 + kn) hB hpi (by omega)
      have htodo : (runS false g (1 + kn) s1).begun[i]? = some none := by
        rw [runS_begun]
        exact hB.todo i (Nat.le_refl _) (List.getElem?_eq_some_iff.mp hpi).1
      refine ⟨_, rfl, x, dx4, fs4, rfl, hx4, hno4 _ (by decide) (by decide) (by decide), ?_⟩
      refine ⟨_, rfl, x, g, _, 2 * i + 1, i, rfl, hb4, hg, runS_ok hB.ok _, htodo, by omega, fun H5 e5 hb5 => ?_⟩
      have hp5 := hp4.s e5 mp
      obtain ⟨dx5, fs5, hx5, hno5⟩ := hb5.ex
      have e15 : Stp [p, x] H1 H5 := (eT.stp.trans (e3.mono sp1)).trans ((e4.trans e5).mono sp2)
      have hF5 := e15.kp _ _ hF1 nF
      obtain ⟨sv, ⟨c, rfl, hc⟩, _⟩ := (pv.s e1).s e15
      have hpos := (hg.at_ hpi).pos
      refine ⟨_, rfl, .inl ⟨rfl, _, SqL.of hF5⟩, _, rfl, x, dx5, fs5, rfl, hx5, x, g, _, _, rfl, hb5, ?_⟩
      refine ⟨_, rfl, c, _, _, _, rfl, rfl, hc, rfl, _, _, rfl, rfl, hpos, ?_⟩
      refine ⟨F, _, _, rfl, rfl, hF5, ?_, ?_⟩
      · rw [List.length_map, hB.len, sizeLine_eq]
        omega
      · have eF := Stp.upd (S := [F]) (o := .lst (os.map V.int ++ [V.int ((putB (runS false g (1 + kn) s1) i (some (runS false g (1 + kn) s1).tick)).tick % pt.per)])) hF5 rfl (List.mem_singleton.mpr rfl)
        have npF : p ∉ [F] := fun z => nF (by rw [← List.mem_singleton.mp z]; exact List.mem_cons_self ..)
        have nxF : x ∉ [F] := fun z => nF (by rw [← List.mem_singleton.mp z]; exact List.mem_cons_of_mem _ (List.mem_cons_self ..))
        refine ⟨(e1.trans e15).own hF eF, hp5.s eF npF, os ++ [(runS false g (1 + kn) s1).tick % pt.per], _, _, _, hb5.s eF nxF, hst, ?_, rfl⟩
        rw [upd_same, List.map_append] <;> rfl
    · rintro σ H1 ⟨e1, hp1, os, s1, y1, y2, hb1, hB, hF1, rfl⟩
      rw [hlen] at hb1 hB
      obtain ⟨hA, hO⟩ := beg_all hg hB
      have hlg := hB.lg
      refine ⟨_, rfl, F, _, rfl, .inl ⟨SqL.of hF1, fun t ht => ?_⟩⟩
      have et := Same.new (o := .tup (os.map V.int)) ht
      exact q _ _ os s1 _ (e1.trans et.stp) (hp1.m et) (hb1.m et) hA hO (by omega) hB.tick (by omega) ⟨t, rfl, SqT.of upd_same⟩
end
end A72

set_option Elab.async false
set_option linter.all false
set_option maxRecDepth 100000
set_option maxHeartbeats 4000000
/-! the law's heard_right -/
namespace A72
open PySem PySem.Spec PyProof.Rows L2
theorem At.fnR {P : Program} {w : World} {K : PySem.W.Frag} {mg : Str → Option Value} {base : Heap} {k : Nat} {f : Addr} {ps : List Str} {sp : Sp} (A : At P w K mg base k f ps sp) : FnR P w K mg base C8.CX0 k f sp := fun A' outer s H us vs Q E hr e0 r h => by
  obtain ⟨fd, F, hb⟩ := A.ex
  have hl : us.length = ps.length := by rw [← r.length, F.len _ _ _ _ h]
  have kI : K.In s.heap := e0.mod.kin.keeps fun b o e => (e0.bs b o e).1
  have hbind := hb s us kI (by rw [List.append_nil]; exact hl)
  rw [List.append_nil] at hbind
  exact F.run A' outer s H ⟨us, []⟩ us vs Q E hr e0 hbind r h
/-- o(e, ..), o an instance of C that may be called -/
def tCallI (C : Addr) (sp : Sp) (tf : TE) (t : TA) : TE := fun σ H Q => tf σ H fun y H1 => ∃ a, y = V.ref a ∧ t σ H1 fun vs H2 => (∃ dx fs, H2 a = some (.ins C dx fs)) ∧ sp (V.ref a :: vs) H2 Q C8.E0
section
variable {X : Cx} {k : Nat} {C g : Addr} {sp : Sp} {e fe : Expr} {es : List Expr} {tf : TE} {t : TA} {pos : Pos}
theorem pe_callI (hf : PE X fe tf) (c : StX.CallO X.K C g) (F : FnR X.prog X.w X.K X.mg X.base C8.CX0 k g sp) (hr : Room k X.A) (ha : PA X (e :: es) t)
    (tree : eval (.Call fe (e :: es) [] pos) X.env = (do callWith pos (← eval fe X.env) [] (backTo pos (starEach (e :: es) X.env)) (backToKw pos (keywordEach [] X.env))) := by rfl)
    (one : starEach (e :: es) X.env = (false, eval e X.env) :: starEach es X.env := by rfl) (plain : (backTo pos (starEach es X.env)).any (·.1) = false := by rfl) : PE X (.Call fe (e :: es) [] pos) (tCallI C sp tf t) := by
  refine ⟨fun pn s σ H Q iv told => Call_ (thn (hf.run pn s σ H _ iv told) fun u s1 ⟨y, H1, iv1, ry, a, ey, rest⟩ => ?_) tree⟩
  subst ey
  cases (show u = Value.ref a from ry)
  refine StX.callO_with (thn (ha.run pos pn s1 σ H1 _ iv1 rest) fun us s2 ⟨vs, H2, iv2, rv, isC, rest2⟩ => ?_) one plain
  have isC2 : StX.InsC X H2 a C := .inr isC
  obtain ⟨ox, od, J, hd⟩ := StX.insC_at iv2 isC2
  exact ⟨⟨C, ox, od, J, hd⟩, StX.run_callO c F hr C8.pass0 iv2 isC2 rv rest2⟩
end
section
variable {P : Program} {w : World} {K : PySem.W.Frag} {mg : Str → Option Value} {base : Heap} {C : Addr}
def spHR (K : PySem.W.Frag) : Sp := fun vs H Q _ => ∃ (p x C : Addr) (v : V) (g : Grp), vs = [.ref p, .ref x, v] ∧ Plain2 K C ∧ PenV H p ∧ BoxV K C H x g (initS g.length) 0 ∧ GrV K H v g ∧ GrpOk g ∧ SmallG g ∧
  ∀ H', Stp [p, x] H H' → PenV H' p → Q (.bl true) H'
theorem sc_law_heard_right : FnScope ["_law_pen_here", "_law_box_here", "_law_team", "_law_begins", "_law_row", "_law_many_ticks", "_law_passed", "_law_crashes", "_law_begin", "_law_told", "_law_some", "_law_more", "_law_who", "_law_most", "_law_one", "_law_two"] ["_law_pen_here", "_law_box_here", "_law_team"] (defScope d_law_heard_right) := ⟨rfl, rfl, rfl, by decide +kernel, rfl, by decide +kernel, by decide +kernel⟩
theorem law_heard_right_ok (T : Txt K mg) : C8.Cal P w K mg base 9 "_law_heard_right" (spHR K) [] := by
  refine cal T.f_d_law_heard_right T.g_law_heard_right sc_law_heard_right (fun _ _ _ _ _ _ us hl => match us, hl with | [_, _, _], _ => rfl) (fun vs H Q E h => ?_) (fun cdv A outer s H vs Q E hr h => ?_)
  · obtain ⟨p, x, C, v, g, rfl, _⟩ := h
    rfl
  · obtain ⟨p, x, C, v, g, rfl, hC, hp, hb, ⟨gvs, ⟨a, rfl, ha⟩, hpt⟩, hg, hsm, q⟩ := h
    obtain ⟨L, hE⟩ := plain_cls (P := P) (w := w) (base := base) T hC
    have hu := hr.units
    have hlen := pairedP_len hpt
    have h4 := hg.hi
    have nxp := box_ne_pen hp hb
    obtain ⟨hfew, hs100⟩ := small_few hg hsm
    have hspos := span_pos hg
    have mp : p ∉ [x] := fun z => nxp (List.mem_singleton.mp z).symm
    have mx : x ∉ [p] := fun z => nxp (List.mem_singleton.mp z)
    have sp2 : ∀ z ∈ [x], z ∈ [p, x] := fun z hz => by rw [List.mem_singleton.mp hz]; exact List.mem_cons_of_mem _ (List.mem_cons_self ..)
    have hv : GrV K H (.ref a) g := ⟨gvs, ⟨a, rfl, ha⟩, hpt⟩
    refine ⟨_, (pss_cons (ps_set (i := 3) sc_law_heard_right.nd rfl (Or.inl rfl) (C8.pe_c (law_begun_ok T) hr (by decide) rfl (pa_cons (pv 0) (pa_cons (pv 1) (pa_cons (pv 2) pa_nil)))))
 (pss_cons (ps_asg (pe_tup (pa_cons (C8.pe_c (heard_ok T) hr (by decide) rfl (pa_cons (pv 2) (pa_cons (pv 3) pa_nil))) (pa_cons (C8.pe_c (span_ok T) hr (by decide) rfl (pa_cons (pv 2) pa_nil)) (pa_cons (pe_pr (pv 1) L.cl L.through (through_ok T L) hr (by decide)) (pa_cons (pe_pr (pv 1) L.cl L.collisions (collisions_ok T L) hr (by decide)) pa_nil))))) (pg_tupK K rfl rfl (pgs_cons (pg_name (i := 4) sc_law_heard_right.nd rfl (Or.inl rfl)) (pgs_cons (pg_name (i := 5) sc_law_heard_right.nd rfl (Or.inl rfl)) (pgs_cons (pg_name (i := 6) sc_law_heard_right.nd rfl (Or.inl rfl)) (pgs_cons (pg_name (i := 7) sc_law_heard_right.nd rfl (Or.inl rfl)) pgs_nil))))))
 (pss_cons (ps_set (i := 8) sc_law_heard_right.nd rfl (Or.inl rfl) (pe_op op_mod (pe_pr (pv 1) L.cl L.now (now_ok T L) hr (by decide)) (pv 5)))
 (pss_cons (ps_set (i := 9) sc_law_heard_right.nd rfl (Or.inl rfl) (C8.pe_mt ((run_ok T L hE).met L.cl L.run) hr (by decide) (pv 1) (pa_cons (pv 5) pa_nil)))
 (pss_cons (ps_if (pt_cmpR (neT_K K rfl hu) (pv 9) (pe_op (cat_K K rfl) (pe_slice (sl_tupK K rfl) (pv 4) (po_some (pv 8)) po_none) (pe_slice (sl_tupK K rfl) (pv 4) po_none (po_some (pv 8)))) (nomark _)) (pss_one (ps_ret pe_bl)) pss_nil)
 (pss_cons (ps_par (i := 10) (j := 11) rfl sc_law_heard_right.nd rfl rfl (by decide) rfl rfl (pa_cons (C8.pe_c (counts_ok T) hr (by decide) rfl (pa_cons (pv 2) (pa_cons (pv 3) pa_nil))) (pa_cons (pe_lc (own := [("_law_one", 14), ("_law_two", 15)]) (g := gTup K 2 (gCons (gName 14) (gCons (gName 15) gNil))) (by rfl) sc_law_heard_right.nd (pi_zipK K rfl (by rfl) T.b_zip (pa_cons (pe_pr (pv 1) L.cl L.through (through_ok T L) hr (by decide)) (pa_cons (pv 6) pa_nil))) (blkOk_by (N := ["_law_pen_here", "_law_box_here", "_law_team", "_law_begins", "_law_row", "_law_many_ticks", "_law_passed", "_law_crashes", "_law_begin", "_law_told", "_law_some", "_law_more", "_law_who", "_law_most", "_law_one", "_law_two"]) (sc := defScope d_law_heard_right) (by decide +kernel)) (fun _ _ _ _ _ => (by exact pg_2 (i := 14) (j := 15) K rfl rfl sc_law_heard_right.nd rfl rfl (Or.inl rfl) (Or.inl rfl) (by first | exact .inl rfl | exact .inr rfl) (by first | exact .inl rfl | exact .inr rfl))) (fun _ _ _ _ _ => pts_nil) (fun _ _ _ _ _ => (pe_op op_sub (pv 14) (pv 15)))) pa_nil)) (by rfl))
 (pss_cons (ps_if (PW.pt (pw_or (pt_cmpR (neL_K K rfl hu) (pv 11) (pe_callTy (list_K K rfl) (by rfl) T.b_list (by decide +kernel) (pa_cons (pe_slice (sl_tupK K rfl) (pv 10) (po_some pe_int) (po_some (pe_un un_neg pe_int))) pa_nil)) (nomark _)) (pw_or1 (pt_cmpR op_ne (pe_op op_sub (pe_pr (pv 1) L.cl L.collisions (collisions_ok T L) hr (by decide)) (pv 7)) (pe_ix (ix_tupK K rfl) (pv 10) (pe_un un_neg pe_int) (fun _ _ => rfl)) (nomark _))))) (pss_one (ps_ret pe_bl)) pss_nil)
 (pss_cons (ps_for PassesOwn.never rfl (pi_range1 rfl T.b_range (pa_cons (pe_callB (len_K K rfl) (by rfl) T.b_len PySem.boot_len (pa_cons (pv 2) pa_nil)) pa_nil)) (pg_name (i := 12) sc_law_heard_right.nd rfl (Or.inl rfl)) (pss_cons (ps_set (i := 13) sc_law_heard_right.nd rfl (Or.inl rfl) (pe_ix (ix_tupK K rfl) (C8.pe_c (longest_wait_ok T) hr (by decide) rfl (pa_cons (pv 2) (pa_cons (pv 12) pa_nil))) pe_int (fun _ _ => rfl)))
 (pss_one (ps_if (PW.pt (pw_and (pt_cmpR op_notN (pv 13) pe_non (nomark _)) (pw_and (pt_cmpR op_lt (pv 13) pe_int (nomark _)) (pw_and1 (pt_cmpR (notin_K K rfl) (pv 12) (C8.pe_mt ((run_ok T L hE).met L.cl L.run) hr (by decide) (pv 1) (pa_cons (pe_op op_add (pv 13) pe_int) pa_nil)) (by rfl)))))) (pss_one (ps_ret pe_bl)) pss_nil))))
 (pss_one (ps_ret (pe_and (pe_cmpR (eqT_K K rfl hu) (pe_pr (pv 1) L.cl L.active (active_ok T L) hr (by decide)) (pe_tupRg rfl (by rfl) T.b_tuple (prg_1 (by rfl) T.b_range (pe_callB (len_K K rfl) (by rfl) T.b_len PySem.boot_len (pa_cons (pv 2) pa_nil)))) (nomark _)) (pe_one (pe_cmpR (eqL_K K rfl hu) (pe_lc (own := [("_law_who", 12)]) (g := gName 12) (by rfl) sc_law_heard_right.nd (pi_tupK K rfl (pe_pr (pv 1) L.cl L.active (active_ok T L) hr (by decide))) (blkOk_by (N := ["_law_pen_here", "_law_box_here", "_law_team", "_law_begins", "_law_row", "_law_many_ticks", "_law_passed", "_law_crashes", "_law_begin", "_law_told", "_law_some", "_law_more", "_law_who", "_law_most", "_law_one", "_law_two"]) (sc := defScope d_law_heard_right) (by decide +kernel)) (fun _ _ _ _ _ => (pg_name (i := 12) sc_law_heard_right.nd rfl (Or.inl rfl))) (fun _ _ _ _ _ => pts_one (pt_cmpR op_ge (pe_callI (pv 1) ⟨L.call_.at_, L.call_.fn, T.fn_call⟩ (At.fnR (call_ok T L)) (hr.mono (by decide)) (pa_cons (pv 12) pa_nil)) (pe_ix (ix_tupK K rfl) (pe_ix (ix_tupK K rfl) (pv 2) (pv 12) (fun _ _ => rfl)) pe_int (fun _ _ => rfl)) (nomark _))) (fun _ _ _ _ _ => pe_int)) (pe_lst pa_nil) (nomark _)))))))))))))), ?_⟩
    refine ⟨_, rfl, _, rfl, _, rfl, p, x, C, .ref a, g, rfl, hC, hp, hb, hv, hg, fun H1 bv os s1 m1 e1 hp1 hb1 hA hO hlg htk hm1 hbv => ?_⟩
    have hv1 := hv.s e1
    have hs420 := hfew.span
    refine ⟨_, rfl, _, rfl, .ref a, bv, g, os, rfl, hv1, hbv, hg, hO, hs420, fun H2 rowv e2 hrow => ?_⟩
    refine ⟨_, rfl, .ref a, g, rfl, hv1.m e2, hg, fun H3 e3 => ?_⟩
    have e23 := e2.trans e3
    have hb3 := hb1.m e23
    obtain ⟨dx, fs, hx3, hno⟩ := hb3.ex
    refine ⟨_, rfl, x, dx, fs, rfl, hx3, x, g, s1, m1, rfl, hb3, fun thv hthv => ?_⟩
    refine ⟨_, rfl, x, dx, fs, rfl, hx3, x, g, s1, m1, rfl, hb3, ?_⟩
    refine ⟨by show 4 ≤ sizeLine; rw [sizeLine_eq]; decide, fun t4 ht4 => ?_⟩
    have e4 := Same.new (o := .tup [rowv, V.int (spanN g : Nat), thv, V.int s1.coll]) ht4
    refine ⟨t4, _, rfl, SqT.of upd_same, rfl, _, _, rfl, _, _, rfl, _, _, rfl, _, _, rfl, rfl, ?_⟩
    have hb4 := hb3.m e4
    obtain ⟨dx4, fs4, hx4, hno4⟩ := hb4.ex
    have hT0 : 0 ≤ s1.tick % ((spanN g : Nat) : Int) := Int.emod_nonneg _ (by omega)
    have hT1 : s1.tick % ((spanN g : Nat) : Int) < ((spanN g : Nat) : Int) := Int.emod_lt_of_pos _ (by omega)
    obtain ⟨b, hbeg⟩ : ∃ b : Nat, s1.tick % ((spanN g : Nat) : Int) = ((b : Nat) : Int) := ⟨_, (Int.toNat_of_nonneg hT0).symm⟩
    refine ⟨_, rfl, x, dx4, fs4, rfl, hx4, x, g, s1, m1, rfl, hb4, _, rfl, _, _, rfl, rfl, (by omega : (0 : Int) < ((spanN g : Nat) : Int)), ?_⟩
    refine ⟨_, rfl, x, dx4, fs4, rfl, hx4, hno4 _ (by decide) (by decide) (by decide), _, rfl, x, g, s1, m1, spanN g, rfl, hspos, by omega, hb4, hg, hA.ok, by omega, by omega, fun H5 tv e5 hb5 htv => ?_⟩
    rw [told_all hA] at htv
    have hR := run_all hA (spanN g)
    have hrow5 : IV K H5 rowv (heardRow g os) := TV.s (TV.m (TV.m hrow e3) e4) e5
    obtain ⟨ra, rfl, hra⟩ := hrow5
    have hrl := heardRow_len g os
    refine ⟨_, rfl, _, rfl, _, rfl, _, rfl, ra, _, rfl, hra, fun b6 H6 e6 hb6 => ?_⟩
    have hc6 : cutV ((heardRow g os).map V.int) (some (s1.tick % ((spanN g : Nat) : Int))) none = ((heardRow g os).drop b).map V.int := by
      rw [hbeg, cut_drop (by rw [List.length_map]; omega), List.map_drop]
    rw [hc6] at hb6
    refine ⟨_, rfl, _, rfl, _, rfl, ra, _, rfl, e6.t hra, fun b7 H7 e7 hb7 => ?_⟩
    have hc7 : cutV ((heardRow g os).map V.int) none (some (s1.tick % ((spanN g : Nat) : Int))) = ((heardRow g os).take b).map V.int := by
      rw [hbeg, cut_take (by rw [List.length_map]; omega), List.map_take]
    rw [hc7] at hb7
    refine ⟨b6, b7, _, _, rfl, rfl, e7.t hb6, hb7, ?_, fun c8 H8 e8 hc8 => ?_⟩
    · rw [List.length_map, List.length_map, List.length_drop, List.length_take, sizeLine_eq]
      omega
    rw [← List.map_append] at hc8
    have e58 := (e6.trans e7).trans e8
    refine ⟨tel g os s1.tick (spanN g), (heardRow g os).drop b ++ (heardRow g os).take b, TV.m htv e58, ⟨c8, rfl, hc8⟩, false, ?_, ?_⟩
    · rw [decide_eq_true (tel_rot hg hbeg)] <;> rfl
    have e18 : Stp [x] H1 H8 := ((e23.trans e4).stp.trans e5).trans e58.stp
    have hv8 := hv1.s e18
    have hbv8 := TV.s hbv e18
    have hb8 := hb5.m e58
    obtain ⟨dx8, fs8, hx8, hno8⟩ := hb8.ex
    have hthv8 : IV K H8 thv s1.thr := TV.m (TV.s (TV.m hthv e4) e5) e58
    refine ⟨_, rfl, _, rfl, .ref a, bv, g, os, rfl, hv8, hbv8, hg, hO, hs420, fun H9 some_ e9 hsome => ?_⟩
    have hb9 := hb8.m e9
    obtain ⟨dx9, fs9, hx9, hno9⟩ := hb9.ex
    refine ⟨_, rfl, x, dx9, fs9, rfl, hx9, x, g, _, _, rfl, hb9, fun tnv htnv => ?_⟩
    obtain ⟨ta, rfl, hta⟩ := htnv
    obtain ⟨tb, rfl, htb⟩ := TV.m hthv8 e9
    have hz1 := hA.ok.t
    have hz2 := hR.all.ok.t
    refine ⟨_, rfl, ta, tb, _, _, rfl, .inr ⟨hta, htb, fun D hD => lcs (walk_zipT (n := ((runS false g (spanN g) s1).thr.zip s1.thr).length) (by simp)) ypair_same hD (fun H e => ⟨e.t hta, e.t htb⟩) (fun j H acc => Made V.int (((runS false g (spanN g) s1).thr.zip s1.thr).map fun p => p.1 - p.2) j acc) Made.zero (fun _ _ _ _ _ _ r => r) (fun _ _ _ r => r.len) (by rw [List.length_zip]; omega) ?_ ?_⟩⟩
    · intro j y H10 H11 acc Ky Kn hj e10 r yy ky kn
      obtain ⟨Sx, x1, x2, rfl, hSx, rfl, g1, g2⟩ := yy
      obtain ⟨n1, h1, rfl⟩ := ints_at g1
      obtain ⟨n2, h2, rfl⟩ := ints_at g2
      refine ⟨Sx, _, rfl, SqT.of upd_same, rfl, _, _, rfl, _, _, rfl, rfl, rfl, ?_⟩
      refine ⟨_, rfl, _, rfl, _, _, rfl, rfl, ky _ _ (Same.refl _) (r.succ ?_)⟩
      rw [List.getElem?_map, zip_at h1 h2] <;> rfl
    intro H10 acc e10 hl10 r
    have ea := r.all (by rw [List.length_map])
    rw [more_eq hg hR hz1] at ea
    have e810 := e9.trans e10
    obtain ⟨sa, rfl, hsa⟩ := hsome
    have hsa10 := e10.t hsa
    rw [cntL_eq] at hsa10
    have hb10 := hb9.m e10
    obtain ⟨dx10, fs10, hx10, hno10⟩ := hb10.ex
    refine ⟨_, _, rfl, ?_⟩
    refine ⟨_, rfl, _, rfl, _, rfl, _, rfl, _, rfl, sa, _, rfl, hsa10, fun c11 H11 e11 hc11 => ?_⟩
    rw [cut_mid] at hc11
    refine ⟨c11, _, rfl, .inr hc11, fun l12 hl12 => ?_⟩
    have e12 := e11.trans (Same.new (o := .lst ((midN (heardRow g os) g.length).map V.int)) hl12)
    have hD12 := e12 _ _ hl10
    refine ⟨midN (heardRow g os) g.length, midN (heardRow g os) g.length, ⟨D, rfl, SqL.of (by rw [hD12, ea])⟩, ⟨l12, rfl, SqL.of upd_same⟩, false, by rw [decide_eq_true rfl]; rfl, ?_⟩
    have hb12 := hb10.m e12
    have hsa12 := e12.t hsa10
    obtain ⟨dx12, fs12, hx12, hno12⟩ := hb12.ex
    refine ⟨_, rfl, x, dx12, fs12, rfl, hx12, x, g, _, _, rfl, hb12, _, rfl, _, _, rfl, rfl, _, rfl, _, rfl, sa, _, _, _, rfl, rfl, hsa12, atI_last (xs := V.int (cnt (heardRow g os) (-1)) :: (midN (heardRow g os) g.length).map V.int), rfl, false, congrArg V.bl ?_, ?_⟩
    · rw [dec_int, coll_eq hg hR, beq_self_eq_true] <;> rfl
    generalize hH12 : upd H11 l12 (.lst ((midN (heardRow g os) g.length).map V.int)) = H12 at *
    have e112 : Stp [x] H1 H12 := e18.trans (e810.trans e12).stp
    have e012 : Stp [p, x] H H12 := e1.trans (e112.mono sp2)
    have hp12 := hp1.s e112 mp
    generalize hs2 : runS false g (spanN g) s1 = s2 at *
    have hlog2 : s2.log.length = s1.log.length + spanN g := by
      rw [← hs2]
      exact runS_log _
    refine ⟨_, rfl, a, _, rfl, .inr (e012.t ha), _, rfl, by omega, by omega, for_it (walk_r0 (n := ((gvs.length : Nat) : Int).toNat)) (fun i σ H' => Stp [p, x] H H' ∧ PenV H' p ∧ ∃ s3 m3 y12 y13, BoxV K C H' x g s3 m3 ∧ AllB g os s3 ∧ m3 ≤ 20 + i ∧ s3.log.length ≤ 120 + 200 * i ∧
      σ = [some (.ref p), some (.ref x), some (.ref a), some bv, some (.ref ra), some (.int (spanN g : Nat)), some (.ref tb), some (.int s1.coll), some (.int (s1.tick % ((spanN g : Nat) : Int))), some tv, some (.ref sa), some (.ref D), y12, y13, none, none])
      ⟨e012, hp12, s2, _, none, none, hb12, hR.all, by omega, by omega, rfl⟩ (fun _ _ _ _ _ => trivial) ?_ ?_⟩
    · rintro i y σ H13 H13' hi ⟨e13, hp13, s3, m3, y12, y13, hb13, hA3, hm3, hl3, rfl⟩ ⟨rfl, rfl⟩
      have hi' : i < g.length := by omega
      refine ⟨_, rfl, _, rfl, .ref a, g, i, rfl, hv.s e13, hfew, hi', fun H14 z1 z2 e14 hz => ?_, fun H14 z1 z2 m e14 hz hpos hub hex => ?_⟩
      · obtain ⟨c, rfl, hc⟩ := hz
        refine ⟨c, _, _, _, rfl, rfl, hc, rfl, ?_⟩
        refine ⟨_, rfl, rfl, false, rfl, ?_⟩
        exact ⟨e13.trans e14.stp, hp13.m e14, s3, m3, _, _, hb13.m e14, hA3, by omega, by omega, rfl⟩
      · obtain ⟨c, rfl, hc⟩ := hz
        refine ⟨c, _, _, _, rfl, rfl, hc, rfl, ?_⟩
        refine ⟨_, rfl, rfl, true, rfl, ?_⟩
        have hm0 : 0 ≤ m := by
          obtain ⟨cl, hcl, em⟩ := hex
          rw [em]
          exact (wait_ok hg (ticksN_ne (hpos cl hcl))).1
        refine ⟨_, rfl, _, _, rfl, rfl, decide (m < 200), rfl, ?_⟩
        cases h200 : decide (m < 200) with
        | false => exact ⟨e13.trans e14.stp, hp13.m e14, s3, m3, _, _, hb13.m e14, hA3, by omega, by omega, rfl⟩
        | true =>
          have hm200 := of_decide_eq_true h200
          have hb14 := hb13.m e14
          obtain ⟨dx14, fs14, hx14, hno14⟩ := hb14.ex
          obtain ⟨mn, hmn⟩ : ∃ mn : Nat, m = ((mn : Nat) : Int) := ⟨_, (Int.toNat_of_nonneg hm0).symm⟩
          refine ⟨_, rfl, _, rfl, x, dx14, fs14, rfl, hx14, hno14 _ (by decide) (by decide) (by decide), _, rfl, _, _, rfl, rfl, x, g, s3, m3, mn + 1, (by rw [hmn]; rfl), by omega, by omega, hb14, hg, hA3.ok, by omega, by omega, fun H15 v15 e15 hb15 hv15 => ?_⟩
          rw [told_all hA3] at hv15
          obtain ⟨c15, rfl, hc15⟩ := hv15
          refine ⟨c15, _, rfl, .inr hc15, rfl, flat_ints _, false, congrArg V.bl ?_, ?_⟩
          · obtain ⟨j, j0, j1, jw⟩ := heard_within hg hO hpos hub s3.tick
            have hmem : ((i : Nat) : Int) ∈ tel g os s3.tick (mn + 1) := mem_tel j0 (by omega) jw
            rw [inV_ints, if_pos rfl, List.contains_iff_mem.mpr hmem] <;> rfl
          · have hR3 := run_all hA3 (mn + 1)
            refine ⟨(e13.trans e14.stp).trans (e15.mono sp2), (hp13.m e14).s e15 mp, _, m3 + 1, _, _, hb15, hR3.all, by omega, ?_, rfl⟩
            have := runS_log (st := false) (g := g) (s := s3) (mn + 1)
            omega
    · rintro σ H13 ⟨e13, hp13, s3, m3, y12, y13, hb13, hA3, hm3, hl3, rfl⟩
      obtain ⟨dx13, fs13, hx13, hno13⟩ := hb13.ex
      have hbl := hA3.ok.b
      refine ⟨_, rfl, x, dx13, fs13, rfl, hx13, x, g, s3, m3, rfl, hb13, by omega, fun H14 av e14 hav => ?_⟩
      have e014 := e13.trans e14.stp
      refine ⟨_, rfl, a, _, rfl, .inr (e014.t ha), _, rfl, ⟨by omega, by omega, by omega, by omega, by omega⟩, fun t15 ht15 => ?_⟩
      have e15 := Same.new (o := .tup (rgV 0 ((gvs.length : Nat) : Int))) ht15
      have hrg : rgV 0 ((gvs.length : Nat) : Int) = ((List.range g.length).map fun i => ((i : Nat) : Int)).map V.int := by
        unfold rgV
        rw [List.map_map, hlen, Int.sub_zero, Int.toNat_natCast]
        refine List.map_congr_left fun i _ => ?_
        show V.int (0 + ((i : Nat) : Int)) = V.int ((i : Nat) : Int)
        rw [Int.zero_add]
      refine ⟨actN s3, _, TV.m hav e15, ⟨t15, rfl, SqT.of (by rw [upd_same, hrg])⟩, true, ?_, ?_⟩
      · rw [decide_eq_true (act_all hA3)]
      have hb15 := (hb13.m e14).m e15
      obtain ⟨dx15, fs15, hx15, hno15⟩ := hb15.ex
      refine ⟨_, rfl, x, dx15, fs15, rfl, hx15, x, g, s3, m3, rfl, hb15, by omega, fun H16 av2 e16 hav2 => ?_⟩
      obtain ⟨c16, rfl, hc16⟩ := hav2
      refine ⟨c16, rfl, ⟨_, hc16⟩, fun D2 hD2 => lcs walk_tup yat_same hD2 (fun H e => e.t hc16) (fun i H acc => acc = []) rfl (fun _ _ _ _ _ _ r => r) (fun _ _ _ r => by rw [r]; exact Nat.zero_le _) ?_ ?_ ?_⟩
      · rw [List.length_map, act_all hA3, List.length_map, List.length_range]
        omega
      · intro i y H17 H18 acc Ky Kn hi e17 r yy ky kn
        obtain ⟨rfl, hy⟩ := yy
        rw [act_all hA3] at hy
        obtain ⟨w1, hw1, rfl⟩ := ints_at hy
        have hig : i < g.length := by
          have z := (List.getElem?_eq_some_iff.mp hw1).1
          rw [List.length_map, List.length_range] at z
          exact z
        rw [List.getElem?_map, List.getElem?_range hig] at hw1
        cases hw1
        obtain ⟨pt, hpi⟩ : ∃ pt, g[i]? = some pt := ⟨_, List.getElem?_eq_getElem hig⟩
        obtain ⟨tb1, hbt, _⟩ := hA3.at_ i pt hpi
        have hb17 := (hb15.m e16).m e17
        obtain ⟨dx17, fs17, hx17, hno17⟩ := hb17.ex
        refine ⟨rfl, _, rfl, x, rfl, _, rfl, ⟨dx17, fs17, hx17⟩, x, g, s3, m3, i, tb1, pt, rfl, hb17, hg, hA3.ok, hbt, hpi, fun H19 mm e19 m0 m1 => ?_⟩
        obtain ⟨vp, hvp, hpv⟩ := pairedP_at hpt hpi
        have e019 := (((e014.trans e15.stp).trans e16.stp).trans e17.stp).trans e19.stp
        obtain ⟨sv, ⟨pa, rfl, hpa⟩, _⟩ := hpv.s e019
        refine ⟨_, rfl, _, rfl, a, _, _, _, rfl, rfl, e019.t ha, atI_nat hvp, pa, _, _, _, rfl, rfl, hpa, rfl, _, _, rfl, rfl, false, congrArg V.bl (decide_eq_false (by omega)), ?_⟩
        exact kn _ e19 r
      · intro H17 acc e17 hl17 r
        subst r
        refine ⟨by show 0 ≤ sizeLine; exact Nat.zero_le _, fun l18 hl18 => ?_⟩
        have e18b := Same.new (o := .lst []) hl18
        refine ⟨[], [], ⟨D2, rfl, SqL.of (e18b _ _ hl17)⟩, ⟨l18, rfl, SqL.of upd_same⟩, ?_⟩
        have eN := (e16.trans e17).trans e18b
        exact q _ ((e014.trans e15.stp).trans eN.stp) (((hp13.m e14).m e15).m eN)
end
end A72

set_option Elab.async false
set_option linter.all false
set_option maxRecDepth 100000
set_option maxHeartbeats 4000000
/-! the law's logged_right -/
namespace A72
open PySem PySem.Spec PyProof.Rows L2
def tOrS (t1 t2 : TS) : TS := fun D σ H => t1 D σ H ∨ t2 D σ H
theorem ps_or {X : Cx} {st : Stmt} {t1 t2 : TS} (a : PS X st t1) (b : PS X st t2) : PS X st (tOrS t1 t2) :=
  ⟨fun pn s σ H D iv told => told.elim (fun z => a.run pn s σ H D iv z) fun z => b.run pn s σ H D iv z⟩
section
variable {P : Program} {w : World} {K : PySem.W.Frag} {mg : Str → Option Value} {base : Heap} {C : Addr}
theorem BoxV.le {H : Hp} {x : Addr} {g : Grp} {s : LSt} {n m : Nat} (h : BoxV K C H x g s n) (e : n ≤ m) : BoxV K C H x g s m := let ⟨dx, p, v, q, ps, a, h1, h2, h3, h4⟩ := h; ⟨dx, p, v, q, ps, a, h1, h2, h3, Nat.le_trans h4 e⟩
def spLR (K : PySem.W.Frag) : Sp := fun vs H Q _ => ∃ (p : Addr) (v : V) (g : Grp), vs = [.ref p, v] ∧ PenV H p ∧ GrV K H v g ∧ GrpOk g ∧ ∀ H', Stp [p] H H' → PenV H' p → Q (.bl true) H'
/-- one turn's act -/
def actS (s : LSt) (i n : Nat) (o : Option Int) : LSt := match o with
  | none => putB s i (some s.tick)
  | some _ => if ((n : Nat) : Int) % 3 = 0 then putB s i none else s
theorem act_log (s : LSt) (i n : Nat) (o : Option Int) : (actS s i n o).log = s.log ∧ (actS s i n o).tick = s.tick := by
  unfold actS
  cases o with
  | none => exact ⟨rfl, rfl⟩
  | some t =>
    show (if ((n : Nat) : Int) % 3 = 0 then putB s i none else s).log = s.log ∧ (if ((n : Nat) : Int) % 3 = 0 then putB s i none else s).tick = s.tick
    split <;> exact ⟨rfl, rfl⟩
theorem act_ok {g : Grp} {s : LSt} (h : LOk g s) (i n : Nat) (o : Option Int) : LOk g (actS s i n o) := by
  unfold actS
  cases o with
  | none => exact h.put
  | some t =>
    show LOk g (if ((n : Nat) : Int) % 3 = 0 then putB s i none else s)
    split
    · exact h.put
    · exact h
theorem runS_pre {st : Bool} {g : Grp} {s : LSt} : ∀ n : Nat, ∃ l, (runS st g n s).log = s.log ++ l
  | 0 => ⟨[], (List.append_nil _).symm⟩
  | n + 1 => by
    obtain ⟨l, h⟩ := runS_pre (st := st) (g := g) (s := s) n
    refine ⟨l ++ [nowKind g (runS st g n s)], ?_⟩
    show (runS st g n s).log ++ [nowKind g (runS st g n s)] = _
    rw [h, List.append_assoc]
theorem told_log {st : Bool} {g : Grp} {s : LSt} (n : Nat) : s.log ++ told st g s n = (runS st g n s).log := by
  obtain ⟨l, h⟩ := runS_pre (st := st) (g := g) (s := s) n
  unfold told
  rw [h, List.drop_append_of_le_length (Nat.le_refl _), List.drop_length, List.nil_append]
theorem sc_law_logged_right : FnScope ["_law_pen_here", "_law_team", "_law_box_here", "_law_plain_here", "_law_rows", "_law_turn", "_law_who", "_law_ticks_on", "_law_one", "_law_told"] ["_law_pen_here", "_law_team"] (defScope d_law_logged_right) := ⟨rfl, rfl, rfl, by decide +kernel, rfl, by decide +kernel, by decide +kernel⟩
theorem law_logged_right_ok (T : Txt K mg) : C8.Cal P w K mg base 10 "_law_logged_right" (spLR K) [] := by
  refine cal T.f_d_law_logged_right T.g_law_logged_right sc_law_logged_right (fun _ _ _ _ _ _ us hl => match us, hl with | [_, _], _ => rfl) (fun vs H Q E h => ?_) (fun cdv A outer s H vs Q E hr h => ?_)
  · obtain ⟨p, v, g, rfl, _⟩ := h
    rfl
  · obtain ⟨p, v, g, rfl, hp, hv, hg, q⟩ := h
    obtain ⟨LG, hEG⟩ := plain_cls (P := P) (w := w) (base := base) T (C := He.ga K "Logged") (.inr rfl)
    obtain ⟨LP, hEP⟩ := plain_cls (P := P) (w := w) (base := base) T (C := He.ga K "Line") (.inl rfl)
    have hu := hr.units
    have h4 := hg.hi
    have hlo := hg.lo
    refine ⟨_, (pss_cons (ps_par3 (i := 2) (j := 3) (l := 4) rfl sc_law_logged_right.nd rfl rfl rfl (by decide) (by decide) (by decide) rfl rfl rfl (pa_cons (C8.pe_c (law_logged_ok T) hr (by decide) rfl (pa_cons (pv 1) pa_nil)) (pa_cons (C8.pe_c (law_plain_ok T) hr (by decide) rfl (pa_cons (pv 1) pa_nil)) (pa_cons (pe_tup pa_nil) pa_nil))) (by rfl))
 (pss_cons (ps_for PassesOwn.never rfl (pi_range1 rfl T.b_range (pa_cons pe_int pa_nil)) (pg_name (i := 5) sc_law_logged_right.nd rfl (Or.inl rfl)) (pss_cons (ps_par (i := 6) (j := 7) rfl sc_law_logged_right.nd rfl rfl (by decide) rfl rfl (pa_cons (C8.pe_c (law_draw_ok T) hr (by decide) rfl (pa_cons (pv 0) (pa_cons (pe_callB (len_K K rfl) (by rfl) T.b_len PySem.boot_len (pa_cons (pv 1) pa_nil)) pa_nil))) (pa_cons (pe_op op_add pe_int (C8.pe_c (law_draw_ok T) hr (by decide) rfl (pa_cons (pv 0) (pa_cons pe_int pa_nil)))) pa_nil)) (by rfl))
 (pss_cons (ps_for PassesOwn.never rfl (pi_tupK K rfl (pe_tup (pa_cons (pv 2) (pa_cons (pv 3) pa_nil)))) (pg_name (i := 8) sc_law_logged_right.nd rfl (Or.inl rfl)) (pss_one (ps_or (ps_if (pt_cmpR op_isN (pe_ownIx (pv 8) (pv 6) (getitem_ok T LG) hr (by decide) LG.getitem T.fn_getitem) pe_non (nomark _)) (pss_one (ps_expr (C8.pe_mt ((start_ok T LG).met LG.cl LG.start) hr (by decide) (pv 8) (pa_cons (pv 6) pa_nil)))) (pss_one (ps_if (pt_cmpR op_eq (pe_op op_mod (pv 5) pe_int) pe_int (nomark _)) (pss_one (ps_expr (C8.pe_mt ((stop_ok T LG).met LG.cl LG.stop) hr (by decide) (pv 8) (pa_cons (pv 6) pa_nil)))) pss_nil)))
 (ps_if (pt_cmpR op_isN (pe_ownIx (pv 8) (pv 6) (getitem_ok T LP) hr (by decide) LP.getitem T.fn_getitem) pe_non (nomark _)) (pss_one (ps_expr (C8.pe_mt ((start_ok T LP).met LP.cl LP.start) hr (by decide) (pv 8) (pa_cons (pv 6) pa_nil)))) (pss_one (ps_if (pt_cmpR op_eq (pe_op op_mod (pv 5) pe_int) pe_int (nomark _)) (pss_one (ps_expr (C8.pe_mt ((stop_ok T LP).met LP.cl LP.stop) hr (by decide) (pv 8) (pa_cons (pv 6) pa_nil)))) pss_nil))))))
 (pss_cons (ps_set (i := 9) sc_law_logged_right.nd rfl (Or.inl rfl) (C8.pe_mt ((run_ok T LG hEG).met LG.cl LG.run) hr (by decide) (pv 2) (pa_cons (pv 7) pa_nil)))
 (pss_cons (ps_if (PW.pt (pw_or (pt_cmpR (neT_K K rfl hu) (C8.pe_mt ((run_ok T LP hEP).met LP.cl LP.run) hr (by decide) (pv 3) (pa_cons (pv 7) pa_nil)) (pv 9) (nomark _)) (pw_or (pt_cmpR (neT_K K rfl hu) (pe_pr (pv 2) LG.cl LG.through (through_ok T LG) hr (by decide)) (pe_pr (pv 3) LP.cl LP.through (through_ok T LP) hr (by decide)) (nomark _)) (pw_or1 (pt_cmpR (neT_K K rfl hu) (pe_pr (pv 2) LG.cl LG.active (active_ok T LG) hr (by decide)) (pe_pr (pv 3) LP.cl LP.active (active_ok T LP) hr (by decide)) (nomark _)))))) (pss_one (ps_ret pe_bl)) pss_nil)
 (pss_one (ps_set (i := 4) sc_law_logged_right.nd rfl (Or.inl rfl) (pe_op (cat_K K rfl) (pv 4) (pv 9)))))))))
 (pss_one (ps_ret (pe_and (pe_cmpR (eqT_K K rfl hu) (pe_pr (pv 2) LG.cl T.pr_Logged_log (log_ok T LG) hr (by decide)) (pv 4) (nomark _)) (pe_and (pe_cmpR (op_ownNe (eq_ok T) hr (by decide) T.nf_Logged T.ne_Logged T.me_Logged_eq T.so_Logged) (pv 2) (pv 3) (nomark _)) (pe_one (pe_cmpR op_eq (pe_callB (len_K K rfl) (by rfl) T.b_len PySem.boot_len (pa_cons (pe_pr (pv 2) LG.cl T.pr_Logged_log (log_ok T LG) hr (by decide)) pa_nil)) (pe_pr (pv 2) LG.cl LG.now (now_ok T LG) hr (by decide)) (nomark _))))))))), ?_⟩
    obtain ⟨gvs, ⟨a, rfl, ha⟩, hpt⟩ := hv
    have hlen := pairedP_len hpt
    have hv : GrV K H (.ref a) g := ⟨gvs, ⟨a, rfl, ha⟩, hpt⟩
    refine ⟨_, rfl, .ref a, g, rfl, hv, hg, fun H1 x e1 hxn hb1 => ?_⟩
    refine ⟨_, rfl, .ref a, g, rfl, hv.m e1, hg, fun H2 y e2 hyn hb2 => ?_⟩
    have hyn0 : H y = none := by
      cases hy : H y with
      | none => rfl
      | some o => rw [e1 _ _ hy] at hyn; cases hyn
    have nxy : x ≠ y := fun z => by
      obtain ⟨dx, fs, hx, _⟩ := hb1.ex
      rw [← z, hx] at hyn
      cases hyn
    have nxp : x ≠ p := fun z => hp.ne (by rw [← z]; exact hxn)
    have nyp : y ≠ p := fun z => hp.ne (by rw [← z]; exact hyn0)
    have mxp : x ∉ [p] := fun z => nxp (List.mem_singleton.mp z)
    have myp : y ∉ [p] := fun z => nyp (List.mem_singleton.mp z)
    have mpx : p ∉ [x] := fun z => nxp (List.mem_singleton.mp z).symm
    have mpy : p ∉ [y] := fun z => nyp (List.mem_singleton.mp z).symm
    have mxy : x ∉ [y] := fun z => nxy (List.mem_singleton.mp z)
    have myx : y ∉ [x] := fun z => nxy (List.mem_singleton.mp z).symm
    refine ⟨by show 0 ≤ sizeLine; exact Nat.zero_le _, fun t3 ht3 => ?_⟩
    have e3 := Same.new (o := .tup []) ht3
    refine ⟨_, _, _, rfl, ?_⟩
    have e03 := (e1.trans e2).trans e3
    refine ⟨_, rfl, by omega, by omega, for_it (walk_r0 (n := 8)) (fun n σ H' => Stp [p] H H' ∧ PenV H' p ∧ ∃ s m rv y1 y2 y3 y4 y5, BoxV K (He.ga K "Logged") H' x g s m ∧ BoxV K (He.ga K "Line") H' y g s m ∧ LOk g s ∧ s.tick = ((s.log.length : Nat) : Int) ∧ s.log.length ≤ 9 * n ∧ m ≤ 2 * n ∧ IV K H' rv s.log ∧
      σ = [some (.ref p), some (.ref a), some (.ref x), some (.ref y), some rv, y1, y2, y3, y4, y5])
      ⟨e03.stp, hp.m e03, initS g.length, 0, .ref t3, none, none, none, none, none, (hb1.m e2).m e3, hb2.m e3, initS_ok g, rfl, Nat.zero_le _, Nat.zero_le _, ⟨t3, rfl, SqT.of upd_same⟩, rfl⟩ (fun _ _ _ _ _ => trivial) ?_ ?_⟩
    · rintro n z σ H4 H4' hn ⟨e4, hp4, s0, m0, rv, y1, y2, y3, y4, y5, hbx, hby, hok0, htk, hlg, hm0, hrv, rfl⟩ ⟨rfl, rfl⟩
      refine ⟨_, rfl, _, rfl, a, _, rfl, .inr (e4.t ha), p, _, rfl, hp4, by omega, by omega, fun H5 k e5 hp5 k0 k1 => ?_⟩
      refine ⟨_, rfl, p, 9, rfl, hp5, by decide, by decide, fun H6 d e6 hp6 d0 d1 => ?_⟩
      have e46 := e5.trans e6
      obtain ⟨i, rfl⟩ : ∃ i : Nat, k = ((i : Nat) : Int) := ⟨_, (Int.toNat_of_nonneg k0).symm⟩
      have hi : i < g.length := by omega
      obtain ⟨dn, rfl⟩ : ∃ dn : Nat, d = ((dn : Nat) : Int) := ⟨_, (Int.toNat_of_nonneg d0).symm⟩
      refine ⟨_, _, rfl, rfl, _, _, rfl, ?_⟩
      refine ⟨_, rfl, _, rfl, by show 2 ≤ sizeLine; rw [sizeLine_eq]; decide, fun t7 ht7 => ?_⟩
      have e7t := Same.new (o := .tup [V.ref x, V.ref y]) ht7
      obtain ⟨o, ho⟩ : ∃ o, s0.begun[i]? = some o := ⟨_, List.getElem?_eq_getElem (by have := hok0.b; omega)⟩
      have e06 := (e4.trans e46).trans e7t.stp
      have hbx6 := (hbx.s e46 mxp).m e7t
      have hby6 := (hby.s e46 myp).m e7t
      refine ⟨t7, rfl, ⟨_, SqT.of upd_same⟩, for_it (walk_tup (xs := [V.ref x, V.ref y])) (fun j σ H' => Stp [p] H H' ∧ PenV H' p ∧ SqT K H' t7 [V.ref x, V.ref y] ∧ BoxV K (He.ga K "Logged") H' x g (if j = 0 then s0 else actS s0 i n o) (if j = 0 then m0 else m0 + 1) ∧ BoxV K (He.ga K "Line") H' y g (if j ≤ 1 then s0 else actS s0 i n o) (if j ≤ 1 then m0 else m0 + 1) ∧ IV K H' rv s0.log ∧
        ∃ y8, σ = [some (.ref p), some (.ref a), some (.ref x), some (.ref y), some rv, some (.int (n : Nat)), some (.int (i : Nat)), some (.int (1 + (dn : Nat))), y8, y5])
        ⟨e06, hp6.m e7t, SqT.of upd_same, hbx6, hby6, TV.m (TV.s hrv e46) e7t, y4, rfl⟩ (fun j σ H' _ ⟨_, _, z, _⟩ => z) ?_ ?_⟩
      · rintro j z σ H7 H7' hj ⟨e7, hp7, hs7, hbx7, hby7, hrv7, y8, rfl⟩ ⟨rfl, hz⟩
        match j, hj, hz with
        | 0, _, hz =>
          cases hz
          rw [if_pos rfl, if_pos rfl] at hbx7
          rw [if_pos (Nat.zero_le 1), if_pos (Nat.zero_le 1)] at hby7
          obtain ⟨dxA, fsA, hxA, hnoA⟩ := hbx7.ex
          refine .inl ?_
          refine ⟨_, rfl, _, rfl, x, dxA, fsA, rfl, hxA, x, g, s0, _, i, o, rfl, hbx7, hok0, ho, ?_⟩
          cases o with
          | none =>
            refine ⟨rfl, true, rfl, ?_⟩
            refine ⟨_, rfl, x, dxA, fsA, rfl, hxA, hnoA _ (by decide) (by decide) (by decide), _, rfl, x, g, s0, _, i, rfl, hbx7, hg, hok0, ho, by omega, fun HB eB hbB => ?_⟩
            have ea1 : actS s0 i n none = putB s0 i (some s0.tick) := rfl
            exact ⟨e7.own hxn eB, hp7.s eB mpx, eB.t hs7, (by rw [ea1]; exact hbB), (hby7.s eB myx), TV.s hrv7 eB, _, rfl⟩
          | some tb =>
            refine ⟨rfl, false, rfl, ?_⟩
            refine ⟨_, rfl, _, _, rfl, rfl, (by decide : (0 : Int) < 3), rfl, decide (((n : Nat) : Int) % 3 = 0), congrArg V.bl (by rw [dec_int]; rfl), ?_⟩
            cases h3 : decide (((n : Nat) : Int) % 3 = 0) with
            | true =>
              refine ⟨_, rfl, x, dxA, fsA, rfl, hxA, hnoA _ (by decide) (by decide) (by decide), _, rfl, x, g, s0, _, i, tb, rfl, hbx7, hg, hok0, ho, by omega, fun HB eB hbB => ?_⟩
              have ea2 : actS s0 i n (some tb) = putB s0 i none := if_pos (of_decide_eq_true h3)
              exact ⟨e7.own hxn eB, hp7.s eB mpx, eB.t hs7, (by rw [ea2]; exact hbB), (hby7.s eB myx), TV.s hrv7 eB, _, rfl⟩
            | false =>
              have ea3 : actS s0 i n (some tb) = s0 := if_neg (of_decide_eq_false h3)
              exact ⟨e7, hp7, hs7, (by rw [ea3]; exact hbx7.le (Nat.le_succ _)), hby7, hrv7, _, rfl⟩
        | 1, _, hz =>
          cases hz
          rw [if_neg (by decide), if_neg (by decide)] at hbx7
          rw [if_pos (Nat.le_refl 1), if_pos (Nat.le_refl 1)] at hby7
          obtain ⟨dxA, fsA, hxA, hnoA⟩ := hby7.ex
          refine .inr ?_
          refine ⟨_, rfl, _, rfl, y, dxA, fsA, rfl, hxA, y, g, s0, _, i, o, rfl, hby7, hok0, ho, ?_⟩
          cases o with
          | none =>
            refine ⟨rfl, true, rfl, ?_⟩
            refine ⟨_, rfl, y, dxA, fsA, rfl, hxA, hnoA _ (by decide) (by decide) (by decide), _, rfl, y, g, s0, _, i, rfl, hby7, hg, hok0, ho, by omega, fun HB eB hbB => ?_⟩
            have ea1 : actS s0 i n none = putB s0 i (some s0.tick) := rfl
            exact ⟨e7.own hyn0 eB, hp7.s eB mpy, eB.t hs7, (hbx7.s eB mxy), (by rw [ea1]; exact hbB), TV.s hrv7 eB, _, rfl⟩
          | some tb =>
            refine ⟨rfl, false, rfl, ?_⟩
            refine ⟨_, rfl, _, _, rfl, rfl, (by decide : (0 : Int) < 3), rfl, decide (((n : Nat) : Int) % 3 = 0), congrArg V.bl (by rw [dec_int]; rfl), ?_⟩
            cases h3 : decide (((n : Nat) : Int) % 3 = 0) with
            | true =>
              refine ⟨_, rfl, y, dxA, fsA, rfl, hxA, hnoA _ (by decide) (by decide) (by decide), _, rfl, y, g, s0, _, i, tb, rfl, hby7, hg, hok0, ho, by omega, fun HB eB hbB => ?_⟩
              have ea2 : actS s0 i n (some tb) = putB s0 i none := if_pos (of_decide_eq_true h3)
              exact ⟨e7.own hyn0 eB, hp7.s eB mpy, eB.t hs7, (hbx7.s eB mxy), (by rw [ea2]; exact hbB), TV.s hrv7 eB, _, rfl⟩
            | false =>
              have ea3 : actS s0 i n (some tb) = s0 := if_neg (of_decide_eq_false h3)
              exact ⟨e7, hp7, hs7, hbx7, (by rw [ea3]; exact hby7.le (Nat.le_succ _)), hrv7, _, rfl⟩
        | j + 2, hj, hz => exact absurd hj (by show ¬ j + 2 < 2; omega)
      · rintro σ H7 ⟨e7, hp7, hs7, hbx7, hby7, hrv7, y8, rfl⟩
        rw [if_neg (show ¬ ([V.ref x, V.ref y] : List V).length = 0 from (by decide : ¬ 2 = 0)), if_neg (show ¬ ([V.ref x, V.ref y] : List V).length = 0 from (by decide : ¬ 2 = 0))] at hbx7
        rw [if_neg (show ¬ ([V.ref x, V.ref y] : List V).length ≤ 1 from (by decide : ¬ 2 ≤ 1)), if_neg (show ¬ ([V.ref x, V.ref y] : List V).length ≤ 1 from (by decide : ¬ 2 ≤ 1))] at hby7
        obtain ⟨al, at_⟩ := act_log s0 i n o
        have hok1 := act_ok hok0 i n o
        generalize actS s0 i n o = s1 at hbx7 hby7 al at_ hok1
        obtain ⟨dxA, fsA, hxA, hnoA⟩ := hbx7.ex
        have hll : s1.log.length = s0.log.length := by rw [al]
        refine ⟨_, rfl, x, dxA, fsA, rfl, hxA, hnoA _ (by decide) (by decide) (by decide), _, rfl, x, g, s1, m0 + 1, 1 + dn, (by rw [Int.natCast_add]; rfl), by omega, by omega, hbx7, hg, hok1, by omega, by omega, fun H9 tv e9 hb9 htv => ?_⟩
        have hby9 := hby7.s e9 myx
        obtain ⟨dyB, fsB, hyB, hnoB⟩ := hby9.ex
        refine ⟨_, rfl, y, dyB, fsB, rfl, hyB, hnoB _ (by decide) (by decide) (by decide), _, rfl, y, g, s1, m0 + 1, 1 + dn, (by rw [Int.natCast_add]; rfl), by omega, by omega, hby9, hg, hok1, by omega, by omega, fun H10 tv2 e10 hb10 htv2 => ?_⟩
        have hbx10 := hb9.s e10 mxy
        have htv10 := TV.s htv e10
        have e710 : Stp [p] H H10 := (e7.own hxn e9).own hyn0 e10
        have hp10 := (hp7.s e9 mpx).s e10 mpy
        obtain ⟨dxC, fsC, hxC, hnoC⟩ := hbx10.ex
        obtain ⟨dyC, fsC2, hyC, hnoC2⟩ := hb10.ex
        have hok2 := runS_ok (st := false) hok1 (1 + dn)
        have hlog2 := runS_log (st := false) (g := g) (s := s1) (1 + dn)
        have htk2 := runS_tick (st := false) (g := g) (s := s1) (1 + dn)
        have htl := told_log (st := false) (g := g) (s := s1) (1 + dn)
        refine ⟨_, rfl, _, _, htv2, htv10, false, by rw [decide_eq_true rfl]; rfl, ?_⟩
        generalize runS false g (1 + dn) s1 = s2 at hb9 hbx10 hb10 hok2 hlog2 htk2 htl
        refine ⟨_, rfl, x, dxC, fsC, rfl, hxC, x, g, s2, _, rfl, hbx10, fun vx hvx => ?_⟩
        refine ⟨_, rfl, y, dyC, fsC2, rfl, hyC, y, g, s2, _, rfl, hb10, fun vy hvy => ?_⟩
        refine ⟨_, _, hvx, hvy, false, by rw [decide_eq_true rfl]; rfl, ?_⟩
        have hbl2 := hok2.b
        refine ⟨_, rfl, x, dxC, fsC, rfl, hxC, x, g, s2, _, rfl, hbx10, by omega, fun H11 ax e11 hax => ?_⟩
        have hb11 := hb10.m e11
        obtain ⟨dyD, fsD, hyD, hnoD⟩ := hb11.ex
        refine ⟨_, rfl, y, dyD, fsD, rfl, hyD, y, g, s2, _, rfl, hb11, by omega, fun H12 ay e12 hay => ?_⟩
        refine ⟨_, _, TV.m hax e12, hay, false, by rw [decide_eq_true rfl]; rfl, ?_⟩
        have e1012 := e11.trans e12
        have hrv12 : IV K H12 rv s0.log := TV.m (TV.s (TV.s hrv7 e9) e10) e1012
        obtain ⟨ra, rfl, hra⟩ := hrv12
        obtain ⟨rb, rfl, hrb⟩ := TV.m htv10 e1012
        have htlen : (told false g s1 (1 + dn)).length = 1 + dn := by
          have z := congrArg List.length htl
          rw [List.length_append] at z
          omega
        refine ⟨_, rfl, _, rfl, ra, rb, _, _, rfl, rfl, hra, hrb, ?_, fun c H13 e13 hc => ?_⟩
        · rw [List.length_map, List.length_map, htlen, sizeLine_eq]
          omega
        · rw [← List.map_append, ← al, htl] at hc
          have e1013 := e1012.trans e13
          exact ⟨e710.trans e1013.stp, hp10.m e1013, s2, m0 + 2, .ref c, _, _, _, _, _, (hbx10.m e1013).le (by omega), (hb10.m e1013).le (by omega), hok2, by rw [htk2, at_, htk, hlog2, hll]; omega, by omega, by omega, ⟨c, rfl, hc⟩, rfl⟩
    · rintro σ H4 ⟨e4, hp4, s0, m0, rv, y1, y2, y3, y4, y5, hbx, hby, hok0, htk, hlg, hm0, hrv, rfl⟩
      obtain ⟨dxA, fsA, hxA, hnoA⟩ := hbx.ex
      obtain ⟨dyB, fsB, hyB, hnoB⟩ := hby.ex
      refine ⟨_, rfl, x, dxA, fsA, rfl, hxA, x, g, s0, m0, rfl, hbx, fun lv hlv => ?_⟩
      refine ⟨_, rfl, _, _, hlv, hrv, true, by rw [decide_eq_true rfl], ?_⟩
      refine ⟨_, rfl, _, rfl, x, dxA, fsA, y, dyB, fsB, rfl, rfl, hxA, hyB, x, y, dxA, dyB, fsA, fsB, rfl, hxA, hyB, hnoA _ (by decide) (by decide) (by decide), hnoB _ (by decide) (by decide) (by decide), false, rfl, true, rfl, ?_⟩
      refine ⟨_, rfl, x, dxA, fsA, rfl, hxA, x, g, s0, m0, rfl, hbx, fun lv2 hlv2 => ?_⟩
      obtain ⟨la, rfl, hla⟩ := hlv2
      refine ⟨la, _, rfl, .inr hla, _, rfl, x, dxA, fsA, rfl, hxA, x, g, s0, m0, rfl, hbx, rfl, ?_⟩
      have hq := q H4 e4 hp4
      have hd : decide (V.int ((((s0.log.map V.int).length : Nat) : Int)) = V.int s0.tick) = true := by
        rw [dec_int, List.length_map, htk]
        exact beq_self_eq_true _
      rw [← hd] at hq
      exact hq
end
end A72

set_option Elab.async false
set_option linter.all false
set_option maxRecDepth 100000
set_option maxHeartbeats 4000000
/-! the law's stops_right -/
namespace A72
open PySem PySem.Spec PyProof.Rows L2
/-- so many have begun at tick 0 -/
structure Zer (g : Grp) (i : Nat) (s : LSt) : Prop where
  ok : LOk g s
  tick : s.tick = 0
  b : ∀ j, j < i → s.begun[j]? = some (some 0)
  no : ∀ j, i ≤ j → j < g.length → s.begun[j]? = some none
  t : ∀ j, j < g.length → s.thr[j]? = some 0
  log : s.log = []
theorem zer_zero (g : Grp) : Zer g 0 (initS g.length) :=
  ⟨initS_ok g, rfl, fun j hj => absurd hj (Nat.not_lt_zero j), fun j _ hj => by
    show (List.replicate g.length none)[j]? = _
    rw [List.getElem?_replicate, if_pos hj], fun j hj => by
    show (List.replicate g.length (0 : Int))[j]? = _
    rw [List.getElem?_replicate, if_pos hj], rfl⟩
theorem zer_step {g : Grp} {i : Nat} {s : LSt} (h : Zer g i s) (hi : i < g.length) : Zer g (i + 1) (putB s i (some s.tick)) := by
  refine ⟨h.ok.put, h.tick, fun j hj => ?_, fun j h1 h2 => ?_, h.t, h.log⟩
  · show (s.begun.set i (some s.tick))[j]? = _
    by_cases e : j = i
    · rw [e, List.getElem?_set_self (by rw [h.ok.b]; exact hi), h.tick]
    · rw [List.getElem?_set_ne (fun z => e z.symm)]
      exact h.b j (by omega)
  · show (s.begun.set i (some s.tick))[j]? = _
    rw [List.getElem?_set_ne (by omega)]
    exact h.no j (by omega) h2
theorem zer_all {g : Grp} {s : LSt} (h : Zer g g.length s) : ZeroB g s := ⟨h.ok, h.tick, h.b, h.t, h.log⟩
theorem zeros_off {g : Grp} (hg : GrpOk g) : OffOk g (zeros g) := by
  refine ⟨List.length_replicate .., fun i o p ho hp => ?_⟩
  rw [List.getElem?_replicate] at ho
  split at ho
  · cases ho
    have := (hg.at_ hp).pos
    exact ⟨Int.le_refl _, this⟩
  · cases ho
section
variable {P : Program} {w : World} {K : PySem.W.Frag} {mg : Str → Option Value} {base : Heap} {C : Addr}
def spSR (K : PySem.W.Frag) : Sp := fun vs H Q _ => ∃ v g, vs = [v] ∧ GrV K H v g ∧ GrpOk g ∧ SmallG g ∧ ∀ H', Same H H' → Q (.bl true) H'
theorem sc_law_stops_right : FnScope ["_law_team", "_law_box_here", "_law_due", "_law_who", "_law_turn", "_law_when"] ["_law_team"] (defScope d_law_stops_right) := ⟨rfl, rfl, rfl, by decide +kernel, rfl, by decide +kernel, by decide +kernel⟩
theorem law_stops_right_ok (T : Txt K mg) : C8.Cal P w K mg base 10 "_law_stops_right" (spSR K) [] := by
  refine cal T.f_d_law_stops_right T.g_law_stops_right sc_law_stops_right (fun _ _ _ _ _ _ us hl => match us, hl with | [_], _ => rfl) (fun vs H Q E h => ?_) (fun cdv A outer s H vs Q E hr h => ?_)
  · obtain ⟨v, g, rfl, _⟩ := h
    rfl
  · obtain ⟨v, g, rfl, ⟨gvs, ⟨a, rfl, ha⟩, hpt⟩, hg, hsm, q⟩ := h
    have LB := lcl_Both T
    have hEB : C8.Met P w K mg base 1 (He.ga K "StoppingLogged") "ended" (spEnd K true) [] := (ended_s_ok T).met T.cl_StoppingLogged T.me_StoppingLogged_ended
    have hu := hr.units
    have hlen := pairedP_len hpt
    have h4 := hg.hi
    have hlo := hg.lo
    obtain ⟨hfew, hs100⟩ := small_few hg hsm
    have hspos := span_pos hg
    have hv : GrV K H (.ref a) g := ⟨gvs, ⟨a, rfl, ha⟩, hpt⟩
    refine ⟨_, (pss_cons (ps_par (i := 1) (j := 2) rfl sc_law_stops_right.nd rfl rfl (by decide) rfl rfl (pa_cons (C8.pe_c (law_both_ok T) hr (by decide) rfl (pa_cons (pv 0) pa_nil)) (pa_cons (C8.pe_c (stop_ticks_ok T) hr (by decide) rfl (pa_cons (pv 0) (pa_cons (pe_op (rep_K K rfl) (pe_tup (pa_cons pe_int pa_nil)) (pe_callB (len_K K rfl) (by rfl) T.b_len PySem.boot_len (pa_cons (pv 0) pa_nil))) pa_nil))) pa_nil)) (by rfl))
 (pss_cons (ps_for PassesOwn.never rfl (pi_range1 rfl T.b_range (pa_cons (pe_callB (len_K K rfl) (by rfl) T.b_len PySem.boot_len (pa_cons (pv 0) pa_nil)) pa_nil)) (pg_name (i := 3) sc_law_stops_right.nd rfl (Or.inl rfl)) (pss_one (ps_expr (C8.pe_mt ((start_ok T LB).met LB.cl LB.start) hr (by decide) (pv 1) (pa_cons (pv 3) pa_nil)))))
 (pss_cons (ps_for PassesOwn.never rfl (pi_range1 rfl T.b_range (pa_cons (pe_op op_add (pe_op op_fdiv (pe_op op_mul (pe_op op_add (pe_callB (len_K K rfl) (by rfl) T.b_len PySem.boot_len (pa_cons (pv 0) pa_nil)) pe_int) (C8.pe_c (span_ok T) hr (by decide) rfl (pa_cons (pv 0) pa_nil))) pe_int) pe_int) pa_nil)) (pg_name (i := 4) sc_law_stops_right.nd rfl (Or.inl rfl)) (pss_one (ps_expr (C8.pe_mt ((run_ok T LB hEB).met LB.cl LB.run) hr (by decide) (pv 1) (pa_cons pe_int pa_nil)))))
 (pss_cons (ps_for PassesOwn.never rfl (pi_enumK K rfl (by rfl) T.b_enumerate (pa_cons (pv 2) pa_nil)) (by exact pg_2 (i := 3) (j := 5) K rfl rfl sc_law_stops_right.nd rfl rfl (Or.inl rfl) (Or.inl rfl) (by first | exact .inl rfl | exact .inr rfl) (by first | exact .inl rfl | exact .inr rfl)) (pss_cons (ps_if (PW.pt (pw_or (pt_cmpR op_ne (pe_cmpR op_isN (pv 5) pe_non (nomark _)) (pe_cmpR (op_ownIn (contains_ok T LB) hr (by decide) LB.contains_) (pv 3) (pv 1) (by rfl)) (nomark _)) (pw_or1 (pt_cmpR op_ne (pe_ix (ix_tupK K rfl) (pe_pr (pv 1) LB.cl LB.through (through_ok T LB) hr (by decide)) (pv 3) (fun _ _ => rfl)) (pe_callTy call_int1 (by rfl) T.b_int (by decide +kernel) (pa_cons (pe_cmpR op_notN (pv 5) pe_non (nomark _)) pa_nil)) (nomark _))))) (pss_one (ps_ret pe_bl)) pss_nil)
 (pss_one (ps_if (PW.pt (pw_and (pt_cmpR op_notN (pv 5) pe_non (nomark _)) (pw_and1 (PW.pt (pw_or (pt_cmpR op_ne (pe_ix (ix_tupK K rfl) (pe_pr (pv 1) LB.cl T.pr_StoppingLogged_log (log_ok T LB) hr (by decide)) (pv 5) (fun _ _ => rfl)) (pv 3) (nomark _)) (pw_or1 (pt_cmpR op_ne (pe_lcount K rfl (pe_callTy (list_K K rfl) (by rfl) T.b_list (by decide +kernel) (pa_cons (pe_pr (pv 1) LB.cl T.pr_StoppingLogged_log (log_ok T LB) hr (by decide)) pa_nil)) (pa_cons (pv 3) pa_nil)) pe_int (nomark _)))))))) (pss_one (ps_ret pe_bl)) pss_nil))))
 (pss_one (ps_ret pe_bl)))))), ?_⟩
    refine ⟨_, rfl, .ref a, g, rfl, hv, hg, fun H1 x e1 hxn hb1 => ?_⟩
    have hv1 := hv.m e1
    refine ⟨_, rfl, by show 1 ≤ sizeLine; rw [sizeLine_eq]; decide, fun p1 hp1 => ?_⟩
    have s1 := Same.new (o := .tup [V.int 0]) hp1
    refine ⟨_, rfl, a, _, rfl, .inr ((e1.trans s1).t ha), p1, _, [V.int 0], rfl, rfl, SqT.of upd_same, by simp, by omega, by omega, by show 1 ≤ 1000; decide, fun p2 hp2 => ?_⟩
    have s2 := s1.trans (Same.new (o := .tup (List.replicate ((gvs.length : Int)).toNat [V.int 0]).flatten) hp2)
    have hzs : (List.replicate ((gvs.length : Int)).toNat [V.int 0]).flatten = (zeros g).map V.int := by
      rw [rep_flat]
      show _ = (List.replicate g.length 0).map V.int
      rw [List.map_replicate, ← hlen, Int.toNat_natCast]
    refine ⟨.ref a, .ref p2, g, zeros g, rfl, hv1.m s2, ⟨p2, rfl, sqT_eq hzs (SqT.of upd_same)⟩, hg, zeros_off hg, hfew.span, fun H2 dv k e2 h1 h2 hdv => ?_⟩
    refine ⟨_, _, rfl, ?_⟩
    have e02 := (e1.trans s2).trans e2
    have hb2 := (hb1.m s2).m e2
    refine ⟨_, rfl, a, _, rfl, .inr (e02.t ha), _, rfl, by omega, by omega, for_it (walk_r0 (n := ((gvs.length : Nat) : Int).toNat)) (fun i σ H' => Same H H' ∧ Stp [x] H2 H' ∧ ∃ s y1 y2 y3, BoxV K (He.ga K "StoppingLogged") H' x g s i ∧ Zer g i s ∧ σ = [some (.ref a), some (.ref x), some dv, y1, y2, y3])
      ⟨e02, Stp.refl _ _, _, none, none, none, hb2, zer_zero g, rfl⟩ (fun _ _ _ _ _ => trivial) ?_ ?_⟩
    · rintro i y σ H3 H3' hi ⟨e3, e23, s3, y1, y2, y3, hb3, hZ, rfl⟩ ⟨rfl, rfl⟩
      obtain ⟨dx, fs, hx, hno⟩ := hb3.ex
      refine ⟨_, rfl, x, dx, fs, rfl, hx, hno _ (by decide) (by decide) (by decide), _, rfl, x, g, s3, i, i, rfl, hb3, hg, hZ.ok, hZ.no i (Nat.le_refl _) (by omega), by omega, fun H4 e4 hb4 => ?_⟩
      exact ⟨((Same.stp (S := []) e3).own hxn e4).same, e23.trans e4, _, _, _, _, hb4, zer_step hZ (by omega), rfl⟩
    · rintro σ H3 ⟨e3, e23, s3, y1, y2, y3, hb3, hZ, rfl⟩
      rw [show ((gvs.length : Nat) : Int).toNat = g.length by omega] at hb3 hZ
      have hZB := zer_all hZ
      refine ⟨_, rfl, a, _, rfl, .inr (e3.t ha), _, _, rfl, rfl, ?_⟩
      refine ⟨_, rfl, .ref a, g, rfl, hv.m e3, hg, fun H4 e4 => ?_⟩
      obtain ⟨M, hM⟩ : ∃ M, M = (g.length + 1) * spanN g := ⟨_, rfl⟩
      have hM500 : M ≤ 500 := by
        rw [hM]
        exact Nat.mul_le_mul (show g.length + 1 ≤ 5 by omega) hs100
      have hj : (((gvs.length : Nat) : Int) + 1) * ((spanN g : Nat) : Int) / 12 + 1 = (((M / 12 + 1 : Nat) : Nat) : Int) := by
        rw [hM, hlen]
        have : (((g.length : Nat) : Int) + 1) * ((spanN g : Nat) : Int) = ((((g.length + 1) * spanN g : Nat) : Nat) : Int) := by
          rw [Int.natCast_mul, Int.natCast_add] <;> rfl
        rw [this]
        omega
      refine ⟨_, _, rfl, rfl, .inr ⟨by omega, by omega⟩, _, _, rfl, rfl, ⟨by decide, by decide⟩, _, _, rfl, rfl, ?_⟩
      refine ⟨_, congrArg (fun z => [V.int z]) hj, by omega, by omega, for_it (walk_r0 (n := ((((M / 12 + 1 : Nat) : Nat) : Int)).toNat)) (fun i σ H' => Same H H' ∧ Stp [x] H2 H' ∧ ∃ y1 y2 y3, BoxV K (He.ga K "StoppingLogged") H' x g (runS true g (12 * i) s3) (g.length + i) ∧ σ = [some (.ref a), some (.ref x), some dv, y1, y2, y3])
        ⟨e3.trans e4, e23.trans e4.stp, _, _, _, hb3.m e4, rfl⟩ (fun _ _ _ _ _ => trivial) ?_ ?_⟩
      · rintro i y σ H5 H5' hi ⟨e5, e25, y1, y2, y3, hb5, rfl⟩ ⟨rfl, rfl⟩
        obtain ⟨dx, fs, hx, hno⟩ := hb5.ex
        have hok5 := runS_ok (st := true) hZ.ok (12 * i)
        have hl5 := runS_log (st := true) (g := g) (s := s3) (12 * i)
        rw [hZ.log] at hl5
        have hl5' : (runS true g (12 * i) s3).log.length = 12 * i := by
          rw [hl5]
          show 0 + 12 * i = _
          omega
        refine ⟨_, rfl, x, dx, fs, rfl, hx, hno _ (by decide) (by decide) (by decide), x, g, _, _, 12, rfl, by decide, by decide, hb5, hg, hok5, by omega, by omega, fun H6 v6 e6 hb6 _ => ?_⟩
        rw [runS_add, show 12 * i + 12 = 12 * (i + 1) by omega] at hb6
        exact ⟨((Same.stp (S := []) e5).own hxn e6).same, e25.trans e6, _, _, _, hb6, rfl⟩
      · rintro σ H5 ⟨e5, e25, y1, y2, y3, hb5, rfl⟩
        rw [show ((((M / 12 + 1 : Nat) : Nat) : Int)).toNat = M / 12 + 1 by omega] at hb5
        obtain ⟨qf, hqf, hS⟩ := stops_final hg hZB h1 h2 (N := 12 * (M / 12 + 1)) (by rw [← hM]; omega)
        obtain ⟨d, rfl, hd⟩ := hdv
        rw [← hqf] at hd
        have hd5 := e25.t hd
        generalize runS true g (12 * (M / 12 + 1)) s3 = S at hb5 hS
        have hfl := hS.fl
        refine ⟨_, rfl, d, _, rfl, hd5, for_it walk_enumT (fun i σ H' => Same H5 H' ∧ ∃ z1 z2 z3, σ = [some (.ref a), some (.ref x), some (.ref d), z1, z2, z3]) ⟨Same.refl _, _, _, _, rfl⟩ (fun i σ H' _ ⟨e, _⟩ => e.t hd5) ?_ ?_⟩
        · rintro i y σ H6 H7 hi ⟨e6, z1, z2, z3, rfl⟩ ⟨Tt, u1, u2, rfl, hTt, rfl, g1, g2⟩
          cases g1
          obtain ⟨f, hf, rfl⟩ := oints_at g2
          have eT := Same.new (o := .tup [V.int (i : Nat), oV f]) hTt
          have e67 := e6.trans eT
          have hb7 := hb5.m e67
          obtain ⟨dx, fs, hx, hno⟩ := hb7.ex
          refine ⟨Tt, _, rfl, SqT.of upd_same, rfl, _, _, rfl, _, _, rfl, rfl, ?_⟩
          refine ⟨_, rfl, rfl, _, rfl, _, rfl, x, dx, fs, rfl, hx, ?_⟩
          cases f with
          | none =>
            obtain ⟨hbn, htn, hcn⟩ := hS.no i hf
            refine ⟨x, g, S, _, i, some 0, rfl, hb7, hS.ok, hbn, true, rfl, rfl, false, rfl, ?_⟩
            refine ⟨_, rfl, x, dx, fs, rfl, hx, x, g, S, _, rfl, hb7, fun tv htv => ?_⟩
            obtain ⟨ta, rfl, hta⟩ := htv
            refine ⟨_, rfl, ta, _, _, _, rfl, rfl, hta, atI_nat (int_at htn), _, rfl, rfl, .inr ⟨false, rfl, rfl, false, rfl, ?_⟩⟩
            refine ⟨_, rfl, rfl, false, rfl, ?_⟩
            exact ⟨e67, _, _, _, rfl⟩
          | some t =>
            obtain ⟨hbn, htn, hcn, tn, rfl, hlt⟩ := hS.yes i t hf
            refine ⟨x, g, S, _, i, none, rfl, hb7, hS.ok, hbn, false, rfl, rfl, false, rfl, ?_⟩
            refine ⟨_, rfl, x, dx, fs, rfl, hx, x, g, S, _, rfl, hb7, fun tv htv => ?_⟩
            obtain ⟨ta, rfl, hta⟩ := htv
            refine ⟨_, rfl, ta, _, _, _, rfl, rfl, hta, atI_nat (int_at htn), _, rfl, rfl, .inr ⟨true, rfl, rfl, false, rfl, ?_⟩⟩
            refine ⟨_, rfl, rfl, true, rfl, ?_⟩
            refine ⟨_, rfl, x, dx, fs, rfl, hx, x, g, S, _, rfl, hb7, fun lv hlv => ?_⟩
            obtain ⟨la, rfl, hla⟩ := hlv
            refine ⟨_, rfl, la, _, _, _, rfl, rfl, hla, atI_nat (int_at hlt), _, rfl, rfl, false, congrArg V.bl (by rw [dec_int, beq_self_eq_true]; rfl), ?_⟩
            refine ⟨_, rfl, x, dx, fs, rfl, hx, x, g, S, _, rfl, hb7, fun lv2 hlv2 => ?_⟩
            obtain ⟨lb, rfl, hlb⟩ := hlv2
            refine ⟨lb, _, rfl, .inr hlb, fun l8 hl8 => ?_⟩
            have e8 := Same.new (o := .lst (S.log.map V.int)) hl8
            refine ⟨.inl ⟨rfl, _, SqL.of upd_same⟩, _, rfl, l8, S.log, _, rfl, rfl, SqL.of upd_same, rfl, false, congrArg V.bl ?_, ?_⟩
            · have hc : ((S.log.count ((i : Nat) : Int) : Nat) : Int) = 1 := hcn
              rw [dec_int, hc] <;> rfl
            · exact ⟨e67.trans e8, _, _, _, rfl⟩
        · rintro σ H6 ⟨e6, z1, z2, z3, rfl⟩
          exact q H6 (e5.trans e6)
end
end A72

set_option Elab.async false
set_option linter.all false
set_option maxRecDepth 100000
set_option maxHeartbeats 4000000
/-! the law -/
namespace A72
open PySem PySem.Spec PyProof.Rows L2
theorem _root_.L2.Same.own {S : List Addr} {H H1 H2 : Hp} (e : Same H H1) (hS : ∀ z ∈ S, H z = none) (eS : Stp S H1 H2) : Same H H2 := fun a o ha =>
  eS.kp a o (e a o ha) fun z => by
    rw [hS a z] at ha
    cases ha
section
variable {P : Program} {w : World} {K : PySem.W.Frag} {mg : Str → Option Value} {base : Heap}
def spLawAll (K : PySem.W.Frag) : Sp := fun vs H Q _ => ∃ (a : Addr) (ns : List Int), vs = [.ref a] ∧ SqL K H a (ns.map V.int) ∧ ∀ H', Q (.bl true) H'
theorem sc_law : FnScope ["_law_script", "_law_k", "_law_pen_here", "_law_amount", "_law_team"] ["_law_script"] (defScope d_law) := ⟨rfl, rfl, rfl, by decide +kernel, rfl, by decide +kernel, by decide +kernel⟩
theorem law_fn {f : Addr} {fd : FuncData} (T : Txt K mg) (F : Fun K "law" "law" d_law f fd) : FnOk P w K mg base C8.CX0 11 f fd ["_law_script"] (spLawAll K) := by
  refine F.ok sc_law (fun vs H Q E h => ?_) (fun cdv A outer s H vs Q E hr h => ?_)
  · obtain ⟨a, ns, rfl, _⟩ := h
    rfl
  · obtain ⟨a, ns, rfl, ha, q⟩ := h
    refine ⟨_, (pss_cons (ps_for PassesOwn.never rfl (pi_range1 rfl T.b_range (pa_cons (pe_callB (call_max2 rfl) (by rfl) T.b_max (by decide +kernel) (pa_cons pe_int (pa_cons (pe_callB (call_min2 rfl) (by rfl) T.b_min (by decide +kernel) (pa_cons (pe_callB (len_K K rfl) (by rfl) T.b_len PySem.boot_len (pa_cons (pv 0) pa_nil)) (pa_cons pe_int pa_nil))) pa_nil))) pa_nil)) (pg_name (i := 1) sc_law.nd rfl (Or.inl rfl)) (pss_cons (ps_set (i := 2) sc_law.nd rfl (Or.inl rfl) (C8.pe_c (law_pen_ok T) hr (by decide) rfl (pa_cons (C8.pe_c (law_cell_ok T) hr (by decide) rfl (pa_cons (pv 0) (pa_cons (pv 1) pa_nil))) pa_nil)))
 (pss_one (ps_for PassesOwn.never rfl (pi_tupK K rfl (pe_tup (pa_cons pe_int (pa_cons pe_int (pa_cons pe_int pa_nil))))) (pg_name (i := 3) sc_law.nd rfl (Or.inl rfl)) (pss_cons (ps_set (i := 4) sc_law.nd rfl (Or.inl rfl) (C8.pe_c (law_few_ok T) hr (by decide) rfl (pa_cons (pv 2) (pa_cons (pv 3) pa_nil))))
 (pss_cons (ps_if (PW.pt (pw_or (pt_not (pt_val (C8.pe_c (law_heard_right_ok T) hr (by decide) rfl (pa_cons (pv 2) (pa_cons (C8.pe_c (law_box_ok T) hr (by decide) rfl (pa_cons (pe_op op_mul pe_int (C8.pe_c (law_draw_ok T) hr (by decide) rfl (pa_cons (pv 2) (pa_cons pe_int pa_nil)))) (pa_cons (pv 4) pa_nil))) (pa_cons (pv 4) pa_nil)))))) (pw_or1 (pt_not (pt_val (C8.pe_c (law_stops_right_ok T) hr (by decide) rfl (pa_cons (pv 4) pa_nil))))))) (pss_one (ps_ret pe_bl)) pss_nil)
 (pss_one (ps_if (PW.pt (pw_or (pt_not (pt_val (C8.pe_c (law_logged_right_ok T) hr (by decide) rfl (pa_cons (pv 2) (pa_cons (pv 4) pa_nil))))) (pw_or1 (pt_not (pt_val (C8.pe_c (law_stops_right_ok T) hr (by decide) rfl (pa_cons (C8.pe_c (law_sparse_ok T) hr (by decide) rfl (pa_cons (pv 2) (pa_cons (pv 3) pa_nil))) pa_nil))))))) (pss_one (ps_ret pe_bl)) pss_nil))))))))
 (pss_one (ps_ret pe_bl))), ?_⟩
    refine ⟨_, rfl, a, _, rfl, .inl ha, _, _, rfl, _, _, rfl, ?_⟩
    obtain ⟨m, hm⟩ : ∃ m : Int, m = (if (if (3 : Int) < (((ns.map V.int).length : Nat) : Int) then (3 : Int) else (((ns.map V.int).length : Nat) : Int)) > 1 then (if (3 : Int) < (((ns.map V.int).length : Nat) : Int) then (3 : Int) else (((ns.map V.int).length : Nat) : Int)) else 1) := ⟨_, rfl⟩
    have hm3 : 1 ≤ m ∧ m ≤ 3 := by
      rw [hm]
      split
      · split
        · omega
        · omega
      · omega
    refine ⟨m, congrArg (fun z => [V.int z]) hm.symm, by omega, by omega, for_it (walk_r0 (n := m.toNat)) (fun i σ H' => Same H H' ∧ ∃ y1 y2 y3 y4, σ = [some (.ref a), y1, y2, y3, y4]) ⟨Same.refl _, _, _, _, _, rfl⟩ (fun _ _ _ _ _ => trivial) ?_ ?_⟩
    · rintro i y σ H1 H1' hi ⟨e1, y1, y2, y3, y4, rfl⟩ ⟨rfl, rfl⟩
      refine ⟨_, rfl, _, rfl, .ref a, ns, i, rfl, ⟨a, rfl, e1.l ha⟩, fun z => ?_⟩
      refine ⟨z, rfl, fun H2 p e2 hpn hp2 => ?_⟩
      have hp0 : H p = none := by
        cases hp : H p with
        | none => rfl
        | some o => rw [e1 _ _ hp] at hpn; cases hpn
      have e12 := e1.trans e2
      refine ⟨by show 3 ≤ sizeLine; rw [sizeLine_eq]; decide, fun t3 ht3 => ?_⟩
      have e3 := Same.new (o := .tup [V.int 2, V.int 3, V.int 4]) ht3
      refine ⟨t3, rfl, ⟨_, SqT.of upd_same⟩, for_it (walk_tup (xs := [V.int 2, V.int 3, V.int 4])) (fun j σ H' => Same H H' ∧ SqT K H' t3 [V.int 2, V.int 3, V.int 4] ∧ PenV H' p ∧ ∃ z1 z2 z3, σ = [some (.ref a), some (.int (i : Nat)), some (.ref p), z2, z3]) ⟨e12.trans e3, SqT.of upd_same, hp2.m e3, y3, y3, y4, rfl⟩ (fun j σ H' _ ⟨_, z, _⟩ => z) ?_ ?_⟩
      · rintro j y σ H4 H4' hj ⟨e4, hs4, hp4, z1, z2, z3, rfl⟩ ⟨rfl, hy⟩
        obtain ⟨n, hn, rfl⟩ : ∃ n : Int, (n = 2 ∨ n = 3 ∨ n = 4) ∧ y = V.int n := by
          match j, hj, hy with
          | 0, _, hy => exact ⟨2, .inl rfl, (Option.some.inj hy).symm⟩
          | 1, _, hy => exact ⟨3, .inr (.inl rfl), (Option.some.inj hy).symm⟩
          | 2, _, hy => exact ⟨4, .inr (.inr rfl), (Option.some.inj hy).symm⟩
          | j + 3, hj, _ => exact absurd hj (by show ¬ j + 3 < 3; omega)
        have own1 : ∀ z ∈ [p], H z = none := fun z hz => by rw [List.mem_singleton.mp hz]; exact hp0
        refine ⟨_, rfl, _, rfl, p, n, rfl, hp4, hn, fun H5 v g e5 hp5 hv hg hsm _ => ?_⟩
        have e05 := e4.own own1 e5
        have hs5 := e5.t hs4
        refine ⟨_, rfl, _, rfl, p, 2, rfl, hp5, by decide, by decide, fun H6 k e6 hp6 k0 k1 => ?_⟩
        have e06 := e05.own own1 e6
        refine ⟨_, _, rfl, rfl, .inl ⟨by decide, by decide⟩, ?_⟩
        refine ⟨_, rfl, 2 * k, v, g, rfl, by omega, hv.s e6, hg, fun H7 x C hC e7 hxn hb => ?_⟩
        have e07 := e06.trans e7
        have hx0 : H x = none := by
          cases hx : H x with
          | none => rfl
          | some o => rw [e06 _ _ hx] at hxn; cases hxn
        have hp7 := hp6.m e7
        have hv7 := (hv.s e6).m e7
        have own2 : ∀ z ∈ [p, x], H z = none := fun z hz => by
          rcases List.mem_cons.mp hz with y | y
          · rw [y]
            exact hp0
          · rw [List.mem_singleton.mp y]
            exact hx0
        refine ⟨_, rfl, p, x, C, v, g, rfl, hC, hp7, hb, hv7, hg, hsm, fun H8 e8 hp8 => ?_⟩
        have e08 := e07.own own2 e8
        have hv8 := hv7.s e8
        refine ⟨true, rfl, ?_⟩
        refine ⟨_, rfl, v, g, rfl, hv8, hg, hsm, fun H9 e9 => ⟨true, rfl, ?_⟩⟩
        have e09 := e08.trans e9
        have hp9 := hp8.m e9
        refine ⟨_, rfl, _, rfl, p, v, g, rfl, hp9, hv8.m e9, hg, fun H10 e10 hp10 => ⟨true, rfl, ?_⟩⟩
        have e010 := e09.own own1 e10
        refine ⟨_, rfl, _, rfl, p, n, rfl, hp10, hn, fun H11 v2 g2 e11 hp11 hv2 hg2 hsm2 _ => ?_⟩
        have e011 := e010.own own1 e11
        refine ⟨v2, g2, rfl, hv2, hg2, hsm2, fun H12 e12' => ⟨true, rfl, ?_⟩⟩
        exact ⟨e011.trans e12', e12'.t (e11.t (e10.t (e9.t (e8.t (e7.t (e6.t hs5)))))), hp11.m e12', z1, _, _, rfl⟩
      · rintro σ H4 ⟨e4, hs4, hp4, z1, z2, z3, rfl⟩
        exact ⟨e4, _, _, _, _, rfl⟩
    · rintro σ H1 ⟨e1, y1, y2, y3, y4, rfl⟩
      exact q H1
theorem law_bind {f : Addr} {fd : FuncData} (F : Fun K "law" "law" d_law f fd) (s : Shared) (v : Value) : BindsTo s fd ⟨[v], []⟩ [("_law_script", v)] := by
  obtain ⟨oc, od, kV, doc, pm, an, cdv, ct, osl, rfl, lk, hcd⟩ := F.ex
  exact .of_eq rfl
end
end A72

set_option Elab.async false
set_option linter.all false
set_option maxRecDepth 100000
set_option maxHeartbeats 0
namespace A72
open PySem PySem.Spec PyProof.Rows L2
theorem law_facts {P : Program} {w : World} {K : PySem.W.Frag} {h : Heap} {mg : Str → Option Value} {f : Addr} (X : K.In h) (G : h.Ns mainGlobals mg) (hfa : mg ("law" : Str) = some (.ref f)) (c : SaysM K) :
    ∃ fd : FuncData, (∀ (s : Shared) (v : Value), BindsTo s fd ⟨[v], []⟩ [("_law_script", v)]) ∧ ∀ base : Heap, FnOk P w K mg base C8.CX0 11 f fd ["_law_script"] (spLawAll K) := by
  have T := txt_of X G c
  obtain ⟨fd, F⟩ := T.f_d_law
  have e := hfa.symm.trans T.g_law
  cases e
  exact ⟨fd, law_bind F, fun base => law_fn T F⟩
end A72
open PySem PySem.W PySem.Calls PyProof.Rows
theorem PySem.Challenge.cw_anyshift_k72_whole_lines_and_groups_holds : PySem.Challenge.rw_anyshift_k72_whole_lines_and_groups.Holds := by
  w_on; o_law
  refine HandSHeadRun.head_any (r := A72.R) (q := A72.Vw) (H := A72.hookM) (ob := A72.obT) (M := 12000) (loose := A72.loose) (d := HandSHeadRun.topDef A72.R.prog 78) (kwd := []) A72.obT_eq
    (by kernel_rfl) (fun s => by kernel_rfl) A72.run (by kernel_rfl) (by kernel_rfl) (by kernel_rfl) (by rfl) (by first | assumption | decide +kernel) (by decide +kernel) ⟨rfl, rfl, rfl, rfl, rfl, by decide +kernel⟩ ?hw ?hc
  case hw => w_witness2
  case hc =>
    refine L2.walk_ofE (l := PySem.Challenge.rw_anyshift_k72_whole_lines_and_groups) (n := 63) (k := 11) (x := "_law_script") (CX := C8.CX0) rfl (by decide) (by kernel_rfl) ⟨rfl, by decide, by decide⟩ ?F (fun _ _ _ _ z => z)
    intro w mg fa h Y G hmg0
    obtain ⟨K, KX, c⟩ := Y
    have hmg : mg ("law" : PySem.Str) = some (.ref fa) := by
      have e : (HandSHeadRun.topDef A72.R.prog 78).name = ("law" : PySem.Str) := by kernel_rfl
      rw [← e]
      exact hmg0
    obtain ⟨fd, hb, hF⟩ := A72.law_facts (P := (PySem.Challenge.rw_anyshift_k72_whole_lines_and_groups).prog) (w := w) KX G hmg c
    exact ⟨K, fd, A72.spLawAll K, KX, hb, fun H a ns hl _ hS => ⟨a, ns, rfl, hS, fun _ => rfl⟩, fun base _ _ => hF base⟩
